import PyProof.Rows.All
import Wide.All
import OpenK.AllK
import Wide.FinOn
import KE.KStateDown
import Lean
import HandS.Base
import HandS.Call
import HandS.Ends
import HandS.More
import HandS.Words
import HandS.WordsExc
import HandS.Defaults
import HandS.Head0
import HandS.Head1
import HandS.Head2
import HandS.HeadEnd
import HandS.HeadHook1
import HandS.HeadHook2
import HandS.ForMost
import HandS.IsInst
import HandS.TupAny
import HandS.Wide
import HandS.Walk
import HandS.TupLe
import HandS.Conv
import HandS.SortInts
import KE.DataMinMax
import KE.SortData
import KE.KDictKeyed
import KE.GoesEnum
import KE.GoesMore
import HandS.SetFor
import HandS.Strs
import HandS.SortKw
import HandS.Zip
import PySem.Challenge.RW_downrings_k54_whole_stuck_lots_and_sendi
set_option Elab.async false
set_option linter.all false
set_option maxRecDepth 100000
set_option maxHeartbeats 0
namespace DrH
open PySem PySem.Spec PyProof.Rows L2
def top (i : Nat) : Stmt := PySem.Challenge.pw_downrings_k54_whole_stuck_lots_and_sendi.main.body.getD i (.Pass ⟨0, 0, 0, 0⟩)
def d_is_whole : He.DefD := ⟨("is_whole", none), "is_whole", "is_whole", defArgs (top 11), defBody (top 11), defScope (top 11), [], []⟩
def d_is_within : He.DefD := ⟨("is_within", none), "is_within", "is_within", defArgs (top 12), defBody (top 12), defScope (top 12), [], []⟩
def d_is_minute : He.DefD := ⟨("is_minute", none), "is_minute", "is_minute", defArgs (top 13), defBody (top 13), defScope (top 13), [], []⟩
def d_is_row : He.DefD := ⟨("is_row", none), "is_row", "is_row", defArgs (top 14), defBody (top 14), defScope (top 14), [], []⟩
def d_are_straight : He.DefD := ⟨("are_straight", none), "are_straight", "are_straight", defArgs (top 15), defBody (top 15), defScope (top 15), [], []⟩
def d_are_gaps : He.DefD := ⟨("are_gaps", none), "are_gaps", "are_gaps", defArgs (top 16), defBody (top 16), defScope (top 16), [], []⟩
def d_is_stretch : He.DefD := ⟨("is_stretch", none), "is_stretch", "is_stretch", defArgs (top 17), defBody (top 17), defScope (top 17), [], []⟩
def d_are_shuts : He.DefD := ⟨("are_shuts", none), "are_shuts", "are_shuts", defArgs (top 18), defBody (top 18), defScope (top 18), [], []⟩
def d_is_meadow : He.DefD := ⟨("is_meadow", none), "is_meadow", "is_meadow", defArgs (top 19), defBody (top 19), defScope (top 19), [], []⟩
def d_open_in : He.DefD := ⟨("open_in", none), "open_in", "open_in", defArgs (top 20), defBody (top 20), defScope (top 20), [], []⟩
def d_is_glider : He.DefD := ⟨("is_glider", none), "is_glider", "is_glider", defArgs (top 24), defBody (top 24), defScope (top 24), [], []⟩
def d_is_ahead : He.DefD := ⟨("is_ahead", none), "is_ahead", "is_ahead", defArgs (top 25), defBody (top 25), defScope (top 25), [], []⟩
def d_are_fixed : He.DefD := ⟨("are_fixed", none), "are_fixed", "are_fixed", defArgs (top 26), defBody (top 26), defScope (top 26), [], []⟩
def d_is_sky : He.DefD := ⟨("is_sky", none), "is_sky", "is_sky", defArgs (top 27), defBody (top 27), defScope (top 27), [], []⟩
def d_check_sky : He.DefD := ⟨("check_sky", none), "check_sky", "check_sky", defArgs (top 28), defBody (top 28), defScope (top 28), [], []⟩
def d_free_ones : He.DefD := ⟨("free_ones", none), "free_ones", "free_ones", defArgs (top 29), defBody (top 29), defScope (top 29), [], []⟩
def d_first_open : He.DefD := ⟨("first_open", none), "first_open", "first_open", defArgs (top 30), defBody (top 30), defScope (top 30), [], []⟩
def d_late_joins : He.DefD := ⟨("late_joins", none), "late_joins", "late_joins", defArgs (top 32), defBody (top 32), defScope (top 32), [], []⟩
def d_own_cost : He.DefD := ⟨("own_cost", none), "own_cost", "own_cost", defArgs (top 34), defBody (top 34), defScope (top 34), [], []⟩
def d_soonest_behind : He.DefD := ⟨("soonest_behind", none), "soonest_behind", "soonest_behind", defArgs (top 35), defBody (top 35), defScope (top 35), [], []⟩
def d_leaves_in_time : He.DefD := ⟨("leaves_in_time", none), "leaves_in_time", "leaves_in_time", defArgs (top 36), defBody (top 36), defScope (top 36), [], []⟩
def d_landed_at : He.DefD := ⟨("landed_at", none), "landed_at", "landed_at", defArgs (top 37), defBody (top 37), defScope (top 37), [], []⟩
def d_ring_needed : He.DefD := ⟨("ring_needed", none), "ring_needed", "ring_needed", defArgs (top 38), defBody (top 38), defScope (top 38), [], []⟩
def d_may_hold : He.DefD := ⟨("may_hold", none), "may_hold", "may_hold", defArgs (top 39), defBody (top 39), defScope (top 39), [], []⟩
def d_soonest_in : He.DefD := ⟨("soonest_in", none), "soonest_in", "soonest_in", defArgs (top 40), defBody (top 40), defScope (top 40), [], []⟩
def d_left_without : He.DefD := ⟨("left_without", none), "left_without", "left_without", defArgs (top 42), defBody (top 42), defScope (top 42), [], []⟩
def d_least_from : He.DefD := ⟨("least_from", none), "least_from", "least_from", defArgs (top 43), defBody (top 43), defScope (top 43), [], []⟩
def d_least_by : He.DefD := ⟨("least_by", none), "least_by", "least_by", defArgs (top 44), defBody (top 44), defScope (top 44), [], []⟩
def d_start_of : He.DefD := ⟨("start_of", none), "start_of", "start_of", defArgs (top 45), defBody (top 45), defScope (top 45), [], []⟩
def d_best_in : He.DefD := ⟨("best_in", none), "best_in", "best_in", defArgs (top 46), defBody (top 46), defScope (top 46), [], []⟩
def d_lots_of : He.DefD := ⟨("lots_of", none), "lots_of", "lots_of", defArgs (top 48), defBody (top 48), defScope (top 48), [], []⟩
def d_check_lot : He.DefD := ⟨("check_lot", none), "check_lot", "check_lot", defArgs (top 50), defBody (top 50), defScope (top 50), [], []⟩
def d_narrowed_to : He.DefD := ⟨("narrowed_to", none), "narrowed_to", "narrowed_to", defArgs (top 51), defBody (top 51), defScope (top 51), [], []⟩
def d_all_land : He.DefD := ⟨("all_land", none), "all_land", "all_land", defArgs (top 52), defBody (top 52), defScope (top 52), [], []⟩
def d_can_land : He.DefD := ⟨("can_land", none), "can_land", "can_land", defArgs (top 53), defBody (top 53), defScope (top 53), [], []⟩
def d_holds_one : He.DefD := ⟨("holds_one", none), "holds_one", "holds_one", defArgs (top 54), defBody (top 54), defScope (top 54), [], []⟩
def d_least_stuck_in : He.DefD := ⟨("least_stuck_in", none), "least_stuck_in", "least_stuck_in", defArgs (top 55), defBody (top 55), defScope (top 55), [], []⟩
def d_least_stuck : He.DefD := ⟨("least_stuck", none), "least_stuck", "least_stuck", defArgs (top 56), defBody (top 56), defScope (top 56), [], []⟩
def d_least_sendings : He.DefD := ⟨("least_sendings", none), "least_sendings", "least_sendings", defArgs (top 57), defBody (top 57), defScope (top 57), [], []⟩
def d_law_cell_at : He.DefD := ⟨("_law_cell_at", none), "_law_cell_at", "_law_cell_at", defArgs (top 59), defBody (top 59), defScope (top 59), [], []⟩
def d_law_pot : He.DefD := ⟨("_law_pot", none), "_law_pot", "_law_pot", defArgs (top 60), defBody (top 60), defScope (top 60), [], []⟩
def d_law_take : He.DefD := ⟨("_law_take", none), "_law_take", "_law_take", defArgs (top 61), defBody (top 61), defScope (top 61), [], []⟩
def d_law_gaps : He.DefD := ⟨("_law_gaps", none), "_law_gaps", "_law_gaps", defArgs (top 62), defBody (top 62), defScope (top 62), [], []⟩
def d_law_meadow : He.DefD := ⟨("_law_meadow", none), "_law_meadow", "_law_meadow", defArgs (top 63), defBody (top 63), defScope (top 63), [], []⟩
def d_law_sky : He.DefD := ⟨("_law_sky", none), "_law_sky", "_law_sky", defArgs (top 64), defBody (top 64), defScope (top 64), [], []⟩
def d_law_lots : He.DefD := ⟨("_law_lots", none), "_law_lots", "_law_lots", defArgs (top 65), defBody (top 65), defScope (top 65), [], []⟩
def d_law_crowded : He.DefD := ⟨("_law_crowded", none), "_law_crowded", "_law_crowded", defArgs (top 66), defBody (top 66), defScope (top 66), [], []⟩
def d_law_hits : He.DefD := ⟨("_law_hits", none), "_law_hits", "_law_hits", defArgs (top 67), defBody (top 67), defScope (top 67), [], []⟩
def d_law : He.DefD := ⟨("law", none), "law", "law", defArgs (top 68), defBody (top 68), defScope (top 68), [], []⟩
def fn : List He.DefD := [d_is_whole, d_is_within, d_is_minute, d_is_row, d_are_straight, d_are_gaps, d_is_stretch, d_are_shuts, d_is_meadow, d_open_in, d_is_glider, d_is_ahead, d_are_fixed, d_is_sky, d_check_sky, d_free_ones, d_first_open, d_late_joins, d_own_cost, d_soonest_behind, d_leaves_in_time, d_landed_at, d_ring_needed, d_may_hold, d_soonest_in, d_left_without, d_least_from, d_least_by, d_start_of, d_best_in, d_lots_of, d_check_lot, d_narrowed_to, d_all_land, d_can_land, d_holds_one, d_least_stuck_in, d_least_stuck, d_least_sendings, d_law_cell_at, d_law_pot, d_law_take, d_law_gaps, d_law_meadow, d_law_sky, d_law_lots, d_law_crowded, d_law_hits, d_law]
def fa1 : List He.Fa := [.glo "is_whole", .glo "is_within", .glo "is_minute", .glo "is_row", .glo "are_straight", .glo "are_gaps", .glo "is_stretch", .glo "are_shuts", .glo "is_meadow", .glo "open_in", .glo "is_glider", .glo "is_ahead", .glo "are_fixed", .glo "is_sky", .glo "check_sky", .glo "free_ones", .glo "first_open", .glo "late_joins", .glo "own_cost", .glo "soonest_behind", .glo "leaves_in_time", .glo "landed_at", .glo "ring_needed", .glo "may_hold", .glo "soonest_in", .glo "left_without", .glo "least_from", .glo "least_by", .glo "start_of", .glo "best_in", .glo "lots_of", .glo "check_lot", .glo "narrowed_to", .glo "all_land", .glo "can_land"]
def fa2 : List He.Fa := [.glo "holds_one", .glo "least_stuck_in", .glo "least_stuck", .glo "least_sendings", .glo "_law_cell_at", .glo "_law_pot", .glo "_law_take", .glo "_law_gaps", .glo "_law_meadow", .glo "_law_sky", .glo "_law_lots", .glo "_law_crowded", .glo "_law_hits", .glo "law", .int "MOST_RINGS" 8, .int "MOST_SINK" 60, .int "MOST_KINDS" 4, .int "MOST_GAP" 99, .int "MOST_SHUTS" 4, .int "MOST_MINUTE" 9999, .int "MOST_GLIDERS" 7, .int "MOST_WEIGHT" 99, .free "isinstance", .free "len", .free "all", .free "any", .free "enumerate", .free "range", .free "sorted", .free "max", .free "min", .free "tuple", .free "list", .free "set", .free "int", .free "bool"]
def fa : List He.Fa := fa1 ++ fa2
def lo0 : List Str := ["RingError", "NoSky", "NoLot", "MOST_RINGS", "MOST_SINK", "MOST_KINDS", "MOST_GAP", "MOST_SHUTS", "MOST_MINUTE", "is_whole", "is_within", "is_minute", "is_row", "are_straight", "are_gaps", "is_stretch", "are_shuts", "is_meadow", "open_in", "MOST_GLIDERS", "MOST_WEIGHT", "is_glider", "is_ahead", "are_fixed", "is_sky", "check_sky", "free_ones", "first_open", "late_joins", "own_cost"]
def lo1 : List Str := ["soonest_behind", "leaves_in_time", "landed_at", "ring_needed", "may_hold", "soonest_in", "left_without", "least_from", "least_by", "start_of", "best_in", "lots_of", "check_lot", "narrowed_to", "all_land", "can_land", "holds_one", "least_stuck_in", "least_stuck", "least_sendings", "_law_cell_at", "_law_pot", "_law_take", "_law_gaps", "_law_meadow", "_law_sky", "_law_lots", "_law_crowded", "_law_hits"]
def lo : List Str := lo0 ++ lo1
abbrev R : PySem.W.OpenRow := PySem.W.OpenLaw.row PySem.Challenge.rw_downrings_k54_whole_stuck_lots_and_sendi
abbrev hk : PySem.W.Hook := He.hookD 4 fa fn
def ob (s : PySem.W.SharedT) : He.AlD := He.obsDG 4 fa fn (HandSHeadRun.getT s)
theorem ob_eq (s : PySem.W.SharedT) : ob s = hk.obs s.abs := He.obsDG_eq (HandSHeadRun.getT_eq s)
theorem run (w : World) : HandSHeadRun.RunEq R (PySem.W.view R.prog [68]) hk ob 3000 lo w := by
  intro os
  kernel_rfl
end DrH
set_option Elab.async false
set_option linter.all false
set_option maxRecDepth 100000
set_option maxHeartbeats 2000000
namespace Dr
open PySem L2

/-! ### data -/
inductive D where
  | non | bl (b : Bool) | int (i : Int) | str (x : Str) | tup (xs : List D) | lst (xs : List D) | adr (a : Addr)

/-- a tuple that stands, its object known -/
def StT (G : Hp) (a : Addr) (vs : List V) : Prop := ∃ o, G a = some (.frz o (.tup vs)) ∧ o.dict = none
theorem StT.sq {K : PySem.W.Frag} {G : Hp} {a : Addr} {vs : List V} (h : StT G a vs) : SqT K G a vs := let ⟨o, h, _⟩ := h; .inl (.inr ⟨o, h⟩)
mutual
inductive Dt (K : PySem.W.Frag) (G : Hp) : V → D → Prop
  | non : Dt K G .non .non
  | bl (b : Bool) : Dt K G (.bl b) (.bl b)
  | int (i : Int) : Dt K G (.int i) (.int i)
  | str (x : Str) : Dt K G (.str x) (.str x)
  | tup {a : Addr} {vs : List V} {ds : List D} : StT G a vs → Dts K G vs ds → Dt K G (.ref a) (.tup ds)
  | lst {a : Addr} {vs : List V} {ds : List D} : G a = some (.lst vs) → Dts K G vs ds → Dt K G (.ref a) (.lst ds)
  | adr (a : Addr) : Dt K G (.ref a) (.adr a)
inductive Dts (K : PySem.W.Frag) (G : Hp) : List V → List D → Prop
  | nil : Dts K G [] []
  | cons {v : V} {vs : List V} {d : D} {ds : List D} : Dt K G v d → Dts K G vs ds → Dts K G (v :: vs) (d :: ds)
end

def Ex (H H' : Hp) : Prop := ∀ a o, H a = some o → H' a = some o
theorem Ex.refl (H : Hp) : Ex H H := fun _ _ h => h
theorem Ex.trans {H H1 H2 : Hp} (a : Ex H H1) (b : Ex H1 H2) : Ex H H2 := fun x o h => b x o (a x o h)
theorem Ex.new {H : Hp} {p : Addr} {o : HO} (h : H p = none) : Ex H (upd H p o) := fun a u e => by
  rw [upd_ne (ne_of_none e h)]
  exact e
theorem ex_rd {H H' : Hp} {a : Addr} {u : HO} (e : Ex H H') (h : Rd H a u) : Rd H' a u := by
  rcases h with h | ⟨o, h⟩
  · exact Or.inl (e a _ h)
  · exact Or.inr ⟨o, e a _ h⟩
theorem ex_l {K : PySem.W.Frag} {H H' : Hp} {a : Addr} {xs : List V} (e : Ex H H') (h : SqL K H a xs) : SqL K H' a xs := by
  rcases h with h | h
  · exact Or.inl (ex_rd e h)
  · exact Or.inr h
theorem ex_t {K : PySem.W.Frag} {H H' : Hp} {a : Addr} {xs : List V} (e : Ex H H') (h : SqT K H a xs) : SqT K H' a xs := by
  rcases h with h | h
  · exact Or.inl (ex_rd e h)
  · exact Or.inr h

theorem StT.mono {G G' : Hp} {a : Addr} {vs : List V} (e : Ex G G') (h : StT G a vs) : StT G' a vs := let ⟨o, h1, h2⟩ := h; ⟨o, e _ _ h1, h2⟩
section
variable {K : PySem.W.Frag} {G G' : Hp}
mutual
theorem Dt.mono (e : Ex G G') : ∀ {v : V} {d : D}, Dt K G v d → Dt K G' v d
  | _, _, .non => .non
  | _, _, .bl b => .bl b
  | _, _, .int i => .int i
  | _, _, .str x => .str x
  | _, _, .tup h1 h2 => .tup (h1.mono e) (Dts.mono e h2)
  | _, _, .lst h1 h2 => .lst (e _ _ h1) (Dts.mono e h2)
  | _, _, .adr a => .adr a
theorem Dts.mono (e : Ex G G') : ∀ {vs : List V} {ds : List D}, Dts K G vs ds → Dts K G' vs ds
  | _, _, .nil => .nil
  | _, _, .cons h1 h2 => .cons (Dt.mono e h1) (Dts.mono e h2)
end
theorem Dts.length : ∀ {vs : List V} {ds : List D}, Dts K G vs ds → vs.length = ds.length
  | _, _, .nil => rfl
  | _, _, .cons _ t => by rw [List.length_cons, List.length_cons, Dts.length t]
theorem Dts.get : ∀ {vs : List V} {ds : List D} {i : Nat} {d : D}, Dts K G vs ds → ds[i]? = some d → ∃ v, vs[i]? = some v ∧ Dt K G v d
  | _, _, 0, _, .cons h _, e => by
    cases e
    exact ⟨_, rfl, h⟩
  | _, _, i + 1, d, .cons _ t, e => by
    obtain ⟨v, h1, h2⟩ := Dts.get (i := i) (d := d) t (by simpa using e)
    exact ⟨v, by simpa using h1, h2⟩
theorem Dts.getV : ∀ {vs : List V} {ds : List D} {i : Nat} {v : V}, Dts K G vs ds → vs[i]? = some v → ∃ d, ds[i]? = some d ∧ Dt K G v d
  | _, _, 0, _, .cons h _, e => by
    cases e
    exact ⟨_, rfl, h⟩
  | _, _, i + 1, v, .cons _ t, e => by
    obtain ⟨d, h1, h2⟩ := Dts.getV (i := i) (v := v) t (by simpa using e)
    exact ⟨d, by simpa using h1, h2⟩
theorem Dts.app : ∀ {vs us : List V} {ds es : List D}, Dts K G vs ds → Dts K G us es → Dts K G (vs ++ us) (ds ++ es)
  | _, _, _, _, .nil, s => s
  | _, _, _, _, .cons h t, s => .cons h (Dts.app t s)
theorem Dts.take : ∀ {vs : List V} {ds : List D} (n : Nat), Dts K G vs ds → Dts K G (vs.take n) (ds.take n)
  | _, _, 0, _ => .nil
  | _, _, _ + 1, .nil => .nil
  | _, _, n + 1, .cons h t => .cons h (Dts.take n t)
theorem Dts.drop : ∀ {vs : List V} {ds : List D} (n : Nat), Dts K G vs ds → Dts K G (vs.drop n) (ds.drop n)
  | _, _, 0, h => h
  | _, _, _ + 1, .nil => .nil
  | _, _, n + 1, .cons _ t => Dts.drop n t
theorem Dts.set {x : V} {d : D} (r : Dt K G x d) : ∀ {vs : List V} {ds : List D} (i : Nat), Dts K G vs ds → Dts K G (vs.set i x) (ds.set i d)
  | _, _, _, .nil => .nil
  | _, _, 0, .cons _ t => .cons r t
  | _, _, i + 1, .cons q t => .cons q (Dts.set r i t)
theorem Dts.of {vs : List V} {ds : List D} (hl : vs.length = ds.length) (h : ∀ (i : Nat) v d, vs[i]? = some v → ds[i]? = some d → Dt K G v d) : Dts K G vs ds := by
  induction vs generalizing ds with
  | nil =>
    cases ds with
    | nil => exact .nil
    | cons d ds => cases hl
  | cons v vs ih =>
    cases ds with
    | nil => cases hl
    | cons d ds => exact .cons (h 0 v d rfl rfl) (ih (by simpa using hl) fun i v' d' h1 h2 => h (i + 1) v' d' (by simpa using h1) (by simpa using h2))
theorem Dts.ints : ∀ ns : List Int, Dts K G (ns.map V.int) (ns.map D.int)
  | [] => .nil
  | n :: ns => .cons (.int n) (Dts.ints ns)
theorem Dts.to_ints : ∀ {ns : List Int} {vs : List V}, Dts K G vs (ns.map D.int) → vs = ns.map V.int
  | [], _, .nil => rfl
  | n :: ns, _, .cons (.int _) t => by rw [Dts.to_ints t]; rfl
theorem Dts.bls : ∀ ns : List Bool, Dts K G (ns.map V.bl) (ns.map D.bl)
  | [] => .nil
  | n :: ns => .cons (.bl n) (Dts.bls ns)
theorem Dts.to_bls : ∀ {ns : List Bool} {vs : List V}, Dts K G vs (ns.map D.bl) → vs = ns.map V.bl
  | [], _, .nil => rfl
  | n :: ns, _, .cons (.bl _) t => by rw [Dts.to_bls t]; rfl
end

/-! ### data as PyData -/
mutual
def D.py : D → PyData
  | .non => .none
  | .bl b => .bool b
  | .int i => .int i
  | .str x => .str x
  | .tup xs => .tuple (D.pys xs)
  | .lst xs => .list (D.pys xs)
  | .adr _ => .none
def D.pys : List D → List PyData
  | [] => []
  | d :: ds => d.py :: D.pys ds
end
mutual

def D.ok : D → Bool
  | .tup xs => D.oks xs
  | .lst xs => D.oks xs
  | .adr _ => false
  | _ => true
def D.oks : List D → Bool
  | [] => true
  | d :: ds => d.ok && D.oks ds
end
mutual

def D.fix : D → Bool
  | .tup xs => D.fixs xs
  | .lst _ => false
  | .adr _ => false
  | _ => true
def D.fixs : List D → Bool
  | [] => true
  | d :: ds => d.fix && D.fixs ds
end
theorem D.pys_eq : ∀ ds : List D, D.pys ds = ds.map D.py
  | [] => by simp [D.pys]
  | d :: ds => by rw [D.pys, D.pys_eq ds]; rfl
section
variable {K : PySem.W.Frag} {G : Hp}
mutual
theorem Dt.dp : ∀ {v : V} {d : D}, Dt K G v d → d.ok = true → Dp K G v d.py
  | _, _, .non => fun _ => by rw [D.py]; exact .non
  | _, _, .bl b => fun _ => by rw [D.py]; exact .bl b
  | _, _, .int i => fun _ => by rw [D.py]; exact .int i
  | _, _, .str x => fun _ => by rw [D.py]; exact .str x
  | _, _, .tup h1 h2 => fun o => by rw [D.py]; exact .tup h1.sq (Dts.dp h2 (by rw [D.ok] at o; exact o))
  | _, _, .lst h1 h2 => fun o => by rw [D.py]; exact .lst (.of h1) (Dts.dp h2 (by rw [D.ok] at o; exact o))
  | _, _, .adr a => fun o => by rw [D.ok] at o; cases o
theorem Dts.dp : ∀ {vs : List V} {ds : List D}, Dts K G vs ds → D.oks ds = true → DpAll K G vs (D.pys ds)
  | _, _, .nil => fun _ => by rw [D.pys]; exact .nil
  | _, _, .cons h1 h2 => fun o => by
    rw [D.oks, Bool.and_eq_true] at o
    rw [D.pys]
    exact .cons (Dt.dp h1 o.1) (Dts.dp h2 o.2)
end
/- what has no list within is not touched by what is not a tuple -/
mutual
theorem Dt.fixed {G' : Hp} (e : ∀ a vs, StT G a vs → StT G' a vs) : ∀ {v : V} {d : D}, Dt K G v d → d.fix = true → Dt K G' v d
  | _, _, .non => fun _ => .non
  | _, _, .bl b => fun _ => .bl b
  | _, _, .int i => fun _ => .int i
  | _, _, .str x => fun _ => .str x
  | _, _, .tup h1 h2 => fun o => .tup (e _ _ h1) (Dts.fixed e h2 (by rw [D.fix] at o; exact o))
  | _, _, .lst h1 h2 => fun o => by rw [D.fix] at o; cases o
  | _, _, .adr a => fun o => by rw [D.fix] at o; cases o
theorem Dts.fixed {G' : Hp} (e : ∀ a vs, StT G a vs → StT G' a vs) : ∀ {vs : List V} {ds : List D}, Dts K G vs ds → D.fixs ds = true → Dts K G' vs ds
  | _, _, .nil => fun _ => .nil
  | _, _, .cons h1 h2 => fun o => by
    rw [D.fixs, Bool.and_eq_true] at o
    exact .cons (Dt.fixed e h1 o.1) (Dts.fixed e h2 o.2)
end
end
end Dr
set_option Elab.async false
set_option linter.all false
set_option maxRecDepth 100000
set_option maxHeartbeats 2000000
namespace Dr
open PySem L2

/-! ### keys -/
mutual
def D.key : D → NestedKey
  | .non => .none
  | .bl b => .num (if b = true then 1 else 0)
  | .int i => .num i
  | .str x => .text x
  | .tup xs => .tup (D.keys xs)
  | .lst _ => .none
  | .adr _ => .none
def D.keys : List D → List NestedKey
  | [] => []
  | d :: ds => d.key :: D.keys ds
end

/-! ### what may change -/
inductive Mob where
  | ml (ds : List D)
  | md (kvs : List (NestedKey × D))
abbrev Mp := Addr → Option Mob
def updM (M : Mp) (a : Addr) (m : Mob) : Mp := fun b => if b = a then some m else M b
def eraM (M : Mp) (a : Addr) : Mp := fun b => if b = a then none else M b
theorem updM_same {M : Mp} {a : Addr} {m : Mob} : updM M a m a = some m := by unfold updM; rw [if_pos rfl]
theorem updM_ne {M : Mp} {a b : Addr} {m : Mob} (h : b ≠ a) : updM M a m b = M b := by unfold updM; rw [if_neg h]
theorem eraM_same {M : Mp} {a : Addr} : eraM M a a = none := by unfold eraM; rw [if_pos rfl]
theorem eraM_ne {M : Mp} {a b : Addr} (h : b ≠ a) : eraM M a b = M b := by unfold eraM; rw [if_neg h]
theorem updM_updM {M : Mp} {a : Addr} {m m' : Mob} : updM (updM M a m) a m' = updM M a m' := by
  funext b
  unfold updM
  split <;> rfl

/-- the dict at a: its entries, each key a tuple at an address -/
def dicO (P : Program) (w : World) (a : Addr) (xs : List (NestedKey × Addr × V)) : HO := .ext fun h =>
  ∃ us : List (NestedKey × Addr × Value), Paired (fun (p : NestedKey × Addr × V) (q : NestedKey × Addr × Value) => p.1 = q.1 ∧ p.2.1 = q.2.1 ∧ RelV p.2.2 q.2.2) xs us ∧
    ∃ o es ep, h.get? a = some o ∧ o.ExactDict ∧ o.data = .dict es ep ∧ es.toList = us.map (entryOfKey (nestedKind P w)) ∧ (us.map (·.1)).Nodup

def KeyD (K : PySem.W.Frag) (G : Hp) (k : NestedKey) (a : Addr) : Prop := ∃ d, Dt K G (.ref a) d ∧ d.fix = true ∧ d.key = k ∧ k.depth ≤ 8
inductive MoOk (P : Program) (w : World) (K : PySem.W.Frag) (G : Hp) (a : Addr) : Mob → HO → Prop
  | ml {vs : List V} {ds : List D} : Dts K G vs ds → MoOk P w K G a (.ml ds) (.lst vs)
  | md {kvs : List (NestedKey × D)} {xs : List (NestedKey × Addr × V)} : (a == sysModules) = false →
      Paired (fun (p : NestedKey × D) (q : NestedKey × Addr × V) => p.1 = q.1 ∧ KeyD K G q.1 q.2.1 ∧ Dt K G q.2.2 p.2) kvs xs → MoOk P w K G a (.md kvs) (dicO P w a xs)
section
variable {P : Program} {w : World} {K : PySem.W.Frag} {G G' : Hp} {a : Addr}
theorem KeyD.mono {k : NestedKey} (e : Ex G G') (h : KeyD K G k a) : KeyD K G' k a := by
  obtain ⟨d, h1, h2⟩ := h
  exact ⟨d, h1.mono e, h2⟩
theorem MoOk.mono {m : Mob} {o : HO} (e : Ex G G') (h : MoOk P w K G a m o) : MoOk P w K G' a m o := by
  cases h with
  | ml h => exact .ml (Dts.mono e h)
  | md hs h => exact .md hs (Paired.mapP h fun p q z => ⟨z.1, z.2.1.mono e, z.2.2.mono e⟩)
end

/-! ### the state: G what stands for ever, M what may change, H the heap -/
structure SR (P : Program) (w : World) (K : PySem.W.Frag) (G : Hp) (M : Mp) (H : Hp) : Prop where
  ex : Ex G H
  mu : ∀ a m, M a = some m → G a = none ∧ ∃ o, H a = some o ∧ MoOk P w K G a m o
structure Xt (P : Program) (w : World) (K : PySem.W.Frag) (G : Hp) (M : Mp) (H : Hp) (G' : Hp) (M' : Mp) (H' : Hp) : Prop where
  g : Ex G G'
  s : SR P w K G' M' H'
  fr : ∀ a o, H a = some o → M a = none → H' a = some o
  ng : ∀ a, G' a ≠ none → G a ≠ none ∨ H a = none ∨ M a ≠ none
  nm : ∀ a, M' a ≠ none → M a ≠ none ∨ H a = none
  dm : ∀ a, H' a = none → H a = none
section
variable {P : Program} {w : World} {K : PySem.W.Frag} {G G' G1 G2 H H' H1 H2 : Hp} {M M' M1 M2 : Mp} {a : Addr}
theorem SR.noG (s : SR P w K G M H) (h : H a = none) : G a = none := by
  cases e : G a with
  | none => rfl
  | some o => rw [s.ex a o e] at h; cases h
theorem SR.noM (s : SR P w K G M H) (h : H a = none) : M a = none := by
  cases e : M a with
  | none => rfl
  | some m =>
    obtain ⟨_, o, e2, _⟩ := s.mu a m e
    rw [e2] at h; cases h
theorem Xt.refl (s : SR P w K G M H) : Xt P w K G M H G M H := ⟨Ex.refl G, s, fun _ _ h _ => h, fun _ h => .inl h, fun _ h => .inl h, fun _ h => h⟩
theorem Xt.trans (x : Xt P w K G M H G1 M1 H1) (y : Xt P w K G1 M1 H1 G2 M2 H2) : Xt P w K G M H G2 M2 H2 where
  g := x.g.trans y.g
  s := y.s
  fr := fun a o h1 h2 => by
    refine y.fr a o (x.fr a o h1 h2) ?_
    cases e : M1 a with
    | none => rfl
    | some m =>
      rcases x.nm a (by rw [e]; intro z; cases z) with z | z
      · exact absurd h2 z
      · rw [z] at h1; cases h1
  ng := fun a h => by
    rcases y.ng a h with z | z | z
    · exact x.ng a z
    · exact .inr (.inl (x.dm a z))
    · rcases x.nm a z with z | z
      · exact .inr (.inr z)
      · exact .inr (.inl z)
  nm := fun a h => by
    rcases y.nm a h with z | z
    · exact x.nm a z
    · exact .inr (x.dm a z)
  dm := fun a h => x.dm a (y.dm a h)
/-- a new thing that stays -/
theorem Xt.alloc {p : Addr} {o : HO} (s : SR P w K G M H) (hp : H p = none) : Xt P w K G M H (upd G p o) M (upd H p o) := by
  have gp := s.noG hp
  have mp := s.noM hp
  refine ⟨Ex.new gp, ⟨fun b u e => ?_, fun b m e => ?_⟩, fun b u e _ => Ex.new hp b u e, fun b h => ?_, fun b h => .inl h, fun b h => ?_⟩
  · by_cases z : b = p
    · subst z; rw [upd_same] at e ⊢; exact e
    · rw [upd_ne z] at e ⊢; exact s.ex b u e
  · have nb : b ≠ p := fun z => by subst z; rw [mp] at e; cases e
    obtain ⟨h1, u, h2, h3⟩ := s.mu b m e
    exact ⟨by rw [upd_ne nb]; exact h1, u, by rw [upd_ne nb]; exact h2, h3.mono (Ex.new gp)⟩
  · by_cases z : b = p
    · subst z; exact .inr (.inl hp)
    · rw [upd_ne z] at h; exact .inl h
  · by_cases z : b = p
    · subst z; exact hp
    · rw [upd_ne z] at h; exact h
/-- a new thing that may change -/
theorem Xt.allocM {p : Addr} {o : HO} {m : Mob} (s : SR P w K G M H) (hp : H p = none) (hm : MoOk P w K G p m o) : Xt P w K G M H G (updM M p m) (upd H p o) := by
  have gp := s.noG hp
  have mp := s.noM hp
  refine ⟨Ex.refl G, ⟨fun b u e => Ex.new hp b u (s.ex b u e), fun b m' e => ?_⟩, fun b u e _ => Ex.new hp b u e, fun b h => .inl h, fun b h => ?_, fun b h => ?_⟩
  · by_cases z : b = p
    · subst z
      rw [updM_same] at e
      cases e
      exact ⟨gp, o, upd_same, hm⟩
    · rw [updM_ne z] at e
      obtain ⟨h1, u, h2, h3⟩ := s.mu b m' e
      exact ⟨h1, u, by rw [upd_ne z]; exact h2, h3⟩
  · by_cases z : b = p
    · subst z; exact .inr hp
    · rw [updM_ne z] at h; exact .inl h
  · by_cases z : b = p
    · subst z; exact hp
    · rw [upd_ne z] at h; exact h
/-- what may change is changed -/
theorem Xt.mutM {m m' : Mob} {o : HO} (s : SR P w K G M H) (ha : M a = some m) (hm : MoOk P w K G a m' o) : Xt P w K G M H G (updM M a m') (upd H a o) := by
  obtain ⟨ga, u, hu, _⟩ := s.mu a m ha
  refine ⟨Ex.refl G, ⟨fun b v e => ?_, fun b m2 e => ?_⟩, fun b v e h => ?_, fun b h => .inl h, fun b h => ?_, fun b h => ?_⟩
  · have nb : b ≠ a := fun z => by subst z; rw [ga] at e; cases e
    rw [upd_ne nb]
    exact s.ex b v e
  · by_cases z : b = a
    · subst z
      rw [updM_same] at e
      cases e
      exact ⟨ga, o, upd_same, hm⟩
    · rw [updM_ne z] at e
      obtain ⟨h1, v, h2, h3⟩ := s.mu b m2 e
      exact ⟨h1, v, by rw [upd_ne z]; exact h2, h3⟩
  · have nb : b ≠ a := fun z => by subst z; rw [ha] at h; cases h
    rw [upd_ne nb]
    exact e
  · by_cases z : b = a
    · subst z; exact .inl (by rw [ha]; intro q; cases q)
    · rw [updM_ne z] at h; exact .inl h
  · by_cases z : b = a
    · subst z; rw [upd_same] at h; cases h
    · rw [upd_ne z] at h; exact h
/-- a list that may change stands still from now on -/
theorem Xt.freeze {ds : List D} (s : SR P w K G M H) (ha : M a = some (.ml ds)) : ∃ vs, H a = some (.lst vs) ∧ Dts K G vs ds ∧ Xt P w K G M H (upd G a (.lst vs)) (eraM M a) H := by
  obtain ⟨ga, u, hu, hm⟩ := s.mu a _ ha
  cases hm with
  | @ml vs _ h =>
    refine ⟨vs, hu, h, Ex.new ga, ⟨fun b v e => ?_, fun b m2 e => ?_⟩, fun b v e _ => e, fun b h => ?_, fun b h => ?_, fun b h => h⟩
    · by_cases z : b = a
      · subst z; rw [upd_same] at e; cases e; exact hu
      · rw [upd_ne z] at e; exact s.ex b v e
    · by_cases z : b = a
      · subst z; rw [eraM_same] at e; cases e
      · rw [eraM_ne z] at e
        obtain ⟨h1, v, h2, h3⟩ := s.mu b m2 e
        exact ⟨by rw [upd_ne z]; exact h1, v, h2, h3.mono (Ex.new ga)⟩
    · by_cases z : b = a
      · subst z; exact .inr (.inr (by rw [ha]; intro q; cases q))
      · rw [upd_ne z] at h; exact .inl h
    · by_cases z : b = a
      · subst z; rw [eraM_same] at h; exact absurd rfl h
      · rw [eraM_ne z] at h; exact .inl h
/-- some of what may change is forgotten -/
def SubM (M M' : Mp) : Prop := ∀ a m, M a = some m → M' a = some m
theorem SubM.refl (M : Mp) : SubM M M := fun _ _ h => h
theorem SubM.trans (h : SubM M M1) (h2 : SubM M1 M2) : SubM M M2 := fun a m e => h2 a m (h a m e)
theorem SubM.new {m : Mob} (h : M a = none) : SubM M (updM M a m) := fun b m' e => by
  have nb : b ≠ a := fun z => by subst z; rw [h] at e; cases e
  rw [updM_ne nb]
  exact e
theorem SR.sub (s : SR P w K G M' H) (h : SubM M M') : SR P w K G M H := ⟨s.ex, fun b m e => s.mu b m (h b m e)⟩
theorem Xt.sub (x : Xt P w K G M H G' M1 H') (h : SubM M' M1) : Xt P w K G M H G' M' H' :=
  ⟨x.g, x.s.sub h, x.fr, x.ng, fun b e => x.nm b (by
    cases q : M' b with
    | none => exact absurd q e
    | some m => rw [h b m q]; intro z; cases z), x.dm⟩
end

/-! ### names to data -/
abbrev En := List (Option D)
structure EnvD (K : PySem.W.Frag) (G : Hp) (σ : St) (δ : En) : Prop where
  len : σ.length = δ.length
  at_ : ∀ (i : Nat) d, δ[i]? = some (some d) → ∃ v, σ[i]? = some (some v) ∧ Dt K G v d
section
variable {K : PySem.W.Frag} {G G' : Hp} {σ : St} {δ : En}
theorem EnvD.mono (e : Ex G G') (h : EnvD K G σ δ) : EnvD K G' σ δ := ⟨h.len, fun i d q => let ⟨v, h1, h2⟩ := h.at_ i d q; ⟨v, h1, h2.mono e⟩⟩
theorem EnvD.set {v : V} {d : D} (h : EnvD K G σ δ) (hv : Dt K G v d) (i : Nat) : EnvD K G (σ.set i (some v)) (δ.set i (some d)) := by
  refine ⟨by rw [List.length_set, List.length_set]; exact h.len, fun j e q => ?_⟩
  rw [List.getElem?_set] at q ⊢
  split at q
  · rename_i hij
    subst hij
    rw [if_pos rfl]
    split at q
    · rename_i hl
      cases q
      rw [if_pos (by rw [h.len]; exact hl)]
      exact ⟨v, rfl, hv⟩
    · cases q
  · rename_i hij
    rw [if_neg hij]
    exact h.at_ j e q
def wipeD (δ : En) : List Nat → En
  | [] => δ
  | v :: vs => (wipeD δ vs).set v none
theorem EnvD.wipe (h : EnvD K G σ δ) : ∀ vs : List Nat, EnvD K G (L2.wipe σ vs) (wipeD δ vs)
  | [] => h
  | v :: vs => by
    have ih := EnvD.wipe h vs
    refine ⟨by rw [L2.wipe, wipeD, List.length_set, List.length_set]; exact ih.len, fun j e q => ?_⟩
    rw [wipeD, List.getElem?_set] at q
    rw [L2.wipe, List.getElem?_set]
    split at q
    · split at q <;> cases q
    · rename_i hij
      rw [if_neg hij]
      exact ih.at_ j e q
theorem wipe_set {σ : St} {j : Nat} {x : Option V} : ∀ {vs : List Nat}, j ∈ vs → wipe (σ.set j x) vs = wipe σ vs
  | [], h => by cases h
  | v :: vs, h => by
    rw [wipe, wipe]
    by_cases hv : j = v
    · subst hv
      by_cases hm : j ∈ vs
      · rw [wipe_set hm]
      · have : ∀ (σ : St) (ws : List Nat), (wipe (σ.set j x) ws).set j none = (wipe σ ws).set j none := by
          intro σ ws
          induction ws with
          | nil => rw [wipe, wipe, List.set_set]
          | cons u us ih =>
            rw [wipe, wipe]
            by_cases hu : u = j
            · subst hu
              rw [List.set_set, List.set_set, ih]
            · rw [List.set_comm _ _ hu, ih, List.set_comm _ _ (Ne.symm hu)]
        exact this σ vs
    · have hm : j ∈ vs := by
        cases h with
        | head => exact absurd rfl hv
        | tail _ h => exact h
      rw [wipe_set hm]
theorem wipe_mem_set {σ : St} {j : Nat} : ∀ {vs : List Nat}, j ∈ vs → (wipe σ vs).set j none = wipe σ vs
  | [], h => by cases h
  | v :: vs, h => by
    rw [wipe]
    by_cases hv : j = v
    · subst hv
      rw [List.set_set]
    · have hm : j ∈ vs := by
        cases h with
        | head => exact absurd rfl hv
        | tail _ h => exact h
      rw [List.set_comm _ _ (Ne.symm hv), wipe_mem_set hm]
theorem wipe_sub {σ : St} {vs : List Nat} : ∀ {us : List Nat}, (∀ j ∈ us, j ∈ vs) → wipe (wipe σ vs) us = wipe σ vs
  | [], _ => rfl
  | u :: us, h => by
    rw [wipe, wipe_sub fun j hj => h j (List.mem_cons_of_mem _ hj)]
    exact wipe_mem_set (h u List.mem_cons_self)
theorem wipe_wipe {σ : St} {vs : List Nat} : wipe (wipe σ vs) vs = wipe σ vs := wipe_sub fun _ h => h
end
end Dr
set_option Elab.async false
set_option linter.all false
set_option maxRecDepth 100000
set_option maxHeartbeats 2000000
namespace Dr
open PySem L2

/-! ### what a piece of the text does, told by what is wanted behind it -/
structure Cok (X : Cx) : Prop where
  calm : X.calm = true
  nd : X.N.Nodup
  nox : X.xe = fun _ _ => False
  hu : X.A.units + 200 < cLine
def WE (X : Cx) (e : Expr) : TE := fun σ H Q => ∀ (pins : List (Addr × Obj)) (s : Shared), Inv X pins σ H s → wpAny (model X.prog X.w) X.A (eval e X.env) (EP X pins σ Q) X.xe s
def WT (X : Cx) (e : Expr) : TT := fun σ H Q => ∀ (pins : List (Addr × Obj)) (s : Shared), Inv X pins σ H s → wpAny (model X.prog X.w) X.A (isTrue e X.env (eval e X.env)) (TP X pins σ Q) X.xe s
def WW (X : Cx) (e : Expr) : TT := fun σ H Q => ∀ (whole : Sem Value) (pins : List (Addr × Obj)) (s : Shared), Inv X pins σ H s → wpAny (model X.prog X.w) X.A (isTrue e X.env whole) (TP X pins σ Q) X.xe s
def WA (X : Cx) (es : List Expr) : TA := fun σ H Q => ∀ (pos : Pos) (pins : List (Addr × Obj)) (s : Shared), Inv X pins σ H s → wpAny (model X.prog X.w) X.A (spliced (backTo pos (starEach es X.env))) (AP X pins σ Q) X.xe s
def WS (X : Cx) (st : Stmt) : TS := fun D σ H => ∀ (pins : List (Addr × Obj)) (s : Shared), Inv X pins σ H s → wpAny (model X.prog X.w) X.A (exec st X.env) (SP X pins D) X.xe s
def WSs (X : Cx) (ss : List Stmt) : TS := fun D σ H => ∀ (pins : List (Addr × Obj)) (s : Shared), Inv X pins σ H s → wpAny (model X.prog X.w) X.A (execs ss X.env) (SP X pins D) X.xe s
def WG (X : Cx) (tg : Expr) : TG := fun v σ H Q => ∀ (pins : List (Addr × Obj)) (s : Shared) (u : Value), Inv X pins σ H s → RelV v u → wpAny (model X.prog X.w) X.A (assign tg X.env u) (fun _ s' => ∃ σ' H', Inv X pins σ' H' s' ∧ Q σ' H') X.xe s
def WI (X : Cx) (tg iter : Expr) : TI := fun σ H R => ∀ (pins : List (Addr × Obj)) (s : Shared), Inv X pins σ H s → wpAny (model X.prog X.w) X.A (eval iter X.env) (fun v s1 => wpAny (model X.prog X.w) X.A (pyIter v) (PIE X pins σ tg R) X.xe s1) X.xe s
def WTs (X : Cx) (ifs : List Expr) : TT := fun σ H Q => ∀ (pins : List (Addr × Obj)) (s : Shared), Inv X pins σ H s →
    wpAny (model X.prog X.w) X.A (forIn ifs true fun c r => if r = true then do let ok ← isTrue c X.env (eval c X.env); pure (ForInStep.yield ok) else pure (ForInStep.yield r)) (TP X pins σ Q) X.xe s
section
variable {X : Cx} {e : Expr} {es : List Expr} {st : Stmt} {ss : List Stmt} {tg iter : Expr} {σ : St} {H : Hp}
theorem we_pe : PE X e (WE X e) := ⟨fun pins s _ _ _ I h => h pins s I⟩
theorem wt_pt : PT X e (WT X e) := ⟨fun pins s _ _ _ I h => h pins s I⟩
theorem ww_pw : PW X e (WW X e) := ⟨fun wh pins s _ _ _ I h => h wh pins s I⟩
theorem wa_pa : PA X es (WA X es) := ⟨fun pos pins s _ _ _ I h => h pos pins s I⟩
theorem ws_ps : PS X st (WS X st) := ⟨fun pins s _ _ _ I h => h pins s I⟩
theorem wss_pss : PSs X ss (WSs X ss) := ⟨fun pins s _ _ _ I h => h pins s I⟩
theorem wg_pg : PG X tg (WG X tg) := ⟨fun pins s _ _ _ u _ I r h => h pins s u I r⟩
theorem wi_pi : PI X tg iter (WI X tg iter) := ⟨fun pins s _ _ _ I h => h pins s I⟩
theorem wts_pts : PTs X es (WTs X es) := ⟨fun pins s _ _ _ I h => h pins s I⟩
theorem we_of {t : TE} (h : PE X e t) {Q : VK} (q : t σ H Q) : WE X e σ H Q := fun pins s I => h.run pins s σ H Q I q
theorem wt_of {t : TT} (h : PT X e t) {Q : Bool → Hp → Prop} (q : t σ H Q) : WT X e σ H Q := fun pins s I => h.run pins s σ H Q I q
theorem ww_of {t : TT} (h : PW X e t) {Q : Bool → Hp → Prop} (q : t σ H Q) : WW X e σ H Q := fun wh pins s I => h.run wh pins s σ H Q I q
theorem wa_of {t : TA} (h : PA X es t) {Q : List V → Hp → Prop} (q : t σ H Q) : WA X es σ H Q := fun pos pins s I => h.run pos pins s σ H Q I q
theorem ws_of {t : TS} (h : PS X st t) {D : Ends} (q : t D σ H) : WS X st D σ H := fun pins s I => h.run pins s σ H D I q
theorem wss_of {t : TS} (h : PSs X ss t) {D : Ends} (q : t D σ H) : WSs X ss D σ H := fun pins s I => h.run pins s σ H D I q
theorem wg_of {t : TG} (h : PG X tg t) {v : V} {Q : St → Hp → Prop} (q : t v σ H Q) : WG X tg v σ H Q := fun pins s u I r => h.run pins s σ H v u Q I r q
theorem wi_of {t : TI} (h : PI X tg iter t) {R : It → Hp → Prop} (q : t σ H R) : WI X tg iter σ H R := fun pins s I => h.run pins s σ H R I q
theorem wts_of {t : TT} (h : PTs X es t) {Q : Bool → Hp → Prop} (q : t σ H Q) : WTs X es σ H Q := fun pins s I => h.run pins s σ H Q I q
theorem WE.mono {Q Q' : VK} (h : WE X e σ H Q) (k : ∀ v H', Q v H' → Q' v H') : WE X e σ H Q' := fun pins s I => thn (h pins s I) fun _ _ ⟨v, H', I', r, q⟩ => ⟨v, H', I', r, k v H' q⟩
theorem WT.mono {Q Q' : Bool → Hp → Prop} (h : WT X e σ H Q) (k : ∀ v H', Q v H' → Q' v H') : WT X e σ H Q' := fun pins s I => thn (h pins s I) fun b _ ⟨H', I', q⟩ => ⟨H', I', k b H' q⟩
theorem WW.mono {Q Q' : Bool → Hp → Prop} (h : WW X e σ H Q) (k : ∀ v H', Q v H' → Q' v H') : WW X e σ H Q' := fun wh pins s I => thn (h wh pins s I) fun b _ ⟨H', I', q⟩ => ⟨H', I', k b H' q⟩
theorem WTs.mono {Q Q' : Bool → Hp → Prop} (h : WTs X es σ H Q) (k : ∀ v H', Q v H' → Q' v H') : WTs X es σ H Q' := fun pins s I => thn (h pins s I) fun b _ ⟨H', I', q⟩ => ⟨H', I', k b H' q⟩
theorem WA.mono {Q Q' : List V → Hp → Prop} (h : WA X es σ H Q) (k : ∀ v H', Q v H' → Q' v H') : WA X es σ H Q' := fun pos pins s I => thn (h pos pins s I) fun _ _ ⟨v, H', I', r, q⟩ => ⟨v, H', I', r, k v H' q⟩
theorem WG.mono {v : V} {Q Q' : St → Hp → Prop} (h : WG X tg v σ H Q) (k : ∀ v H', Q v H' → Q' v H') : WG X tg v σ H Q' := fun pins s u I r => thn (h pins s u I r) fun _ _ ⟨σ', H', I', q⟩ => ⟨σ', H', I', k σ' H' q⟩
theorem WI.mono {R R' : It → Hp → Prop} (h : WI X tg iter σ H R) (k : ∀ J H', R J H' → R' J H') : WI X tg iter σ H R' := fun pins s I => thn (h pins s I) fun _ _ h1 => thn h1 fun _ _ ⟨it, fp, tn, J, H', a, b, c, d, e, f⟩ => ⟨it, fp, tn, J, H', a, b, c, d, e, k J H' f⟩
structure Ends.Le (D D' : Ends) : Prop where
  nx : ∀ σ H, D.nx σ H → D'.nx σ H
  rt : ∀ v H, D.rt v H → D'.rt v H
  bk : ∀ σ H, D.bk σ H → D'.bk σ H
  ct : ∀ σ H, D.ct σ H → D'.ct σ H
theorem SP.mono {pins : List (Addr × Obj)} {D D' : Ends} {f : Flow} {s' : Shared} (k : Ends.Le D D') (h : SP X pins D f s') : SP X pins D' f s' := by
  cases f with
  | next => obtain ⟨σ', H', I, q⟩ := h; exact ⟨σ', H', I, k.nx _ _ q⟩
  | brk => obtain ⟨σ', H', I, q⟩ := h; exact ⟨σ', H', I, k.bk _ _ q⟩
  | cont => obtain ⟨σ', H', I, q⟩ := h; exact ⟨σ', H', I, k.ct _ _ q⟩
  | ret u => obtain ⟨v, σ', H', I, r, q⟩ := h; exact ⟨v, σ', H', I, r, k.rt _ _ q⟩
theorem WS.mono {D D' : Ends} (h : WS X st D σ H) (k : Ends.Le D D') : WS X st D' σ H := fun pins s I => thn (h pins s I) fun _ _ q => SP.mono k q
theorem WSs.mono {D D' : Ends} (h : WSs X ss D σ H) (k : Ends.Le D D') : WSs X ss D' σ H := fun pins s I => thn (h pins s I) fun _ _ q => SP.mono k q
end

/-! ### expressions, by data -/
abbrev SRX (X : Cx) : Hp → Mp → Hp → Prop := SR X.prog X.w X.K
abbrev XtX (X : Cx) : Hp → Mp → Hp → Hp → Mp → Hp → Prop := Xt X.prog X.w X.K
def Ev (X : Cx) (e : Expr) (δ : En) (M : Mp) (d : D) (M' : Mp) : Prop := ∀ σ G H, SRX X G M H → EnvD X.K G σ δ → WE X e σ H fun v H' => ∃ G', XtX X G M H G' M' H' ∧ Dt X.K G' v d
def EvT (X : Cx) (e : Expr) (δ : En) (M : Mp) (b : Bool) (M' : Mp) : Prop := ∀ σ G H, SRX X G M H → EnvD X.K G σ δ → WT X e σ H fun k H' => k = b ∧ ∃ G', XtX X G M H G' M' H'
def EvW (X : Cx) (e : Expr) (δ : En) (M : Mp) (b : Bool) (M' : Mp) : Prop := ∀ σ G H, SRX X G M H → EnvD X.K G σ δ → WW X e σ H fun k H' => k = b ∧ ∃ G', XtX X G M H G' M' H'
def EvTs (X : Cx) (es : List Expr) (δ : En) (M : Mp) (b : Bool) (M' : Mp) : Prop := ∀ σ G H, SRX X G M H → EnvD X.K G σ δ → WTs X es σ H fun k H' => k = b ∧ ∃ G', XtX X G M H G' M' H'
def EvA (X : Cx) (es : List Expr) (δ : En) (M : Mp) (ds : List D) (M' : Mp) : Prop := ∀ σ G H, SRX X G M H → EnvD X.K G σ δ → WA X es σ H fun vs H' => ∃ G', XtX X G M H G' M' H' ∧ Dts X.K G' vs ds
/-- an operation on values, by data -/
def RD (X : Cx) (r : R2) (x y : D) (M : Mp) (z : D) : Prop := ∀ G H vx vy, SRX X G M H → Dt X.K G vx x → Dt X.K G vy y → ∀ Q : VK, (∀ v G' H', XtX X G M H G' M H' → Dt X.K G' v z → Q v H') → r vx vy H Q
def UD (X : Cx) (r : V → Hp → VK → Prop) (x : D) (M : Mp) (z : D) : Prop := ∀ G H vx, SRX X G M H → Dt X.K G vx x → ∀ Q : VK, (∀ v G' H', XtX X G M H G' M H' → Dt X.K G' v z → Q v H') → r vx H Q
def CD (X : Cx) (r : List V → Hp → VK → Prop) (ds : List D) (M : Mp) (z : D) (M' : Mp) : Prop := ∀ G H vs, SRX X G M H → Dts X.K G vs ds → ∀ Q : VK, (∀ v G' H', XtX X G M H G' M' H' → Dt X.K G' v z → Q v H') → r vs H Q
section
variable {X : Cx} {δ δ' : En} {M M1 M2 M3 : Mp} {d x y z : D} {pos : Pos} {a b c e : Expr} {es : List Expr}
theorem ev_name (i : Nat) {nm : Str} (hN : X.N[i]? = some nm) (hv : Vis X.env.scope nm) (hd : δ[i]? = some (some d)) (h1 : (nm == ("__debug__" : Str)) = false := by decide) (h2 : (nm == ("__classdict__" : Str)) = false := by decide) : Ev X (.Name nm pos) δ M d M :=
  fun σ G H s E => we_of (pe_var hN hv h1 h2) (let ⟨v, h3, h4⟩ := E.at_ i d hd; ⟨v, h3, G, Xt.refl s, h4⟩)
theorem ev_int {i : Int} {j} : Ev X (.Constant (.int i) j pos) δ M (.int i) M := fun σ G H s E => we_of pe_int ⟨G, Xt.refl s, .int i⟩
theorem ev_bl {i : Bool} {j} : Ev X (.Constant (.bool i) j pos) δ M (.bl i) M := fun σ G H s E => we_of pe_bl ⟨G, Xt.refl s, .bl i⟩
theorem ev_non {j} : Ev X (.Constant .none j pos) δ M .non M := fun σ G H s E => we_of pe_non ⟨G, Xt.refl s, .non⟩
theorem ev_str {i : Str} {j} : Ev X (.Constant (.str i) j pos) δ M (.str i) M := fun σ G H s E => we_of pe_str ⟨G, Xt.refl s, .str i⟩
theorem ev_globI {nm : Str} {i : Int} {t : Tok} (hg : Gl X nm) (hm : X.mg nm = some (.int i t)) (h1 : (nm == ("__debug__" : Str)) = false := by decide) : Ev X (.Name nm pos) δ M (.int i) M :=
  fun σ G H s E => we_of (pe_glob (v := .int i) hg hm ⟨t, rfl⟩ h1) ⟨G, Xt.refl s, .int i⟩
theorem Ev.is (h : Ev X e δ M d M1) (q : d = x) : Ev X e δ M x M1 := q ▸ h
theorem EvT.is {k k' : Bool} (h : EvT X e δ M k M1) (q : k = k') : EvT X e δ M k' M1 := q ▸ h
theorem EvW.is {k k' : Bool} (h : EvW X e δ M k M1) (q : k = k') : EvW X e δ M k' M1 := q ▸ h

theorem bin_ {r : R2} (ha : Ev X a δ M x M1) (hb : Ev X b δ M1 y M2) (hr : RD X r x y M2 z) {σ : St} {G H : Hp} (s : SRX X G M H) (E : EnvD X.K G σ δ) {Q : VK} (k : ∀ v G' H', XtX X G M H G' M2 H' → Dt X.K G' v z → Q v H') :
    tOp r (WE X a) (WE X b) σ H Q := by
  refine (ha σ G H s E).mono fun vx H1 ⟨G1, x1, d1⟩ => ?_
  refine (hb σ G1 H1 x1.s (E.mono x1.g)).mono fun vy H2 ⟨G2, x2, d2⟩ => ?_
  exact hr G2 H2 vx vy x2.s (d1.mono x2.g) d2 _ fun v G' H' x3 d3 => k v G' H' ((x1.trans x2).trans x3) d3
theorem ev_bin {op : Operator} {r : R2} (ho : OpR X (binaryOp op) r) (hr : RD X r x y M2 z) (ha : Ev X a δ M x M1) (hb : Ev X b δ M1 y M2) : Ev X (.BinOp a op b pos) δ M z M2 := fun σ G H s E =>
  we_of (pe_op ho we_pe we_pe) (bin_ ha hb hr s E fun v G' H' x3 d3 => ⟨G', x3, d3⟩)
theorem ev_cmp {op : CmpOp} {r : R2} (ho : OpR X (compareOp op) r) (hr : RD X r x y M2 z) (ha : Ev X a δ M x M1) (hb : Ev X b δ M1 y M2) (hm : behindInMarks op b = false) : Ev X (.Compare a [op] [b] pos) δ M z M2 := fun σ G H s E =>
  we_of (pe_cmpR ho we_pe we_pe hm) (bin_ ha hb hr s E fun v G' H' x3 d3 => ⟨G', x3, d3⟩)
theorem dt_bl {K : PySem.W.Frag} {G : Hp} {v : V} {k : Bool} (h : Dt K G v (.bl k)) : v = .bl k := by cases h; rfl
theorem dt_int {K : PySem.W.Frag} {G : Hp} {v : V} {k : Int} (h : Dt K G v (.int k)) : v = .int k := by cases h; rfl
theorem dt_str {K : PySem.W.Frag} {G : Hp} {v : V} {k : Str} (h : Dt K G v (.str k)) : v = .str k := by cases h; rfl
theorem dt_non {K : PySem.W.Frag} {G : Hp} {v : V} (h : Dt K G v .non) : v = .non := by cases h; rfl
theorem dt_adr {K : PySem.W.Frag} {G : Hp} {v : V} {k : Addr} (h : Dt K G v (.adr k)) : v = .ref k := by cases h; rfl
theorem et_cmp {op : CmpOp} {r : R2} {k : Bool} (ho : OpR X (compareOp op) r) (hr : RD X r x y M2 (.bl k)) (ha : Ev X a δ M x M1) (hb : Ev X b δ M1 y M2) (hm : behindInMarks op b = false) : EvT X (.Compare a [op] [b] pos) δ M k M2 := fun σ G H s E =>
  wt_of (pt_cmpR ho we_pe we_pe hm) (bin_ ha hb hr s E fun v G' H' x3 d3 => ⟨k, dt_bl d3, rfl, G', x3⟩)
theorem chain_ {r r' : R2} {k k' : Bool} (ha : Ev X a δ M x M) (hb : Ev X b δ M y M) (hc : Ev X c δ M z M) (hr : RD X r x y M (.bl k)) (hr' : k = true → RD X r' y z M (.bl k')) (hk : k = false → k' = false) {σ : St} {G H : Hp} (s : SRX X G M H) (E : EnvD X.K G σ δ) {Q : VK} (q : ∀ v G' H', XtX X G M H G' M H' → Dt X.K G' v (.bl k') → Q v H') :
    tChain r r' (WE X a) (WE X b) (WE X c) σ H Q := by
  refine (ha σ G H s E).mono fun vx H1 ⟨G1, x1, d1⟩ => ?_
  refine (hb σ G1 H1 x1.s (E.mono x1.g)).mono fun vy H2 ⟨G2, x2, d2⟩ => ?_
  refine hr G2 H2 vx vy x2.s (d1.mono x2.g) d2 _ fun v G3 H3 x3 d3 => ⟨k, dt_bl d3, ?_⟩
  cases k with
  | true =>
    rw [if_pos rfl]
    refine (hc σ G3 H3 x3.s (E.mono ((x1.g.trans x2.g).trans x3.g))).mono fun vz H4 ⟨G4, x4, d4⟩ => ?_
    exact hr' rfl G4 H4 vy vz x4.s (d2.mono (x3.g.trans x4.g)) d4 _ fun v' G5 H5 x5 d5 => q v' G5 H5 ((((x1.trans x2).trans x3).trans x4).trans x5) d5
  | false =>
    rw [if_neg Bool.false_ne_true]
    rw [hk rfl] at q
    exact q _ G3 H3 ((x1.trans x2).trans x3) (.bl false)
theorem ev_chain {op op' : CmpOp} {r r' : R2} {k k' : Bool} (ho : OpR X (compareOp op) r) (ho' : OpR X (compareOp op') r') (hr : RD X r x y M (.bl k)) (hr' : k = true → RD X r' y z M (.bl k')) (hk : k = false → k' = false)
    (ha : Ev X a δ M x M) (hb : Ev X b δ M y M) (hc : Ev X c δ M z M) (hm : lastMarks [op, op'] [b, c] = false := by with_unfolding_all rfl) : Ev X (.Compare a [op, op'] [b, c] pos) δ M (.bl k') M := fun σ G H s E =>
  we_of (pe_chain ho ho' we_pe we_pe we_pe hm) (chain_ ha hb hc hr hr' hk s E fun v G' H' x3 d3 => ⟨G', x3, d3⟩)
theorem et_chain {op op' : CmpOp} {r r' : R2} {k k' : Bool} (ho : OpR X (compareOp op) r) (ho' : OpR X (compareOp op') r') (hr : RD X r x y M (.bl k)) (hr' : k = true → RD X r' y z M (.bl k')) (hk : k = false → k' = false)
    (ha : Ev X a δ M x M) (hb : Ev X b δ M y M) (hc : Ev X c δ M z M) (hm : lastMarks [op, op'] [b, c] = false := by with_unfolding_all rfl) : EvT X (.Compare a [op, op'] [b, c] pos) δ M k' M := fun σ G H s E =>
  wt_of (pt_chain ho ho' we_pe we_pe we_pe hm) (chain_ ha hb hc hr hr' hk s E fun v G' H' x3 d3 => ⟨k', dt_bl d3, rfl, G', x3⟩)
theorem ev_un {op : UnaryOp} {r : V → Hp → VK → Prop} (ho : UnR X (unaryOp op) r) (hr : UD X r x M1 z) (ha : Ev X a δ M x M1) : Ev X (.UnaryOp op a pos) δ M z M1 := fun σ G H s E => by
  refine we_of (pe_un ho we_pe) ?_
  refine (ha σ G H s E).mono fun vx H1 ⟨G1, x1, d1⟩ => ?_
  exact hr G1 H1 vx x1.s d1 _ fun v G' H' x3 d3 => ⟨G', x1.trans x3, d3⟩
theorem ev_ix {r : R2} (ho : IxR X r) (hr : RD X r x y M2 z) (ha : Ev X a δ M x M1) (hb : Ev X b δ M1 y M2) (hs : PlainIx b) : Ev X (.Subscript a b pos) δ M z M2 := fun σ G H s E =>
  we_of (pe_ix ho we_pe we_pe hs) (bin_ ha hb hr s E fun v G' H' x3 d3 => ⟨G', x3, d3⟩)

/-! ### tests -/
theorem et_val {k : Bool} (h : Ev X e δ M (.bl k) M1) (he : ∀ whole, isTrue e X.env whole = (do let v ← whole; standAt e.pos; holding [v] (truthy v)) := by intro _; rfl) : EvT X e δ M k M1 := fun σ G H s E =>
  wt_of (pt_val we_pe he) ((h σ G H s E).mono fun v H1 ⟨G1, x1, d1⟩ => ⟨k, dt_bl d1, rfl, G1, x1⟩)
theorem et_not {k : Bool} (h : EvT X e δ M k M1) : EvT X (.UnaryOp .Not e pos) δ M (!k) M1 := fun σ G H s E =>
  wt_of (pt_not wt_pt) ((h σ G H s E).mono fun v H1 ⟨hk, G1, x1⟩ => ⟨by rw [hk], G1, x1⟩)
theorem et_w {k : Bool} (h : EvW X e δ M k M1) : EvT X e δ M k M1 := fun σ G H s E => wt_of (PW.pt ww_pw) (h σ G H s E)
theorem ew_and1 {k : Bool} (h : EvT X e δ M k M1) : EvW X (.BoolOp .And [e] pos) δ M k M1 := fun σ G H s E => ww_of (pw_and1 wt_pt) (h σ G H s E)
theorem ew_or1 {k : Bool} (h : EvT X e δ M k M1) : EvW X (.BoolOp .Or [e] pos) δ M k M1 := fun σ G H s E => ww_of (pw_or1 wt_pt) (h σ G H s E)
theorem ew_and {k k' : Bool} (h : EvT X a δ M k M1) (h1 : k = true → EvW X (.BoolOp .And (b :: es) pos) δ M1 k' M2) (h2 : k = false → M2 = M1) : EvW X (.BoolOp .And (a :: b :: es) pos) δ M (k && k') M2 := fun σ G H s E => by
  refine ww_of (pw_and wt_pt ww_pw) ((h σ G H s E).mono fun v H1 ⟨hk, G1, x1⟩ => ?_)
  subst hk
  cases v with
  | true =>
    rw [if_pos rfl]
    exact (h1 rfl σ G1 H1 x1.s (E.mono x1.g)).mono fun v2 H2 ⟨hk2, G2, x2⟩ => ⟨by rw [hk2]; rfl, G2, x1.trans x2⟩
  | false =>
    rw [if_neg Bool.false_ne_true]
    rw [h2 rfl]
    exact ⟨rfl, G1, x1⟩
theorem ew_or {k k' : Bool} (h : EvT X a δ M k M1) (h1 : k = false → EvW X (.BoolOp .Or (b :: es) pos) δ M1 k' M2) (h2 : k = true → M2 = M1) : EvW X (.BoolOp .Or (a :: b :: es) pos) δ M (k || k') M2 := fun σ G H s E => by
  refine ww_of (pw_or wt_pt ww_pw) ((h σ G H s E).mono fun v H1 ⟨hk, G1, x1⟩ => ?_)
  subst hk
  cases v with
  | false =>
    rw [if_neg Bool.false_ne_true]
    exact (h1 rfl σ G1 H1 x1.s (E.mono x1.g)).mono fun v2 H2 ⟨hk2, G2, x2⟩ => ⟨by rw [hk2]; rfl, G2, x1.trans x2⟩
  | true =>
    rw [if_pos rfl]
    rw [h2 rfl]
    exact ⟨rfl, G1, x1⟩
/-! ### and, or, not as values; a if t else b -/
theorem ev_one {op : BoolOp} (h : Ev X e δ M d M1) : Ev X (.BoolOp op [e] pos) δ M d M1 := fun σ G H s E => we_of (pe_one we_pe) (h σ G H s E)
theorem ev_and {k k' : Bool} (h : Ev X a δ M (.bl k) M) (h1 : k = true → Ev X (.BoolOp .And (b :: es) pos) δ M (.bl k') M) : Ev X (.BoolOp .And (a :: b :: es) pos) δ M (.bl (k && k')) M := fun σ G H s E => by
  refine we_of (pe_and we_pe we_pe) ((h σ G H s E).mono fun v H1 ⟨G1, x1, d1⟩ => ⟨k, dt_bl d1, ?_⟩)
  cases k with
  | true =>
    rw [if_pos rfl]
    exact (h1 rfl σ G1 H1 x1.s (E.mono x1.g)).mono fun v2 H2 ⟨G2, x2, d2⟩ => ⟨G2, x1.trans x2, d2⟩
  | false =>
    rw [if_neg Bool.false_ne_true]
    exact ⟨G1, x1, .bl false⟩
theorem ev_or {k k' : Bool} (h : Ev X a δ M (.bl k) M) (h1 : k = false → Ev X (.BoolOp .Or (b :: es) pos) δ M (.bl k') M) : Ev X (.BoolOp .Or (a :: b :: es) pos) δ M (.bl (k || k')) M := fun σ G H s E => by
  refine we_of (pe_or we_pe we_pe) ((h σ G H s E).mono fun v H1 ⟨G1, x1, d1⟩ => ⟨k, dt_bl d1, ?_⟩)
  cases k with
  | false =>
    rw [if_neg Bool.false_ne_true]
    exact (h1 rfl σ G1 H1 x1.s (E.mono x1.g)).mono fun v2 H2 ⟨G2, x2, d2⟩ => ⟨G2, x1.trans x2, d2⟩
  | true =>
    rw [if_pos rfl]
    exact ⟨G1, x1, .bl true⟩
theorem ev_not {k : Bool} (h : Ev X e δ M (.bl k) M1) : Ev X (.UnaryOp .Not e pos) δ M (.bl (!k)) M1 := fun σ G H s E =>
  we_of (pe_not we_pe) ((h σ G H s E).mono fun v H1 ⟨G1, x1, d1⟩ => ⟨k, dt_bl d1, G1, x1, .bl _⟩)
theorem ev_if {k : Bool} (h : EvT X c δ M k M1) (h1 : k = true → Ev X a δ M1 d M2) (h2 : k = false → Ev X b δ M1 d M2) : Ev X (.IfExp c a b pos) δ M d M2 := fun σ G H s E => by
  refine we_of (pe_ifExp wt_pt we_pe we_pe) ((h σ G H s E).mono fun v H1 ⟨hk, G1, x1⟩ => ?_)
  subst hk
  cases v with
  | true =>
    rw [if_pos rfl]
    exact (h1 rfl σ G1 H1 x1.s (E.mono x1.g)).mono fun v2 H2 ⟨G2, x2, d2⟩ => ⟨G2, x1.trans x2, d2⟩
  | false =>
    rw [if_neg Bool.false_ne_true]
    exact (h2 rfl σ G1 H1 x1.s (E.mono x1.g)).mono fun v2 H2 ⟨G2, x2, d2⟩ => ⟨G2, x1.trans x2, d2⟩
/-! ### arguments, displays, calls of builtins -/
theorem ea_nil : EvA X [] δ M [] M := fun σ G H s E => wa_of pa_nil ⟨G, Xt.refl s, .nil⟩
theorem ea_cons {ds : List D} (h : Ev X e δ M d M1) (hr : EvA X es δ M1 ds M2) (hs : starEach (e :: es) X.env = (false, eval e X.env) :: starEach es X.env := by rfl) : EvA X (e :: es) δ M (d :: ds) M2 := fun σ G H s E => by
  refine wa_of (pa_cons we_pe wa_pa hs) ?_
  refine (h σ G H s E).mono fun v H1 ⟨G1, x1, d1⟩ => ?_
  exact (hr σ G1 H1 x1.s (E.mono x1.g)).mono fun vs H2 ⟨G2, x2, d2⟩ => ⟨G2, x1.trans x2, .cons (d1.mono x2.g) d2⟩
def tTupZ (t : TA) : TE := fun σ H Q => t σ H fun xs H1 => xs.length ≤ sizeLine ∧ ∀ p (o : Obj), H1 p = none → o.dict = none → Q (.ref p) (upd H1 p (.frz o (.tup xs)))
theorem pe_tupZ {t : TA} {x1} (h : PA X es t) : PE X (.Tuple es x1 pos) (tTupZ t) := by
  refine ⟨fun pins s σ H Q I hq => ?_⟩
  refine wpAny_Tuple_spliced (thn (h.run pos pins s σ H _ I hq) fun us s1 ⟨xs, H1, I1, r, z, q⟩ => ⟨by rw [← r.length]; exact z, ?_⟩)
  have hf : H1 s1.heap.objs.size = none := I1.hok.fresh (Nat.le_refl _)
  refine ⟨.ref s1.heap.objs.size, upd H1 s1.heap.objs.size (.frz { cls := .type "tuple", data := .seq us.toArray } (.tup xs)), I1.laid (t' := s1.toks) (fun b u e => Heap.get?_push_of_some _ e) (Nat.le_refl _) ?_, rfl, q _ _ hf rfl⟩
  exact ⟨Heap.get?_push_size _ rfl, z, us, r, ⟨_, Heap.get?_push_size _ rfl, rfl, _, rfl⟩⟩
theorem ev_tup {ds : List D} {x1} (h : EvA X es δ M ds M1) (hl : ds.length ≤ 1000) : Ev X (.Tuple es x1 pos) δ M (.tup ds) M1 := fun σ G H s E => by
  refine we_of (pe_tupZ wa_pa) ((h σ G H s E).mono fun vs H1 ⟨G1, x1, d1⟩ => ⟨?_, fun p o hp ho => ?_⟩)
  · rw [d1.length]; exact Nat.le_trans hl (by decide)
  · have y := Xt.alloc (o := .frz o (.tup vs)) x1.s hp
    exact ⟨_, x1.trans y, .tup ⟨o, upd_same, ho⟩ (d1.mono y.g)⟩
theorem ev_lst {ds : List D} (h : EvA X es δ M ds M1) (hl : ds.length ≤ 1000) : Ev X (.List es pos) δ M (.lst ds) M1 := fun σ G H s E => by
  refine we_of (pe_lst wa_pa) ((h σ G H s E).mono fun vs H1 ⟨G1, x1, d1⟩ => ⟨?_, fun p hp => ?_⟩)
  · rw [d1.length]; exact Nat.le_trans hl (by decide)
  · have y := Xt.alloc (o := .lst vs) x1.s hp
    exact ⟨_, x1.trans y, .lst upd_same (d1.mono y.g)⟩
theorem ev_callB {r : List V → Hp → VK → Prop} {ds : List D} {id : String} {nm : Str} {p : Pos} (hc : CallR X (.builtin id) r) (hv : bootBuiltins nm = some (.builtin id)) (hr : CD X r ds M1 z M2) (hg : Gl X nm) (hm : X.mg nm = none) (ha : EvA X (e :: es) δ M ds M1) (hn : nm ≠ "__name__" := by decide) (hdb : (nm == ("__debug__" : Str)) = false := by decide)
    (he : starEach (e :: es) X.env = (false, eval e X.env) :: starEach es X.env := by rfl) (hpl : (backTo pos (starEach es X.env)).any (·.1) = false := by rfl) : Ev X (.Call (.Name nm p) (e :: es) [] pos) δ M z M2 := fun σ G H s E => by
  refine we_of (pe_callB hc hg hm hv wa_pa hn hdb he hpl) ((ha σ G H s E).mono fun vs H1 ⟨G1, x1, d1⟩ => ?_)
  exact hr G1 H1 vs x1.s d1 _ fun v G' H' x3 d3 => ⟨G', x1.trans x3, d3⟩
theorem ev_callTy {r : List V → Hp → VK → Prop} {ds : List D} {T : String} {nm : Str} {p : Pos} (hc : CallR X (.type T) r) (hv : bootBuiltins nm = some (.type T)) (hr : CD X r ds M1 z M2) (hg : Gl X nm) (hm : X.mg nm = none) (ha : EvA X (e :: es) δ M ds M1) (hn : nm ≠ "__name__" := by decide) (hdb : (nm == ("__debug__" : Str)) = false := by decide)
    (he : starEach (e :: es) X.env = (false, eval e X.env) :: starEach es X.env := by rfl) (hpl : (backTo pos (starEach es X.env)).any (·.1) = false := by rfl) : Ev X (.Call (.Name nm p) (e :: es) [] pos) δ M z M2 := fun σ G H s E => by
  refine we_of (pe_callTy hc hg hm hv wa_pa hn hdb he hpl) ((ha σ G H s E).mono fun vs H1 ⟨G1, x1, d1⟩ => ?_)
  exact hr G1 H1 vs x1.s d1 _ fun v G' H' x3 d3 => ⟨G', x1.trans x3, d3⟩
end

/-! ### defs -/
abbrev FS := List D → Mp → D → Mp → Prop
def spF (P : Program) (w : World) (K : PySem.W.Frag) (F : FS) : Sp := fun vs H Q _ => ∃ G M ds d M', F ds M d M' ∧ SR P w K G M H ∧ Dts K G vs ds ∧ ∀ v G' H', Xt P w K G M H G' M' H' → Dt K G' v d → Q v H'
/-- a def that may be called by its name -/
structure Callee (P : Program) (w : World) (K : PySem.W.Frag) (mg : Str → Option Value) (base : Heap) (k : Nat) (nm : Str) (ps : List Str) (F : FS) (f : Addr) (fd : FuncData) : Prop where
  ok : FnOk P w K mg base CX0 k f fd ps (spF P w K F)
  bi : Binds K fd ps []
  kp : PySem.W.keepIn K (.ref f) = true
  gl : mg nm = some (.ref f)
abbrev Can (P : Program) (w : World) (K : PySem.W.Frag) (mg : Str → Option Value) (base : Heap) (k : Nat) (nm : Str) (ps : List Str) (F : FS) : Prop := ∃ f fd, Callee P w K mg base k nm ps F f fd
section
variable {X : Cx} {δ δ' : En} {M M1 M2 M3 : Mp} {d x y z : D} {pos : Pos} {a b c e : Expr} {es : List Expr}
theorem ev_call {F : FS} {k : Nat} {nm : Str} {ps : List Str} {p : Pos} {ds : List D} (C : Can X.prog X.w X.K X.mg X.base k nm ps F) (hr : Room k X.A) (hg : Gl X nm) (ha : EvA X (e :: es) δ M ds M1) (hF : F ds M1 d M2)
    (hdb : (nm == ("__debug__" : Str)) = false := by decide) (he : starEach (e :: es) X.env = (false, eval e X.env) :: starEach es X.env := by rfl) (hpl : (backTo pos (starEach es X.env)).any (·.1) = false := by rfl) :
    Ev X (.Call (.Name nm p) (e :: es) [] pos) δ M d M2 := fun σ G H s E => by
  obtain ⟨f, fd, C⟩ := C
  refine we_of (pe_call C.ok hr hg C.gl C.kp C.bi .nil pass0 wa_pa hdb he hpl) ((ha σ G H s E).mono fun vs H1 ⟨G1, x1, d1⟩ => ?_)
  rw [List.append_nil]
  exact ⟨G1, M1, ds, d, M2, hF, x1.s, d1, fun v G' H' x3 d3 => ⟨G', x1.trans x3, d3⟩⟩
end
end Dr
set_option Elab.async false
set_option linter.all false
set_option maxRecDepth 100000
set_option maxHeartbeats 2000000
namespace Dr
open PySem L2

abbrev D.ti (ns : List Int) : D := .tup (ns.map D.int)
abbrev D.li (ns : List Int) : D := .lst (ns.map D.int)
section
variable {X : Cx} {M : Mp}
/-! ### ints -/
theorem rd_I0 {g : Int → Int → Int} {i j : Int} : RD X (rI0 fun i j => .int (g i j)) (.int i) (.int j) M (.int (g i j)) := fun G H vx vy s h1 h2 Q k => by
  rw [dt_int h1, dt_int h2]
  exact ⟨i, j, rfl, rfl, k _ G H (Xt.refl s) (.int _)⟩
theorem rd_I {C : Int → Int → Prop} {g : Int → Int → Int} {i j : Int} (hc : C i j) : RD X (rI C fun i j => .int (g i j)) (.int i) (.int j) M (.int (g i j)) := fun G H vx vy s h1 h2 Q k => by
  rw [dt_int h1, dt_int h2]
  exact ⟨i, j, rfl, rfl, hc, k _ G H (Xt.refl s) (.int _)⟩
theorem rd_B0 {g : Int → Int → Bool} {i j : Int} : RD X (rI0 fun i j => .bl (g i j)) (.int i) (.int j) M (.bl (g i j)) := fun G H vx vy s h1 h2 Q k => by
  rw [dt_int h1, dt_int h2]
  exact ⟨i, j, rfl, rfl, k _ G H (Xt.refl s) (.bl _)⟩
theorem rd_eqI {i j : Int} : RD X rEq (.int i) (.int j) M (.bl (decide (i = j))) := fun G H vx vy s h1 h2 Q k => by
  rw [dt_int h1, dt_int h2]
  refine ⟨rfl, ?_⟩
  rw [dec_int, Bool.beq_eq_decide_eq]
  exact k _ G H (Xt.refl s) (.bl _)
theorem rd_neI {i j : Int} : RD X rNe (.int i) (.int j) M (.bl (!decide (i = j))) := fun G H vx vy s h1 h2 Q k => by
  rw [dt_int h1, dt_int h2]
  refine ⟨rfl, ?_⟩
  rw [dec_int, Bool.beq_eq_decide_eq]
  exact k _ G H (Xt.refl s) (.bl _)
theorem rd_eqS {i j : Str} : RD X rEq (.str i) (.str j) M (.bl (i == j)) := fun G H vx vy s h1 h2 Q k => by
  rw [dt_str h1, dt_str h2]
  refine ⟨rfl, ?_⟩
  rw [dec_str]
  exact k _ G H (Xt.refl s) (.bl _)
theorem rd_neB {i j : Bool} : RD X rNe (.bl i) (.bl j) M (.bl (!(i == j))) := fun G H vx vy s h1 h2 Q k => by
  rw [dt_bl h1, dt_bl h2]
  refine ⟨rfl, ?_⟩
  rw [dec_bl]
  exact k _ G H (Xt.refl s) (.bl _)
def D.isN : D → Bool
  | .non => true
  | _ => false
theorem Dt.isN {K : PySem.W.Frag} {G : Hp} {v : V} {d : D} (h : Dt K G v d) : decide (v = .non) = d.isN := by
  cases h <;> first | rfl | simp [D.isN]
theorem rd_isN {d : D} : RD X (fun x y H Q => y = .non ∧ Q (.bl (decide (x = .non))) H) d .non M (.bl d.isN) := fun G H vx vy s h1 h2 Q k => by
  refine ⟨dt_non h2, ?_⟩
  rw [h1.isN]
  exact k _ G H (Xt.refl s) (.bl _)
theorem rd_notN {d : D} : RD X (fun x y H Q => y = .non ∧ Q (.bl (!decide (x = .non))) H) d .non M (.bl (!d.isN)) := fun G H vx vy s h1 h2 Q k => by
  refine ⟨dt_non h2, ?_⟩
  rw [h1.isN]
  exact k _ G H (Xt.refl s) (.bl _)
theorem rd_isnotB {i j : Bool} : RD X (fun x y H Q => ∃ a b, x = .bl a ∧ y = .bl b ∧ Q (.bl (!decide (a = b))) H) (.bl i) (.bl j) M (.bl (!decide (i = j))) := fun G H vx vy s h1 h2 Q k => by
  rw [dt_bl h1, dt_bl h2]
  exact ⟨i, j, rfl, rfl, k _ G H (Xt.refl s) (.bl _)⟩
/-! ### in -/
theorem flat_ints (ns : List Int) : (ns.map V.int).all flatV = true := by
  rw [List.all_map]
  exact List.all_eq_true.mpr fun _ _ => rfl
theorem inV_ints (i : Int) (ns : List Int) : inV (.int i) (ns.map V.int) = decide (i ∈ ns) := by
  unfold inV
  rw [List.any_map, Bool.eq_iff_iff, List.any_eq_true, decide_eq_true_eq]
  constructor
  · rintro ⟨x, hx, h⟩
    have h2 : (x == i) = true := h
    rw [← eq_of_beq h2]
    exact hx
  · intro h
    exact ⟨i, h, (show (i == i) = true from beq_self_eq_true i)⟩
theorem rd_in {neg : Bool} {i : Int} {ns : List Int} : RD X (rIn X.K neg) (.int i) (D.ti ns) M (.bl (if neg then !decide (i ∈ ns) else decide (i ∈ ns))) := fun G H vx vy s h1 h2 Q k => by
  rw [dt_int h1]
  cases h2 with
  | @tup a vs _ h3 h4 =>
    have e := Dts.to_ints h4
    subst e
    refine ⟨a, ns.map V.int, rfl, .inr (ex_t s.ex h3.sq), rfl, flat_ints ns, ?_⟩
    rw [inV_ints]
    exact k _ G H (Xt.refl s) (.bl _)
theorem rd_inT {i : Int} {ns : List Int} : RD X (rIn X.K false) (.int i) (D.ti ns) M (.bl (decide (i ∈ ns))) := rd_in (neg := false)
theorem rd_niT {i : Int} {ns : List Int} : RD X (rIn X.K true) (.int i) (D.ti ns) M (.bl (!decide (i ∈ ns))) := rd_in (neg := true)
/-! ### == of data -/
theorem rd_eqD {x y : D} (h1 : x.ok = true) (h2 : y.ok = true) (s1 : SeqAt.shaped x.py = true) (s2 : SeqAt.shaped y.py = true) : RD X (rEqD X.K) x y M (.bl (PyData.eqv x.py y.py)) := fun G H vx vy s d1 d2 Q k =>
  ⟨x.py, y.py, (d1.mono s.ex).dp h1, (d2.mono s.ex).dp h2, s1, s2, k _ G H (Xt.refl s) (.bl _)⟩
theorem rd_neD {x y : D} (h1 : x.ok = true) (h2 : y.ok = true) (s1 : SeqAt.shaped x.py = true) (s2 : SeqAt.shaped y.py = true) : RD X (rNeD X.K) x y M (.bl (!PyData.eqv x.py y.py)) := fun G H vx vy s d1 d2 Q k =>
  ⟨x.py, y.py, (d1.mono s.ex).dp h1, (d2.mono s.ex).dp h2, s1, s2, k _ G H (Xt.refl s) (.bl _)⟩
/-! ### subscripts -/
theorem atI_len {α β : Type} {xs : List α} {ys : List β} {i : Int} {d : β} (hl : xs.length = ys.length) (h : atI ys i = some d) : ∃ (j : Nat) (x : α), ys[j]? = some d ∧ xs[j]? = some x ∧ atI xs i = some x := by
  unfold atI at h ⊢
  rw [hl]
  cases e : ixN ys.length i with
  | none => rw [e] at h; cases h
  | some j =>
    rw [e] at h
    have h2 : ys[j]? = some d := h
    have hj := (List.getElem?_eq_some_iff.mp h2).1
    exact ⟨j, xs[j], h2, by simp, by show xs[j]? = _; simp⟩
theorem rd_ixT {ds : List D} {i : Int} {d : D} (h : atI ds i = some d) : RD X (rIxT X.K) (.tup ds) (.int i) M d := fun G H vx vy s h1 h2 Q k => by
  rw [dt_int h2]
  cases h1 with
  | @tup a vs _ h3 h4 =>
    obtain ⟨j, v, e1, e2, e3⟩ := atI_len (xs := vs) h4.length h
    obtain ⟨v', e4, hd⟩ := h4.get e1
    rw [e2] at e4
    cases e4
    exact ⟨a, vs, i, v, rfl, rfl, ex_t s.ex h3.sq, e3, k _ G H (Xt.refl s) hd⟩
theorem rd_ixL {ds : List D} {i : Int} {d : D} (h : atI ds i = some d) : RD X (rIxL X.K) (.lst ds) (.int i) M d := fun G H vx vy s h1 h2 Q k => by
  rw [dt_int h2]
  cases h1 with
  | @lst a vs _ h3 h4 =>
    obtain ⟨j, v, e1, e2, e3⟩ := atI_len (xs := vs) h4.length h
    obtain ⟨v', e4, hd⟩ := h4.get e1
    rw [e2] at e4
    cases e4
    exact ⟨a, vs, i, v, rfl, rfl, (.of (s.ex _ _ h3)), e3, k _ G H (Xt.refl s) hd⟩
/-- an item of a list that may change -/
theorem rd_ixM {a : Addr} {ds : List D} {i : Int} {d : D} (hM : M a = some (.ml ds)) (h : atI ds i = some d) : RD X (rIxL X.K) (.adr a) (.int i) M d := fun G H vx vy s h1 h2 Q k => by
  rw [dt_int h2, dt_adr h1]
  obtain ⟨_, o, h3, h4⟩ := s.mu a _ hM
  cases h4 with
  | @ml vs _ h4 =>
    obtain ⟨j, v, e1, e2, e3⟩ := atI_len (xs := vs) h4.length h
    obtain ⟨v', e4, hd⟩ := h4.get e1
    rw [e2] at e4
    cases e4
    exact ⟨a, vs, i, v, rfl, rfl, .of h3, e3, k _ G H (Xt.refl s) hd⟩
theorem atI_pos {α : Type} {xs : List α} {i : Int} (h : 0 ≤ i) : atI xs i = xs[i.toNat]? := by
  unfold atI ixN
  rw [if_pos h]
  by_cases h2 : i < xs.length
  · rw [if_pos h2]; rfl
  · rw [if_neg h2]
    have h3 : xs.length ≤ i.toNat := by omega
    rw [List.getElem?_eq_none h3]
    rfl
theorem atI_last {α : Type} {xs : List α} : atI xs (-1) = xs.getLast? := by
  unfold atI ixN
  rw [if_neg (by decide)]
  cases xs with
  | nil => rfl
  | cons x r =>
    rw [if_pos (by simp only [List.length_cons]; omega), List.getLast?_eq_getElem?]
    show (x :: r)[(-1 + ((x :: r).length : Int)).toNat]? = _
    congr 1
    simp only [List.length_cons]
    omega
/-! ### built-in functions -/
theorem dts1 {K : PySem.W.Frag} {G : Hp} {vs : List V} {d : D} (h : Dts K G vs [d]) : ∃ v, vs = [v] ∧ Dt K G v d := by
  cases h with
  | cons h t => cases t; exact ⟨_, rfl, h⟩
theorem dts2 {K : PySem.W.Frag} {G : Hp} {vs : List V} {d e : D} (h : Dts K G vs [d, e]) : ∃ v w, vs = [v, w] ∧ Dt K G v d ∧ Dt K G w e := by
  cases h with
  | cons h t => obtain ⟨w, rfl, h2⟩ := dts1 t; exact ⟨_, w, rfl, h, h2⟩
abbrev rLenQ (K : PySem.W.Frag) : List V → Hp → VK → Prop := fun xs H Q => ∃ p ys, xs = [.ref p] ∧ (SqL K H p ys ∨ SqT K H p ys) ∧ Q (.int ys.length) H
theorem cd_lenT {ds : List D} : CD X (rLenQ X.K) [.tup ds] M (.int ds.length) M := fun G H vs s h Q k => by
  obtain ⟨v, rfl, h1⟩ := dts1 h
  cases h1 with
  | @tup a vs _ h3 h4 => exact ⟨a, vs, rfl, .inr (ex_t s.ex h3.sq), by rw [h4.length]; exact k _ G H (Xt.refl s) (.int _)⟩
theorem cd_lenL {ds : List D} : CD X (rLenQ X.K) [.lst ds] M (.int ds.length) M := fun G H vs s h Q k => by
  obtain ⟨v, rfl, h1⟩ := dts1 h
  cases h1 with
  | @lst a vs _ h3 h4 => exact ⟨a, vs, rfl, .inl (.of (s.ex _ _ h3)), by rw [h4.length]; exact k _ G H (Xt.refl s) (.int _)⟩
theorem cd_lenM {a : Addr} {ds : List D} (hM : M a = some (.ml ds)) : CD X (rLenQ X.K) [.adr a] M (.int ds.length) M := fun G H vs s h Q k => by
  obtain ⟨v, rfl, h1⟩ := dts1 h
  rw [dt_adr h1]
  obtain ⟨_, o, h3, h4⟩ := s.mu a _ hM
  cases h4 with
  | @ml vs _ h4 => exact ⟨a, vs, rfl, .inl (.of h3), by rw [h4.length]; exact k _ G H (Xt.refl s) (.int _)⟩
theorem cd_all {bs : List Bool} : CD X (rAll X.K) [.lst (bs.map D.bl)] M (.bl (bs.all id)) M := fun G H vs s h Q k => by
  obtain ⟨v, rfl, h1⟩ := dts1 h
  cases h1 with
  | @lst a vs _ h3 h4 =>
    have e := Dts.to_bls h4
    subst e
    exact ⟨a, bs, rfl, (.of (s.ex _ _ h3)), k _ G H (Xt.refl s) (.bl _)⟩
theorem cd_any {bs : List Bool} : CD X (rAny X.K) [.lst (bs.map D.bl)] M (.bl (bs.any id)) M := fun G H vs s h Q k => by
  obtain ⟨v, rfl, h1⟩ := dts1 h
  cases h1 with
  | @lst a vs _ h3 h4 =>
    have e := Dts.to_bls h4
    subst e
    exact ⟨a, bs, rfl, (.of (s.ex _ _ h3)), k _ G H (Xt.refl s) (.bl _)⟩
theorem cd_max2 {i j : Int} : CD X (fun xs H Q => ∃ i j, xs = [.int i, .int j] ∧ Q (.int (if j > i then j else i)) H) [.int i, .int j] M (.int (max i j)) M := fun G H vs s h Q k => by
  obtain ⟨v, w, rfl, h1, h2⟩ := dts2 h
  rw [dt_int h1, dt_int h2]
  refine ⟨i, j, rfl, ?_⟩
  have e : (if j > i then j else i) = max i j := by
    rw [Int.max_def]
    by_cases h : i ≤ j
    · rw [if_pos h]
      by_cases h2 : j > i
      · rw [if_pos h2]
      · rw [if_neg h2]; omega
    · rw [if_neg h, if_neg (by omega)]
  rw [e]
  exact k _ G H (Xt.refl s) (.int _)
theorem cd_min2 {i j : Int} : CD X (fun xs H Q => ∃ i j, xs = [.int i, .int j] ∧ Q (.int (if j < i then j else i)) H) [.int i, .int j] M (.int (min i j)) M := fun G H vs s h Q k => by
  obtain ⟨v, w, rfl, h1, h2⟩ := dts2 h
  rw [dt_int h1, dt_int h2]
  refine ⟨i, j, rfl, ?_⟩
  have e : (if j < i then j else i) = min i j := by
    rw [Int.min_def]
    by_cases h : i ≤ j
    · rw [if_pos h, if_neg (by omega)]
    · rw [if_neg h, if_pos (by omega)]
  rw [e]
  exact k _ G H (Xt.refl s) (.int _)
theorem cd_intB {b : Bool} : CD X (fun xs H Q => (∃ i, xs = [.int i] ∧ Q (.int i) H) ∨ ∃ k, xs = [.bl k] ∧ Q (.int (if k then 1 else 0)) H) [.bl b] M (.int (if b then 1 else 0)) M := fun G H vs s h Q k => by
  obtain ⟨v, rfl, h1⟩ := dts1 h
  rw [dt_bl h1]
  exact .inr ⟨b, rfl, k _ G H (Xt.refl s) (.int _)⟩
/-! ### isinstance -/
def D.ty : D → String
  | .non => "NoneType"
  | .bl _ => "bool"
  | .int _ => "int"
  | .str _ => "str"
  | .tup _ => "tuple"
  | .lst _ => "list"
  | .adr _ => "list"
def D.isi : D → Bool
  | .adr _ => false
  | .lst _ => false
  | _ => true
theorem Dt.tyx {K : PySem.W.Frag} {G : Hp} {v : V} {d : D} (h : Dt K G v d) (hd : d.isi = true) : TyX K G v (.type d.ty) := by
  cases h with
  | non => exact .base .non
  | bl b => exact .base (.bl b)
  | int b => exact .base (.int b)
  | str b => exact .base (.str b)
  | tup h1 h2 => obtain ⟨o, h3, _⟩ := h1; exact .fTuple h3
  | lst h1 h2 => cases hd
  | adr a => cases hd
theorem TyX.up {K : PySem.W.Frag} {G H : Hp} {v : V} {d : D} (h : Dt K G v d) (e : Ex G H) (hd : d.isi = true) : TyX K H v (.type d.ty) := (h.mono e).tyx hd
/-- a class name as a value -/
theorem ev_isi {δ : En} {M M1 : Mp} {d : D} {T : String} {b : Bool} {tn : Str} {p p2 pos : Pos} {e : Expr} (ha : Ev X e δ M d M1) (hd : d.isi = true) (hk : PySem.W.kitOne X.K (.type d.ty) (.type T) = some b) (hg : Gl X "isinstance") (hm : X.mg "isinstance" = none)
    (hg2 : Gl X tn) (hm2 : X.mg tn = none) (hv2 : bootBuiltins tn = some (.type T)) (hv : bootBuiltins "isinstance" = some (.builtin "isinstance") := by decide +kernel) (hn : tn ≠ "__name__" := by decide) (hdb : (tn == ("__debug__" : Str)) = false := by decide)
    (he : starEach (e :: [.Name tn p2]) X.env = (false, eval e X.env) :: starEach [.Name tn p2] X.env := by rfl) (he2 : starEach [.Name tn p2] X.env = (false, eval (.Name tn p2) X.env) :: starEach [] X.env := by rfl) (hpl : (backTo pos (starEach [.Name tn p2] X.env)).any (·.1) = false := by rfl) :
    Ev X (.Call (.Name "isinstance" p) (e :: [.Name tn p2]) [] pos) δ M (.bl b) M1 := fun σ G H s E => by
  refine we_of (pe_callB call_isi hg hm hv (pa_cons we_pe (pa_cons (pe_bltn (v := .ty T) hg2 hm2 hv2 rfl hn hdb) pa_nil he2) he) (by decide) (by decide) he hpl) ((ha σ G H s E).mono fun v H1 ⟨G1, x1, d1⟩ => ?_)
  exact ⟨v, .ty T, _, _, b, rfl, .ty T, TyX.up d1 x1.s.ex hd, hk, G1, x1, .bl b⟩
/-! ### list(..), tuple(..) -/
theorem call_tupZ : CallR X (.type "tuple") (fun xs H Q => ∃ p ys, xs = [.ref p] ∧ ((SqL X.K H p ys ∧ ∀ l (o : Obj), H l = none → o.dict = none → Q (.ref l) (upd H l (.frz o (.tup ys)))) ∨ (SqT X.K H p ys ∧ Q (.ref p) H))) := by
  intro pins s σ H xs us Q I r h
  obtain ⟨p, ys, rfl, h⟩ := h
  obtain ⟨u, rfl, rx⟩ := vals1 r
  cases rx
  rcases h with ⟨hq, q⟩ | ⟨hq, q⟩
  · obtain ⟨its, r', pl, hz⟩ := I.list hq
    have hlen := r'.length
    refine call_tuple_list pl.isList (fun h' kp => ?_) (by simp only [List.size_toArray] <;> omega)
    have I1 : Inv X pins σ H { s with heap := h' } := I.kept (t' := s.toks) kp
    have I2 : Inv X pins σ (upd H h'.objs.size (.frz { cls := .type "tuple", data := .seq its.toArray } (.tup ys))) { s with heap := h'.push { cls := .type "tuple", data := .seq its.toArray } } :=
      I1.laid (t' := s.toks) (fun b o e => Heap.get?_push_of_some _ e) (Nat.le_refl _) (show ObjOk X.prog X.w _ _ _ (.frz _ (.tup ys)) from ⟨Heap.get?_push_size _ rfl, hz, its, r', PyProof.Rows.IsTup.new _ _⟩)
    exact ⟨.ref h'.objs.size, _, I2, rfl, q _ _ (I1.hok.fresh (Nat.le_refl _)) rfl⟩
  · obtain ⟨its, r', pl, hz⟩ := I.tuple hq
    exact call_tuple_same pl ⟨.ref p, H, I, rfl, q⟩
abbrev rTupZ (K : PySem.W.Frag) : List V → Hp → VK → Prop := fun xs H Q => ∃ p ys, xs = [.ref p] ∧ ((SqL K H p ys ∧ ∀ l (o : Obj), H l = none → o.dict = none → Q (.ref l) (upd H l (.frz o (.tup ys)))) ∨ (SqT K H p ys ∧ Q (.ref p) H))
theorem cd_tupL {ds : List D} : CD X (rTupZ X.K) [.lst ds] M (.tup ds) M := fun G H vs s h Q k => by
  obtain ⟨v, rfl, h1⟩ := dts1 h
  cases h1 with
  | @lst a vs _ h3 h4 =>
    refine ⟨a, vs, rfl, .inl ⟨(.of (s.ex _ _ h3)), fun l o hl ho => ?_⟩⟩
    have y := Xt.alloc (o := .frz o (.tup vs)) s hl
    exact k _ _ _ y (.tup ⟨o, upd_same, ho⟩ (h4.mono y.g))
theorem cd_tupM {a : Addr} {ds : List D} (hM : M a = some (.ml ds)) : CD X (rTupZ X.K) [.adr a] M (.tup ds) M := fun G H vs s h Q k => by
  obtain ⟨v, rfl, h1⟩ := dts1 h
  rw [dt_adr h1]
  obtain ⟨_, o, h3, h4⟩ := s.mu a _ hM
  cases h4 with
  | @ml vs _ h4 =>
    refine ⟨a, vs, rfl, .inl ⟨.of h3, fun l o hl ho => ?_⟩⟩
    have y := Xt.alloc (o := .frz o (.tup vs)) s hl
    exact k _ _ _ y (.tup ⟨o, upd_same, ho⟩ (h4.mono y.g))
abbrev rListQ (K : PySem.W.Frag) : List V → Hp → VK → Prop := fun xs H Q => ∃ p ys, xs = [.ref p] ∧ (SqL K H p ys ∨ SqT K H p ys) ∧ ∀ l, H l = none → Q (.ref l) (upd H l (.lst ys))
theorem cd_listT {ds : List D} : CD X (rListQ X.K) [.tup ds] M (.lst ds) M := fun G H vs s h Q k => by
  obtain ⟨v, rfl, h1⟩ := dts1 h
  cases h1 with
  | @tup a vs _ h3 h4 =>
    refine ⟨a, vs, rfl, .inr (ex_t s.ex h3.sq), fun l hl => ?_⟩
    have y := Xt.alloc (o := .lst vs) s hl
    exact k _ _ _ y (.lst upd_same (h4.mono y.g))
/-! ### + of tuples, of lists -/
def rCatZ (K : PySem.W.Frag) : R2 := fun x y H Q => ∃ a b xs ys, x = .ref a ∧ y = .ref b ∧ SqT K H a xs ∧ SqT K H b ys ∧ xs.length + ys.length ≤ sizeLine ∧
  (xs = [] → Q (.ref b) H) ∧ (xs ≠ [] → ys = [] → Q (.ref a) H) ∧ (xs ≠ [] → ys ≠ [] → ∀ p (o : Obj), H p = none → o.dict = none → Q (.ref p) (upd H p (.frz o (.tup (xs ++ ys)))))
theorem op_catZ : OpR X (binaryOp .Add) (rCatZ X.K) := by
  intro pins s σ H x y v u Q I rx ry h
  obtain ⟨a, b, xs, ys, rfl, rfl, ha, hb, hz, q0, q1, q2⟩ := h
  cases rx
  cases ry
  obtain ⟨its, r1, p1, _⟩ := I.tuple ha
  obtain ⟨its2, r2, p2, _⟩ := I.tuple hb
  by_cases hx : xs = []
  · subst hx
    cases r1
    exact cat_tup0 p1 p2 ⟨.ref b, H, I, rfl, q0 rfl⟩
  · refine HT.cat_tup p1 p2 (fun z => hx (r1.nil_iff.mp z)) (fun z => ⟨.ref a, H, I, rfl, q1 hx (r2.nil_iff.mp z)⟩) (fun z => ?_) (by rw [← r1.length, ← r2.length]; exact hz)
    refine ⟨.ref s.heap.objs.size, _, I.laid (t' := s.toks) (o := .frz { cls := .type "tuple", data := .seq (its ++ its2).toArray } (.tup (xs ++ ys))) (fun b ob q => Heap.get?_push_of_some _ q) (Nat.le_refl _) ?_, rfl, q2 hx (fun w => z (r2.nil_iff.mpr w)) _ _ (I.hok.fresh (Nat.le_refl _)) rfl⟩
    exact ⟨Heap.get?_push_size _ rfl, by rw [List.length_append]; exact hz, _, r1.append r2, PyProof.Rows.IsTup.new _ _⟩
theorem rd_catT {xs ys : List D} (hz : xs.length + ys.length ≤ 1000) : RD X (rCatZ X.K) (.tup xs) (.tup ys) M (.tup (xs ++ ys)) := fun G H vx vy s h1 h2 Q k => by
  cases h1 with
  | @tup a vs _ h3 h4 =>
    cases h2 with
    | @tup b us _ h5 h6 =>
      refine ⟨a, b, vs, us, rfl, rfl, ex_t s.ex h3.sq, ex_t s.ex h5.sq, ?_, fun e => ?_, fun e e2 => ?_, fun e e2 p o hp ho => ?_⟩
      · rw [h4.length, h6.length]; exact Nat.le_trans hz (by decide)
      · subst e
        cases h4
        exact k _ G H (Xt.refl s) (.tup h5 h6)
      · subst e2
        cases h6
        rw [List.append_nil] at k
        exact k _ G H (Xt.refl s) (.tup h3 h4)
      · have y := Xt.alloc (o := .frz o (.tup (vs ++ us))) s hp
        exact k _ _ _ y (.tup ⟨o, upd_same, ho⟩ ((h4.app h6).mono y.g))
/-- + of lists that may be written -/
theorem op_catL : OpR X (binaryOp .Add) rCat := op_cat
theorem rd_catL {xs ys : List D} (hz : xs.length + ys.length ≤ 10000) : RD X rCat (.lst xs) (.lst ys) M (.lst (xs ++ ys)) := fun G H vx vy s h1 h2 Q k => by
  cases h1 with
  | @lst a vs _ h3 h4 =>
    cases h2 with
    | @lst b us _ h5 h6 =>
      refine ⟨a, b, vs, us, rfl, rfl, s.ex _ _ h3, s.ex _ _ h5, ?_, fun p hp => ?_⟩
      · rw [h4.length, h6.length]; exact Nat.le_trans hz (by decide)
      · have y := Xt.alloc (o := .lst (vs ++ us)) s hp
        exact k _ _ _ y (.lst upd_same ((h4.app h6).mono y.g))
end
end Dr
set_option Elab.async false
set_option linter.all false
set_option maxRecDepth 100000
set_option maxHeartbeats 2000000
namespace Dr
open PySem L2

/-! ### what is walked -/
/-- an item as it is given out: its data, or (st false) a tuple that is laid for the turn -/
def Dw (st : Bool) (K : PySem.W.Frag) (G : Hp) (v : V) (d : D) : Prop := Dt K G v d ∨ (st = false ∧ ∃ a vs ds, v = .ref a ∧ d = .tup ds ∧ SqT K G a vs ∧ Dts K G vs ds)
theorem Dw.of {st : Bool} {K : PySem.W.Frag} {G : Hp} {v : V} {d : D} (h : Dt K G v d) : Dw st K G v d := .inl h
theorem Dw.strong {K : PySem.W.Frag} {G : Hp} {v : V} {d : D} (h : Dw true K G v d) : Dt K G v d := by
  rcases h with h | ⟨h, _⟩
  · exact h
  · cases h
structure WalkD (st : Bool) (P : Program) (w : World) (K : PySem.W.Frag) (J : It) (G1 : Hp) (ds : List D) : Prop where
  goes : ∀ i H, i < ds.length → Ex G1 H → J.go i H
  stops : ∀ H, Ex G1 H → J.stop ds.length H
  yields : ∀ i H x H', i < ds.length → Ex G1 H → J.yld i H x H' → ∀ G M, SR P w K G M H → Ex G1 G → ∃ G' d, ds[i]? = some d ∧ Xt P w K G M H G' M H' ∧ Dw st K G' x d
def ItD (st : Bool) (X : Cx) (tg iter : Expr) (δ : En) (M : Mp) (ds : List D) (M1 : Mp) : Prop := ∀ σ G H, SRX X G M H → EnvD X.K G σ δ → WI X tg iter σ H fun J H1 => ∃ G1, XtX X G M H G1 M1 H1 ∧ WalkD st X.prog X.w X.K J G1 ds
section
variable {X : Cx} {δ : En} {M M1 : Mp} {tg e : Expr} {ds : List D} {pos p : Pos}
theorem it_list (h : Ev X e δ M (.lst ds) M1) : ItD true X tg e δ M ds M1 := fun σ G H s E => by
  refine wi_of (pi_list we_pe) ((h σ G H s E).mono fun v H1 ⟨G1, x1, d1⟩ => ?_)
  cases d1 with
  | @lst a vs _ h3 h4 =>
    refine ⟨a, rfl, ⟨vs, .of (x1.s.ex _ _ h3)⟩, G1, x1, ⟨fun i H hi e => ?_, fun H e => ?_, fun i H x H' hi e y G2 M2 s2 e2 => ?_⟩⟩
    · exact walk_list.goes i H (by rw [h4.length]; exact hi) (.of (e _ _ h3))
    · rw [← h4.length]
      exact walk_list.stops H (.of (e _ _ h3))
    · obtain ⟨rfl, hx⟩ := walk_list.yields i H x H' (by rw [h4.length]; exact hi) (.of (e _ _ h3)) y
      obtain ⟨d, hd, dd⟩ := h4.getV hx
      exact ⟨G2, d, hd, Xt.refl s2, .inl (dd.mono e2)⟩
theorem it_tup (h : Ev X e δ M (.tup ds) M1) : ItD true X tg e δ M ds M1 := fun σ G H s E => by
  refine wi_of (pi_tup we_pe) ((h σ G H s E).mono fun v H1 ⟨G1, x1, d1⟩ => ?_)
  cases d1 with
  | @tup a vs _ h3 h4 =>
    refine ⟨a, rfl, ⟨vs, ex_t x1.s.ex h3.sq⟩, G1, x1, ⟨fun i H hi e => ?_, fun H e => ?_, fun i H x H' hi e y G2 M2 s2 e2 => ?_⟩⟩
    · exact walk_tup.goes i H (by rw [h4.length]; exact hi) (ex_t e h3.sq)
    · rw [← h4.length]
      exact walk_tup.stops H (ex_t e h3.sq)
    · obtain ⟨rfl, hx⟩ := walk_tup.yields i H x H' (by rw [h4.length]; exact hi) (ex_t e h3.sq) y
      obtain ⟨d, hd, dd⟩ := h4.getV hx
      exact ⟨G2, d, hd, Xt.refl s2, .inl (dd.mono e2)⟩
def rng (lo : Int) (n : Nat) : List D := (List.range n).map fun i => D.int (lo + (i : Nat))
theorem rng_len (lo : Int) (n : Nat) : (rng lo n).length = n := by unfold rng; rw [List.length_map, List.length_range]
theorem rng_at {lo : Int} {n i : Nat} (h : i < n) : (rng lo n)[i]? = some (.int (lo + i)) := by
  unfold rng
  rw [List.getElem?_map, List.getElem?_range h]
  rfl
theorem walkD_range {P : Program} {w : World} {K : PySem.W.Frag} {G : Hp} {lo : Int} {n : Nat} : WalkD true P w K (Itr lo n) G (rng lo n) := by
  refine ⟨fun i H hi e => ?_, fun H e => ?_, fun i H x H' hi e y G2 M2 s2 e2 => ?_⟩
  · rw [rng_len] at hi
    exact hi
  · rw [rng_len]
    exact Nat.le_refl n
  · rw [rng_len] at hi
    obtain ⟨rfl, rfl⟩ := y
    exact ⟨G2, _, rng_at hi, Xt.refl s2, .inl (.int _)⟩
theorem it_range1 {n : Int} (hg : Gl X "range") (hm : X.mg "range" = none) (h : EvA X [e] δ M [.int n] M1) (hb : -1000000 ≤ n ∧ n ≤ 1000000) (hs : starEach [e] X.env = [(false, eval e X.env)] := by rfl) : ItD true X tg (.Call (.Name "range" p) [e] [] pos) δ M (rng 0 n.toNat) M1 := fun σ G H s E => by
  refine wi_of (pi_range1 hg hm wa_pa hs) ((h σ G H s E).mono fun vs H1 ⟨G1, x1, d1⟩ => ?_)
  obtain ⟨v, rfl, d⟩ := dts1 d1
  rw [dt_int d]
  exact ⟨n, rfl, by omega, by omega, G1, x1, walkD_range⟩
theorem it_range2 {e2 : Expr} {lo hi : Int} (hg : Gl X "range") (hm : X.mg "range" = none) (h : EvA X [e, e2] δ M [.int lo, .int hi] M1) (hb : -1000000 ≤ lo ∧ lo ≤ 1000000 ∧ -1000000 ≤ hi ∧ hi ≤ 1000000) (hs : starEach [e, e2] X.env = [(false, eval e X.env), (false, eval e2 X.env)] := by rfl) (hs2 : starEach [e2] X.env = [(false, eval e2 X.env)] := by rfl) :
    ItD true X tg (.Call (.Name "range" p) [e, e2] [] pos) δ M (rng lo (hi - lo).toNat) M1 := fun σ G H s E => by
  refine wi_of (pi_range2 hg hm wa_pa hs hs2) ((h σ G H s E).mono fun vs H1 ⟨G1, x1, d1⟩ => ?_)
  obtain ⟨v, w, rfl, da, db⟩ := dts2 d1
  rw [dt_int da, dt_int db]
  exact ⟨lo, hi, rfl, ⟨by omega, by omega, by omega, by omega⟩, G1, x1, walkD_range⟩
end

/-! ### targets -/
def WGs (X : Cx) (ts : List Expr) : TGs := fun vs σ H Q => ∀ (pins : List (Addr × Obj)) (s : Shared) (us : List Value), Inv X pins σ H s → Vals vs us →
    wpAny (model X.prog X.w) X.A (assignInOrder ((assignEach ts X.env).map (·.2)) us) (fun _ s' => ∃ σ' H', Inv X pins σ' H' s' ∧ Q σ' H') X.xe s
theorem wgs_pgs {X : Cx} {ts : List Expr} : PGs X ts (WGs X ts) := ⟨fun pins s _ _ _ us _ I r h => h pins s us I r⟩
theorem wgs_of {X : Cx} {ts : List Expr} {t : TGs} (h : PGs X ts t) {vs : List V} {σ : St} {H : Hp} {Q : St → Hp → Prop} (q : t vs σ H Q) : WGs X ts vs σ H Q := fun pins s us I r => h.run pins s σ H vs us Q I r q
theorem WGs.mono {X : Cx} {ts : List Expr} {vs : List V} {σ : St} {H : Hp} {Q Q' : St → Hp → Prop} (h : WGs X ts vs σ H Q) (k : ∀ v H', Q v H' → Q' v H') : WGs X ts vs σ H Q' := fun pins s u I r => thn (h pins s u I r) fun _ _ ⟨σ', H', I', q⟩ => ⟨σ', H', I', k σ' H' q⟩
def TgD (st : Bool) (X : Cx) (tg : Expr) (js : List Nat) (d : D) (δ δ' : En) : Prop := ∀ σ G H v, EnvD X.K G σ δ → Dw st X.K G v d → Ex G H →
  WG X tg v σ H fun σ' H' => H' = H ∧ EnvD X.K G σ' δ' ∧ ∀ vs : List Nat, (∀ j ∈ js, j ∈ vs) → wipe σ' vs = wipe σ vs
def TgsD (X : Cx) (ts : List Expr) (js : List Nat) (ds : List D) (δ δ' : En) : Prop := ∀ σ G H vs, EnvD X.K G σ δ → Dts X.K G vs ds → Ex G H →
  WGs X ts vs σ H fun σ' H' => H' = H ∧ EnvD X.K G σ' δ' ∧ ∀ vs : List Nat, (∀ j ∈ js, j ∈ vs) → wipe σ' vs = wipe σ vs
section
variable {X : Cx} {δ δ' δ1 : En} {d : D} {ds : List D} {pos : Pos}
theorem tg_name (i : Nat) {x : Str} (C : Cok X) (hi : X.N[i]? = some x) (hx : Loc X.env.scope x) (hf : X.fn x = true ∨ X.env.scope.names.lookup x = some .local := by first | exact .inl rfl | exact .inr rfl) : TgD true X (.Name x pos) [i] d δ (δ.set i (some d)) := fun σ G H v E hd e => by
  refine wg_of (pg_name C.nd hi hx hf) ?_
  exact ⟨rfl, E.set hd.strong i, fun vs h => wipe_set (h i (by simp))⟩
theorem tgs_nil : TgsD X [] [] [] δ δ := fun σ G H vs E hd e => by
  cases hd
  exact wgs_of pgs_nil ⟨rfl, rfl, E, fun _ _ => rfl⟩
theorem tgs_cons {t : Expr} {ts : List Expr} {js js' : List Nat} (h1 : TgD true X t js d δ δ1) (h2 : TgsD X ts js' ds δ1 δ') (hs : (assignEach (t :: ts) X.env).map (·.2) = assign t X.env :: (assignEach ts X.env).map (·.2) := by rfl) : TgsD X (t :: ts) (js ++ js') (d :: ds) δ δ' := fun σ G H vs E hd e => by
  cases hd with
  | @cons v vs _ _ ha hb =>
    refine wgs_of (pgs_cons wg_pg wgs_pgs hs) ⟨v, vs, rfl, (h1 σ G H v E (.inl ha) e).mono fun σ1 H1 ⟨e1, E1, w1⟩ => ?_⟩
    subst e1
    exact (h2 σ1 G H1 vs E1 hb e).mono fun σ2 H2 ⟨e2, E2, w2⟩ => ⟨e2, E2, fun us h => (w2 us fun j hj => h j (List.mem_append_right _ hj)).trans (w1 us fun j hj => h j (List.mem_append_left _ hj))⟩
theorem tg_tup {st : Bool} {es : List Expr} {k : Nat} {js : List Nat} (C : Cok X) (h : TgsD X es js ds δ δ') (hl : ds.length = es.length := by rfl) (hn : (assignEach es X.env).length = es.length := by rfl) (hst : (assignEach es X.env).findIdx? (·.1) = none := by rfl) : TgD st X (.Tuple es k pos) js (.tup ds) δ δ' := fun σ G H v E hd e => by
  obtain ⟨a, vs, rfl, h1, h2⟩ : ∃ a vs, v = .ref a ∧ SqT X.K G a vs ∧ Dts X.K G vs ds := by
    rcases hd with hd | ⟨_, a, vs, ds', h1, h2, h3, h4⟩
    · cases hd with
      | @tup a vs _ h3 h4 => exact ⟨a, vs, rfl, h3.sq, h4⟩
    · cases h2
      exact ⟨a, vs, h1, h3, h4⟩
  refine wg_of (pg_tup C.calm wgs_pgs hn hst) ⟨a, vs, rfl, ex_t e h1, by rw [h2.length, hl], h σ G H vs E h2 e⟩
end

/-! ### statements -/
structure DE where
  nx : En → Mp → Prop
  rt : D → Mp → Prop
  bk : En → Mp → Prop := fun _ _ => False
  ct : En → Mp → Prop := fun _ _ => False
def DE.ends (De : DE) (P : Program) (w : World) (K : PySem.W.Frag) (G : Hp) (M : Mp) (H : Hp) : Ends where
  nx := fun σ' H' => ∃ δ' M' G', De.nx δ' M' ∧ Xt P w K G M H G' M' H' ∧ EnvD K G' σ' δ'
  rt := fun v H' => ∃ d M' G', De.rt d M' ∧ Xt P w K G M H G' M' H' ∧ Dt K G' v d
  bk := fun σ' H' => ∃ δ' M' G', De.bk δ' M' ∧ Xt P w K G M H G' M' H' ∧ EnvD K G' σ' δ'
  ct := fun σ' H' => ∃ δ' M' G', De.ct δ' M' ∧ Xt P w K G M H G' M' H' ∧ EnvD K G' σ' δ'
def Run1 (X : Cx) (st : Stmt) (δ : En) (M : Mp) (De : DE) : Prop := ∀ σ G H, SRX X G M H → EnvD X.K G σ δ → WS X st (De.ends X.prog X.w X.K G M H) σ H
def Run (X : Cx) (ss : List Stmt) (δ : En) (M : Mp) (De : DE) : Prop := ∀ σ G H, SRX X G M H → EnvD X.K G σ δ → WSs X ss (De.ends X.prog X.w X.K G M H) σ H
theorem ends_trans {P : Program} {w : World} {K : PySem.W.Frag} {G G1 H H1 : Hp} {M M1 : Mp} {De : DE} (x : Xt P w K G M H G1 M1 H1) : Ends.Le (De.ends P w K G1 M1 H1) (De.ends P w K G M H) :=
  ⟨fun _ _ ⟨δ, M', G', h, y, e⟩ => ⟨δ, M', G', h, x.trans y, e⟩, fun _ _ ⟨d, M', G', h, y, e⟩ => ⟨d, M', G', h, x.trans y, e⟩, fun _ _ ⟨δ, M', G', h, y, e⟩ => ⟨δ, M', G', h, x.trans y, e⟩, fun _ _ ⟨δ, M', G', h, y, e⟩ => ⟨δ, M', G', h, x.trans y, e⟩⟩
section
variable {X : Cx} {δ δ' : En} {M M1 M2 : Mp} {De : DE} {st : Stmt} {rest a b : List Stmt} {d : D} {pos : Pos} {e : Expr}
theorem Run.mono {ss : List Stmt} {De' : DE} (h : Run X ss δ M De) (n : ∀ δ M, De.nx δ M → De'.nx δ M) (r : ∀ d M, De.rt d M → De'.rt d M) (b : ∀ δ M, De.bk δ M → De'.bk δ M) (c : ∀ δ M, De.ct δ M → De'.ct δ M) : Run X ss δ M De' := fun σ G H s E =>
  (h σ G H s E).mono ⟨fun _ _ ⟨δ, M', G', h, y⟩ => ⟨δ, M', G', n _ _ h, y⟩, fun _ _ ⟨δ, M', G', h, y⟩ => ⟨δ, M', G', r _ _ h, y⟩, fun _ _ ⟨δ, M', G', h, y⟩ => ⟨δ, M', G', b _ _ h, y⟩, fun _ _ ⟨δ, M', G', h, y⟩ => ⟨δ, M', G', c _ _ h, y⟩⟩
theorem run_nil (k : De.nx δ M) : Run X [] δ M De := fun σ G H s E => wss_of pss_nil ⟨δ, M, G, k, Xt.refl s, E⟩
theorem run_cons (h : Run1 X st δ M { De with nx := fun δ' M' => Run X rest δ' M' De }) : Run X (st :: rest) δ M De := fun σ G H s E => by
  refine wss_of (pss_cons ws_ps wss_pss) ?_
  refine (h σ G H s E).mono ⟨fun σ1 H1 ⟨δ1, M1, G1, r, x, E1⟩ => ?_, fun _ _ h => h, fun _ _ h => h, fun _ _ h => h⟩
  exact (r σ1 G1 H1 x.s E1).mono (ends_trans x)
theorem run_one (h : Run1 X st δ M De) : Run X [st] δ M De := fun σ G H s E => wss_of (pss_one ws_ps) (h σ G H s E)
theorem s_set (i : Nat) {x : Str} {p' : Pos} (C : Cok X) (hi : X.N[i]? = some x) (hx : Loc X.env.scope x) (h : Ev X e δ M d M1) (k : De.nx (δ.set i (some d)) M1) (hs : swapsWith e (some (.Name x p')) pos.line X.env = pure false := by rfl) (hf : X.fn x = true ∨ X.env.scope.names.lookup x = some .local := by first | exact .inl rfl | exact .inr rfl) :
    Run1 X (.Assign [.Name x p'] e pos) δ M De := fun σ G H s E => by
  refine ws_of (ps_set C.nd hi hx we_pe hs hf) ((h σ G H s E).mono fun v H1 ⟨G1, x1, d1⟩ => ?_)
  exact ⟨_, _, G1, k, x1, (E.mono x1.g).set d1 i⟩
theorem s_tgt {tg : Expr} {js : List Nat} (h : Ev X e δ M d M1) (ht : TgD true X tg js d δ δ') (k : De.nx δ' M1) (hs : swapsWithSole [tg] e pos.line X.env = pure false := by rfl) (hw : swappedStores [tg] e X.env = pure none := by rfl)
    (h1 : (assignEach [tg] X.env).map (·.2) = [assign tg X.env] := by rfl) : Run1 X (.Assign [tg] e pos) δ M De := fun σ G H s E => by
  refine ws_of (ps_asg we_pe wg_pg hs hw h1) ((h σ G H s E).mono fun v H1 ⟨G1, x1, d1⟩ => ?_)
  exact (ht σ G1 H1 v (E.mono x1.g) (.inl d1) x1.s.ex).mono fun σ' H' ⟨e1, E1, _⟩ => by
    subst e1
    exact ⟨δ', M1, G1, k, x1, E1⟩
/-- a, b = x, y, local names -/
theorem s_par (i j : Nat) {x y : Str} {a b : Expr} {da db : D} {px py pt : Pos} {kt k2 pt2} (C : Cok X) (hi : X.N[i]? = some x) (hj : X.N[j]? = some y) (hij : i ≠ j) (hx : X.env.scope.names.lookup x = some .local) (hy : X.env.scope.names.lookup y = some .local)
    (h : EvA X [a, b] δ M [da, db] M1) (k : De.nx ((δ.set i (some da)).set j (some db)) M1)
    (hw : swappedStores [.Tuple [.Name x px, .Name y py] kt pt] (.Tuple [a, b] k2 pt2) X.env = pure (some [x, y]) := by rfl)
    (hs : swapsWithSole [.Tuple [.Name x px, .Name y py] kt pt] (.Tuple [a, b] k2 pt2) pos.line X.env = pure false := by rfl) :
    Run1 X (.Assign [.Tuple [.Name x px, .Name y py] kt pt] (.Tuple [a, b] k2 pt2) pos) δ M De := fun σ G H s E => by
  refine ws_of (ps_par C.calm C.nd hi hj hij hx hy wa_pa hw hs) ((h σ G H s E).mono fun vs H1 ⟨G1, x1, d1⟩ => ?_)
  obtain ⟨v, w, rfl, h1, h2⟩ := dts2 d1
  exact ⟨v, w, rfl, _, _, G1, k, x1, ((E.mono x1.g).set h1 i).set h2 j⟩
theorem s_ret (h : Ev X e δ M d M1) (k : De.rt d M1) : Run1 X (.Return (some e) pos) δ M De := fun σ G H s E =>
  ws_of (ps_ret we_pe) ((h σ G H s E).mono fun v H1 ⟨G1, x1, d1⟩ => ⟨d, M1, G1, k, x1, d1⟩)
theorem s_drop (h : Ev X e δ M d M1) (k : De.nx δ M1) (hs : swapsWith e none pos.line X.env = pure false := by rfl) : Run1 X (.Expr e pos) δ M De := fun σ G H s E =>
  ws_of (ps_expr we_pe hs) ((h σ G H s E).mono fun v H1 ⟨G1, x1, d1⟩ => ⟨δ, M1, G1, k, x1, E.mono x1.g⟩)
theorem s_pass (k : De.nx δ M) : Run1 X (.Pass pos) δ M De := fun σ G H s E => ws_of ps_pass ⟨δ, M, G, k, Xt.refl s, E⟩
theorem s_break (k : De.bk δ M) : Run1 X (.Break pos) δ M De := fun σ G H s E => ws_of ps_break ⟨δ, M, G, k, Xt.refl s, E⟩
theorem s_if {c : Expr} {k : Bool} (h : EvT X c δ M k M1) (h1 : k = true → Run X a δ M1 De) (h2 : k = false → Run X b δ M1 De) : Run1 X (.If c a b pos) δ M De := fun σ G H s E => by
  refine ws_of (ps_if wt_pt wss_pss wss_pss) ((h σ G H s E).mono fun v H1 ⟨hk, G1, x1⟩ => ?_)
  subst hk
  cases v with
  | true =>
    rw [if_pos rfl]
    exact (h1 rfl σ G1 H1 x1.s (E.mono x1.g)).mono (ends_trans x1)
  | false =>
    rw [if_neg Bool.false_ne_true]
    exact (h2 rfl σ G1 H1 x1.s (E.mono x1.g)).mono (ends_trans x1)
/-- a loop, by what holds ahead of each turn -/
theorem s_for {stt : Bool} {tg iter : Expr} {body : List Stmt} {ds : List D} (C : Cok X) (hi : ItD stt X tg iter δ M ds M1) (Iv : Nat → En → Mp → Prop) (h0 : Iv 0 δ M1)
    (hs : ∀ i d δ' M', ds[i]? = some d → Iv i δ' M' → ∃ js δ'', TgD stt X tg js d δ' δ'' ∧ Run X body δ'' M' { De with nx := Iv (i + 1), ct := Iv (i + 1), bk := De.nx }) (hd : ∀ δ' M', Iv ds.length δ' M' → De.nx δ' M')
    (hf : ∀ x, foldedSetIterable iter X.env x = pure x := by intro _; rfl) : Run1 X (.For tg iter body [] pos) δ M De := fun σ G H s E => by
  have hp : PassesOwn (model X.prog X.w) X.A X.env X.xe := by rw [C.nox]; exact PassesOwn.never
  refine ws_of (ps_for hp C.calm wi_pi wg_pg wss_pss hf) ((hi σ G H s E).mono fun J H1 ⟨G1, x1, wk⟩ => ?_)
  refine ⟨fun i m σ' H' => m = ds.length - i ∧ i ≤ ds.length ∧ ∃ δ' M' G', Iv i δ' M' ∧ XtX X G M H G' M' H' ∧ EnvD X.K G' σ' δ' ∧ Ex G1 G', ⟨ds.length, by simp, Nat.zero_le _, δ, M1, G1, h0, x1, E.mono x1.g, Ex.refl G1⟩, ?_⟩
  rintro i m σ' H' ⟨rfl, hil, δ', M', G', hI, x', E', e'⟩
  by_cases hlt : i < ds.length
  · refine .inr ⟨wk.goes i H' hlt (e'.trans x'.s.ex), fun σ2 H2 => ∃ δ2 M2 G2, Iv (i + 1) δ2 M2 ∧ XtX X G M H G2 M2 H2 ∧ EnvD X.K G2 σ2 δ2 ∧ Ex G1 G2, fun σ2 H2 q => ⟨ds.length - (i + 1), by omega, rfl, hlt, q⟩, fun x H2 y => ?_⟩
    obtain ⟨G2, d, hd2, x2, dw⟩ := wk.yields i H' x H2 hlt (e'.trans x'.s.ex) y G' M' x'.s e'
    obtain ⟨js, δ'', tgd, rb⟩ := hs i d δ' M' hd2 hI
    refine (tgd σ' G2 H2 x (E'.mono x2.g) dw x2.s.ex).mono fun σ3 H3 ⟨e3, E3, _⟩ => ?_
    subst e3
    have xx := x'.trans x2
    refine (rb σ3 G2 H3 x2.s E3).mono ⟨fun _ _ ⟨δ4, M4, G4, h4, y4, E4⟩ => ⟨δ4, M4, G4, h4, xx.trans y4, E4, (e'.trans x2.g).trans y4.g⟩, fun _ _ ⟨d4, M4, G4, h4, y4, E4⟩ => ⟨d4, M4, G4, h4, xx.trans y4, E4⟩,
      fun _ _ ⟨δ4, M4, G4, h4, y4, E4⟩ => ⟨δ4, M4, G4, h4, xx.trans y4, E4⟩, fun _ _ ⟨δ4, M4, G4, h4, y4, E4⟩ => ⟨δ4, M4, G4, h4, xx.trans y4, E4, (e'.trans x2.g).trans y4.g⟩⟩
  · have ee : i = ds.length := by omega
    subst ee
    exact .inl ⟨wk.stops H' (e'.trans x'.s.ex), δ', M', G', hd δ' M' hI, x', E'⟩
/-- while, by what holds ahead of each turn and a number that falls -/
theorem s_while {c : Expr} {body : List Stmt} (C : Cok X) (Iv : Nat → En → Mp → Prop) (m0 : Nat) (h0 : Iv m0 δ M)
    (hs : ∀ m δ' M', Iv m δ' M' → ∃ k, EvT X c δ' M' k M' ∧ (k = true → Run X body δ' M' { De with nx := fun δ2 M2 => ∃ m', m' < m ∧ Iv m' δ2 M2, ct := fun δ2 M2 => ∃ m', m' < m ∧ Iv m' δ2 M2, bk := De.nx }) ∧ (k = false → De.nx δ' M')) : Run1 X (.While c body [] pos) δ M De := fun σ G H s E => by
  have hp : PassesOwn (model X.prog X.w) X.A X.env X.xe := by rw [C.nox]; exact PassesOwn.never
  refine ws_of (ps_while hp wt_pt wss_pss) ?_
  refine ⟨fun m σ' H' => ∃ δ' M' G', Iv m δ' M' ∧ XtX X G M H G' M' H' ∧ EnvD X.K G' σ' δ', ⟨m0, δ, M, G, h0, Xt.refl s, E⟩, ?_⟩
  rintro m σ' H' ⟨δ', M', G', hI, x', E'⟩
  obtain ⟨k, ht, hb, hn⟩ := hs m δ' M' hI
  refine (ht σ' G' H' x'.s E').mono fun v H1 ⟨hk, G1, x1⟩ => ?_
  subst hk
  have xx := x'.trans x1
  cases v with
  | true =>
    rw [if_pos rfl]
    refine ⟨fun σ2 H2 => ∃ m', m' < m ∧ ∃ δ2 M2 G2, Iv m' δ2 M2 ∧ XtX X G M H G2 M2 H2 ∧ EnvD X.K G2 σ2 δ2, fun σ2 H2 q => q, ?_⟩
    exact (hb rfl σ' G1 H1 x1.s (E'.mono x1.g)).mono ⟨fun _ _ ⟨δ4, M4, G4, ⟨m', h4, h5⟩, y4, E4⟩ => ⟨m', h4, δ4, M4, G4, h5, xx.trans y4, E4⟩, fun _ _ ⟨d4, M4, G4, h4, y4, E4⟩ => ⟨d4, M4, G4, h4, xx.trans y4, E4⟩,
      fun _ _ ⟨δ4, M4, G4, h4, y4, E4⟩ => ⟨δ4, M4, G4, h4, xx.trans y4, E4⟩, fun _ _ ⟨δ4, M4, G4, ⟨m', h4, h5⟩, y4, E4⟩ => ⟨m', h4, δ4, M4, G4, h5, xx.trans y4, E4⟩⟩
  | false =>
    rw [if_neg Bool.false_ne_true]
    exact ⟨δ', M', G1, hn rfl, xx, E'.mono x1.g⟩
end

/-! ### comprehensions -/
abbrev Bk (X : Cx) (scope : Scope) (s : Shared) (H : Hp) (C : Addr) (cl : List (Str × Addr)) (fp : List Addr) : Cx := X.blk s H scope (compEnvC scope cl C X.env) fp
theorem Cok.bk {X : Cx} (C : Cok X) {scope : Scope} {s : Shared} {H : Hp} {c : Addr} {cl : List (Str × Addr)} {fp : List Addr} : Cok (Bk X scope s H c cl fp) := ⟨C.calm, C.nd, rfl, C.hu⟩
section
variable {X : Cx} {δ : En} {M M1 : Mp} {pos : Pos} {elt tg iter : Expr} {ifs : List Expr} {scope : Scope} {own : List (Str × Nat)} {ds : List D} {stt : Bool}
/-- one turn, whatever the block -/
def Turn1 (stt : Bool) (X : Cx) (scope : Scope) (tg : Expr) (ifs : List Expr) (elt : Expr) (vs : List Nat) (d : D) (δ : En) (Mi : Mp) (b : Bool) (r : D) (Mi' : Mp) : Prop :=
  ∃ js δ' M', (∀ j ∈ js, j ∈ vs) ∧ ∀ s H C cl fp, TgD stt (Bk X scope s H C cl fp) tg js d (wipeD δ vs) δ' ∧ EvTs (Bk X scope s H C cl fp) ifs δ' Mi b M' ∧ (b = true → Ev (Bk X scope s H C cl fp) elt δ' M' r Mi') ∧ (b = false → M' = Mi')
theorem lcg_ {σ : St} {G H : Hp} {Q : VK} {vs : List Nat} (hi : ItD stt X tg iter δ M ds M1) (acc : Nat → List D) (Mf : Nat → Mp) (a0 : acc 0 = []) (m0 : Mf 0 = M1) (hz : ds.length ≤ 10000)
    (turn : ∀ i d, ds[i]? = some d → ∃ b r, Turn1 stt X scope tg ifs elt vs d δ (Mf i) b r (Mf (i + 1)) ∧ acc (i + 1) = acc i ++ (if b = true then [r] else []))
    (s : SRX X G M H) (E : EnvD X.K G σ δ) (k : ∀ Dl us G' H', XtX X G M H G' (Mf ds.length) H' → H Dl = none → G' Dl = none → (Mf ds.length) Dl = none → H' Dl = some (.lst us) → Dts X.K G' us (acc ds.length) → Q (.ref Dl) H') :
    tLc (WI X tg iter) (fun v σ H Q => ∀ s H1 C cl fp, WG (Bk X scope s H1 C cl fp) tg v σ H Q) (fun σ H Q => ∀ s H1 C cl fp, WTs (Bk X scope s H1 C cl fp) ifs σ H Q) (fun σ H Q => ∀ s H1 C cl fp, WE (Bk X scope s H1 C cl fp) elt σ H Q) vs σ H Q := by
  refine (hi σ G H s E).mono fun J H1 ⟨G1, x1, wk⟩ => fun Dl hD => ?_
  have small : ∀ i, i ≤ ds.length → (acc i).length ≤ i := by
    intro i
    induction i with
    | zero => intro _; rw [a0]; exact Nat.le_refl 0
    | succ i ih =>
      intro hi
      have hlt : i < ds.length := hi
      obtain ⟨b, r, _, ea⟩ := turn i ds[i] (by simp [hlt])
      have := ih (by omega)
      rw [ea, List.length_append]
      split <;> simp <;> omega
  refine ⟨fun i m H' => m = ds.length - i ∧ i ≤ ds.length ∧ ∃ G' us, XtX X G M H G' (Mf i) H' ∧ G' Dl = none ∧ (Mf i) Dl = none ∧ H' Dl = some (.lst us) ∧ Dts X.K G' us (acc i) ∧ Ex G1 G', ⟨ds.length, by simp, Nat.zero_le _, G1, [], ?_⟩, ?_⟩
  · rw [m0, a0]
    have gD := x1.s.noG hD
    have mD := x1.s.noM hD
    refine ⟨x1.trans ⟨Ex.refl G1, ⟨fun a o q => Ex.new hD a o (x1.s.ex a o q), fun a m q => ?_⟩, fun a o q _ => Ex.new hD a o q, fun a q => .inl q, fun a q => .inl q, fun a q => ?_⟩, gD, mD, upd_same, .nil, Ex.refl G1⟩
    · have na : a ≠ Dl := fun z => by subst z; rw [mD] at q; cases q
      obtain ⟨h1, o, h2, h3⟩ := x1.s.mu a m q
      exact ⟨h1, o, by rw [upd_ne na]; exact h2, h3⟩
    · by_cases z : a = Dl
      · subst z; exact hD
      · rw [upd_ne z] at q; exact q
  rintro i m H' ⟨rfl, hil, G', us, x', gD, mD, hH, hus, e'⟩
  by_cases hlt : i < ds.length
  · refine .inr ⟨wk.goes i H' hlt (e'.trans x'.s.ex), fun H2 => ∃ G2 us2, XtX X G M H G2 (Mf (i + 1)) H2 ∧ G2 Dl = none ∧ (Mf (i + 1)) Dl = none ∧ H2 Dl = some (.lst us2) ∧ Dts X.K G2 us2 (acc (i + 1)) ∧ Ex G1 G2, fun H2 q => ⟨ds.length - (i + 1), by omega, rfl, hlt, q⟩, fun x H2 y => ?_⟩
    obtain ⟨G2, d, hd2, x2, dw⟩ := wk.yields i H' x H2 hlt (e'.trans x'.s.ex) y G' (Mf i) x'.s e'
    obtain ⟨b, r, ⟨js, δ', M', hjs, tt⟩, ea⟩ := turn i d hd2
    have keep : ∀ {Ga Ha Gb Hb : Hp} {Ma Mb : Mp}, XtX X Ga Ma Ha Gb Mb Hb → Ga Dl = none → Ma Dl = none → Ha Dl = some (.lst us) → Gb Dl = none ∧ Mb Dl = none ∧ Hb Dl = some (.lst us) := fun {Ga Ha Gb Hb Ma Mb} z h1 h2 h3 => by
      refine ⟨?_, ?_, z.fr Dl _ h3 h2⟩
      · cases q : Gb Dl with
        | none => rfl
        | some o =>
          rcases z.ng Dl (by rw [q]; intro z; cases z) with z | z | z
          · exact absurd h1 z
          · rw [h3] at z; cases z
          · exact absurd h2 z
      · cases q : Mb Dl with
        | none => rfl
        | some o =>
          rcases z.nm Dl (by rw [q]; intro z; cases z) with z | z
          · exact absurd h2 z
          · rw [h3] at z; cases z
    have k2 := keep x2 gD mD hH
    have xx := x'.trans x2
    have Ew : EnvD X.K G2 (wipe σ vs) (wipeD δ vs) := (E.mono xx.g).wipe vs
    intro s0 H0 C0 cl0 fp0
    refine ((tt s0 H0 C0 cl0 fp0).1 (wipe σ vs) G2 H2 x Ew dw x2.s.ex).mono fun σ3 H3 ⟨e3, E3, w3⟩ => ?_
    subst e3
    refine ⟨(w3 vs hjs).trans wipe_wipe, ?_⟩
    intro s1 H1' C1 cl1 fp1
    refine ((tt s1 H1' C1 cl1 fp1).2.1 σ3 G2 H3 x2.s E3).mono fun b' H4 ⟨hb, G4, x4⟩ => ?_
    subst hb
    have k4 := keep x4 k2.1 k2.2.1 k2.2.2
    cases b' with
    | true =>
      rw [if_pos rfl]
      intro s2 H2' C2 cl2 fp2
      refine ((tt s2 H2' C2 cl2 fp2).2.2.1 rfl σ3 G4 H4 x4.s (E3.mono x4.g)).mono fun v H5 ⟨G5, x5, d5⟩ => ?_
      have k5 := keep x5 k4.1 k4.2.1 k4.2.2
      refine ⟨us, k5.2.2, ?_, ?_⟩
      · rw [hus.length]
        exact Nat.lt_of_le_of_lt (small i hil) (Nat.lt_of_le_of_lt (Nat.le_trans hil hz) (by decide))
      · have xa := ((xx.trans x4).trans x5)
        refine ⟨G5, us ++ [v], ⟨xa.g, ⟨fun a o q => ?_, fun a m q => ?_⟩, fun a o q n => ?_, xa.ng, xa.nm, fun a q => ?_⟩, k5.1, k5.2.1, upd_same, ?_, ((e'.trans x2.g).trans x4.g).trans x5.g⟩
        · have na : a ≠ Dl := fun z => by subst z; rw [k5.1] at q; cases q
          rw [upd_ne na]
          exact x5.s.ex a o q
        · have na : a ≠ Dl := fun z => by subst z; rw [k5.2.1] at q; cases q
          obtain ⟨h1, o, h2, h3⟩ := x5.s.mu a m q
          exact ⟨h1, o, by rw [upd_ne na]; exact h2, h3⟩
        · have na : a ≠ Dl := fun z => by
            subst z
            rw [x1.dm a hD] at q
            cases q
          rw [upd_ne na]
          exact xa.fr a o q n
        · by_cases z : a = Dl
          · subst z; rw [upd_same] at q; cases q
          · rw [upd_ne z] at q; exact xa.dm a q
        · rw [ea, if_pos rfl]
          exact (hus.mono ((x2.g.trans x4.g).trans x5.g)).app (.cons d5 .nil)
    | false =>
      rw [if_neg Bool.false_ne_true]
      have eM := (tt s1 H1' C1 cl1 fp1).2.2.2 rfl
      subst eM
      refine ⟨G4, us, xx.trans x4, k4.1, k4.2.1, k4.2.2, ?_, (e'.trans x2.g).trans x4.g⟩
      rw [ea, if_neg Bool.false_ne_true, List.append_nil]
      exact hus.mono (x2.g.trans x4.g)
  · have ee : i = ds.length := by omega
    subst ee
    refine .inl ⟨wk.stops H' (e'.trans x'.s.ex), ?_⟩
    exact k Dl us G' H' x' (x1.dm Dl hD) gD mD hH hus
theorem lc_ {σ : St} {G H : Hp} {Q : VK} {vs : List Nat} (hi : ItD stt X tg iter δ M ds M1) (acc : Nat → List D) (Mf : Nat → Mp) (a0 : acc 0 = []) (m0 : Mf 0 = M1) (hz : ds.length ≤ 10000)
    (turn : ∀ i d, ds[i]? = some d → ∃ b r, Turn1 stt X scope tg ifs elt vs d δ (Mf i) b r (Mf (i + 1)) ∧ acc (i + 1) = acc i ++ (if b = true then [r] else []))
    (s : SRX X G M H) (E : EnvD X.K G σ δ) (k : ∀ v G' H', XtX X G M H G' (Mf ds.length) H' → Dt X.K G' v (.lst (acc ds.length)) → Q v H') :
    tLc (WI X tg iter) (fun v σ H Q => ∀ s H1 C cl fp, WG (Bk X scope s H1 C cl fp) tg v σ H Q) (fun σ H Q => ∀ s H1 C cl fp, WTs (Bk X scope s H1 C cl fp) ifs σ H Q) (fun σ H Q => ∀ s H1 C cl fp, WE (Bk X scope s H1 C cl fp) elt σ H Q) vs σ H Q := by
  refine lcg_ hi acc Mf a0 m0 hz turn s E fun Dl us G' H' x' hD gD mD hH hus => ?_
  have new : Ex G' (upd G' Dl (.lst us)) := Ex.new gD
  refine k _ (upd G' Dl (.lst us)) H' ⟨x'.g.trans new, ⟨fun a o q => ?_, fun a m q => ?_⟩, x'.fr, fun a q => ?_, x'.nm, x'.dm⟩ (.lst upd_same (hus.mono new))
  · by_cases z : a = Dl
    · subst z; rw [upd_same] at q; rw [← q]; exact hH
    · rw [upd_ne z] at q; exact x'.s.ex a o q
  · have na : a ≠ Dl := fun z => by subst z; rw [mD] at q; cases q
    obtain ⟨h1, o, h2, h3⟩ := x'.s.mu a m q
    exact ⟨by rw [upd_ne na]; exact h1, o, h2, h3.mono new⟩
  · by_cases z : a = Dl
    · subst z; exact .inr (.inl hD)
    · rw [upd_ne z] at q; exact x'.ng a q
theorem ev_lc (C : Cok X) (ok : BlkOk X.N X.env.scope scope own) (hi : ItD stt X tg iter δ M ds M1) (acc : Nat → List D) (Mf : Nat → Mp) (a0 : acc 0 = []) (m0 : Mf 0 = M1) (hz : ds.length ≤ 10000)
    (turn : ∀ i d, ds[i]? = some d → ∃ b r, Turn1 stt X scope tg ifs elt (own.map (·.2)) d δ (Mf i) b r (Mf (i + 1)) ∧ acc (i + 1) = acc i ++ (if b = true then [r] else [])) (hs : ∀ x, foldedSetIterable iter X.env x = pure x := by intro _; rfl) :
    Ev X (.ListComp elt [⟨tg, iter, ifs, 0⟩] scope pos) δ M (.lst (acc ds.length)) (Mf ds.length) := fun σ G H s E =>
  we_of (pe_lc C.calm C.nd wi_pi ok (fun s H C cl fp => ⟨fun pins s1 _ _ _ u _ I r h => h s H C cl fp pins s1 u I r⟩) (fun s H C cl fp => ⟨fun pins s1 _ _ _ I h => h s H C cl fp pins s1 I⟩) (fun s H C cl fp => ⟨fun pins s1 _ _ _ I h => h s H C cl fp pins s1 I⟩) hs)
    (lc_ hi acc Mf a0 m0 hz turn s E fun v G' H' x d => ⟨G', x, d⟩)
/-- name = [ .. ] -/
theorem s_setLc (i : Nat) {y : Str} {py spos : Pos} {De : DE} (C : Cok X) (hy : X.N[i]? = some y) (hyl : X.env.scope.names.lookup y = some .local) (ok : BlkOk X.N X.env.scope scope own) (hi : ItD stt X tg iter δ M ds M1) (acc : Nat → List D) (Mf : Nat → Mp) (a0 : acc 0 = []) (m0 : Mf 0 = M1) (hz : ds.length ≤ 10000)
    (turn : ∀ i d, ds[i]? = some d → ∃ b r, Turn1 stt X scope tg ifs elt (own.map (·.2)) d δ (Mf i) b r (Mf (i + 1)) ∧ acc (i + 1) = acc i ++ (if b = true then [r] else []))
    (k : De.nx (δ.set i (some (.lst (acc ds.length)))) (Mf ds.length)) (hsw : swapsWith (.ListComp elt [⟨tg, iter, ifs, 0⟩] scope pos) (some (.Name y py)) spos.line X.env = pure true) (hs : ∀ x, foldedSetIterable iter X.env x = pure x := by intro _; rfl) :
    Run1 X (.Assign [.Name y py] (.ListComp elt [⟨tg, iter, ifs, 0⟩] scope pos) spos) δ M De := fun σ G H s E =>
  ws_of (ps_setLc C.calm C.nd hy hyl hsw wi_pi ok (fun s H C cl fp => ⟨fun pins s1 _ _ _ u _ I r h => h s H C cl fp pins s1 u I r⟩) (fun s H C cl fp => ⟨fun pins s1 _ _ _ I h => h s H C cl fp pins s1 I⟩) (fun s H C cl fp => ⟨fun pins s1 _ _ _ I h => h s H C cl fp pins s1 I⟩) hs)
    (lc_ hi acc Mf a0 m0 hz turn s E fun v G' H' x d => ⟨_, _, G', k, x, (E.mono x.g).set d i⟩)
end
end Dr
set_option Elab.async false
set_option linter.all false
set_option maxRecDepth 100000
set_option maxHeartbeats 2000000
namespace Dr
open PySem L2

/-! ### a def of the text keeps its promise -/
def Has (K : PySem.W.Frag) (mg : Str → Option Value) (nm : Str) (st : Stmt) : Prop := ∃ f fd, FunD K nm nm (defArgs st) (defBody st) (defScope st) [] [] f fd ∧ mg nm = some (.ref f)
abbrev Bx (P : Program) (w : World) (K : PySem.W.Frag) (mg : Str → Option Value) (base : Heap) (N : List Str) (nm : Str) (st : Stmt) (f : Addr) (cdv : Value) (A : Around) (outer : List Env) (s : Shared) (H : Hp) (E : XK) : Cx :=
  (cxOf CX0 P w K mg base N nm (defScope st) f cdv A outer s H E).nox
def startD (N : List Str) (ds : List D) : En := ds.map some ++ List.replicate (N.length - ds.length) none
theorem envD_start {K : PySem.W.Frag} {G : Hp} {N : List Str} {vs : List V} {ds : List D} (h : Dts K G vs ds) : EnvD K G (L2.start N vs) (startD N ds) := by
  refine ⟨?_, fun i d q => ?_⟩
  · unfold L2.start startD
    rw [List.length_append, List.length_append, List.length_map, List.length_map, List.length_replicate, List.length_replicate, h.length]
  · unfold startD at q
    unfold L2.start
    by_cases hi : i < ds.length
    · rw [List.getElem?_append_left (by simpa using hi), List.getElem?_map] at q
      rw [List.getElem?_append_left (by rw [List.length_map, h.length]; exact hi), List.getElem?_map]
      cases e : ds[i]? with
      | none => rw [e] at q; cases q
      | some d' =>
        rw [e] at q
        cases q
        obtain ⟨v, h1, h2⟩ := h.get e
        exact ⟨v, by rw [h1]; rfl, h2⟩
    · rw [List.getElem?_append_right (by simpa using hi), List.getElem?_replicate] at q
      split at q <;> cases q
section
variable {P : Program} {w : World} {K : PySem.W.Frag} {mg : Str → Option Value} {base : Heap}
/-- the goal of a body -/
def Goal (d : D) (M' : Mp) : DE := { nx := fun _ M'' => d = .non ∧ SubM M' M'', rt := fun d' M'' => d' = d ∧ SubM M' M'' }
theorem can_of {F : FS} {k : Nat} {nm : Str} {st : Stmt} {N ps : List Str} (hF : Has K mg nm st) (S : FnScope N ps (defScope st)) (len : ∀ ds M d M', F ds M d M' → ds.length = ps.length)
    (bi : ∀ (kV doc pm : Value) (an : Option Addr) (cdv ct : Value) (us : List Value), us.length = ps.length → bindArgs (PySem.W.fnOf nm nm (defArgs st) (defBody st) (defScope st) .none kV doc pm an cdv ct) ⟨us, []⟩ = pure (ps.zip us))
    (run : ∀ (f : Addr) (cdv : Value) (A : Around) (outer : List Env) (s : Shared) (H : Hp) (E : XK), Cok (Bx P w K mg base N nm st f cdv A outer s H E) → Room k (Bx P w K mg base N nm st f cdv A outer s H E).A →
      ∀ ds M d M', F ds M d M' → Run (Bx P w K mg base N nm st f cdv A outer s H E) (defBody st) (startD N ds) M (Goal d M')) : Can P w K mg base (k + 1) nm ps F := by
  obtain ⟨f, fd, FD, hmg⟩ := hF
  refine ⟨f, fd, ?_, FD.bindsN bi, FD.kp, hmg⟩
  refine FD.ok S (fun vs H Q E h => ?_) (fun cdv A outer s H vs Q E hr h => ?_)
  · obtain ⟨G, M, ds, d, M', hF, hs, hd, _⟩ := h
    rw [hd.length]
    exact len _ _ _ _ hF
  · obtain ⟨G, M, ds, d, M', hF, hs, hd, q⟩ := h
    have C : Cok (Bx P w K mg base N nm st f cdv A outer s H E) := ⟨rfl, S.nd, rfl, by
      have := hr.un
      show (A.deeper (PyProof.Rows.envOfC nm (defScope st) s.heap.objs.size f cdv)).units + 200 < cLine
      omega⟩
    refine ⟨_, PSs.nox wss_pss, ?_⟩
    refine (run f cdv A outer s H E C hr ds M d M' hF (L2.start N vs) G H hs (envD_start hd)).mono ⟨fun σ' H' h => ?_, fun v H' h => ?_, fun σ' H' h => ?_, fun σ' H' h => ?_⟩
    · obtain ⟨δ', M2, G', ⟨e, sb⟩, x, _⟩ := h
      exact q .non G' H' (x.sub sb) (e ▸ .non)
    · obtain ⟨d', M2, G', ⟨e, sb⟩, x, dd⟩ := h
      exact q v G' H' (x.sub sb) (e ▸ dd)
    · obtain ⟨_, _, _, h, _⟩ := h
      exact h
    · obtain ⟨_, _, _, h, _⟩ := h
      exact h
end

/-! ### comprehensions that change nothing -/
section
variable {X : Cx} {δ : En} {M M1 : Mp} {pos : Pos} {elt tg iter : Expr} {ifs : List Expr} {scope : Scope} {own : List (Str × Nat)} {ds : List D} {stt : Bool}
/-- one turn that changes nothing -/
def TurnP (stt : Bool) (X : Cx) (scope : Scope) (tg : Expr) (ifs : List Expr) (elt : Expr) (vs : List Nat) (d : D) (δ : En) (M : Mp) (b : Bool) (r : D) : Prop :=
  ∃ js δ', (∀ j ∈ js, j ∈ vs) ∧ ∀ s H C cl fp, TgD stt (Bk X scope s H C cl fp) tg js d (wipeD δ vs) δ' ∧ EvTs (Bk X scope s H C cl fp) ifs δ' M b M ∧ (b = true → Ev (Bk X scope s H C cl fp) elt δ' M r M)
theorem fm_step (p : D → Bool) (f : D → D) (ds : List D) {i : Nat} {d : D} (h : ds[i]? = some d) : ((ds.take (i + 1)).filter p).map f = ((ds.take i).filter p).map f ++ (if p d = true then [f d] else []) := by
  rw [List.take_add_one, h, List.filter_append, List.map_append]
  congr 1
  by_cases hp : p d = true
  · rw [if_pos hp]
    simp [hp]
  · rw [if_neg hp]
    simp [hp]
theorem ev_lcp (p : D → Bool) (f : D → D) (C : Cok X) (ok : BlkOk X.N X.env.scope scope own) (hi : ItD stt X tg iter δ M ds M1) (hz : ds.length ≤ 10000)
    (turn : ∀ d ∈ ds, TurnP stt X scope tg ifs elt (own.map (·.2)) d δ M1 (p d) (f d)) (hs : ∀ x, foldedSetIterable iter X.env x = pure x := by intro _; rfl) :
    Ev X (.ListComp elt [⟨tg, iter, ifs, 0⟩] scope pos) δ M (.lst ((ds.filter p).map f)) M1 := by
  have h := ev_lc (pos := pos) C ok hi (fun i => ((ds.take i).filter p).map f) (fun _ => M1) (by simp) rfl hz (elt := elt) (ifs := ifs) (fun i d hd => by
    obtain ⟨js, δ', h1, h2⟩ := turn d (List.mem_of_getElem? hd)
    exact ⟨p d, f d, ⟨js, δ', M1, h1, fun s H C cl fp => ⟨(h2 s H C cl fp).1, (h2 s H C cl fp).2.1, (h2 s H C cl fp).2.2, fun _ => rfl⟩⟩, fm_step p f ds hd⟩) hs
  rw [List.take_length] at h
  exact h
theorem s_setLcp (i : Nat) (p : D → Bool) (f : D → D) {y : Str} {py spos : Pos} {De : DE} (C : Cok X) (hy : X.N[i]? = some y) (hyl : X.env.scope.names.lookup y = some .local) (ok : BlkOk X.N X.env.scope scope own) (hi : ItD stt X tg iter δ M ds M1) (hz : ds.length ≤ 10000)
    (turn : ∀ d ∈ ds, TurnP stt X scope tg ifs elt (own.map (·.2)) d δ M1 (p d) (f d))
    (k : De.nx (δ.set i (some (.lst ((ds.filter p).map f)))) M1) (hsw : swapsWith (.ListComp elt [⟨tg, iter, ifs, 0⟩] scope pos) (some (.Name y py)) spos.line X.env = pure true) (hs : ∀ x, foldedSetIterable iter X.env x = pure x := by intro _; rfl) :
    Run1 X (.Assign [.Name y py] (.ListComp elt [⟨tg, iter, ifs, 0⟩] scope pos) spos) δ M De :=
  s_setLc (pos := pos) i C hy hyl ok hi (fun i => ((ds.take i).filter p).map f) (fun _ => M1) (by simp) rfl hz (elt := elt) (ifs := ifs) (fun i d hd => by
    obtain ⟨js, δ', h1, h2⟩ := turn d (List.mem_of_getElem? hd)
    exact ⟨p d, f d, ⟨js, δ', M1, h1, fun s H C cl fp => ⟨(h2 s H C cl fp).1, (h2 s H C cl fp).2.1, (h2 s H C cl fp).2.2, fun _ => rfl⟩⟩, fm_step p f ds hd⟩) (by rw [List.take_length]; exact k) hsw hs
theorem ts_nil : EvTs X [] δ M true M := fun σ G H s E => wts_of pts_nil ⟨rfl, G, Xt.refl s⟩
theorem ts_one {c : Expr} {b : Bool} (h : EvT X c δ M b M1) : EvTs X [c] δ M b M1 := fun σ G H s E => wts_of (pts_one wt_pt) (h σ G H s E)
end

/-! ### what is changed -/
section
variable {X : Cx} {δ : En} {M M1 M2 M3 : Mp} {De : DE} {d : D} {ds : List D} {pos : Pos} {e o a b : Expr} {es : List Expr}
theorem SR.ml {P : Program} {w : World} {K : PySem.W.Frag} {G H : Hp} {M : Mp} {a : Addr} {ds : List D} (s : SR P w K G M H) (hM : M a = some (.ml ds)) : ∃ vs, H a = some (.lst vs) ∧ Dts K G vs ds := by
  obtain ⟨_, u, h1, h2⟩ := s.mu a _ hM
  cases h2 with
  | ml h => exact ⟨_, h1, h⟩
/-- name = [..], a list that will change -/
theorem s_newl (i : Nat) {x : Str} {p' lp : Pos} (C : Cok X) (hi : X.N[i]? = some x) (hx : Loc X.env.scope x) (h : EvA X es δ M ds M1) (hl : ds.length ≤ 1000) (k : ∀ a, M1 a = none → De.nx (δ.set i (some (.adr a))) (updM M1 a (.ml ds))) (hs : swapsWith (.List es lp) (some (.Name x p')) pos.line X.env = pure false := by rfl) (hf : X.fn x = true ∨ X.env.scope.names.lookup x = some .local := by first | exact .inl rfl | exact .inr rfl) :
    Run1 X (.Assign [.Name x p'] (.List es lp) pos) δ M De := fun σ G H s E => by
  refine ws_of (ps_set C.nd hi hx (pe_lst wa_pa) hs hf) ((h σ G H s E).mono fun vs H1 ⟨G1, x1, d1⟩ => ⟨?_, fun p hp => ?_⟩)
  · rw [d1.length]; exact Nat.le_trans hl (by decide)
  · have y := Xt.allocM (m := .ml ds) x1.s hp (.ml d1)
    exact ⟨_, _, G1, k p (x1.s.noM hp), x1.trans y, (E.mono x1.g).set (.adr p) i⟩
theorem tyV_M {P : Program} {w : World} {K : PySem.W.Frag} {G H : Hp} {a : Addr} (s : SR P w K G M H) (hM : M a = some (.ml ds)) : tyV K "list" (.ref a) H := by
  obtain ⟨vs, h1, _⟩ := s.ml hM
  exact .inl ⟨rfl, vs, .of h1⟩
/-- xs.append(e) -/
theorem s_app {l : Addr} {ds0 : List D} {apos cpos : Pos} (ho : Ev X o δ M (.adr l) M) (hM0 : M l = some (.ml ds0)) (h : Ev X e δ M d M1) (hM : M1 l = some (.ml ds)) (hz : ds.length ≤ 10000) (k : De.nx δ (updM M1 l (.ml (ds ++ [d]))))
    (hbase : attributeBase o "append" X.env (eval o X.env) = eval o X.env := by rfl)
    (hfew : ((backTo cpos (starEach [e] X.env)).all (fun x => !x.1) && (backToKw cpos (keywordEach [] X.env)).all (fun x => x.1.isSome)
      && decide ([e].length + ([] : List Keyword).length + (if ([] : List Keyword).isEmpty then 0 else 1) < 30)) = true := by rfl)
    (hline : (apos.endLine == cpos.line) = true := by rfl) (hs : starEach [e] X.env = (false, eval e X.env) :: starEach [] X.env := by rfl) (hplain : (backTo cpos (starEach [] X.env)).any (·.1) = false := by rfl)
    (hsw : swapsWith (.Call (.Attribute o "append" apos) [e] [] cpos) none pos.line X.env = pure false := by rfl) :
    Run1 X (.Expr (.Call (.Attribute o "append" apos) [e] [] cpos) pos) δ M De := fun σ G H s E => by
  refine ws_of (ps_expr (pe_bm PySem.F.plainAttrs_list PySem.F.slot_list_append PySem.F.type_list_append mt_append we_pe (pa_cons we_pe pa_nil hs) hbase hfew hline hs hplain) hsw) ((ho σ G H s E).mono fun v H1 ⟨G1, x1, d1⟩ => ?_)
  rw [dt_adr d1]
  refine ⟨tyV_M x1.s hM0, (h σ G1 H1 x1.s (E.mono x1.g)).mono fun y H2 ⟨G2, x2, d2⟩ => ?_⟩
  obtain ⟨vs, h1, h2⟩ := x2.s.ml hM
  refine ⟨l, vs, y, rfl, rfl, h1, ?_, ?_⟩
  · rw [h2.length]; exact Nat.lt_of_le_of_lt hz (by decide)
  · have y := Xt.mutM (m' := .ml (ds ++ [d])) x2.s hM (.ml (h2.app (.cons d2 .nil)))
    exact ⟨_, _, G2, k, (x1.trans x2).trans y, E.mono (x1.g.trans x2.g)⟩
/-- xs[i] = e -/
theorem s_seti {l : Addr} {i : Int} {j : Nat} {spos : Pos} (h : Ev X e δ M d M1) (ho : Ev X o δ M1 (.adr l) M2) (hi : Ev X a δ M2 (.int i) M3) (hM : M3 l = some (.ml ds)) (hj : ixN ds.length i = some j) (k : De.nx δ (updM M3 l (.ml (ds.set j d))))
    (ha : ∀ v, assign (.Subscript o a spos) X.env v = (do
      let ov ← holding [v] (eval o X.env)
      let iv ← holding [v, ov] (eval a X.env)
      standAt spos
      holding [v, ov, iv] (setItem ov iv v)
      release [v, ov, iv] []) := by intro _; rfl)
    (hs : swapsWithSole [.Subscript o a spos] e pos.line X.env = pure false := by rfl) (hw : swappedStores [.Subscript o a spos] e X.env = pure none := by rfl)
    (h1 : (assignEach [.Subscript o a spos] X.env).map (·.2) = [assign (.Subscript o a spos) X.env] := by rfl) : Run1 X (.Assign [.Subscript o a spos] e pos) δ M De := fun σ G H s E => by
  refine ws_of (ps_asg we_pe (pg_sub we_pe we_pe set_list ha) hs hw h1) ((h σ G H s E).mono fun v H1 ⟨G1, x1, d1⟩ => ?_)
  refine (ho σ G1 H1 x1.s (E.mono x1.g)).mono fun v2 H2 ⟨G2, x2, d2⟩ => ?_
  refine (hi σ G2 H2 x2.s (E.mono (x1.g.trans x2.g))).mono fun v3 H3 ⟨G3, x3, d3⟩ => ?_
  rw [dt_adr d2, dt_int d3]
  obtain ⟨vs, h5, h6⟩ := x3.s.ml hM
  refine ⟨l, vs, i, j, rfl, rfl, h5, by rw [h6.length]; exact hj, ?_⟩
  have xx := (x1.trans x2).trans x3
  have y := Xt.mutM (m' := .ml (ds.set j d)) x3.s hM (.ml (h6.set (d1.mono (x2.g.trans x3.g)) j))
  exact ⟨_, _, G3, k, xx.trans y, E.mono xx.g⟩
/-- xs.pop(i) -/
theorem ev_pop {l : Addr} {i : Int} {j : Nat} {ds0 : List D} {apos cpos : Pos} (ho : Ev X o δ M (.adr l) M) (hM0 : M l = some (.ml ds0)) (h : Ev X e δ M (.int i) M1) (hM : M1 l = some (.ml ds)) (hi : 0 ≤ i) (hj : i.toNat = j) (hd : ds[j]? = some d) (hz : ds.length ≤ 10000)
    (hbase : attributeBase o "pop" X.env (eval o X.env) = eval o X.env := by rfl)
    (hfew : ((backTo cpos (starEach [e] X.env)).all (fun x => !x.1) && (backToKw cpos (keywordEach [] X.env)).all (fun x => x.1.isSome)
      && decide ([e].length + ([] : List Keyword).length + (if ([] : List Keyword).isEmpty then 0 else 1) < 30)) = true := by rfl)
    (hline : (apos.endLine == cpos.line) = true := by rfl) (hs : starEach [e] X.env = (false, eval e X.env) :: starEach [] X.env := by rfl) (hplain : (backTo cpos (starEach [] X.env)).any (·.1) = false := by rfl) :
    Ev X (.Call (.Attribute o "pop" apos) [e] [] cpos) δ M d (updM M1 l (.ml (ds.eraseIdx j))) := fun σ G H s E => by
  refine we_of (pe_bm PySem.F.plainAttrs_list PySem.F.slot_list_pop PySem.F.type_list_pop mt_popAt we_pe (pa_cons we_pe pa_nil hs) hbase hfew hline hs hplain) ((ho σ G H s E).mono fun v H1 ⟨G1, x1, d1⟩ => ?_)
  rw [dt_adr d1]
  refine ⟨tyV_M x1.s hM0, (h σ G1 H1 x1.s (E.mono x1.g)).mono fun y H2 ⟨G2, x2, d2⟩ => ?_⟩
  rw [dt_int d2]
  obtain ⟨vs, h1, h2⟩ := x2.s.ml hM
  obtain ⟨v, hv, dv⟩ := h2.get hd
  have hlt : j < ds.length := (List.getElem?_eq_some_iff.mp hd).1
  have hix : seqIndex? i vs.length = some j := by
    have e := (ixN_seq (n := vs.length) (i := i) (j := j) (by unfold ixN; rw [if_pos hi, if_pos (by rw [h2.length]; omega), hj])).1
    exact e
  refine ⟨l, vs, i, j, v, rfl, rfl, h1, by omega, by omega, hix, hv, ?_⟩
  have h3 : Dts X.K G2 (vs.eraseIdx j) (ds.eraseIdx j) := by
    rw [List.eraseIdx_eq_take_drop_succ, List.eraseIdx_eq_take_drop_succ]
    exact (h2.take j).app (h2.drop (j + 1))
  have y := Xt.mutM (m' := .ml (ds.eraseIdx j)) x2.s hM (.ml h3)
  exact ⟨G2, (x1.trans x2).trans y, dv⟩
/-- a list that changed is told as it stands, for ever -/
theorem ev_freeze {l : Addr} (ho : Ev X e δ M (.adr l) M1) (hM : M1 l = some (.ml ds)) : Ev X e δ M (.lst ds) (eraM M1 l) := fun σ G H s E => by
  refine (ho σ G H s E).mono fun v H1 ⟨G1, x1, d1⟩ => ?_
  rw [dt_adr d1]
  obtain ⟨vs, h1, h2, y⟩ := Xt.freeze x1.s hM
  exact ⟨_, x1.trans y, .lst upd_same (h2.mono y.g)⟩
/-- nothing may change -/
def Mz : Mp := fun _ => none
/-- read as if it stood -/
theorem borrow {P : Program} {w : World} {K : PySem.W.Frag} {G H : Hp} {l : Addr} {σ : St} {i : Nat} (s : SR P w K G M H) (E : EnvD K G σ δ) (hM : M l = some (.ml ds)) (hi : δ[i]? = some (some (.adr l))) :
    ∃ vs, H l = some (.lst vs) ∧ SR P w K (upd G l (.lst vs)) Mz H ∧ EnvD K (upd G l (.lst vs)) σ (δ.set i (some (.lst ds))) := by
  obtain ⟨vs, h1, h2, y⟩ := Xt.freeze s hM
  refine ⟨vs, h1, y.s.sub (fun a m q => nomatch (show (none : Option Mob) = some m from q)), by rw [List.length_set]; exact E.len, fun j d q => ?_⟩
  rw [List.getElem?_set] at q
  split at q
  · rename_i hij
    subst hij
    split at q
    · cases q
      obtain ⟨v, h3, h4⟩ := E.at_ i _ hi
      rw [dt_adr h4] at h3
      exact ⟨_, h3, .lst upd_same (h2.mono y.g)⟩
    · cases q
  · exact (E.mono y.g).at_ j d q
theorem unborrow {P : Program} {w : World} {K : PySem.W.Frag} {G G' H H' : Hp} {l : Addr} {vs : List V} {ds : List D} (s : SR P w K G M H) (hM : M l = some (.ml ds)) (h1 : H l = some (.lst vs)) (x : Xt P w K (upd G l (.lst vs)) Mz H G' Mz H') :
    ∃ G2, Xt P w K G M H G2 M H' ∧ ∀ a us, StT G' a us → StT G2 a us := by
  obtain ⟨gl, u, h2, h3⟩ := s.mu l _ hM
  rw [h1] at h2
  cases h2
  have gl' : G' l = some (.lst vs) := x.g l _ upd_same
  have eg : Ex G fun a => if a = l then none else G' a := fun a o q => by
    have na : a ≠ l := fun z => by subst z; rw [gl] at q; cases q
    show (if a = l then none else G' a) = some o
    rw [if_neg na]
    exact x.g a o (by rw [upd_ne na]; exact q)
  refine ⟨fun a => if a = l then none else G' a, ⟨eg, ⟨fun a o q => ?_, fun a m q => ?_⟩, fun a o q n => x.fr a o q rfl, fun a q => ?_, fun a q => .inl q, x.dm⟩, fun a us h => ?_⟩
  · have q : (if a = l then none else G' a) = some o := q
    by_cases z : a = l
    · rw [if_pos z] at q; cases q
    · rw [if_neg z] at q; exact x.s.ex a o q
  · obtain ⟨h7, o2, h8, h9⟩ := s.mu a m q
    refine ⟨?_, o2, x.fr a o2 h8 rfl, h9.mono eg⟩
    show (if a = l then none else G' a) = none
    by_cases z : a = l
    · rw [if_pos z]
    · rw [if_neg z]
      cases q2 : G' a with
      | none => rfl
      | some o =>
        rcases x.ng a (by rw [q2]; intro z; cases z) with h | h | h
        · rw [upd_ne z] at h; exact absurd h7 h
        · rw [h8] at h; cases h
        · exact absurd rfl h
  · have q : (if a = l then none else G' a) ≠ none := q
    by_cases z : a = l
    · rw [if_pos z] at q; exact absurd rfl q
    · rw [if_neg z] at q
      rcases x.ng a q with h | h | h
      · rw [upd_ne z] at h; exact .inl h
      · exact .inr (.inl h)
      · exact absurd rfl h
  · obtain ⟨o, h4, h5⟩ := h
    have na : a ≠ l := fun z => by subst z; rw [gl'] at h4; cases h4
    exact ⟨o, by show (if a = l then none else G' a) = _; rw [if_neg na]; exact h4, h5⟩
theorem ev_borrow (i : Nat) {l : Addr} (hi : δ[i]? = some (some (.adr l))) (hM : M l = some (.ml ds)) (h : Ev X e (δ.set i (some (.lst ds))) Mz d Mz) (hd : d.fix = true) : Ev X e δ M d M := fun σ G H s E => by
  obtain ⟨vs, h1, s2, E2⟩ := borrow s E hM hi
  refine (h σ _ H s2 E2).mono fun v H1 ⟨G1, x1, d1⟩ => ?_
  obtain ⟨G2, x2, k2⟩ := unborrow s hM h1 x1
  exact ⟨G2, x2, d1.fixed k2 hd⟩
theorem et_borrow (i : Nat) {l : Addr} {b : Bool} (hi : δ[i]? = some (some (.adr l))) (hM : M l = some (.ml ds)) (h : EvT X e (δ.set i (some (.lst ds))) Mz b Mz) : EvT X e δ M b M := fun σ G H s E => by
  obtain ⟨vs, h1, s2, E2⟩ := borrow s E hM hi
  refine (h σ _ H s2 E2).mono fun v H1 ⟨hb, G1, x1⟩ => ?_
  obtain ⟨G2, x2, k2⟩ := unborrow s hM h1 x1
  exact ⟨hb, G2, x2⟩
end
end Dr
set_option Elab.async false
set_option linter.all false
set_option maxRecDepth 100000
set_option maxHeartbeats 2000000
/-! enumerate over a tuple -/
namespace Dr
open PySem L2

section
open PySem.AutoSeq1 (wpAny_loadPart')
set_option maxHeartbeats 1000000 in
theorem meets_enumerate_newB1 {v : Value} {o : Obj} {H : Heap → Prop} (B : Begins v o H) :
    Meets (Builtin.«enumerate.__new__» ⟨[.type "enumerate", v], []⟩) (fun _ R s => H s.heap ∧
      R (.ok (.ret (.ref (s.heap.push o).objs.size))) { s with heap := (s.heap.push o).push { cls := .type "enumerate", data := .fields #[.none, .bool false, .ref s.heap.objs.size, rawInt 0, .none, .none] } }) :=
  .of_wp fun prog w A R s h => by
    obtain ⟨hp, g, d, tk, os⟩ := s; obtain ⟨h1, h⟩ := h
    have hsub := sub_enumerate
    have q1 : ∀ {A' : Around} {E : Value → Shared → Prop} {Q : Value → Shared → Prop}, Q (.ref hp.objs.size) ⟨hp.push o, g, d, tk, os⟩ → wpAny (model prog w) A' (pyIter v) Q E ⟨hp, g, d, tk, os⟩ :=
      fun q => B.iter prog w _ _ ⟨hp, g, d, tk, os⟩ _ h1 q
    wp_walk using q1
    refine wpAny_stack_any fun st => wpAny_pure ?_
    split
    · rename_i c _ _ _ _ _
      cases (c == Value.type "enumerate")
      · wp_walk using q1
        exact ⟨_, rfl, h⟩
      · wp_walk using q1
        exact ⟨_, rfl, h⟩
    · wp_walk using q1
      exact ⟨_, rfl, h⟩
theorem enum_begins1 {prog : Program} {w : World} {A : Around} {E : Value → Shared → Prop} {s : Shared} {v : Value} {o : Obj} {H : Heap → Prop} {Q : Value → Shared → Prop} (B : Begins v o H) (h1 : H s.heap)
    (h : ∀ h', IsEnum h' (s.heap.objs.size + 1) s.heap.objs.size 0 .none → h'.get? s.heap.objs.size = some o → h'.objs.size = s.heap.objs.size + 2 →
      (∀ b o, s.heap.get? b = some o → h'.get? b = some o) → Q (.ref (s.heap.objs.size + 1)) { s with heap := h' }) :
    wpAny (model prog w) A (call (.type "enumerate") [v]) Q E s := by
  refine callType_new F.called_enumerate (by decide) (F.typeCall_enumerate_1 _) (F.newCall_enumerate_1 _) (fun obj => F.args_object_init_2 obj _) F.entry_enumerate_new
    (meets_enumerate_newB1 B) ⟨h1, ?_⟩
  have hz : (s.heap.push o).objs.size = s.heap.objs.size + 1 := Heap.size_push ..
  show _ ∧ _
  rw [hz]
  have he : IsEnum ((s.heap.push o).push { cls := .type "enumerate", data := .fields #[.none, .bool false, .ref s.heap.objs.size, rawInt 0, .none, .none] }) (s.heap.objs.size + 1) s.heap.objs.size 0 .none := by
    have := Heap.get?_push_size (s.heap.push o) (o := { cls := .type "enumerate", data := .fields #[.none, .bool false, .ref s.heap.objs.size, rawInt 0, .none, .none] }) rfl
    rw [hz] at this; exact this
  refine ⟨⟨_, he, rfl⟩, h _ he (Heap.get?_push_of_some _ (Heap.get?_push_size _ B.free)) (by rw [Heap.size_push, hz]) fun b o x => Heap.get?_push_of_some _ (Heap.get?_push_of_some _ x)⟩
end
def Itet (K : PySem.W.Frag) (a : Addr) : It :=
  ⟨fun i H => ∃ xs x, SqT K H a xs ∧ xs[i]? = some x, fun i H v H' => ∃ T x, v = .ref T ∧ H T = none ∧ H' = upd H T (.tup [.int (i : Nat), x]) ∧ ∀ xs, SqT K H a xs → xs[i]? = some x, fun i H => ∃ xs, SqT K H a xs ∧ xs.length = i⟩
theorem turn_enumT {P : Program} {w : World} {K : PySem.W.Frag} {elts : List Expr} {kk : Nat} {tpos : Pos} (a e it : Addr) (hea : e ≠ a) (hia : it ≠ a) :
    Turn P w K (.Tuple elts kk tpos) (Itet K a) [e, it] e (fun i h => (∃ old, IsEnum h e it ((i : Nat) : Int) old) ∧ h.IsTupleIter it a i ∧ e ≠ it) where
  mem := by simp
  obj := fun i h st b hb => by
    obtain ⟨⟨old, he⟩, ⟨o, ho, hc, hd⟩, _⟩ := st
    have e' : b = e ∨ b = it := by simpa using hb
    rcases e' with z | z
    · rw [z]; exact ⟨_, he, fun v q => nomatch q⟩
    · rw [z]; exact ⟨o, ho, fun v q => by rw [hd] at q; cases q⟩
  keep := fun i h h' st k => let ⟨⟨old, he⟩, hi, hne⟩ := st; ⟨⟨old, k e (by simp) _ he⟩, hi.at fun o q => k it (by simp) o q, hne⟩
  item := by
    intro X hP hw hK hc i pins s σ H E I hf st hg
    subst hP hw hK
    obtain ⟨⟨old, he⟩, hit, hne⟩ := st
    obtain ⟨xs, x, hq, hx⟩ := hg
    obtain ⟨its, rv, p, hz⟩ := I.tuple hq
    obtain ⟨u, hu, ru⟩ := rv.get hx
    have hel : e < s.heap.objs.size := Heap.lt_size he
    have hil : it < s.heap.objs.size := by obtain ⟨_, q, _⟩ := hit; exact Heap.lt_size q
    have hlt : i < its.toArray.size := by
      have h1 := (List.getElem?_eq_some_iff.mp hu).1
      simpa using h1
    refine wpAny_pyNext_enum_itemD (Draws.tuple (A := X.A.in1) (I.ok.hd hc) it a (Ne.symm hia) its.toArray) he ⟨hit, p⟩ hlt hne (by simp [hne, hea]) fun x2 h' tk hP ho hst' hT hsz hk => ?_
    have ex2 : x2 = u := by
      have h1 : its.toArray[i]? = some u := by simpa using hu
      rw [h1] at hP
      exact (Option.some.inj hP).symm
    subst ex2
    refine ⟨_, rfl, wpAny_letOwnedTupleGo_enum (s := { s with heap := h', toks := tk + 1 }) ho fun h'' he' sb => ?_⟩
    have hT2 : h''.get? s.heap.objs.size = some { cls := .type "tuple", data := .seq #[.int i tk, x2] } := (sb.2 _ (Nat.ne_of_gt hel)).trans hT
    have new : ObjOk X.prog X.w (upd H s.heap.objs.size (.tup [.int (i : Nat), x])) h'' s.heap.objs.size (.tup [.int (i : Nat), x]) :=
      ⟨by show 2 ≤ sizeLine; decide, [.int i tk, x2], .cons ⟨_, rfl⟩ (.cons ru .nil), ⟨_, hT2, rfl, _, rfl⟩⟩
    have I1 : Inv X pins σ (upd H s.heap.objs.size (.tup [.int (i : Nat), x])) { s with heap := h'', toks := tk + 1 } :=
      I.turnedNew (ch := [e, it]) (fun b ob hb q => (sb.2 b (fun z => hb (by simp [z]))).trans (hk b ob (fun z => hb (by simp [z])) (fun z => hb (by simp [z])) q)) hf (Nat.le_refl _) new
    refine ⟨.ref s.heap.objs.size, _, I1, rfl, ⟨_, x, rfl, I.hok.fresh (Nat.le_refl _), rfl, fun ys hy => by rw [I.tuple_inj hy hq]; exact hx⟩, ⟨⟨x2, ?_⟩, hst'.1.at fun o q => (sb.2 it (Ne.symm hne)).trans q, hne⟩, fun b hb => ?_⟩
    · have e1 : ((i + 1 : Nat) : Int) = (i : Int) + 1 := by omega
      rw [e1]; exact he'
    · have hb' : b < s.heap.objs.size := by
        have e' : b = e ∨ b = it := by simpa using hb
        rcases e' with z | z
        · rw [z]; exact hel
        · rw [z]; exact hil
      rw [upd_ne (Nat.ne_of_lt hb')]
      exact (hf b hb).1
  done := by
    intro X hP hw hK hc i pins s σ H E I hf st hg
    subst hP hw hK
    obtain ⟨⟨old, he⟩, hit, hne⟩ := st
    obtain ⟨xs, hq, hx⟩ := hg
    obtain ⟨its, rv, p, hz⟩ := I.tuple hq
    obtain ⟨f0, f1, f2, f3, f4, f5⟩ := hf it (by simp)
    have hl := rv.length
    have ei : i = its.toArray.size := by rw [List.size_toArray]; omega
    subst ei
    exact wpAny_pyNext_enum_endD (Draws.tuple (A := X.A.in1) (I.ok.hd hc) it a (Ne.symm hia) its.toArray) he ⟨hit, p⟩ fun h' eb => ⟨rfl, I.turned (t' := s.toks) (fun b o hb q => eb b o hb q) f0 f1 f3 f4 f5⟩
  self := fun A i s Q E st h => let ⟨⟨_, he⟩, _⟩ := st; wpAny_pyIter_enum he h

def iEnumT (K : PySem.W.Frag) (ta : TA) : TI := fun σ H R => ta σ H fun vs H1 => ∃ a xs, vs = [.ref a] ∧ H1 a ≠ none ∧ SqT K H1 a xs ∧ R (Itet K a) H1
theorem pi_enumT {X : Cx} {e : Expr} {ta : TA} {p pos tpos : Pos} {elts : List Expr} {kk : Nat} (hg : Gl X "enumerate") (hm : X.mg "enumerate" = none) (ha : PA X [e] ta) (hs : starEach [e] X.env = [(false, eval e X.env)] := by rfl) :
    PI X (.Tuple elts kk tpos) (.Call (.Name "enumerate" p) [e] [] pos) (iEnumT X.K ta) := by
  refine ⟨fun pins s σ H R I h => ?_⟩
  refine PyProof.Rows.Call_ (ld_blt I hg hm PyProof.Rows.boot_enumerate (PyProof.Rows.callWith_type1 (thn (ha.run pos pins s σ H _ I h) fun us s1 ⟨vs, H1, I1, r1, q1⟩ => ?_) hs rfl))
  obtain ⟨a, xs, ex, hn, hq, q⟩ := q1
  subst ex
  cases r1 with
  | cons r rr =>
    cases rr
    cases r
    obtain ⟨its, rv, p', hz⟩ := I1.tuple hq
    refine enum_begins1 (begins_tuple a its.toArray) (show s1.heap.IsTuple a its.toArray from p') fun h' he hit hsz hk => wpAny_pyIter_enum he ?_
    have I2 : Inv X pins σ H1 { s1 with heap := h' } := I1.kept (t' := s1.toks) hk
    have hlt : a < s1.heap.objs.size := by
      obtain ⟨o, ho, _⟩ := p'
      exact Heap.lt_size ho
    refine ⟨s1.heap.objs.size + 1, [s1.heap.objs.size + 1, s1.heap.objs.size], _, _, H1, rfl, I2, turn_enumT a (s1.heap.objs.size + 1) s1.heap.objs.size (Nat.ne_of_gt (Nat.lt_succ_of_lt hlt)) (Nat.ne_of_gt hlt), ⟨⟨.none, he⟩, ⟨_, hit, rfl, rfl⟩, Nat.succ_ne_self _⟩, fun b hb => ?_, q⟩
    have e' : b = s1.heap.objs.size + 1 ∨ b = s1.heap.objs.size := by simpa using hb
    have hle : s1.heap.objs.size ≤ b := by
      rcases e' with z | z
      · rw [z]; exact Nat.le_add_right _ _
      · rw [z]; exact Nat.le_refl _
    exact I1.fpOk hle (I1.hok.fresh hle)
/-- the pairs that enumerate gives -/
def enumD (ds : List D) : List D := (List.range ds.length).map fun i => .tup [.int (i : Nat), ds.getD i .non]
theorem enumD_len (ds : List D) : (enumD ds).length = ds.length := by unfold enumD; rw [List.length_map, List.length_range]
theorem enumD_at {ds : List D} {i : Nat} {d : D} (h : ds[i]? = some d) : (enumD ds)[i]? = some (.tup [.int (i : Nat), d]) := by
  unfold enumD
  have hl := (List.getElem?_eq_some_iff.mp h).1
  rw [List.getElem?_map, List.getElem?_range hl]
  show some (D.tup [.int (i : Nat), ds.getD i .non]) = _
  rw [List.getD_eq_getElem?_getD, h]
  rfl
theorem enumD_mem {ds : List D} {e : D} (h : e ∈ enumD ds) : ∃ (i : Nat) (d : D), ds[i]? = some d ∧ e = .tup [.int (i : Nat), d] := by
  unfold enumD at h
  obtain ⟨i, hi, rfl⟩ := List.mem_map.mp h
  have hl := List.mem_range.mp hi
  exact ⟨i, ds[i], by simp [hl], by rw [List.getD_eq_getElem?_getD, List.getElem?_eq_getElem hl]; rfl⟩
theorem it_enum {X : Cx} {δ : En} {M M1 : Mp} {e : Expr} {ds : List D} {pos p tpos : Pos} {elts : List Expr} {kk : Nat} (hm : X.mg "enumerate" = none) (h : Ev X e δ M (.tup ds) M1) (hg : Gl X "enumerate" := by rfl) (hs : starEach [e] X.env = [(false, eval e X.env)] := by rfl) :
    ItD false X (.Tuple elts kk tpos) (.Call (.Name "enumerate" p) [e] [] pos) δ M (enumD ds) M1 := fun σ G H s E => by
  have hs' : starEach [e] X.env = (false, eval e X.env) :: starEach [] X.env := hs
  refine wi_of (pi_enumT hg hm wa_pa hs) ((ea_cons h ea_nil hs' σ G H s E).mono fun vs H1 ⟨G1, x1, d1⟩ => ?_)
  obtain ⟨v, rfl, d⟩ := dts1 d1
  cases d with
  | @tup a vs _ h3 h4 =>
    have hr : ∀ {H}, Ex G1 H → SqT X.K H a vs := fun e => ex_t e h3.sq
    refine ⟨a, vs, rfl, ?_, hr x1.s.ex, G1, x1, ⟨fun i H hi e => ?_, fun H e => ?_, fun i H x H' hi e y G2 M2 s2 e2 => ?_⟩⟩
    · obtain ⟨o, h5, _⟩ := h3
      rw [x1.s.ex _ _ h5]
      intro z
      cases z
    · rw [enumD_len] at hi
      exact ⟨vs, vs[i]'(by rw [h4.length]; exact hi), hr e, by simp⟩
    · exact ⟨vs, hr e, by rw [enumD_len]; exact h4.length⟩
    · obtain ⟨T, x0, rfl, hT, rfl, hx⟩ := y
      obtain ⟨d0, hd0, dd0⟩ := h4.getV (hx vs (hr e))
      refine ⟨upd G2 T (.tup [.int (i : Nat), x0]), _, enumD_at hd0, Xt.alloc s2 hT, .inr ⟨rfl, T, _, _, rfl, rfl, .of upd_same, .cons (.int _) (.cons (dd0.mono (e2.trans (Ex.new (s2.noG hT)))) .nil)⟩⟩
end Dr
set_option Elab.async false
set_option linter.all false
set_option maxRecDepth 100000
set_option maxHeartbeats 2000000
namespace Dr
open PySem L2

/-! ### t.index(i), t a tuple of ints that stands -/
theorem mt_tup_indexI {X : Cx} : MtR X "tuple.index" (fun x xs H Q => ∃ p, ∃ ys : List Int, ∃ (z : Int) (j : Nat), x = .ref p ∧ xs = [.int z] ∧ SqT X.K H p (ys.map V.int) ∧ ys[j]? = some z ∧ (∀ m, m < j → ys[m]? ≠ some z) ∧ Q (.int (j : Nat)) H) := by
  intro pins s σ H x xs v us Q I rx rs h
  obtain ⟨p, ys, z, j, rfl, rfl, hq, hy, hno, q⟩ := h
  cases rx
  obtain ⟨u, rfl, t, rfl⟩ := vals1 rs
  obtain ⟨its, r, pl, hz⟩ := I.tuple hq
  obtain ⟨⟨cls, dd, dt, sl⟩, ho, hc, n, hd⟩ := pl
  simp only at hc hd
  subst hc
  subst hd
  have hl : its.toArray.size = ys.length := by rw [List.size_toArray, ← r.length, List.length_map]
  have hj : j < its.toArray.size := by rw [hl]; exact (List.getElem?_eq_some_iff.mp hy).1
  have at' : ∀ (m : Nat) (hm : m < its.toArray.size), ∃ y t', ys[m]? = some y ∧ its.toArray[m] = Value.int y t' := fun m hm => by
    have hm' : m < ys.length := by rw [← hl]; exact hm
    obtain ⟨w, hw, t', hw'⟩ := r.get (i := m) (x := .int ys[m]) (by simp [hm'])
    refine ⟨ys[m], t', List.getElem?_eq_getElem hm', ?_⟩
    have e := (List.getElem?_eq_some_iff.mp hw).2
    rw [← hw', ← e]
    simp
  refine call_meets PySem.F.slot_tuple_index ⟨_, ho, rfl⟩ PySem.F.entry_tuple_index (PySem.F.args_tuple_index_2 _ _) (TI.tuple_indexAt p its.toArray n dd sl (.int z t) (eqU (.int z)) j hj ?_ ?_)
    ⟨ho, fun w hw => mem_eqAt (x := .int z) ⟨t, rfl⟩ rfl r (flat_ints ys) w (by simpa using hw), ⟨.int (j : Nat), H, I.tok _, ⟨_, rfl⟩, q⟩⟩
  · obtain ⟨y, t', h1, h2⟩ := at' j hj
    rw [hy] at h1
    cases h1
    rw [h2]
    show (z == z) = true
    exact beq_self_eq_true z
  · intro m hm hmj
    obtain ⟨y, t', h1, h2⟩ := at' m hm
    rw [h2]
    show (y == z) = false
    exact beq_eq_false_iff_ne.mpr fun e => hno m hmj (e ▸ h1)
def tBMZ (T : String) (r : V → List V → Hp → VK → Prop) (to : TE) (t : TA) : TE := fun σ H Q => to σ H fun x H1 => (∃ a vs, x = .ref a ∧ T = "tuple" ∧ StT H1 a vs) ∧ t σ H1 fun xs H2 => r x xs H2 Q
theorem pe_bmZ {X : Cx} {o e : Expr} {es : List Expr} {to : TE} {t : TA} {name : Str} {apos cpos : Pos} {T id : String} {r : V → List V → Hp → VK → Prop} (pa : PlainAttrs T) (slot : Slot T name id) (hty : typeOf (.builtin id) = pure (.type "method_descriptor")) (hm : MtR X id r) (ho : PE X o to) (ha : PA X (e :: es) t)
    (hbase : attributeBase o name X.env (eval o X.env) = eval o X.env := by rfl)
    (hfew : ((backTo cpos (starEach (e :: es) X.env)).all (fun x => !x.1) && (backToKw cpos (keywordEach [] X.env)).all (fun x => x.1.isSome)
      && decide ((e :: es).length + ([] : List Keyword).length + (if ([] : List Keyword).isEmpty then 0 else 1) < 30)) = true := by rfl)
    (hline : (apos.endLine == cpos.line) = true := by rfl) (hs : starEach (e :: es) X.env = (false, eval e X.env) :: starEach es X.env := by rfl) (hplain : (backTo cpos (starEach es X.env)).any (·.1) = false := by rfl) :
    PE X (.Call (.Attribute o name apos) (e :: es) [] cpos) (tBMZ T r to t) := by
  refine ⟨fun pins s σ H Q I h => ?_⟩
  refine wpAny_Call_method_late hbase hfew hline rfl (thn (ho.run pins s σ H _ I h) fun v s1 ⟨x, H1, I1, r1, ty, q1⟩ => ?_)
  obtain ⟨a, vs, rfl, rfl, ob, hob, hdn⟩ := ty
  cases r1
  obtain ⟨hget, hz, its, rv, o2, ho2, hc2, _⟩ := I1.hok a _ hob
  have h1 : s1.TypeIs (.ref a) "tuple" := ⟨o2, ho2, hc2⟩
  have h2 : ∀ b, Value.ref a = .ref b → ∃ ob, s1.heap.get? b = some ob ∧ ob.dict = none := fun b e => by
    cases e
    exact ⟨ob, hget, hdn⟩
  refine ⟨"tuple", id, pa, slot, hty, h1, h2, ?_⟩
  have hA := ha.run cpos pins s1 σ H1 _ I1 q1
  rw [hs] at hA ⊢
  refine Calls.callWith_builtin (by show (false || (backTo cpos (starEach es X.env)).any (·.1)) = false; rw [hplain] <;> rfl) (Calls.evalArgs_plain ?_)
  exact thn hA fun us s2 ⟨vs, H2, I2, r2, q2⟩ => hm pins s2 σ H2 (.ref a) vs (.ref a) us Q I2 rfl r2 q2
section
variable {X : Cx} {δ : En} {M M1 M2 M3 : Mp} {d : D} {ds : List D} {pos p : Pos} {e o a b : Expr} {es : List Expr}
theorem e_index {ns : List Int} {z : Int} {j : Nat} {apos cpos : Pos} (ho : Ev X o δ M (D.ti ns) M) (h : Ev X e δ M (.int z) M) (hj : ns[j]? = some z) (hno : ∀ m, m < j → ns[m]? ≠ some z)
    (hbase : attributeBase o "index" X.env (eval o X.env) = eval o X.env := by rfl)
    (hfew : ((backTo cpos (starEach [e] X.env)).all (fun x => !x.1) && (backToKw cpos (keywordEach [] X.env)).all (fun x => x.1.isSome)
      && decide ([e].length + ([] : List Keyword).length + (if ([] : List Keyword).isEmpty then 0 else 1) < 30)) = true := by rfl)
    (hline : (apos.endLine == cpos.line) = true := by rfl) (hs : starEach [e] X.env = (false, eval e X.env) :: starEach [] X.env := by rfl) (hplain : (backTo cpos (starEach [] X.env)).any (·.1) = false := by rfl) :
    Ev X (.Call (.Attribute o "index" apos) [e] [] cpos) δ M (.int j) M := fun σ G H s E => by
  refine we_of (pe_bmZ PySem.F.plainAttrs_tuple PySem.F.slot_tuple_index PySem.F.type_tuple_index mt_tup_indexI we_pe (pa_cons we_pe pa_nil hs) hbase hfew hline hs hplain) ((ho σ G H s E).mono fun v H1 ⟨G1, x1, d1⟩ => ?_)
  cases d1 with
  | @tup a vs _ h3 h4 =>
    refine ⟨⟨a, vs, rfl, rfl, h3.mono x1.s.ex⟩, (h σ G1 H1 x1.s (E.mono x1.g)).mono fun y H2 ⟨G2, x2, d2⟩ => ?_⟩
    rw [dt_int d2]
    have e4 := Dts.to_ints h4
    subst e4
    exact ⟨a, ns, z, j, rfl, rfl, ex_t (x2.g.trans x2.s.ex) h3.sq, hj, hno, G2, x1.trans x2, .int _⟩

/-! ### slices of tuples and lists -/
def rSlZ (K : PySem.W.Frag) : V → Option Int → Option Int → Hp → VK → Prop := fun x lo hi H Q => ∃ a xs, x = .ref a ∧ SqT K H a xs ∧
  (HT.sIx xs.length 0 lo = 0 ∧ HT.sIx xs.length xs.length hi = xs.length → Q (.ref a) H) ∧ (¬ (HT.sIx xs.length 0 lo = 0 ∧ HT.sIx xs.length xs.length hi = xs.length) → ∀ p (o : Obj), H p = none → o.dict = none → Q (.ref p) (upd H p (.frz o (.tup (cutV xs lo hi)))))
theorem sl_tupZ : SlR X (rSlZ X.K) := by
  intro pins s σ H x v vl vu lo hi sl Q I rx hs pl pu h
  obtain ⟨a, xs, rfl, hx, q1, q2⟩ := h
  cases rx
  obtain ⟨its, r, ht, hz⟩ := I.tuple hx
  have hlen : its.toArray.size = xs.length := by rw [List.size_toArray]; exact r.length.symm
  refine ⟨"tuple", _, PyProof.Rows.slot_tuple_getitem.lookup, ht.typeIs, ?_⟩
  by_cases hw : HT.sIx xs.length 0 lo = 0 ∧ HT.sIx xs.length xs.length hi = xs.length
  · exact getItem_tuple_whole ht hs pl pu (by rw [hlen]; exact hw) ⟨.ref a, H, I, rfl, q1 hw⟩
  · refine HT.getItem_tuple_cut ht hs pl pu (by rw [hlen]; exact hw) ?_ (by rw [hlen]; exact hz)
    rw [hlen]
    refine ⟨.ref s.heap.objs.size, _, I.laid (t' := s.toks) (o := .frz { cls := .type "tuple", data := .seq ((its.drop (HT.sIx xs.length 0 lo)).take (HT.sIx xs.length xs.length hi - HT.sIx xs.length 0 lo)).toArray } (.tup (cutV xs lo hi))) (fun b ob q => Heap.get?_push_of_some _ q) (Nat.le_refl _) ?_, rfl, q2 hw _ _ (I.hok.fresh (Nat.le_refl _)) rfl⟩
    exact ⟨Heap.get?_push_size _ rfl, Nat.le_trans (cutV_length xs lo hi) hz, _, (r.drop (HT.sIx xs.length 0 lo)).take (HT.sIx xs.length xs.length hi - HT.sIx xs.length 0 lo), PyProof.Rows.IsTup.new _ _⟩
def cutD (xs : List D) (lo hi : Option Int) : List D := (xs.drop (HT.sIx xs.length 0 lo)).take (HT.sIx xs.length xs.length hi - HT.sIx xs.length 0 lo)
theorem cut_dts {K : PySem.W.Frag} {G : Hp} {vs : List V} {ds : List D} {lo hi : Option Int} (h : Dts K G vs ds) : Dts K G (cutV vs lo hi) (cutD ds lo hi) := by
  unfold cutV cutD
  rw [h.length]
  exact (h.drop _).take _
def EvO (X : Cx) (e : Option Expr) (δ : En) (i : Option Int) : Prop := match e, i with
  | none, none => True
  | some e, some i => ∀ M, Ev X e δ M (.int i) M
  | _, _ => False
theorem po_of {eo : Option Expr} {i : Option Int} (h : EvO X eo δ i) : ∃ t : TO, PO X eo t ∧ ∀ σ G H M, SRX X G M H → EnvD X.K G σ δ → ∀ Q : Option Int → Hp → Prop, (∀ G' H', XtX X G M H G' M H' → Q i H') → t σ H Q := by
  cases eo with
  | none =>
    cases i with
    | none => exact ⟨_, po_none, fun σ G H M s E Q k => k G H (Xt.refl s)⟩
    | some i => exact h.elim
  | some e =>
    cases i with
    | none => exact h.elim
    | some i => exact ⟨_, po_some we_pe, fun σ G H M s E Q k => (h M σ G H s E).mono fun v H1 ⟨G1, x1, d1⟩ => ⟨i, dt_int d1, k G1 H1 x1⟩⟩
theorem e_slT {lo hi : Option Expr} {i j : Option Int} {p2 : Pos} (h : Ev X e δ M (.tup ds) M1) (h1 : EvO X lo δ i) (h2 : EvO X hi δ j) : Ev X (.Subscript e (.Slice lo hi none p2) pos) δ M (.tup (cutD ds i j)) M1 := fun σ G H s E => by
  obtain ⟨t1, p1, k1⟩ := po_of h1
  obtain ⟨t2, p2', k2⟩ := po_of h2
  refine we_of (pe_slice sl_tupZ we_pe p1 p2') ((h σ G H s E).mono fun v H1 ⟨G1, x1, d1⟩ => ?_)
  refine k1 σ G1 H1 M1 x1.s (E.mono x1.g) _ fun G2 H2 x2 => ?_
  refine k2 σ G2 H2 M1 x2.s (E.mono (x1.g.trans x2.g)) _ fun G3 H3 x3 => ?_
  have xx := (x1.trans x2).trans x3
  cases (d1.mono x2.g).mono x3.g with
  | @tup a vs _ h3 h4 =>
    refine ⟨a, vs, rfl, ex_t x3.s.ex h3.sq, fun hw => ?_, fun hw p o hp ho => ?_⟩
    · have e1 : cutD ds i j = ds := by
        unfold cutD
        rw [← h4.length, hw.1, hw.2, List.drop_zero, Nat.sub_zero, h4.length, List.take_length]
      rw [e1]
      exact ⟨G3, xx, .tup h3 h4⟩
    · have y := Xt.alloc (o := .frz o (.tup (cutV vs i j))) x3.s hp
      exact ⟨_, xx.trans y, .tup ⟨o, upd_same, ho⟩ ((cut_dts h4).mono y.g)⟩
theorem e_slL {lo hi : Option Expr} {i j : Option Int} {p2 : Pos} (h : Ev X e δ M (.lst ds) M1) (h1 : EvO X lo δ i) (h2 : EvO X hi δ j) : Ev X (.Subscript e (.Slice lo hi none p2) pos) δ M (.lst (cutD ds i j)) M1 := fun σ G H s E => by
  obtain ⟨t1, p1, k1⟩ := po_of h1
  obtain ⟨t2, p2', k2⟩ := po_of h2
  refine we_of (pe_slice sl_list we_pe p1 p2') ((h σ G H s E).mono fun v H1 ⟨G1, x1, d1⟩ => ?_)
  refine k1 σ G1 H1 M1 x1.s (E.mono x1.g) _ fun G2 H2 x2 => ?_
  refine k2 σ G2 H2 M1 x2.s (E.mono (x1.g.trans x2.g)) _ fun G3 H3 x3 => ?_
  have xx := (x1.trans x2).trans x3
  cases (d1.mono x2.g).mono x3.g with
  | @lst a vs _ h3 h4 =>
    refine ⟨a, vs, rfl, .of (x3.s.ex _ _ h3), fun p hp => ?_⟩
    have y := Xt.alloc (o := .lst (cutV vs i j)) x3.s hp
    exact ⟨_, xx.trans y, .lst upd_same ((cut_dts h4).mono y.g)⟩

/-! ### list(range(n)), tuple(range(n)) -/
theorem rgV_dts {K : PySem.W.Frag} {G : Hp} (n : Int) : Dts K G (rgV 0 n) (rng 0 n.toNat) := by
  unfold rgV rng
  rw [Int.sub_zero]
  generalize List.range n.toNat = l
  induction l with
  | nil => exact .nil
  | cons x r ih => exact .cons (.int _) ih
theorem e_listRg {n : Int} {p2 rp : Pos} (C : Cok X) (hm : X.mg "list" = none) (hm2 : X.mg "range" = none) (h : Ev X e δ M (.int n) M1) (hb : 0 ≤ n ∧ n ≤ 100000) (hg : Gl X "list" := by rfl) (hg2 : Gl X "range" := by rfl) (na : starEach [e] X.env = (false, eval e X.env) :: starEach [] X.env := by rfl)
    (na2 : starEach [.Call (.Name "range" p2) [e] [] rp] X.env = (false, eval (.Call (.Name "range" p2) [e] [] rp) X.env) :: starEach [] X.env := by rfl) : Ev X (.Call (.Name "list" p) [.Call (.Name "range" p2) [e] [] rp] [] pos) δ M (.lst (rng 0 n.toNat)) M1 := fun σ G H s E => by
  refine we_of (pe_listRg C.calm hg hm (prg_1 hg2 hm2 we_pe na) na2) ((h σ G H s E).mono fun v H1 ⟨G1, x1, d1⟩ => ?_)
  refine ⟨n, dt_int d1, RgOk.of_le (by omega) (by omega) (by omega) (by omega), fun q hq => ?_⟩
  have y := Xt.alloc (o := .lst (rgV 0 n)) x1.s hq
  exact ⟨_, x1.trans y, .lst upd_same (rgV_dts n)⟩
/-- tuple(range(n)), its object known -/
def tTupRgZ (te : St → Hp → (Int → Int → Hp → Prop) → Prop) : TE := fun σ H Q => te σ H fun a b H1 => RgOk a b ∧ ∀ q (o : Obj), H1 q = none → o.dict = none → Q (.ref q) (upd H1 q (.frz o (.tup (rgV a b))))
theorem pe_tupRgZ {te : St → Hp → (Int → Int → Hp → Prop) → Prop} (hc : X.calm = true) (hg : Gl X "tuple") (hm : X.mg "tuple" = none) (he : PRg X e te) (na : starEach [e] X.env = (false, eval e X.env) :: starEach [] X.env := by rfl) : PE X (.Call (.Name "tuple" p) [e] [] pos) (tTupRgZ te) := by
  refine ⟨fun pins s σ H Q I h => ?_⟩
  refine PyProof.Rows.Call_ (ld_blt I hg hm PyProof.Rows.boot_tuple (PyProof.Rows.callWith_type1 (PyProof.Rows.args_cons (thn (he pins s σ H _ I h) fun x s1 ⟨r, a, b, t, u, v, H1, ex, hr, I1, ok, q⟩ => PyProof.Rows.args_nil ?_) na) na rfl))
  subst ex
  obtain ⟨b1, b2, b3, b4, b5⟩ := ok
  refine call_tuple_range (n := (b - a).toNat) (I1.ok.hd hc) hr (small_one b1 b2 b3 b4) (PyProof.Rows.rangeSize_nat a b) b5 fun h' tk acc hk hi => ?_
  have I2 : Inv X pins σ H1 { s1 with heap := h', toks := tk } := I1.kept hk
  refine ⟨.ref h'.objs.size, upd H1 h'.objs.size (.frz { cls := .type "tuple", data := .seq acc } (.tup (rgV a b))), I2.laid (t' := tk) (fun c o e => Heap.get?_push_of_some _ e) (Nat.le_refl _) (show ObjOk X.prog X.w _ _ _ (.frz { cls := .type "tuple", data := .seq acc } (.tup (rgV a b))) from ⟨Heap.get?_push_size _ rfl, ?_, acc.toList, vals_rg hi, ?_⟩), rfl, q _ _ (I2.hok.fresh (Nat.le_refl _)) rfl⟩
  · rw [rgV_length, sizeLine_eq]; omega
  · rw [Array.toArray_toList]; exact PyProof.Rows.IsTup.new _ _
theorem e_tupRg {n : Int} {p2 rp : Pos} (C : Cok X) (hm : X.mg "tuple" = none) (hm2 : X.mg "range" = none) (h : Ev X e δ M (.int n) M1) (hb : 0 ≤ n ∧ n ≤ 100000) (hg : Gl X "tuple" := by rfl) (hg2 : Gl X "range" := by rfl) (na : starEach [e] X.env = (false, eval e X.env) :: starEach [] X.env := by rfl)
    (na2 : starEach [.Call (.Name "range" p2) [e] [] rp] X.env = (false, eval (.Call (.Name "range" p2) [e] [] rp) X.env) :: starEach [] X.env := by rfl) : Ev X (.Call (.Name "tuple" p) [.Call (.Name "range" p2) [e] [] rp] [] pos) δ M (.tup (rng 0 n.toNat)) M1 := fun σ G H s E => by
  refine we_of (pe_tupRgZ C.calm hg hm (prg_1 hg2 hm2 we_pe na) na2) ((h σ G H s E).mono fun v H1 ⟨G1, x1, d1⟩ => ?_)
  refine ⟨n, dt_int d1, RgOk.of_le (by omega) (by omega) (by omega) (by omega), fun q o hq ho => ?_⟩
  have y := Xt.alloc (o := .frz o (.tup (rgV 0 n))) x1.s hq
  exact ⟨_, x1.trans y, .tup ⟨o, upd_same, ho⟩ (rgV_dts n)⟩
end
end Dr
set_option Elab.async false
set_option linter.all false
set_option maxRecDepth 100000
set_option maxHeartbeats 2000000
namespace Dr
open PySem L2
open PySem.W (dataLe AllAlike Sortable AlikeAll min_list_default EachIs sorted_data)

/-! ### sets of a tuple of ints -/
section
variable {X : Cx} {δ : En} {M M1 M2 M3 : Mp} {d : D} {ds : List D} {pos p p2 q : Pos} {e o a b : Expr} {es : List Expr}
def rSetI (K : PySem.W.Frag) (w : World) : List V → Hp → VK → Prop := fun xs H Q => ∃ (l : Addr) (ns : List Int), xs = [.ref l] ∧ SqT K H l (ns.map V.int) ∧ ns.length ≤ 1000 ∧ ∀ p c, H p = none → c ≤ ns.length → Q (.ref p) (upd H p (SetO w p (fun j => decide (j ∈ ns)) c))
theorem cr_setI (C : Cok X) : CallR X (.type "set") (rSetI X.K X.w) := by
  intro pins s σ H xs us Q I r h
  obtain ⟨l, ns, rfl, hq, hl, q⟩ := h
  obtain ⟨u, rfl, rx⟩ := vals1 r
  cases rx
  obtain ⟨its, r', pl, hz⟩ := I.tuple hq
  refine call_set_tupI ns (I.ok.hd C.calm) (show s.heap.IsTuple l its.toArray from pl) (by simpa using RZ.intsAre_vals r') (by unfold scanBound; omega) fun h' tk c hS hc hk => ?_
  have hn : H s.heap.objs.size = none := I.hok.fresh (Nat.le_refl _)
  exact ⟨.ref s.heap.objs.size, _, I.laid (t' := tk) hk (Nat.le_refl _) (setO_new hS), rfl, q _ c hn hc⟩
theorem nodup_count {l : List Int} {c : Nat} {S : Int → Bool} {ns : List Int} (hn : ns.Nodup) (hl : l.Nodup) (h : ∀ k, k ∈ l ↔ k ∈ ns) : l.length = ns.length :=
  ((List.perm_ext_iff_of_nodup hl hn).mpr h).length_eq
def tLenSetT (K : PySem.W.Frag) (ta : TE) : TE := fun σ H Q => ta σ H fun x H1 => ∃ (l : Addr) (ns : List Int), x = .ref l ∧ SqT K H1 l (ns.map V.int) ∧ ns.Nodup ∧ ns.length ≤ 1000 ∧ Q (.int (ns.length : Nat)) H1
theorem pe_lenSetT {ta : TE} (C : Cok X) (hg : Gl X "len") (hm : X.mg "len" = none) (hg2 : Gl X "set") (hm2 : X.mg "set" = none) (ha : PE X a ta)
    (na : starEach [a] X.env = (false, eval a X.env) :: starEach [] X.env := by rfl) : PE X (.Call (.Name "len" p) [.Call (.Name "set" p2) [a] [] q] [] pos) (tLenSetT X.K ta) := by
  refine ⟨fun pins s σ H Q I h => ?_⟩
  refine PyProof.Rows.Call_ (ld_blt I hg hm boot_len ?_)
  refine PyProof.Rows.callWith_builtin1 (PyProof.Rows.args_cons ?_ rfl) rfl rfl
  refine PyProof.Rows.Call_ (ld_blt I hg2 hm2 PyProof.Rows.boot_set ?_)
  refine PyProof.Rows.callWith_type1 (PyProof.Rows.args_cons (thn (ha.run pins s σ H _ I h) fun v s1 ⟨x, H1, I1, r1, q1⟩ => PyProof.Rows.args_nil ?_) na) na rfl
  obtain ⟨l, ns, rfl, hq, hnd, hl, q1⟩ := q1
  cases r1
  obtain ⟨its, r, pl, hz⟩ := I1.tuple hq
  refine call_set_tupI ns (I1.ok.hd C.calm) (show s1.heap.IsTuple l its.toArray from pl) (by simpa using RZ.intsAre_vals r) (by unfold scanBound; omega) fun h' tk c hS hc hk => ?_
  refine PyProof.Rows.args_nil ?_
  obtain ⟨o, es, ep, t, ho, hex, hd, _, hkn, hmem, _, hf, hn, _⟩ := hS
  have I2 : Inv X pins σ H1 { s1 with heap := h', toks := tk } := I1.kept hk
  have hsz : es.size = ns.length := by
    have h1 : (es.toList.map keyOf).length = ns.length := ((List.perm_ext_iff_of_nodup hkn hnd).mpr fun k => by rw [← hmem k, decide_eq_true_eq]).length_eq
    rw [List.length_map, Array.length_toList] at h1
    exact h1
  exact call_len_set ho hex hd hf (by rw [hsz]; omega) ⟨.int ns.length, H1, I2.tok _, ⟨_, by rw [hsz]⟩, q1⟩
theorem e_lenSet {ns : List Int} (C : Cok X) (hm : X.mg "len" = none) (hm2 : X.mg "set" = none) (h : Ev X a δ M (D.ti ns) M1) (hn : ns.Nodup) (hl : ns.length ≤ 1000) (hg : Gl X "len" := by rfl) (hg2 : Gl X "set" := by rfl)
    (na : starEach [a] X.env = (false, eval a X.env) :: starEach [] X.env := by rfl) : Ev X (.Call (.Name "len" p) [.Call (.Name "set" p2) [a] [] q] [] pos) δ M (.int ns.length) M1 := fun σ G H s E => by
  refine we_of (pe_lenSetT C hg hm hg2 hm2 we_pe na) ((h σ G H s E).mono fun v H1 ⟨G1, x1, d1⟩ => ?_)
  cases d1 with
  | @tup a vs _ h3 h4 =>
    have e4 := Dts.to_ints h4
    subst e4
    exact ⟨a, ns, rfl, ex_t x1.s.ex h3.sq, hn, hl, G1, x1, .int _⟩
/-- sorted(set(t)) of a rising tuple t -/
theorem e_sortSet {ns : List Int} (C : Cok X) (hm : X.mg "sorted" = none) (hm2 : X.mg "set" = none) (h : Ev X a δ M (D.ti ns) M1) (hn : ns.Pairwise (· < ·)) (hl : ns.length ≤ 60) (hg : Gl X "sorted" := by rfl) (hg2 : Gl X "set" := by rfl)
    (na : starEach [a] X.env = (false, eval a X.env) :: starEach [] X.env := by rfl) (hpl : (backTo q (starEach ([] : List Expr) X.env)).any (·.1) = false := by rfl)
    (na2 : starEach [.Call (.Name "set" p2) [a] [] q] X.env = (false, eval (.Call (.Name "set" p2) [a] [] q) X.env) :: starEach [] X.env := by rfl) (hpl2 : (backTo pos (starEach ([] : List Expr) X.env)).any (·.1) = false := by rfl) :
    Ev X (.Call (.Name "sorted" p) [.Call (.Name "set" p2) [a] [] q] [] pos) δ M (D.li ns) M1 := fun σ G H s E => by
  refine we_of (pe_callB (cr_sortedSet C.calm) hg hm (by decide +kernel) (pa_cons (pe_callTy (cr_setI C) hg2 hm2 (by decide +kernel) (pa_cons we_pe pa_nil na) (by decide) (by decide) na hpl) pa_nil na2) (by decide) (by decide) na2 hpl2) ((h σ G H s E).mono fun v H1 ⟨G1, x1, d1⟩ => ?_)
  cases d1 with
  | @tup a vs _ h3 h4 =>
    have e4 := Dts.to_ints h4
    subst e4
    refine ⟨a, ns, rfl, ex_t x1.s.ex h3.sq, by omega, fun p c hp hc => ?_⟩
    have y1 := Xt.alloc (o := SetO X.w p (fun j => decide (j ∈ ns)) c) x1.s hp
    refine ⟨p, _, c, rfl, upd_same, by omega, fun ns' p' hs hmem hlen hp' => ?_⟩
    have e5 : ns' = ns := by
      refine List.Perm.eq_of_pairwise (le := fun a b => a < b) (fun a b _ _ h1 h2 => by omega) hs hn ?_
      have n1 : ns'.Nodup := hs.imp fun h => by omega
      have n2 : ns.Nodup := hn.imp fun h => by omega
      exact (List.perm_ext_iff_of_nodup n1 n2).mpr fun k => by rw [hmem k, decide_eq_true_eq]
    subst e5
    have y2 := Xt.alloc (o := .lst (ns'.map V.int)) y1.s hp'
    exact ⟨_, (x1.trans y1).trans y2, .lst upd_same (Dts.ints _)⟩

/-! ### sorted of ints -/
def leI (a b : Int) : Bool := decide (a ≤ b)
def sortI (ns : List Int) : List Int := ns.mergeSort leI
theorem sortI_perm (ns : List Int) : (sortI ns).Perm ns := List.mergeSort_perm ns leI
theorem sortI_sorted (ns : List Int) : (sortI ns).Pairwise (· ≤ ·) := by
  have h := List.pairwise_mergeSort (le := leI) (fun a b c h1 h2 => by unfold leI at *; simp only [decide_eq_true_eq] at *; omega) (fun a b => by unfold leI; simp only [Bool.or_eq_true, decide_eq_true_eq]; omega) ns
  exact h.imp fun h => of_decide_eq_true h
theorem sortI_unique {ns ns' : List Int} (h1 : ns'.Perm ns) (h2 : ns'.Pairwise (· ≤ ·)) : ns' = sortI ns :=
  List.Perm.eq_of_pairwise (le := fun a b => a ≤ b) (fun a b _ _ h1 h2 => by omega) h2 (sortI_sorted ns) (h1.trans (sortI_perm ns).symm)
theorem cd_sortI {ns : List Int} : CD X (rSortedI X.K) [D.li ns] M (D.li (sortI ns)) M := fun G H vs s h Q k => by
  obtain ⟨v, rfl, h1⟩ := dts1 h
  cases h1 with
  | @lst a vs _ h3 h4 =>
    have e4 := Dts.to_ints h4
    subst e4
    refine ⟨a, ns, rfl, .of (s.ex _ _ h3), fun ns' p hp hs hn => ?_⟩
    rw [sortI_unique hp hs]
    exact k _ _ _ (Xt.alloc s hn) (.lst upd_same (Dts.ints _))
theorem e_sortI {ns : List Int} (hm : X.mg "sorted" = none) (ha : Ev X e δ M (D.li ns) M1) (hg : Gl X "sorted" := by rfl) (hs : starEach [e] X.env = (false, eval e X.env) :: starEach [] X.env := by rfl) (hpl : (backTo pos (starEach ([] : List Expr) X.env)).any (·.1) = false := by rfl) : Ev X (.Call (.Name "sorted" p) [e] [] pos) δ M (D.li (sortI ns)) M1 := ev_callB cr_sortedI (by decide +kernel) cd_sortI hg hm (ea_cons ha ea_nil hs) (by decide) (by decide) hs hpl

/-! ### sorted of data -/
def rSortD (K : PySem.W.Frag) : List V → Hp → VK → Prop := fun vs H Q => ∃ (a : Addr) (xs : List V) (ps : List PyData), vs = [.ref a] ∧ SqL K H a xs ∧ DpAll K H xs ps ∧ AllAlike ps ∧ Sortable ps ∧ (∀ p ∈ ps, p.depth ≤ 60) ∧
  ∀ p, H p = none → Q (.ref p) (upd H p (.lst (((xs.zip ps).mergeSort (dataLe false Prod.snd)).map Prod.fst)))
theorem dpAll_len {K : PySem.W.Frag} {H : Hp} : ∀ {xs : List V} {ps : List PyData}, DpAll K H xs ps → xs.length = ps.length
  | _, _, .nil => rfl
  | _, _, .cons _ t => by rw [List.length_cons, List.length_cons, dpAll_len t]
theorem zip_is {h : Heap} : ∀ {xs : List V} {ps : List PyData} {us : List Value} {as : List Addr}, Vals xs us → ReadsAll h us ps as →
    EachIs (fun v (b : V × PyData) => RelV b.1 v) us (xs.zip ps) ∧ EachIs (fun v (b : V × PyData) => ∃ as, Reads h v b.2 as) us (xs.zip ps)
  | _, _, _, _, .nil, .nil => ⟨.nil, .nil⟩
  | _, _, _, _, .cons r t, .cons r2 t2 => by
    obtain ⟨h1, h2⟩ := zip_is t t2
    exact ⟨.cons r h1, .cons ⟨_, r2⟩ h2⟩
theorem each_vals : ∀ {us : List Value} {bs : List (V × PyData)}, EachIs (fun v (b : V × PyData) => RelV b.1 v) us bs → Vals (bs.map Prod.fst) us
  | _, _, .nil => .nil
  | _, _, .cons r t => .cons r (each_vals t)
theorem cr_sortD (C : Cok X) : CallR X (.builtin "sorted") (rSortD X.K) := by
  intro pins s σ H vs us Q I r h
  obtain ⟨a, xs, ps, rfl, hq, hp, h1, h2, h3, q⟩ := h
  obtain ⟨u, rfl, rx⟩ := vals1 r
  cases rx
  obtain ⟨its, rv, pl, hz⟩ := I.list hq
  obtain ⟨as, hr⟩ := Dp.readsAll I ps xs its hp rv
  obtain ⟨e1, e2⟩ := zip_is rv hr
  have hl := dpAll_len hp
  have hzl : (xs.zip ps).map Prod.snd = ps := List.map_snd_zip (by omega)
  have hu := C.hu
  refine sorted_data (enc := Prod.snd) (bs := xs.zip ps) pl.isList e1 e2 (by rw [hzl]; exact h1) (by rw [hzl]; exact h2) (by rw [List.length_zip, ← hl, Nat.min_self]; exact hz) (fun b hb => ?_) fun out ho eo => ?_
  · have := h3 b.2 (by rw [← hzl]; exact List.mem_map.mpr ⟨b, hb, rfl⟩)
    omega
  · obtain ⟨ep, he'⟩ := PyProof.Rows.sortedAll_at s.heap its out.toArray
    have hv := each_vals eo
    have hn : H (s.heap.objs.size + 1) = none := I.hok.fresh (Nat.le_succ _)
    refine ⟨.ref _, _, I.laid (t' := s.toks) (fun _ _ => PyProof.Rows.sortedAll_old) (Nat.le_succ _) (show ObjOk X.prog X.w _ _ _ (.lst _) from ⟨?_, out, ep, hv, he'⟩), rfl, q _ hn⟩
    rw [hv.length, ho, List.length_zip, ← hl, Nat.min_self]
    exact hz
def leD (a b : D) : Bool := dataLe false D.py a b
def sortD (ds : List D) : List D := ds.mergeSort leD
theorem e_sortD {ds : List D} (C : Cok X) (hm : X.mg "sorted" = none) (ha : Ev X e δ M (.lst ds) M1) (ho : D.oks ds = true) (h1 : AllAlike (D.pys ds)) (h2 : Sortable (D.pys ds)) (h3 : ∀ p ∈ D.pys ds, p.depth ≤ 60) (hg : Gl X "sorted" := by rfl) (hs : starEach [e] X.env = (false, eval e X.env) :: starEach [] X.env := by rfl) (hpl : (backTo pos (starEach ([] : List Expr) X.env)).any (·.1) = false := by rfl) :
    Ev X (.Call (.Name "sorted" p) [e] [] pos) δ M (.lst (sortD ds)) M1 := by
  refine ev_callB (cr_sortD C) (by decide +kernel) (fun G H vs s h Q k => ?_) hg hm (ea_cons ha ea_nil hs) (by decide) (by decide) hs hpl
  obtain ⟨v, rfl, hd⟩ := dts1 h
  cases hd with
  | @lst a vs _ h4 h5 =>
    refine ⟨a, vs, D.pys ds, rfl, .of (s.ex _ _ h4), (h5.mono s.ex).dp ho, h1, h2, h3, fun p hp => ?_⟩
    have y := Xt.alloc (o := .lst (((vs.zip (D.pys ds)).mergeSort (dataLe false Prod.snd)).map Prod.fst)) s hp
    refine k _ _ _ y (.lst upd_same (Dts.mono y.g ?_))
    -- the pairs of values and data, sorted by the data
    have zl : vs.length = ds.length := h5.length
    have eA : ((vs.zip ds).mergeSort (fun a b => leD a.2 b.2)).map (fun z => (z.1, z.2.py)) = (vs.zip (D.pys ds)).mergeSort (dataLe false Prod.snd) := by
      rw [List.map_mergeSort (r := fun a b : V × D => leD a.2 b.2) (s := dataLe false Prod.snd) (f := fun z : V × D => (z.1, z.2.py)) (fun a _ b _ => rfl)]
      congr 1
      rw [D.pys_eq, List.zip_map_right]
      rfl
    have eB : ((vs.zip ds).mergeSort (fun a b => leD a.2 b.2)).map Prod.snd = sortD ds := by
      rw [List.map_mergeSort (r := fun a b : V × D => leD a.2 b.2) (s := leD) (f := Prod.snd) (fun a _ b _ => rfl)]
      unfold sortD
      congr 1
      exact List.map_snd_zip (by omega)
    rw [← eA, ← eB, List.map_map]
    have all : ∀ z ∈ (vs.zip ds).mergeSort (fun a b => leD a.2 b.2), Dt X.K G z.1 z.2 := fun z hz => by
      have hz2 := (List.mergeSort_perm (vs.zip ds) (fun a b => leD a.2 b.2)).mem_iff.mp hz
      obtain ⟨i, hi⟩ := List.mem_iff_getElem?.mp hz2
      rw [List.getElem?_zip_eq_some] at hi
      obtain ⟨d, hd2, hd3⟩ := h5.getV hi.1
      rw [hi.2] at hd2
      cases hd2
      exact hd3
    revert all
    generalize (vs.zip ds).mergeSort (fun a b => leD a.2 b.2) = l
    intro all
    induction l with
    | nil => exact .nil
    | cons z r ih => exact .cons (all z List.mem_cons_self) (ih fun y hy => all y (List.mem_cons_of_mem _ hy))

/-! ### min(xs, default=None) of ints -/
def minI : List Int → Option Int
  | [] => none
  | n :: ns => some (ns.foldl min n)
def optD : Option Int → D
  | none => .non
  | some i => .int i
def rMinD (K : PySem.W.Frag) : List V → List V → Hp → VK → Prop := fun vs zs H Q => ∃ (a : Addr) (ns : List Int), vs = [.ref a] ∧ zs = [.non] ∧ SqL K H a (ns.map V.int) ∧ Q (match minI ns with | none => .non | some i => .int i) H
theorem alike_ints (ns : List Int) : AlikeAll (ns.map PyData.int) := by
  refine ⟨fun x hx y hy => ?_, fun x hx => ?_⟩
  · obtain ⟨i, _, rfl⟩ := List.mem_map.mp hx
    obtain ⟨j, _, rfl⟩ := List.mem_map.mp hy
    rfl
  · obtain ⟨i, _, rfl⟩ := List.mem_map.mp hx
    intro z
    cases z
theorem dp_ints {K : PySem.W.Frag} {H : Hp} : ∀ ns : List Int, DpAll K H (ns.map V.int) (ns.map PyData.int)
  | [] => .nil
  | n :: ns => .cons (.int n) (dp_ints ns)
theorem depth_ints : ∀ ns : List Int, PyData.depthAll (ns.map PyData.int) = 0
  | [] => rfl
  | n :: ns => by
    show max (PyData.int n).depth (PyData.depthAll (ns.map PyData.int)) = 0
    rw [depth_ints ns]
    rfl
theorem cr_minD (C : Cok X) : CallRK X (.builtin "min") ["default"] (rMinD X.K) := by
  intro pins s σ H vs zs us ws Q I r1 r2 h
  obtain ⟨a, ns, rfl, rfl, hq, q⟩ := h
  obtain ⟨u, rfl, rx⟩ := vals1 r1
  cases rx
  obtain ⟨u2, rfl, rx2⟩ := vals1 r2
  cases rx2
  obtain ⟨its, rv, pl, hz⟩ := I.list hq
  obtain ⟨as, hr⟩ := Dp.readsAll I _ _ its (dp_ints ns) rv
  have hu := C.hu
  refine min_list_default (I.ok.hd C.calm) pl.isList (show ReadsAll s.heap its.toArray.toList (ns.map PyData.int) as by simpa using hr) (alike_ints ns) (by rw [depth_ints]; omega) (fun e h' tk kp => ?_) (fun y ys i v h' tk bs e hv hr2 kp => ?_)
  · have e2 : ns = [] := by simpa using e
    subst e2
    exact ⟨.non, H, I.kept kp, rfl, q⟩
  · cases ns with
    | nil => cases e
    | cons n ns =>
      rw [List.map_cons] at e
      cases e
      rw [PySem.W.minD_ints] at hr2
      cases hr2 with
      | int _ t => exact ⟨.int _, H, I.kept kp, ⟨t, rfl⟩, q⟩
theorem e_minD {ns : List Int} {kp cp : Pos} {jj} (C : Cok X) (hm : X.mg "min" = none) (ha : Ev X e δ M (D.li ns) M1) (hg : Gl X "min" := by rfl) (hs : starEach [e] X.env = (false, eval e X.env) :: starEach [] X.env := by rfl)
    (he : backTo pos (starEach [e] X.env) = (false, eval e X.env) :: backTo pos (starEach [] X.env) := by rfl) (hpl : (backTo pos (starEach [e] X.env)).any (·.1) = false := by rfl)
    (hall : (backToKw pos (keywordEach [⟨some "default", .Constant .none jj cp, kp⟩] X.env)).all (·.1.isSome) = true := by rfl) (hnone : (backToKw pos (keywordEach [⟨some "default", .Constant .none jj cp, kp⟩] X.env)).any (·.1.isNone) = false := by rfl) (hks : (backToKw pos (keywordEach [⟨some "default", .Constant .none jj cp, kp⟩] X.env)).filterMap (·.1) = (["default"] : List Str) := by rfl) :
    Ev X (.Call (.Name "min" p) [e] [⟨some "default", .Constant .none jj cp, kp⟩] pos) δ M (optD (minI ns)) M1 := fun σ G H s E => by
  refine we_of (pe_callBK (cr_minD C) hg hm (by decide +kernel) (pa_cons we_pe pa_nil hs) (pk_cons pe_non pk_nil) (by decide) (by decide) he hpl hall hnone hks) ((ha σ G H s E).mono fun v H1 ⟨G1, x1, d1⟩ => ?_)
  cases d1 with
  | @lst a vs _ h3 h4 =>
    have e4 := Dts.to_ints h4
    subst e4
    refine ⟨a, ns, rfl, rfl, .of (x1.s.ex _ _ h3), G1, x1, ?_⟩
    cases minI ns with
    | none => exact .non
    | some i => exact .int i
end
end Dr
set_option Elab.async false
set_option linter.all false
set_option maxRecDepth 100000
set_option maxHeartbeats 2000000
/-! dicts whose keys are nested tuples -/
namespace Dr
open PySem L2

section
variable {X : Cx} {pins : List (Addr × Obj)} {σ : St} {H : Hp} {s : Shared}
mutual
theorem Dt.nested (I : Inv X pins σ H s) : ∀ {v : V} {d : D}, Dt X.K H v d → d.fix = true → ∀ u, RelV v u → NestedIs s.heap d.key u
  | _, _, .non => fun _ u r => by cases r; rw [D.key]; exact .none
  | _, _, .bl b => fun _ u r => by cases r; rw [D.key]; exact .bool rfl
  | _, _, .int i => fun _ u r => by obtain ⟨t, rfl⟩ := r; rw [D.key]; exact .int i t
  | _, _, .str x => fun _ u r => by obtain ⟨t, rfl⟩ := r; rw [D.key]; exact .text x t
  | _, _, .tup h1 h2 => fun o u r => by
    cases r
    obtain ⟨its, rv, ⟨ob, ho, hc, n, hd⟩, _⟩ := I.tuple h1.sq
    rw [D.key]
    exact .tup ho hc hd (by simpa using Dts.nested I h2 (by rw [D.fix] at o; exact o) its rv)
  | _, _, .lst h1 h2 => fun o u r => by rw [D.fix] at o; cases o
  | _, _, .adr a => fun o u r => by rw [D.fix] at o; cases o
theorem Dts.nested (I : Inv X pins σ H s) : ∀ {vs : List V} {ds : List D}, Dts X.K H vs ds → D.fixs ds = true → ∀ us, Vals vs us → NestedAll s.heap (D.keys ds) us
  | _, _, .nil => fun _ us r => by cases r; rw [D.keys]; exact .nil
  | _, _, .cons h1 h2 => fun o us r => by
    rw [D.fixs, Bool.and_eq_true] at o
    cases r with
    | cons r1 r2 =>
      rw [D.keys]
      exact .cons (Dt.nested I h1 o.1 _ r1) (Dts.nested I h2 o.2 _ r2)
end
theorem KeyD.is_ (I : Inv X pins σ H s) {k : NestedKey} {a : Addr} (h : KeyD X.K H k a) : (nestedKind X.prog X.w).is s.heap k a := by
  obtain ⟨d, h1, h2, rfl, h4⟩ := h
  exact ⟨h1.nested I h2 _ rfl, h4⟩
end

/-! ### the entries -/
def atV (xs : List (NestedKey × Addr × V)) (k : NestedKey) : Option (Addr × V) := (xs.find? fun x => decide (x.1 = k)).map (·.2)
def storedV (xs : List (NestedKey × Addr × V)) (k : NestedKey) (a : Addr) (v : V) : List (NestedKey × Addr × V) :=
  if (atV xs k).isSome then xs.map (fun x => if x.1 = k then (x.1, x.2.1, v) else x) else xs ++ [(k, a, v)]
def lookD (kvs : List (NestedKey × D)) (k : NestedKey) : Option D := (kvs.find? fun x => decide (x.1 = k)).map (·.2)
def putD (kvs : List (NestedKey × D)) (k : NestedKey) (d : D) : List (NestedKey × D) :=
  if (lookD kvs k).isSome then kvs.map (fun x => if x.1 = k then (x.1, d) else x) else kvs ++ [(k, d)]
abbrev RelU (p : NestedKey × Addr × V) (q : NestedKey × Addr × Value) : Prop := p.1 = q.1 ∧ p.2.1 = q.2.1 ∧ RelV p.2.2 q.2.2
theorem at_rel : ∀ {xs : List (NestedKey × Addr × V)} {us : List (NestedKey × Addr × Value)} (k : NestedKey), Paired RelU xs us →
    (atV xs k = none ∧ atKey us k = none) ∨ ∃ a v u, atV xs k = some (a, v) ∧ atKey us k = some (a, u) ∧ RelV v u
  | _, _, k, .nil => .inl ⟨rfl, rfl⟩
  | x :: xs, u :: us, k, .cons h t => by
    obtain ⟨h1, h2, h3⟩ := h
    by_cases e : x.1 = k
    · refine .inr ⟨x.2.1, x.2.2, u.2.2, ?_, ?_, h3⟩
      · unfold atV
        rw [List.find?_cons_of_pos (by simpa using e)]
        rfl
      · unfold atKey
        rw [List.find?_cons_of_pos (by rw [← h1]; simpa using e), h2]
        rfl
    · have e1 : atV (x :: xs) k = atV xs k := by
        unfold atV
        rw [List.find?_cons_of_neg (by simpa using e)]
      have e2 : atKey (u :: us) k = atKey us k := by
        unfold atKey
        rw [List.find?_cons_of_neg (by rw [← h1]; simpa using e)]
      rw [e1, e2]
      exact at_rel k t
theorem pair_map {α β α' β' : Type} {R : α → β → Prop} {R' : α' → β' → Prop} {f : α → α'} {g : β → β'} (h : ∀ a b, R a b → R' (f a) (g b)) : ∀ {xs : List α} {ys : List β}, Paired R xs ys → Paired R' (xs.map f) (ys.map g)
  | _, _, .nil => .nil
  | _, _, .cons r t => .cons (h _ _ r) (pair_map h t)
theorem pair_app {α β : Type} {R : α → β → Prop} : ∀ {xs xs' : List α} {ys ys' : List β}, Paired R xs ys → Paired R xs' ys' → Paired R (xs ++ xs') (ys ++ ys')
  | _, _, _, _, .nil, s => s
  | _, _, _, _, .cons r t, s => .cons r (pair_app t s)
theorem stored_rel {xs : List (NestedKey × Addr × V)} {us : List (NestedKey × Addr × Value)} {k : NestedKey} {a : Addr} {v : V} {u : Value} (h : Paired RelU xs us) (r : RelV v u) : Paired RelU (storedV xs k a v) (storedH us k a u) := by
  unfold storedV storedH
  rcases at_rel k h with ⟨h1, h2⟩ | ⟨a', v', u', h1, h2, h3⟩
  · rw [h1, h2, if_neg (by simp), if_neg (by simp)]
    exact pair_app h (.cons ⟨rfl, rfl, r⟩ .nil)
  · rw [h1, h2, if_pos (by rfl), if_pos (by rfl)]
    refine pair_map (fun p q z => ?_) h
    obtain ⟨z1, z2, z3⟩ := z
    unfold putAt
    by_cases e : p.1 = k
    · rw [if_pos e, if_pos (z1 ▸ e)]
      exact ⟨z1, z2, r⟩
    · rw [if_neg e, if_neg (z1 ▸ e)]
      exact ⟨z1, z2, z3⟩
abbrev RelK (K : PySem.W.Frag) (G : Hp) (p : NestedKey × D) (q : NestedKey × Addr × V) : Prop := p.1 = q.1 ∧ KeyD K G q.1 q.2.1 ∧ Dt K G q.2.2 p.2
theorem look_rel {K : PySem.W.Frag} {G : Hp} : ∀ {kvs : List (NestedKey × D)} {xs : List (NestedKey × Addr × V)} (k : NestedKey), Paired (RelK K G) kvs xs →
    (lookD kvs k = none ∧ atV xs k = none) ∨ ∃ d a v, lookD kvs k = some d ∧ atV xs k = some (a, v) ∧ Dt K G v d
  | _, _, k, .nil => .inl ⟨rfl, rfl⟩
  | x :: xs, u :: us, k, .cons h t => by
    obtain ⟨h1, h2, h3⟩ := h
    by_cases e : x.1 = k
    · refine .inr ⟨x.2, u.2.1, u.2.2, ?_, ?_, h3⟩
      · unfold lookD
        rw [List.find?_cons_of_pos (by simpa using e)]
        rfl
      · unfold atV
        rw [List.find?_cons_of_pos (by rw [← h1]; simpa using e)]
        rfl
    · have e1 : lookD (x :: xs) k = lookD xs k := by
        unfold lookD
        rw [List.find?_cons_of_neg (by simpa using e)]
      have e2 : atV (u :: us) k = atV us k := by
        unfold atV
        rw [List.find?_cons_of_neg (by rw [← h1]; simpa using e)]
      rw [e1, e2]
      exact look_rel k t
theorem put_rel {K : PySem.W.Frag} {G : Hp} {kvs : List (NestedKey × D)} {xs : List (NestedKey × Addr × V)} {k : NestedKey} {a : Addr} {v : V} {d : D} (h : Paired (RelK K G) kvs xs) (hk : KeyD K G k a) (r : Dt K G v d) : Paired (RelK K G) (putD kvs k d) (storedV xs k a v) := by
  unfold putD storedV
  rcases look_rel k h with ⟨h1, h2⟩ | ⟨d', a', v', h1, h2, h3⟩
  · rw [h1, h2, if_neg (by simp), if_neg (by simp)]
    exact pair_app h (.cons ⟨rfl, hk, r⟩ .nil)
  · rw [h1, h2, if_pos (by rfl), if_pos (by rfl)]
    refine pair_map (fun p q z => ?_) h
    obtain ⟨z1, z2, z3⟩ := z
    by_cases e : p.1 = k
    · rw [if_pos e, if_pos (z1 ▸ e)]
      exact ⟨z1, z2, r⟩
    · rw [if_neg e, if_neg (z1 ▸ e)]
      exact ⟨z1, z2, z3⟩
theorem pair_len {α β : Type} {R : α → β → Prop} : ∀ {xs : List α} {ys : List β}, Paired R xs ys → xs.length = ys.length
  | _, _, .nil => rfl
  | _, _, .cons _ t => by rw [List.length_cons, List.length_cons, pair_len t]
theorem look_put (kvs : List (NestedKey × D)) (k : NestedKey) (d : D) : lookD (putD kvs k d) k = some d := by
  unfold putD
  cases e : lookD kvs k with
  | none =>
    rw [if_neg (by simp)]
    unfold lookD at e ⊢
    rw [Option.map_eq_none_iff] at e
    rw [List.find?_append, e]
    simp
  | some d' =>
    rw [if_pos (by rfl)]
    unfold lookD at e ⊢
    induction kvs with
    | nil => cases e
    | cons p r ih =>
      by_cases hp : p.1 = k
      · rw [List.map_cons, if_pos hp, List.find?_cons_of_pos (by simpa using hp)]
        rfl
      · rw [List.map_cons, if_neg hp, List.find?_cons_of_neg (by simpa using hp)]
        rw [List.find?_cons_of_neg (by simpa using hp)] at e
        exact ih e
theorem put_mem {kvs : List (NestedKey × D)} {k : NestedKey} {d : D} {p : NestedKey × D} (h : p ∈ putD kvs k d) : p ∈ kvs ∨ p = (k, d) := by
  unfold putD at h
  split at h
  · obtain ⟨q, hq, e⟩ := List.mem_map.mp h
    split at e
    · rename_i e1
      exact .inr (by rw [← e, e1])
    · exact .inl (e ▸ hq)
  · rcases List.mem_append.mp h with h | h
    · exact .inl h
    · exact .inr (by simpa using h)
theorem put_len (kvs : List (NestedKey × D)) (k : NestedKey) (d : D) : (putD kvs k d).length ≤ kvs.length + 1 := by
  unfold putD
  split
  · rw [List.length_map]; omega
  · rw [List.length_append]; exact Nat.le_refl _
theorem look_mem {kvs : List (NestedKey × D)} {k : NestedKey} {d : D} (h : lookD kvs k = some d) : (k, d) ∈ kvs := by
  unfold lookD at h
  obtain ⟨p, h1, rfl⟩ := Option.map_eq_some_iff.mp h
  have h2 := List.find?_some h1
  have h3 := List.mem_of_find?_eq_some h1
  have h4 : p.1 = k := by simpa using h2
  rw [← h4]
  exact h3

/-! ### the operations -/
section
variable {X : Cx}
/-- what a dict's operation asks -/
structure DicAt (X : Cx) (H : Hp) (d : Addr) (xs : List (NestedKey × Addr × V)) : Prop where
  at_ : H d = some (dicO X.prog X.w d xs)
  sm : (d == sysModules) = false
  keys : ∀ z ∈ xs, KeyD X.K H z.1 z.2.1
theorem DicAt.dict {pins : List (Addr × Obj)} {σ : St} {H : Hp} {s : Shared} {d : Addr} {xs : List (NestedKey × Addr × V)} (I : Inv X pins σ H s) (h : DicAt X H d xs) : ∃ us, Paired RelU xs us ∧ s.heap.DictOfH (nestedKind X.prog X.w) d us := by
  obtain ⟨⟨us, h1, o, es, ep, h2, h3, h4, h5, h6⟩, _, _⟩ := I.hok d _ h.at_
  refine ⟨us, h1, o, es, ep, h2, h3, h4, h5, fun x hx => ?_, h6⟩
  have key : ∀ {ys : List (NestedKey × Addr × V)} {ws : List (NestedKey × Addr × Value)}, Paired RelU ys ws → x ∈ ws → ∃ z ∈ ys, z.1 = x.1 ∧ z.2.1 = x.2.1 := by
    intro ys ws hp
    induction hp with
    | nil => intro h; cases h
    | cons r t ih =>
      intro h
      rcases List.mem_cons.mp h with rfl | h
      · exact ⟨_, List.mem_cons_self, r.1, r.2.1⟩
      · obtain ⟨z, hz, e⟩ := ih h
        exact ⟨z, List.mem_cons_of_mem _ hz, e⟩
  obtain ⟨z, hz, e1, e2⟩ := key h1 hx
  have q := (h.keys z hz).is_ I
  rw [e1, e2] at q
  exact q
theorem room_n (C : Cok X) : (nestedKind X.prog X.w).room X.A.in1 := by
  have h := C.hu
  show X.A.units + 1 + 8 < cLine
  omega
def rNinN (X : Cx) : R2 := fun x y H Q => ∃ ka d xs key, x = .ref ka ∧ y = .ref d ∧ DicAt X H d xs ∧ KeyD X.K H key ka ∧ Q (.bl (!(atV xs key).isSome)) H
theorem op_ninN (C : Cok X) : OpR X (compareOp .NotIn) (rNinN X) := by
  intro pins s σ H x y v u Q I rx ry h
  obtain ⟨ka, d, xs, key, rfl, rfl, hd, hk, q⟩ := h
  cases rx
  cases ry
  obtain ⟨us, hp, hm⟩ := hd.dict I
  refine PyProof.Rows.wpAny_notIn_heap (room_n C) (hk.is_ I) hd.sm hm ?_
  have e : (atKey us key).isSome = (atV xs key).isSome := by
    rcases at_rel key hp with ⟨h1, h2⟩ | ⟨a, v, u, h1, h2, _⟩ <;> rw [h1, h2] <;> rfl
  rw [e]
  exact ⟨.bl _, H, I.tok _, rfl, q⟩
def rGetN (X : Cx) : V → V → Hp → VK → Prop := fun x y H Q => ∃ d ka xs key a v, x = .ref d ∧ y = .ref ka ∧ DicAt X H d xs ∧ KeyD X.K H key ka ∧ atV xs key = some (a, v) ∧ Q v H
theorem pe_getN {o i : Expr} {td ty : TE} {pos : Pos} (C : Cok X) (ho : PE X o td) (hi : PE X i ty) (hs : NoSl i) : PE X (.Subscript o i pos) (tOp (rGetN X) td ty) := by
  refine ⟨fun pins s σ H Q I h => ?_⟩
  refine subD_of PySem.F.slot_dict_getitem.lookup hs (thn (ho.run pins s σ H _ I h) fun u s1 ⟨x, H1, I1, rx, q1⟩ => thn (hi.run pins s1 σ H1 _ I1 q1) fun iv s2 ⟨y, H2, I2, ry, q2⟩ => ?_)
  obtain ⟨d, ka, xs, key, a, v, rfl, rfl, hd, hk, hv, q⟩ := q2
  cases rx
  cases ry
  obtain ⟨us, hp, hm⟩ := hd.dict I2
  refine ⟨hm.typeIs, ?_⟩
  rcases at_rel key hp with ⟨h1, _⟩ | ⟨a', v', u', h1, h2, h3⟩
  · rw [h1] at hv; cases hv
  · rw [h1] at hv
    cases hv
    exact wpAny_getItem_heap (room_n C) (hk.is_ I2) hm h2 ⟨v, H2, I2.tok _, h3, q⟩
def rPutN (X : Cx) : TSet := fun o i v H Q => ∃ d ka xs key, o = .ref d ∧ i = .ref ka ∧ DicAt X H d xs ∧ KeyD X.K H key ka ∧ xs.length ≤ 1000000 ∧ Q (upd H d (dicO X.prog X.w d (storedV xs key ka v)))
theorem set_N (C : Cok X) : PSet X (rPutN X) := by
  intro pins s σ H o i v ov iv u Q I ro ri rv h
  obtain ⟨d, ka, xs, key, rfl, rfl, hd, hk, hz, q⟩ := h
  cases ro
  cases ri
  obtain ⟨us, hp, hm⟩ := hd.dict I
  refine wpAny_setItem_heap (hsz := by rw [← pair_len hp]; exact Nat.le_trans hz (by decide)) (room_n C) (hk.is_ I) hm fun h' hm' sb => ?_
  obtain ⟨o', es, ep, h2, h3, h4, h5, _, h6⟩ := hm'
  refine ⟨upd H d (dicO X.prog X.w d (storedV xs key ka v)), I.write (x := d) (e := d) (by rw [hd.at_]; trivial) (.inl rfl) (fun b ob hb e => (sb.2 b hb).trans e) ⟨o', h2⟩ ?_, q⟩
  exact ⟨⟨_, stored_rel hp rv, o', es, ep, h2, h3, h4, h5, h6⟩, ⟨o', h2⟩, fun h1 h2' ⟨us', p1, o1, es1, ep1, g1, g2⟩ k => ⟨us', p1, o1, es1, ep1, k _ g1, g2⟩⟩
def tDNewN (X : Cx) : TE := fun _ H Q => ∀ p, H p = none → (p == sysModules) = false → Q (.ref p) (upd H p (dicO X.prog X.w p []))
theorem pe_dnewN {pos : Pos} : PE X (.Dict [] [] pos) (tDNewN X) := ⟨fun pins s σ H Q I h => by
  refine wpAny_Dict_empty ⟨.ref s.heap.objs.size, _, I.laid (a := s.heap.objs.size) (o := dicO X.prog X.w s.heap.objs.size []) (t' := s.toks) (fun _ _ q => Heap.get?_push_of_some _ q) (Nat.le_refl _) ?_, rfl, h _ (I.hok.fresh (Nat.le_refl _)) (beq_eq_false_iff_ne.mpr (Ne.symm (Nat.ne_of_lt I.big)))⟩
  exact ⟨⟨[], .nil, _, #[], 0, Heap.get?_push_size _ rfl, ⟨rfl, rfl, rfl⟩, rfl, rfl, List.nodup_nil⟩, ⟨_, Heap.get?_push_size _ rfl⟩, fun h1 h2' ⟨us', p1, o1, es1, ep1, g1, g2⟩ k => ⟨us', p1, o1, es1, ep1, k _ g1, g2⟩⟩⟩
end

/-! ### by data -/
section
variable {X : Cx} {δ : En} {M M1 M2 M3 : Mp} {De : DE} {d kd : D} {kvs : List (NestedKey × D)} {pos p : Pos} {e o a b : Expr} {l : Addr}
theorem SR.md {P : Program} {w : World} {K : PySem.W.Frag} {G H : Hp} (s : SR P w K G M H) (hM : M l = some (.md kvs)) : ∃ xs, H l = some (dicO P w l xs) ∧ (l == sysModules) = false ∧ Paired (RelK K G) kvs xs := by
  obtain ⟨_, u, h1, h2⟩ := s.mu l _ hM
  cases h2 with
  | md h3 h4 => exact ⟨_, h1, h3, h4⟩
theorem SR.dicAt {G H : Hp} (s : SRX X G M H) (hM : M l = some (.md kvs)) : ∃ xs, DicAt X H l xs ∧ Paired (RelK X.K G) kvs xs := by
  obtain ⟨xs, h1, h2, h3⟩ := SR.md s hM
  refine ⟨xs, ⟨h1, h2, ?_⟩, h3⟩
  have key : ∀ {ks : List (NestedKey × D)} {ys : List (NestedKey × Addr × V)}, Paired (RelK X.K G) ks ys → ∀ z ∈ ys, KeyD X.K H z.1 z.2.1 := by
    intro ks ys hp
    induction hp with
    | nil => intro z h; cases h
    | cons r t ih =>
      intro z h
      rcases List.mem_cons.mp h with rfl | h
      · exact r.2.1.mono s.ex
      · exact ih z h
  exact key h3
/-- name = {} -/
theorem s_newd (i : Nat) {x : Str} {p' lp : Pos} (C : Cok X) (k : ∀ a, M a = none → De.nx (δ.set i (some (.adr a))) (updM M a (.md []))) (hi : X.N[i]? = some x := by rfl) (hx : Loc X.env.scope x := by first | exact .inl rfl | exact .inr rfl) (hs : swapsWith (.Dict [] [] lp) (some (.Name x p')) pos.line X.env = pure false := by rfl) (hf : X.fn x = true ∨ X.env.scope.names.lookup x = some .local := by first | exact .inl rfl | exact .inr rfl) :
    Run1 X (.Assign [.Name x p'] (.Dict [] [] lp) pos) δ M De := fun σ G H s E => by
  refine ws_of (ps_set C.nd hi hx pe_dnewN hs hf) fun p hp hsm => ?_
  have y := Xt.allocM (m := .md []) s hp (.md hsm .nil)
  exact ⟨_, _, G, k p (s.noM hp), y, E.set (.adr p) i⟩
/-- key not in known -/
theorem t_ninD (C : Cok X) (ha : Ev X a δ M kd M1) (hb : Ev X b δ M1 (.adr l) M2) (hM : M2 l = some (.md kvs)) (hf : kd.fix = true) (ht : ∃ ds, kd = .tup ds) (hk : kd.key.depth ≤ 8) (hm : behindInMarks .NotIn b = false := by with_unfolding_all rfl) :
    EvT X (.Compare a [.NotIn] [b] pos) δ M (!(lookD kvs kd.key).isSome) M2 := by
  refine et_cmp (op_ninN C) (fun G H vx vy s h1 h2 Q k => ?_) ha hb hm
  obtain ⟨xs, hd, hp⟩ := SR.dicAt s hM
  obtain ⟨ds, rfl⟩ := ht
  rw [dt_adr h2]
  have e : (lookD kvs (D.tup ds).key).isSome = (atV xs (D.tup ds).key).isSome := by
    rcases look_rel (D.tup ds).key hp with ⟨h1, h2⟩ | ⟨a, v, u, h1, h2, _⟩ <;> rw [h1, h2] <;> rfl
  cases h1 with
  | @tup ka vs _ h3 h4 =>
    refine ⟨ka, l, xs, (D.tup ds).key, rfl, rfl, hd, ⟨.tup ds, .tup (h3.mono s.ex) (h4.mono s.ex), hf, rfl, hk⟩, ?_⟩
    rw [← e]
    exact k _ G H (Xt.refl s) (.bl _)
/-- known[key] -/
theorem e_getD (C : Cok X) (ho : Ev X o δ M (.adr l) M1) (ha : Ev X a δ M1 kd M2) (hM : M2 l = some (.md kvs)) (hf : kd.fix = true) (ht : ∃ ds, kd = .tup ds) (hk : kd.key.depth ≤ 8) (hv : lookD kvs kd.key = some d) (hs : NoSl a := by exact fun _ _ => rfl) : Ev X (.Subscript o a pos) δ M d M2 := fun σ G H s E => by
  refine we_of (pe_getN C we_pe we_pe hs) (bin_ ho ha (fun G H vx vy s h1 h2 Q k => ?_) s E fun v G' H' x3 d3 => ⟨G', x3, d3⟩)
  obtain ⟨xs, hd, hp⟩ := SR.dicAt s hM
  obtain ⟨ds, rfl⟩ := ht
  rw [dt_adr h1]
  rcases look_rel (D.tup ds).key hp with ⟨h3, _⟩ | ⟨d', a', v, h3, h4, h5⟩
  · rw [h3] at hv; cases hv
  · rw [h3] at hv
    cases hv
    cases h2 with
    | @tup ka vs _ h6 h7 =>
      exact ⟨l, ka, xs, (D.tup ds).key, a', v, rfl, rfl, hd, ⟨.tup ds, .tup (h6.mono s.ex) (h7.mono s.ex), hf, rfl, hk⟩, h4, k v G H (Xt.refl s) h5⟩
/-- known[key] = e -/
theorem s_setd {spos : Pos} (C : Cok X) (h : Ev X e δ M d M1) (ho : Ev X o δ M1 (.adr l) M2) (hi : Ev X a δ M2 kd M3) (hM : M3 l = some (.md kvs)) (hf : kd.fix = true) (ht : ∃ ds, kd = .tup ds) (hk : kd.key.depth ≤ 8) (hz : kvs.length ≤ 1000000) (k : De.nx δ (updM M3 l (.md (putD kvs kd.key d))))
    (ha : ∀ v, assign (.Subscript o a spos) X.env v = (do
      let ov ← holding [v] (eval o X.env)
      let iv ← holding [v, ov] (eval a X.env)
      standAt spos
      holding [v, ov, iv] (setItem ov iv v)
      release [v, ov, iv] []) := by intro _; rfl)
    (hs : swapsWithSole [.Subscript o a spos] e pos.line X.env = pure false := by rfl) (hw : swappedStores [.Subscript o a spos] e X.env = pure none := by rfl)
    (h1 : (assignEach [.Subscript o a spos] X.env).map (·.2) = [assign (.Subscript o a spos) X.env] := by rfl) : Run1 X (.Assign [.Subscript o a spos] e pos) δ M De := fun σ G H s E => by
  refine ws_of (ps_asg we_pe (pg_sub we_pe we_pe (set_N C) ha) hs hw h1) ((h σ G H s E).mono fun v H1 ⟨G1, x1, d1⟩ => ?_)
  refine (ho σ G1 H1 x1.s (E.mono x1.g)).mono fun v2 H2 ⟨G2, x2, d2⟩ => ?_
  refine (hi σ G2 H2 x2.s (E.mono (x1.g.trans x2.g))).mono fun v3 H3 ⟨G3, x3, d3⟩ => ?_
  obtain ⟨xs, hd, hp⟩ := SR.dicAt x3.s hM
  obtain ⟨ds, rfl⟩ := ht
  rw [dt_adr d2]
  cases d3 with
  | @tup ka vs _ h6 h7 =>
    have xx := (x1.trans x2).trans x3
    refine ⟨l, ka, xs, (D.tup ds).key, rfl, rfl, hd, ⟨.tup ds, .tup (h6.mono x3.s.ex) (h7.mono x3.s.ex), hf, rfl, hk⟩, by rw [← pair_len hp]; exact hz, ?_⟩
    have y := Xt.mutM (m' := .md (putD kvs (D.tup ds).key d)) x3.s hM (.md hd.sm (put_rel (a := ka) hp ⟨.tup ds, .tup h6 h7, hf, rfl, hk⟩ (d1.mono (x2.g.trans x3.g))))
    exact ⟨_, _, G3, k, xx.trans y, E.mono xx.g⟩
end
end Dr
set_option Elab.async false
set_option linter.all false
set_option maxRecDepth 100000
set_option maxHeartbeats 2000000
namespace Dr
open PySem L2

def top (i : Nat) : Stmt := PySem.Challenge.pw_downrings_k54_whole_stuck_lots_and_sendi.main.body.getD i (.Pass ⟨0, 0, 0, 0⟩)

/-! ### short words -/
section
variable {X : Cx} {δ : En} {M M1 M2 M3 : Mp} {pos p : Pos} {a b c e : Expr} {es : List Expr} {x y z d : D} {i j k : Int}
theorem nm (i : Nat) {n : Str} (hN : X.N[i]? = some n := by rfl) (hv : Vis X.env.scope n := by first | exact Or.inl rfl | exact Or.inr (Or.inl rfl) | exact Or.inr (Or.inr rfl)) (hd : δ[i]? = some (some d) := by rfl) (h1 : (n == ("__debug__" : Str)) = false := by decide) (h2 : (n == ("__classdict__" : Str)) = false := by decide) :
    Ev X (.Name n pos) δ M d M := ev_name i hN hv hd h1 h2
theorem e_add (ha : Ev X a δ M (.int i) M1) (hb : Ev X b δ M1 (.int j) M2) : Ev X (.BinOp a .Add b pos) δ M (.int (i + j)) M2 := ev_bin op_add rd_I0 ha hb
theorem e_sub (ha : Ev X a δ M (.int i) M1) (hb : Ev X b δ M1 (.int j) M2) : Ev X (.BinOp a .Sub b pos) δ M (.int (i - j)) M2 := ev_bin op_sub rd_I0 ha hb
theorem e_mul (ha : Ev X a δ M (.int i) M1) (hb : Ev X b δ M1 (.int j) M2) (h : CMul i j) : Ev X (.BinOp a .Mult b pos) δ M (.int (i * j)) M2 := ev_bin op_mul (rd_I h) ha hb
theorem e_mod (ha : Ev X a δ M (.int i) M1) (hb : Ev X b δ M1 (.int j) M2) (h : 0 < j) : Ev X (.BinOp a .Mod b pos) δ M (.int (i % j)) M2 := ev_bin op_mod (rd_I h) ha hb
theorem e_div (ha : Ev X a δ M (.int i) M1) (hb : Ev X b δ M1 (.int j) M2) (h : CDiv i j) : Ev X (.BinOp a .FloorDiv b pos) δ M (.int (i / j)) M2 := ev_bin op_fdiv (rd_I h) ha hb
theorem e_pow (ha : Ev X a δ M (.int i) M1) (hb : Ev X b δ M1 (.int j) M2) (h : CPow i j) : Ev X (.BinOp a .Pow b pos) δ M (.int (i ^ j.toNat)) M2 := ev_bin op_pow (rd_I h) ha hb
theorem e_lt (ha : Ev X a δ M (.int i) M1) (hb : Ev X b δ M1 (.int j) M2) : Ev X (.Compare a [.Lt] [b] pos) δ M (.bl (decide (i < j))) M2 := ev_cmp op_lt rd_B0 ha hb (nomark _)
theorem e_le (ha : Ev X a δ M (.int i) M1) (hb : Ev X b δ M1 (.int j) M2) : Ev X (.Compare a [.LtE] [b] pos) δ M (.bl (decide (i ≤ j))) M2 := ev_cmp op_le rd_B0 ha hb (nomark _)
theorem e_gt (ha : Ev X a δ M (.int i) M1) (hb : Ev X b δ M1 (.int j) M2) : Ev X (.Compare a [.Gt] [b] pos) δ M (.bl (decide (j < i))) M2 := ev_cmp op_gt rd_B0 ha hb (nomark _)
theorem e_ge (ha : Ev X a δ M (.int i) M1) (hb : Ev X b δ M1 (.int j) M2) : Ev X (.Compare a [.GtE] [b] pos) δ M (.bl (decide (j ≤ i))) M2 := ev_cmp op_ge rd_B0 ha hb (nomark _)
theorem e_eq (ha : Ev X a δ M (.int i) M1) (hb : Ev X b δ M1 (.int j) M2) : Ev X (.Compare a [.Eq] [b] pos) δ M (.bl (decide (i = j))) M2 := ev_cmp op_eq rd_eqI ha hb (nomark _)
theorem t_lt (ha : Ev X a δ M (.int i) M1) (hb : Ev X b δ M1 (.int j) M2) : EvT X (.Compare a [.Lt] [b] pos) δ M (decide (i < j)) M2 := et_cmp op_lt rd_B0 ha hb (nomark _)
theorem t_le (ha : Ev X a δ M (.int i) M1) (hb : Ev X b δ M1 (.int j) M2) : EvT X (.Compare a [.LtE] [b] pos) δ M (decide (i ≤ j)) M2 := et_cmp op_le rd_B0 ha hb (nomark _)
theorem t_gt (ha : Ev X a δ M (.int i) M1) (hb : Ev X b δ M1 (.int j) M2) : EvT X (.Compare a [.Gt] [b] pos) δ M (decide (j < i)) M2 := et_cmp op_gt rd_B0 ha hb (nomark _)
theorem t_ge (ha : Ev X a δ M (.int i) M1) (hb : Ev X b δ M1 (.int j) M2) : EvT X (.Compare a [.GtE] [b] pos) δ M (decide (j ≤ i)) M2 := et_cmp op_ge rd_B0 ha hb (nomark _)
theorem t_eq (ha : Ev X a δ M (.int i) M1) (hb : Ev X b δ M1 (.int j) M2) : EvT X (.Compare a [.Eq] [b] pos) δ M (decide (i = j)) M2 := et_cmp op_eq rd_eqI ha hb (nomark _)
theorem t_ne (ha : Ev X a δ M (.int i) M1) (hb : Ev X b δ M1 (.int j) M2) : EvT X (.Compare a [.NotEq] [b] pos) δ M (!decide (i = j)) M2 := et_cmp op_ne rd_neI ha hb (nomark _)
theorem e_ne (ha : Ev X a δ M (.int i) M1) (hb : Ev X b δ M1 (.int j) M2) : Ev X (.Compare a [.NotEq] [b] pos) δ M (.bl (!decide (i = j))) M2 := ev_cmp op_ne rd_neI ha hb (nomark _)
theorem t_isN {jj pp} (ha : Ev X a δ M d M1) : EvT X (.Compare a [.Is] [.Constant .none jj pp] pos) δ M d.isN M1 := et_cmp op_isN rd_isN ha ev_non (nomark _)
theorem t_notN {jj pp} (ha : Ev X a δ M d M1) : EvT X (.Compare a [.IsNot] [.Constant .none jj pp] pos) δ M (!d.isN) M1 := et_cmp op_notN rd_notN ha ev_non (nomark _)
theorem e_notN {jj pp} (ha : Ev X a δ M d M1) : Ev X (.Compare a [.IsNot] [.Constant .none jj pp] pos) δ M (.bl (!d.isN)) M1 := ev_cmp op_notN rd_notN ha ev_non (nomark _)
theorem t_isnB {b' : Bool} {k : Bool} {jj pp} (ha : Ev X a δ M (.bl k) M1) : EvT X (.Compare a [.IsNot] [.Constant (.bool b') jj pp] pos) δ M (!decide (k = b')) M1 := et_cmp op_isnot_bl rd_isnotB ha ev_bl (nomark _)
theorem t_in {ns : List Int} (ha : Ev X a δ M (.int i) M1) (hb : Ev X b δ M1 (D.ti ns) M2) (hm : behindInMarks .In b = false := by with_unfolding_all rfl) : EvT X (.Compare a [.In] [b] pos) δ M (decide (i ∈ ns)) M2 := et_cmp op_in_seq rd_inT ha hb hm
theorem e_in {ns : List Int} (ha : Ev X a δ M (.int i) M1) (hb : Ev X b δ M1 (D.ti ns) M2) (hm : behindInMarks .In b = false := by with_unfolding_all rfl) : Ev X (.Compare a [.In] [b] pos) δ M (.bl (decide (i ∈ ns))) M2 := ev_cmp op_in_seq rd_inT ha hb hm
theorem t_nin {ns : List Int} (ha : Ev X a δ M (.int i) M1) (hb : Ev X b δ M1 (D.ti ns) M2) (hm : behindInMarks .NotIn b = false := by with_unfolding_all rfl) : EvT X (.Compare a [.NotIn] [b] pos) δ M (!decide (i ∈ ns)) M2 := et_cmp op_notIn_seq rd_niT ha hb hm
theorem ixT {ds : List D} (ha : Ev X a δ M (.tup ds) M1) (hb : Ev X b δ M1 (.int i) M2) (h : atI ds i = some d := by rfl) (hs : PlainIx b := by exact fun _ _ => rfl) : Ev X (.Subscript a b pos) δ M d M2 := ev_ix ix_tup (rd_ixT h) ha hb hs
theorem ixL {ds : List D} (ha : Ev X a δ M (.lst ds) M1) (hb : Ev X b δ M1 (.int i) M2) (h : atI ds i = some d := by rfl) (hs : PlainIx b := by exact fun _ _ => rfl) : Ev X (.Subscript a b pos) δ M d M2 := ev_ix ix_list (rd_ixL h) ha hb hs
theorem ixM {l : Addr} {ds : List D} (ha : Ev X a δ M (.adr l) M1) (hb : Ev X b δ M1 (.int i) M2) (hM : M2 l = some (.ml ds)) (h : atI ds i = some d := by rfl) (hs : PlainIx b := by exact fun _ _ => rfl) : Ev X (.Subscript a b pos) δ M d M2 := ev_ix ix_list (rd_ixM hM h) ha hb hs
theorem e_lenT {ds : List D} (hm : X.mg "len" = none) (ha : Ev X e δ M (.tup ds) M1) (hg : Gl X "len" := by rfl) (hs : starEach [e] X.env = (false, eval e X.env) :: starEach [] X.env := by rfl) (hpl : (backTo pos (starEach ([] : List Expr) X.env)).any (·.1) = false := by rfl) : Ev X (.Call (.Name "len" p) [e] [] pos) δ M (.int ds.length) M1 := ev_callB call_len_seq PySem.boot_len cd_lenT hg hm (ea_cons ha ea_nil hs) (by decide) (by decide) hs hpl
theorem e_lenL {ds : List D} (hm : X.mg "len" = none) (ha : Ev X e δ M (.lst ds) M1) (hg : Gl X "len" := by rfl) (hs : starEach [e] X.env = (false, eval e X.env) :: starEach [] X.env := by rfl) (hpl : (backTo pos (starEach ([] : List Expr) X.env)).any (·.1) = false := by rfl) : Ev X (.Call (.Name "len" p) [e] [] pos) δ M (.int ds.length) M1 := ev_callB call_len_seq PySem.boot_len cd_lenL hg hm (ea_cons ha ea_nil hs) (by decide) (by decide) hs hpl
theorem e_lenM {l : Addr} {ds : List D} (hm : X.mg "len" = none) (ha : Ev X e δ M (.adr l) M1) (hM : M1 l = some (.ml ds)) (hg : Gl X "len" := by rfl) (hs : starEach [e] X.env = (false, eval e X.env) :: starEach [] X.env := by rfl) (hpl : (backTo pos (starEach ([] : List Expr) X.env)).any (·.1) = false := by rfl) : Ev X (.Call (.Name "len" p) [e] [] pos) δ M (.int ds.length) M1 := ev_callB call_len_seq PySem.boot_len (cd_lenM hM) hg hm (ea_cons ha ea_nil hs) (by decide) (by decide) hs hpl
theorem e_all {bs : List Bool} (C : Cok X) (hm : X.mg "all" = none) (ha : Ev X e δ M (.lst (bs.map D.bl)) M1) (hg : Gl X "all" := by rfl) (hs : starEach [e] X.env = (false, eval e X.env) :: starEach [] X.env := by rfl) (hpl : (backTo pos (starEach ([] : List Expr) X.env)).any (·.1) = false := by rfl) : Ev X (.Call (.Name "all" p) [e] [] pos) δ M (.bl (bs.all id)) M1 := ev_callB (cr_all C.calm) (by decide +kernel) cd_all hg hm (ea_cons ha ea_nil hs) (by decide) (by decide) hs hpl
theorem e_any {bs : List Bool} (C : Cok X) (hm : X.mg "any" = none) (ha : Ev X e δ M (.lst (bs.map D.bl)) M1) (hg : Gl X "any" := by rfl) (hs : starEach [e] X.env = (false, eval e X.env) :: starEach [] X.env := by rfl) (hpl : (backTo pos (starEach ([] : List Expr) X.env)).any (·.1) = false := by rfl) : Ev X (.Call (.Name "any" p) [e] [] pos) δ M (.bl (bs.any id)) M1 := ev_callB (cr_any C.calm) (by decide +kernel) cd_any hg hm (ea_cons ha ea_nil hs) (by decide) (by decide) hs hpl
theorem e_max {i j : Int} (C : Cok X) (hm : X.mg "max" = none) (ha : Ev X a δ M (.int i) M1) (hb : Ev X b δ M1 (.int j) M2) (hg : Gl X "max" := by rfl) (hs : starEach [a, b] X.env = (false, eval a X.env) :: starEach [b] X.env := by rfl) (hs2 : starEach [b] X.env = (false, eval b X.env) :: starEach [] X.env := by rfl) (hpl : (backTo pos (starEach [b] X.env)).any (·.1) = false := by rfl) : Ev X (.Call (.Name "max" p) [a, b] [] pos) δ M (.int (max i j)) M2 := ev_callB (call_max2 C.calm) (by decide +kernel) cd_max2 hg hm (ea_cons ha (ea_cons hb ea_nil hs2) hs) (by decide) (by decide) hs hpl
theorem e_min {i j : Int} (C : Cok X) (hm : X.mg "min" = none) (ha : Ev X a δ M (.int i) M1) (hb : Ev X b δ M1 (.int j) M2) (hg : Gl X "min" := by rfl) (hs : starEach [a, b] X.env = (false, eval a X.env) :: starEach [b] X.env := by rfl) (hs2 : starEach [b] X.env = (false, eval b X.env) :: starEach [] X.env := by rfl) (hpl : (backTo pos (starEach [b] X.env)).any (·.1) = false := by rfl) : Ev X (.Call (.Name "min" p) [a, b] [] pos) δ M (.int (min i j)) M2 := ev_callB (call_min2 C.calm) (by decide +kernel) cd_min2 hg hm (ea_cons ha (ea_cons hb ea_nil hs2) hs) (by decide) (by decide) hs hpl
theorem e_tupL {ds : List D} (hm : X.mg "tuple" = none) (ha : Ev X e δ M (.lst ds) M1) (hg : Gl X "tuple" := by rfl) (hs : starEach [e] X.env = (false, eval e X.env) :: starEach [] X.env := by rfl) (hpl : (backTo pos (starEach ([] : List Expr) X.env)).any (·.1) = false := by rfl) : Ev X (.Call (.Name "tuple" p) [e] [] pos) δ M (.tup ds) M1 := ev_callTy call_tupZ (by decide +kernel) cd_tupL hg hm (ea_cons ha ea_nil hs) (by decide) (by decide) hs hpl
theorem e_tupM {l : Addr} {ds : List D} (hm : X.mg "tuple" = none) (ha : Ev X e δ M (.adr l) M1) (hM : M1 l = some (.ml ds)) (hg : Gl X "tuple" := by rfl) (hs : starEach [e] X.env = (false, eval e X.env) :: starEach [] X.env := by rfl) (hpl : (backTo pos (starEach ([] : List Expr) X.env)).any (·.1) = false := by rfl) : Ev X (.Call (.Name "tuple" p) [e] [] pos) δ M (.tup ds) M1 := ev_callTy call_tupZ (by decide +kernel) (cd_tupM hM) hg hm (ea_cons ha ea_nil hs) (by decide) (by decide) hs hpl
theorem e_listT {ds : List D} (hm : X.mg "list" = none) (ha : Ev X e δ M (.tup ds) M1) (hg : Gl X "list" := by rfl) (hs : starEach [e] X.env = (false, eval e X.env) :: starEach [] X.env := by rfl) (hpl : (backTo pos (starEach ([] : List Expr) X.env)).any (·.1) = false := by rfl) : Ev X (.Call (.Name "list" p) [e] [] pos) δ M (.lst ds) M1 := ev_callTy call_list_of (by decide +kernel) cd_listT hg hm (ea_cons ha ea_nil hs) (by decide) (by decide) hs hpl
theorem e_catT {xs ys : List D} (ha : Ev X a δ M (.tup xs) M1) (hb : Ev X b δ M1 (.tup ys) M2) (hz : xs.length + ys.length ≤ 1000) : Ev X (.BinOp a .Add b pos) δ M (.tup (xs ++ ys)) M2 := ev_bin op_catZ (rd_catT hz) ha hb
theorem e_catL {xs ys : List D} (ha : Ev X a δ M (.lst xs) M1) (hb : Ev X b δ M1 (.lst ys) M2) (hz : xs.length + ys.length ≤ 10000) : Ev X (.BinOp a .Add b pos) δ M (.lst (xs ++ ys)) M2 := ev_bin op_cat (rd_catL hz) ha hb
/-- isinstance(e, T), T one of these -/
theorem isiT {ds : List D} {p2 : Pos} (hm : X.mg "isinstance" = none) (hm2 : X.mg "tuple" = none) (ha : Ev X e δ M (.tup ds) M1) (hg : Gl X "isinstance" := by rfl) (hg2 : Gl X "tuple" := by rfl)
    (he : starEach (e :: [.Name "tuple" p2]) X.env = (false, eval e X.env) :: starEach [.Name "tuple" p2] X.env := by rfl) (he2 : starEach [.Name "tuple" p2] X.env = (false, eval (.Name "tuple" p2) X.env) :: starEach [] X.env := by rfl) (hpl : (backTo pos (starEach [.Name "tuple" p2] X.env)).any (·.1) = false := by rfl) : Ev X (.Call (.Name "isinstance" p) (e :: [.Name "tuple" p2]) [] pos) δ M (.bl true) M1 := ev_isi (T := "tuple") ha rfl (kit_ty (show kitB "tuple" "tuple" = some true by decide +kernel)) hg hm hg2 hm2 (by decide +kernel) (by decide +kernel) (by decide) (by decide) he he2 hpl
theorem isiI {i : Int} {p2 : Pos} (hm : X.mg "isinstance" = none) (hm2 : X.mg "int" = none) (ha : Ev X e δ M (.int i) M1) (hg : Gl X "isinstance" := by rfl) (hg2 : Gl X "int" := by rfl)
    (he : starEach (e :: [.Name "int" p2]) X.env = (false, eval e X.env) :: starEach [.Name "int" p2] X.env := by rfl) (he2 : starEach [.Name "int" p2] X.env = (false, eval (.Name "int" p2) X.env) :: starEach [] X.env := by rfl) (hpl : (backTo pos (starEach [.Name "int" p2] X.env)).any (·.1) = false := by rfl) : Ev X (.Call (.Name "isinstance" p) (e :: [.Name "int" p2]) [] pos) δ M (.bl true) M1 := ev_isi (T := "int") ha rfl (kit_ty (show kitB "int" "int" = some true by decide +kernel)) hg hm hg2 hm2 (by decide +kernel) (by decide +kernel) (by decide) (by decide) he he2 hpl
theorem isiB {i : Int} {p2 : Pos} (hm : X.mg "isinstance" = none) (hm2 : X.mg "bool" = none) (ha : Ev X e δ M (.int i) M1) (hg : Gl X "isinstance" := by rfl) (hg2 : Gl X "bool" := by rfl)
    (he : starEach (e :: [.Name "bool" p2]) X.env = (false, eval e X.env) :: starEach [.Name "bool" p2] X.env := by rfl) (he2 : starEach [.Name "bool" p2] X.env = (false, eval (.Name "bool" p2) X.env) :: starEach [] X.env := by rfl) (hpl : (backTo pos (starEach [.Name "bool" p2] X.env)).any (·.1) = false := by rfl) : Ev X (.Call (.Name "isinstance" p) (e :: [.Name "bool" p2]) [] pos) δ M (.bl false) M1 := ev_isi (T := "bool") ha rfl (kit_ty (show kitB "int" "bool" = some false by decide +kernel)) hg hm hg2 hm2 (by decide +kernel) (by decide +kernel) (by decide) (by decide) he he2 hpl
theorem a1 (ha : Ev X a δ M x M1) (hs : starEach [a] X.env = (false, eval a X.env) :: starEach [] X.env := by rfl) : EvA X [a] δ M [x] M1 := ea_cons ha ea_nil hs
theorem aC {ds : List D} (ha : Ev X a δ M x M1) (hr : EvA X es δ M1 ds M2) (hs : starEach (a :: es) X.env = (false, eval a X.env) :: starEach es X.env := by rfl) : EvA X (a :: es) δ M (x :: ds) M2 := ea_cons ha hr hs
theorem e_call {F : FS} {k : Nat} {nm : Str} {ps : List Str} {p : Pos} {ds : List D} (C : Can X.prog X.w X.K X.mg X.base k nm ps F) (hr : Room k X.A) (ha : EvA X (e :: es) δ M ds M1) (hF : F ds M1 d M2) (hg : Gl X nm := by rfl)
    (hdb : (nm == ("__debug__" : Str)) = false := by decide) (he : starEach (e :: es) X.env = (false, eval e X.env) :: starEach es X.env := by rfl) (hpl : (backTo pos (starEach es X.env)).any (·.1) = false := by rfl) :
    Ev X (.Call (.Name nm p) (e :: es) [] pos) δ M d M2 := ev_call C hr hg ha hF hdb he hpl
theorem e_gI {nm : Str} {i : Int} (hm : ∃ t, X.mg nm = some (.int i t)) (hg : Gl X nm := by rfl) (h1 : (nm == ("__debug__" : Str)) = false := by decide) : Ev X (.Name nm pos) δ M (.int i) M := by
  obtain ⟨t, hm⟩ := hm
  exact ev_globI hg hm h1
end
section
variable {X : Cx} {δ : En} {M M1 M2 M3 : Mp} {De : DE} {pos p : Pos} {e : Expr} {rest a b : List Stmt} {d : D}
/-- x = e; .. -/
theorem r_set (i : Nat) {x : Str} {p' : Pos} (C : Cok X) (h : Ev X e δ M d M1) (k : Run X rest (δ.set i (some d)) M1 De) (hi : X.N[i]? = some x := by rfl) (hx : Loc X.env.scope x := by first | exact .inl rfl | exact .inr rfl) (hs : swapsWith e (some (.Name x p')) pos.line X.env = pure false := by rfl) (hf : X.fn x = true ∨ X.env.scope.names.lookup x = some .local := by first | exact .inl rfl | exact .inr rfl) :
    Run X (.Assign [.Name x p'] e pos :: rest) δ M De := run_cons (s_set i C hi hx h k hs hf)
theorem r_ret (h : Ev X e δ M d M1) (k : De.rt d M1) : Run X (.Return (some e) pos :: rest) δ M De := run_cons (s_ret h k)
/-- if c: (leaves); .. -/
theorem r_if {c : Expr} {k : Bool} (h : EvT X c δ M k M1) (h1 : k = true → Run X a δ M1 { De with nx := fun δ' M' => Run X rest δ' M' De }) (h2 : k = false → Run X b δ M1 { De with nx := fun δ' M' => Run X rest δ' M' De }) : Run X (.If c a b pos :: rest) δ M De := run_cons (s_if h h1 h2)
/-- if c: (never); .. -/
theorem r_no {c : Expr} (h : EvT X c δ M false M1) (h2 : Run X rest δ M1 De) : Run X (.If c a [] pos :: rest) δ M De := run_cons (s_if h (fun h => nomatch h) fun _ => run_nil h2)
end

/-! ### the facts of the text -/
structure Tx (K : PySem.W.Frag) (mg : Str → Option Value) : Prop where
  isinstance : mg "isinstance" = none
  len : mg "len" = none
  all : mg "all" = none
  any : mg "any" = none
  enumerate : mg "enumerate" = none
  range : mg "range" = none
  sorted : mg "sorted" = none
  max : mg "max" = none
  min : mg "min" = none
  tuple : mg "tuple" = none
  list : mg "list" = none
  set : mg "set" = none
  int : mg "int" = none
  bool : mg "bool" = none
  MOST_RINGS : ∃ t, mg "MOST_RINGS" = some (.int 8 t)
  MOST_SINK : ∃ t, mg "MOST_SINK" = some (.int 60 t)
  MOST_KINDS : ∃ t, mg "MOST_KINDS" = some (.int 4 t)
  MOST_GAP : ∃ t, mg "MOST_GAP" = some (.int 99 t)
  MOST_SHUTS : ∃ t, mg "MOST_SHUTS" = some (.int 4 t)
  MOST_MINUTE : ∃ t, mg "MOST_MINUTE" = some (.int 9999 t)
  MOST_GLIDERS : ∃ t, mg "MOST_GLIDERS" = some (.int 7 t)
  MOST_WEIGHT : ∃ t, mg "MOST_WEIGHT" = some (.int 99 t)

section
variable {P : Program} {w : World} {K : PySem.W.Frag} {mg : Str → Option Value} {base : Heap}
/-! ### is_whole, is_within, is_minute: of whole numbers within their bounds -/
def F_is_whole : FS := fun ds M d M' => ∃ i, ds = [.int i] ∧ d = .bl true ∧ M' = M
theorem sc_is_whole : FnScope ["thing"] ["thing"] (defScope (top 11)) := ⟨rfl, rfl, rfl, by decide +kernel, rfl, by decide +kernel, by decide +kernel⟩
theorem ok_is_whole (T : Tx K mg) (hF : Has K mg "is_whole" (top 11)) : Can P w K mg base 1 "is_whole" ["thing"] F_is_whole := by
  refine can_of hF sc_is_whole (fun ds M d M' h => by obtain ⟨i, rfl, _⟩ := h; rfl) (fun _ _ _ _ _ _ us hl => match us, hl with | [_], _ => rfl) fun f cdv A outer s H E C hr ds M d M' h => ?_
  obtain ⟨i, rfl, rfl, rfl⟩ := h
  exact r_ret (ev_and (isiI T.isinstance T.int (nm 0)) fun _ => ev_one (ev_not (isiB T.isinstance T.bool (nm 0)))) ⟨rfl, SubM.refl _⟩
end
end Dr
set_option Elab.async false
set_option linter.all false
set_option maxRecDepth 100000
set_option maxHeartbeats 2000000
/-! the data of the program, and short words that want it -/
namespace Dr
open PySem L2

structure Gld where
  kind : Int
  joins : Int
  first : Int
  last : Int
  due : Int
  weight : Int
  ring : Int
structure Md where
  rings : Int
  sink : Int
  gaps : List (List Int)
  shuts : List (Int × Int)
structure Sk where
  md : Md
  ahead : Option (Int × Int)
  gs : List Gld
  fixed : List Int
def Gld.d (g : Gld) : D := .tup [.int g.kind, .int g.joins, .int g.first, .int g.last, .int g.due, .int g.weight, .int g.ring]
def pairD (p : Int × Int) : D := .tup [.int p.1, .int p.2]
def gapsD (gaps : List (List Int)) : D := .tup (gaps.map D.ti)
def shutsD (sh : List (Int × Int)) : D := .tup (sh.map pairD)
def Md.d (m : Md) : D := .tup [.int m.rings, .int m.sink, gapsD m.gaps, shutsD m.shuts]
def aheadD : Option (Int × Int) → D
  | none => .non
  | some p => pairD p
def glsD (gs : List Gld) : D := .tup (gs.map Gld.d)
def Sk.d (s : Sk) : D := .tup [s.md.d, aheadD s.ahead, glsD s.gs, D.ti s.fixed]

/-- a gap of the rows: behind a landing of kind a one of kind b -/
def gapAt (gaps : List (List Int)) (a b : Int) : Int := (gaps.getD a.toNat []).getD b.toNat 0
structure GapsOk (gaps : List (List Int)) : Prop where
  n1 : 1 ≤ gaps.length
  n4 : gaps.length ≤ 4
  sq : ∀ r ∈ gaps, r.length = gaps.length
  bd : ∀ r ∈ gaps, ∀ g ∈ r, 1 ≤ g ∧ g ≤ 99
  tri : ∀ a b c : Int, 0 ≤ a → a < gaps.length → 0 ≤ b → b < gaps.length → 0 ≤ c → c < gaps.length → gapAt gaps a b ≤ gapAt gaps a c + gapAt gaps c b
structure ShutsOk (sh : List (Int × Int)) : Prop where
  n4 : sh.length ≤ 4
  bd : ∀ p ∈ sh, 0 ≤ p.1 ∧ p.1 < p.2 ∧ p.2 ≤ 9999
  up : ∀ (k : Nat) p q, sh[k]? = some p → sh[k + 1]? = some q → p.2 < q.1
structure Md.Ok (m : Md) : Prop where
  r0 : 0 ≤ m.rings
  r8 : m.rings ≤ 8
  s0 : 0 ≤ m.sink
  s60 : m.sink ≤ 60
  gaps : GapsOk m.gaps
  shuts : ShutsOk m.shuts
structure Gld.Ok (m : Md) (g : Gld) : Prop where
  k0 : 0 ≤ g.kind
  k1 : g.kind < m.gaps.length
  j : 0 ≤ g.joins ∧ g.joins ≤ 9999
  f : 0 ≤ g.first ∧ g.first ≤ 9999
  l : 0 ≤ g.last ∧ g.last ≤ 9999
  d : 0 ≤ g.due ∧ g.due ≤ 9999
  w : 0 ≤ g.weight ∧ g.weight ≤ 99
  r : 0 ≤ g.ring ∧ g.ring ≤ m.rings
  jf : g.joins + m.sink ≤ g.first
  fl : g.first ≤ g.last
structure Sk.Ok (s : Sk) : Prop where
  md : s.md.Ok
  ahead : ∀ p, s.ahead = some p → 0 ≤ p.1 ∧ p.1 < s.md.gaps.length ∧ 0 ≤ p.2 ∧ p.2 ≤ 9999
  len : s.gs.length ≤ 7
  gl : ∀ g ∈ s.gs, g.Ok s.md
  fx : ∀ i ∈ s.fixed, 0 ≤ i ∧ i < s.gs.length
  nd : s.fixed.Nodup
  rg : ∀ (i : Nat) g, s.gs[i]? = some g → g.ring ≠ 0 → (i : Int) ∈ s.fixed

/-! ### more short words -/
section
variable {X : Cx} {δ : En} {M M1 M2 M3 : Mp} {De : DE} {pos p : Pos} {a b c e : Expr} {es : List Expr} {rest : List Stmt} {x y z d : D} {i j k : Int}
theorem e_chain {op op' : CmpOp} {r r' : R2} {k k' : Bool} (ho : OpR X (compareOp op) r) (ho' : OpR X (compareOp op') r') (hr : RD X r x y M (.bl k)) (hr' : RD X r' y z M (.bl k')) (ha : Ev X a δ M x M) (hb : Ev X b δ M y M) (hc : Ev X c δ M z M) (hm : lastMarks [op, op'] [b, c] = false := by with_unfolding_all rfl) :
    Ev X (.Compare a [op, op'] [b, c] pos) δ M (.bl (k && k')) M := ev_chain ho ho' hr (fun h => by rw [h]; exact hr') (fun h => by rw [h]; rfl) ha hb hc hm
theorem t_chain {op op' : CmpOp} {r r' : R2} {k k' : Bool} (ho : OpR X (compareOp op) r) (ho' : OpR X (compareOp op') r') (hr : RD X r x y M (.bl k)) (hr' : RD X r' y z M (.bl k')) (ha : Ev X a δ M x M) (hb : Ev X b δ M y M) (hc : Ev X c δ M z M) (hm : lastMarks [op, op'] [b, c] = false := by with_unfolding_all rfl) :
    EvT X (.Compare a [op, op'] [b, c] pos) δ M (k && k') M := et_chain ho ho' hr (fun h => by rw [h]; exact hr') (fun h => by rw [h]; rfl) ha hb hc hm
theorem t_in_ {ns : List Int} (ha : Ev X a δ M (.int i) M1) (hb : Ev X b δ M1 (D.ti ns) M2) (hm : behindInMarks .In b = false := by with_unfolding_all rfl) : EvT X (.Compare a [.In] [b] pos) δ M (decide (i ∈ ns)) M2 := t_in ha hb hm
/-- all([..]) where each is True -/
theorem e_allT {xs : List D} (C : Cok X) (hm : X.mg "all" = none) (ha : Ev X e δ M (.lst xs) M1) (hx : ∀ d ∈ xs, d = .bl true) (hg : Gl X "all" := by rfl) (hs : starEach [e] X.env = (false, eval e X.env) :: starEach [] X.env := by rfl) (hpl : (backTo pos (starEach ([] : List Expr) X.env)).any (·.1) = false := by rfl) : Ev X (.Call (.Name "all" p) [e] [] pos) δ M (.bl true) M1 := by
  have e1 : xs = (List.replicate xs.length true).map D.bl := by
    induction xs with
    | nil => rfl
    | cons d r ih =>
      rw [hx d List.mem_cons_self, List.length_cons, List.replicate_succ, List.map_cons]
      congr 1
      have h2 : ∀ d ∈ r, d = .bl true := fun d hd => hx d (List.mem_cons_of_mem _ hd)
      clear ih ha
      induction r with
      | nil => rfl
      | cons d r ih =>
        rw [h2 d List.mem_cons_self, List.length_cons, List.replicate_succ, List.map_cons, ← ih (fun d hd => hx d (by
          rcases List.mem_cons.mp hd with rfl | h
          · exact List.mem_cons_self
          · exact List.mem_cons_of_mem _ (List.mem_cons_of_mem _ h))) fun d hd => h2 d (List.mem_cons_of_mem _ hd)]
  rw [e1] at ha
  have h := e_all C hm ha hg hs hpl (p := p) (pos := pos)
  have e2 : (List.replicate xs.length true).all id = true := List.all_eq_true.mpr fun x hx => (List.mem_replicate.mp hx).2
  rw [e2] at h
  exact h
/-- a comprehension each of whose items is True -/
theorem e_lcT {stt : Bool} {tg iter elt : Expr} {ifs : List Expr} {scope : Scope} {own : List (Str × Nat)} {ds : List D} (f : D → Bool) (C : Cok X) (ok : BlkOk X.N X.env.scope scope own) (hm : X.mg "all" = none) (hi : ItD stt X tg iter δ M ds M1) (hz : ds.length ≤ 10000)
    (turn : ∀ d ∈ ds, TurnP stt X scope tg ifs elt (own.map (·.2)) d δ M1 (f d) (.bl true)) (hs : ∀ x, foldedSetIterable iter X.env x = pure x := by intro _; rfl) {lpos : Pos} (hg : Gl X "all" := by rfl)
    (hs1 : starEach [.ListComp elt [⟨tg, iter, ifs, 0⟩] scope lpos] X.env = (false, eval (.ListComp elt [⟨tg, iter, ifs, 0⟩] scope lpos) X.env) :: starEach [] X.env := by rfl) (hpl : (backTo pos (starEach ([] : List Expr) X.env)).any (·.1) = false := by rfl) :
    Ev X (.Call (.Name "all" p) [.ListComp elt [⟨tg, iter, ifs, 0⟩] scope lpos] [] pos) δ M (.bl true) M1 :=
  e_allT C hm (ev_lcp f (fun _ => .bl true) C ok hi hz turn hs) (fun d hd => by obtain ⟨_, _, rfl⟩ := List.mem_map.mp hd; rfl) hg hs1 hpl
theorem r_for {stt : Bool} {tg iter : Expr} {body : List Stmt} {ds : List D} (C : Cok X) (hi : ItD stt X tg iter δ M ds M1) (Iv : Nat → En → Mp → Prop) (h0 : Iv 0 δ M1)
    (hs : ∀ i d δ' M', ds[i]? = some d → Iv i δ' M' → ∃ js δ'', TgD stt X tg js d δ' δ'' ∧ Run X body δ'' M' { nx := Iv (i + 1), rt := De.rt, ct := Iv (i + 1), bk := fun δ' M' => Run X rest δ' M' De }) (hd : ∀ δ' M', Iv ds.length δ' M' → Run X rest δ' M' De)
    (hf : ∀ x, foldedSetIterable iter X.env x = pure x := by intro _; rfl) : Run X (.For tg iter body [] pos :: rest) δ M De := run_cons (s_for C hi Iv h0 hs hd hf)
/-- what is told of a call that may give one of several things -/
def EvX (X : Cx) (e : Expr) (δ : En) (M : Mp) (Φ : D → Mp → Prop) : Prop := ∀ σ G H, SRX X G M H → EnvD X.K G σ δ → WE X e σ H fun v H' => ∃ d M' G', Φ d M' ∧ XtX X G M H G' M' H' ∧ Dt X.K G' v d
theorem r_setX (i : Nat) {x : Str} {p' : Pos} {Φ : D → Mp → Prop} (C : Cok X) (h : EvX X e δ M Φ) (k : ∀ d M1, Φ d M1 → Run X rest (δ.set i (some d)) M1 De) (hi : X.N[i]? = some x := by rfl) (hx : Loc X.env.scope x := by first | exact .inl rfl | exact .inr rfl) (hs : swapsWith e (some (.Name x p')) pos.line X.env = pure false := by rfl) (hf : X.fn x = true ∨ X.env.scope.names.lookup x = some .local := by first | exact .inl rfl | exact .inr rfl) :
    Run X (.Assign [.Name x p'] e pos :: rest) δ M De := run_cons fun σ G H s E => by
  refine ws_of (ps_set C.nd hi hx we_pe hs hf) ((h σ G H s E).mono fun v H1 ⟨d, M1, G1, hΦ, x1, d1⟩ => ?_)
  exact ⟨_, _, G1, k d M1 hΦ, x1, (E.mono x1.g).set d1 i⟩
theorem e_notNX {b : Bool} {jj pp} (ha : EvX X a δ M (fun d M' => d.isN = b ∧ M' = M1)) : Ev X (.Compare a [.IsNot] [.Constant .none jj pp] pos) δ M (.bl (!b)) M1 := fun σ G H s E => by
  refine we_of (pe_cmpR op_notN we_pe pe_non (nomark _)) ((ha σ G H s E).mono fun v H1 ⟨d, M', G1, ⟨h1, h2⟩, x1, d1⟩ => ⟨rfl, ?_⟩)
  subst h2
  rw [d1.isN, h1]
  exact ⟨G1, x1, .bl _⟩
abbrev FX := List D → Mp → D → Mp → Prop
def spX (P : Program) (w : World) (K : PySem.W.Frag) (Pre : List D → Mp → Prop) (F : FX) : Sp := fun vs H Q _ => ∃ G M ds, Pre ds M ∧ SR P w K G M H ∧ Dts K G vs ds ∧ ∀ d M' v G' H', F ds M d M' → Xt P w K G M H G' M' H' → Dt K G' v d → Q v H'
structure CalleeX (P : Program) (w : World) (K : PySem.W.Frag) (mg : Str → Option Value) (base : Heap) (k : Nat) (nm : Str) (ps : List Str) (Pre : List D → Mp → Prop) (F : FX) (f : Addr) (fd : FuncData) : Prop where
  ok : FnOk P w K mg base CX0 k f fd ps (spX P w K Pre F)
  bi : Binds K fd ps []
  kp : PySem.W.keepIn K (.ref f) = true
  gl : mg nm = some (.ref f)
abbrev CanX (P : Program) (w : World) (K : PySem.W.Frag) (mg : Str → Option Value) (base : Heap) (k : Nat) (nm : Str) (ps : List Str) (Pre : List D → Mp → Prop) (F : FX) : Prop := ∃ f fd, CalleeX P w K mg base k nm ps Pre F f fd
theorem e_callX {Pre : List D → Mp → Prop} {F : FX} {k : Nat} {nm : Str} {ps : List Str} {p : Pos} {ds : List D} (C : CanX X.prog X.w X.K X.mg X.base k nm ps Pre F) (hr : Room k X.A) (ha : EvA X (e :: es) δ M ds M1) (hP : Pre ds M1) (hg : Gl X nm := by rfl)
    (hdb : (nm == ("__debug__" : Str)) = false := by decide) (he : starEach (e :: es) X.env = (false, eval e X.env) :: starEach es X.env := by rfl) (hpl : (backTo pos (starEach es X.env)).any (·.1) = false := by rfl) :
    EvX X (.Call (.Name nm p) (e :: es) [] pos) δ M (F ds M1) := fun σ G H s E => by
  obtain ⟨f, fd, C⟩ := C
  refine we_of (pe_call C.ok hr hg C.gl C.kp C.bi .nil pass0 wa_pa hdb he hpl) ((ha σ G H s E).mono fun vs H1 ⟨G1, x1, d1⟩ => ?_)
  rw [List.append_nil]
  exact ⟨G1, M1, ds, hP, x1.s, d1, fun d M' v G' H' hF x3 d3 => ⟨d, M', G', hF, x1.trans x3, d3⟩⟩
end
section
variable {P : Program} {w : World} {K : PySem.W.Frag} {mg : Str → Option Value} {base : Heap}
theorem canX_of {Pre : List D → Mp → Prop} {F : FX} {k : Nat} {nm : Str} {st : Stmt} {N ps : List Str} (hF : Has K mg nm st) (S : FnScope N ps (defScope st)) (len : ∀ ds M, Pre ds M → ds.length = ps.length)
    (bi : ∀ (kV doc pm : Value) (an : Option Addr) (cdv ct : Value) (us : List Value), us.length = ps.length → bindArgs (PySem.W.fnOf nm nm (defArgs st) (defBody st) (defScope st) .none kV doc pm an cdv ct) ⟨us, []⟩ = pure (ps.zip us))
    (run : ∀ (f : Addr) (cdv : Value) (A : Around) (outer : List Env) (s : Shared) (H : Hp) (E : XK), Cok (Bx P w K mg base N nm st f cdv A outer s H E) → Room k (Bx P w K mg base N nm st f cdv A outer s H E).A →
      ∀ ds M, Pre ds M → Run (Bx P w K mg base N nm st f cdv A outer s H E) (defBody st) (startD N ds) M { nx := fun _ _ => False, rt := fun d' M'' => ∃ M', F ds M d' M' ∧ SubM M' M'' }) : CanX P w K mg base (k + 1) nm ps Pre F := by
  obtain ⟨f, fd, FD, hmg⟩ := hF
  refine ⟨f, fd, ?_, FD.bindsN bi, FD.kp, hmg⟩
  refine FD.ok S (fun vs H Q E h => ?_) (fun cdv A outer s H vs Q E hr h => ?_)
  · obtain ⟨G, M, ds, hF, hs, hd, _⟩ := h
    rw [hd.length]
    exact len _ _ hF
  · obtain ⟨G, M, ds, hF, hs, hd, q⟩ := h
    have C : Cok (Bx P w K mg base N nm st f cdv A outer s H E) := ⟨rfl, S.nd, rfl, by
      have := hr.un
      show (A.deeper (PyProof.Rows.envOfC nm (defScope st) s.heap.objs.size f cdv)).units + 200 < cLine
      omega⟩
    refine ⟨_, PSs.nox wss_pss, ?_⟩
    refine (run f cdv A outer s H E C hr ds M hF (L2.start N vs) G H hs (envD_start hd)).mono ⟨fun σ' H' h => ?_, fun v H' h => ?_, fun σ' H' h => ?_, fun σ' H' h => ?_⟩
    · obtain ⟨_, _, _, h, _⟩ := h
      exact h.elim
    · obtain ⟨d', M2, G', ⟨M', e, sb⟩, x, dd⟩ := h
      exact q d' M' v G' H' e (x.sub sb) dd
    · obtain ⟨_, _, _, h, _⟩ := h
      exact h
    · obtain ⟨_, _, _, h, _⟩ := h
      exact h
end
end Dr
set_option Elab.async false
set_option linter.all false
set_option maxRecDepth 100000
set_option maxHeartbeats 2000000
/-! the walks of the checks, of what is valid -/
namespace Dr
open PySem L2
section
variable {X : Cx} {δ : En} {M M1 M2 M3 : Mp} {De : DE} {pos p : Pos} {a b c e : Expr} {es : List Expr} {rest : List Stmt} {x y z d : D} {i j k : Int}
theorem r_no' {c : Expr} {k : Bool} {a : List Stmt} (h : EvT X c δ M k M1) (hk : k = false) (h2 : Run X rest δ M1 De) : Run X (.If c a [] pos :: rest) δ M De := r_no (hk ▸ h) h2
theorem e_to {d d' : D} (h : Ev X e δ M d M1) (hd : d = d') : Ev X e δ M d' M1 := hd ▸ h
theorem t_to {k k' : Bool} (h : EvT X e δ M k M1) (hd : k = k') : EvT X e δ M k' M1 := hd ▸ h
theorem eo {i : Int} (h : ∀ M, Ev X e δ M (.int i) M) : EvO X (some e) δ (some i) := h
theorem tn (i : Nat) {x : Str} (C : Cok X) (hi : X.N[i]? = some x := by rfl) (hx : Loc X.env.scope x := by first | exact .inl rfl | exact .inr rfl) (hf : X.fn x = true ∨ X.env.scope.names.lookup x = some .local := by first | exact .inl rfl | exact .inr rfl) : TgD true X (.Name x pos) [i] d δ (δ.set i (some d)) := tg_name i C hi hx hf
theorem op_le_ : OpR X (compareOp .LtE) (rI0 fun i j => .bl (decide (i ≤ j))) := op_le
theorem map_at {α β : Type} {f : α → β} {l : List α} {i : Nat} {d : β} (h : (l.map f)[i]? = some d) : ∃ x, l[i]? = some x ∧ d = f x := by
  rw [List.getElem?_map] at h
  cases hx : l[i]? with
  | none => rw [hx] at h; exact nomatch h
  | some x => rw [hx] at h; exact ⟨x, rfl, (Option.some.inj h).symm⟩
theorem getD_at {α : Type} {l : List α} {i : Nat} {x d : α} (h : l[i]? = some x) : l.getD i d = x := by rw [List.getD_eq_getElem?_getD, h]; rfl
theorem lt_at {α : Type} {l : List α} {i : Nat} {x : α} (h : l[i]? = some x) : i < l.length := (List.getElem?_eq_some_iff.mp h).1
theorem at_lt {α : Type} {l : List α} {i : Nat} (h : i < l.length) (d : α) : l[i]? = some (l.getD i d) := by rw [List.getD_eq_getElem?_getD, List.getElem?_eq_getElem h]; rfl
theorem GapsOk.row {gaps : List (List Int)} (h : GapsOk gaps) {i : Int} (h0 : 0 ≤ i) (h1 : i < gaps.length) : atI (gaps.map D.ti) i = some (D.ti (gaps.getD i.toNat [])) := by
  rw [atI_pos h0, List.getElem?_map, at_lt (by omega) []]
  rfl
theorem GapsOk.rowLen {gaps : List (List Int)} (h : GapsOk gaps) {i : Int} (h0 : 0 ≤ i) (h1 : i < gaps.length) : (gaps.getD i.toNat []).length = gaps.length := h.sq _ (List.mem_of_getElem? (at_lt (by omega) []))
theorem GapsOk.gap {gaps : List (List Int)} (h : GapsOk gaps) {i j : Int} (h0 : 0 ≤ i) (h1 : i < gaps.length) (h2 : 0 ≤ j) (h3 : j < gaps.length) : atI ((gaps.getD i.toNat []).map D.int) j = some (.int (gapAt gaps i j)) := by
  have := h.rowLen h0 h1
  rw [atI_pos h2, List.getElem?_map, at_lt (by omega) 0]
  rfl
def FChk {α : Type} (f : α → List D) (ok : α → Prop) : FS := fun ds M d M' => ∃ a, ds = f a ∧ ok a ∧ d = .bl true ∧ M' = M
theorem FChk.of {α : Type} {f : α → List D} {ok : α → Prop} {M : Mp} {ds : List D} (a : α) (h : ok a) (hd : ds = f a := by rfl) : FChk f ok ds M (.bl true) M := ⟨a, hd, h, rfl, rfl⟩
end
section
variable {P : Program} {w : World} {K : PySem.W.Frag} {mg : Str → Option Value} {base : Heap}
def F_is_within : FS := fun ds M d M' => ∃ i lo hi, ds = [.int i, .int lo, .int hi] ∧ lo ≤ i ∧ i ≤ hi ∧ d = .bl true ∧ M' = M
theorem sc_is_within : FnScope ["thing", "low", "high"] ["thing", "low", "high"] (defScope (top 12)) := ⟨rfl, rfl, rfl, by decide +kernel, rfl, by decide +kernel, by decide +kernel⟩
theorem ok_is_within (T : Tx K mg) (hF : Has K mg "is_within" (top 12)) (c_is_whole : Can P w K mg base 1 "is_whole" ["thing"] F_is_whole) : Can P w K mg base 2 "is_within" ["thing", "low", "high"] F_is_within := by
  refine can_of hF sc_is_within (fun ds M d M' h => by obtain ⟨_, _, _, rfl, _⟩ := h; rfl) (fun _ _ _ _ _ _ us hl => match us, hl with | [_, _, _], _ => rfl) fun f cdv A outer s H E C hr ds M d M' h => ?_
  obtain ⟨i, lo, hi, rfl, h1, h2, rfl, rfl⟩ := h
  exact r_ret (ev_and (e_call c_is_whole (hr.mono (by decide)) (a1 (nm 0)) ⟨_, rfl, rfl, rfl⟩) fun h => (ev_one (e_chain op_le op_le rd_B0 rd_B0 (nm 1) (nm 0) (nm 2)))) ⟨by simp [h1, h2], SubM.refl _⟩
def F_is_minute : FS := fun ds M d M' => ∃ i, ds = [.int i] ∧ 0 ≤ i ∧ i ≤ 9999 ∧ d = .bl true ∧ M' = M
theorem sc_is_minute : FnScope ["thing"] ["thing"] (defScope (top 13)) := ⟨rfl, rfl, rfl, by decide +kernel, rfl, by decide +kernel, by decide +kernel⟩
theorem ok_is_minute (T : Tx K mg) (hF : Has K mg "is_minute" (top 13)) (c_is_within : Can P w K mg base 2 "is_within" ["thing", "low", "high"] F_is_within) : Can P w K mg base 3 "is_minute" ["thing"] F_is_minute := by
  refine can_of hF sc_is_minute (fun ds M d M' h => by obtain ⟨_, rfl, _⟩ := h; rfl) (fun _ _ _ _ _ _ us hl => match us, hl with | [_], _ => rfl) fun f cdv A outer s H E C hr ds M d M' h => ?_
  obtain ⟨i, rfl, h1, h2, rfl, rfl⟩ := h
  exact r_ret (e_call c_is_within (hr.mono (by decide)) (aC (nm 0) (aC ev_int (a1 (e_gI T.MOST_MINUTE)))) ⟨_, _, _, rfl, h1, h2, rfl, rfl⟩) ⟨rfl, SubM.refl _⟩

def F_is_row : FS := fun ds M d M' => ∃ r : List Int, ds = [D.ti r, .int r.length] ∧ r.length ≤ 4 ∧ (∀ g ∈ r, 1 ≤ g ∧ g ≤ 99) ∧ d = .bl true ∧ M' = M
theorem sc_is_row : FnScope ["thing", "many", "gap"] ["thing", "many"] (defScope (top 14)) := ⟨rfl, rfl, rfl, by decide +kernel, rfl, by decide +kernel, by decide +kernel⟩
theorem ok_is_row (T : Tx K mg) (hF : Has K mg "is_row" (top 14)) (c_is_within : Can P w K mg base 2 "is_within" ["thing", "low", "high"] F_is_within) : Can P w K mg base 3 "is_row" ["thing", "many"] F_is_row := by
  refine can_of hF sc_is_row (fun ds M d M' h => by obtain ⟨_, rfl, _⟩ := h; rfl) (fun _ _ _ _ _ _ us hl => match us, hl with | [_, _], _ => rfl) fun f cdv A outer s H E C hr ds M d M' h => ?_
  obtain ⟨r, rfl, h1, h2, rfl, rfl⟩ := h
  refine r_no' (et_w (ew_or (et_not (et_val (isiT T.isinstance T.tuple (nm 0)))) (fun h => (ew_or1 (t_ne (e_lenT T.len (nm 0)) (nm 1)))) (fun _ => rfl))) (by simp) ?_
  refine r_ret (e_lcT (own := [("gap", 2)]) (fun _ => true) C (blkOk_by (by rfl)) T.all (it_tup (nm 0)) (by rw [List.length_map]; omega) (fun d hd => ?_)) ⟨rfl, SubM.refl _⟩
  obtain ⟨g, hg, rfl⟩ := List.mem_map.mp hd
  exact ⟨[2], _, by simp, fun s1 H1 C1 cl1 fp1 => ⟨(tg_name 2 C.bk rfl (.inl rfl)), ts_nil, fun _ => (e_call c_is_within (hr.mono (by decide)) (aC (nm 2) (aC ev_int (a1 (e_gI T.MOST_GAP)))) ⟨_, _, _, rfl, (h2 g hg).1, (h2 g hg).2, rfl, rfl⟩)⟩⟩

def F_are_straight : FS := FChk (fun gaps => [gapsD gaps]) GapsOk
theorem sc_are_straight : FnScope ["gaps", "row", "between", "first", "last", "gap"] ["gaps"] (defScope (top 15)) := ⟨rfl, rfl, rfl, by decide +kernel, rfl, by decide +kernel, by decide +kernel⟩
theorem ok_are_straight (T : Tx K mg) (hF : Has K mg "are_straight" (top 15)) : Can P w K mg base 1 "are_straight" ["gaps"] F_are_straight := by
  refine can_of hF sc_are_straight (fun ds M d M' h => by obtain ⟨_, rfl, _⟩ := h; rfl) (fun _ _ _ _ _ _ us hl => match us, hl with | [_], _ => rfl) fun f cdv A outer s H E C hr ds M d M' h => ?_
  obtain ⟨gaps, rfl, ok, rfl, rfl⟩ := h
  refine r_for C (it_tup (nm 0)) (fun _ δ' M1 => M1 = M' ∧ ∃ a b c d e, δ' = [some (gapsD gaps), a, b, c, d, e]) ⟨rfl, _, _, _, _, _, rfl⟩ (fun i d δ' M1 hd ⟨hM, a, b, c, d0, e, hδ⟩ => ?_) (fun δ' M1 ⟨hM, a, b, c, d0, e, hδ⟩ => ?_)
  · subst hM; subst hδ
    obtain ⟨r, hr1, rfl⟩ := map_at hd
    refine ⟨_, _, tg_name 1 C rfl (.inl rfl), ?_⟩
    refine r_for C (it_enum T.enumerate (nm 1)) (fun _ δ' M2 => M2 = M1 ∧ ∃ b c d e, δ' = [some (gapsD gaps), some (D.ti r), b, c, d, e]) ⟨rfl, _, _, _, _, rfl⟩ (fun i2 d δ' M2 hd2 ⟨hM, b, c, d0, e, hδ⟩ => ?_) (fun δ' M2 ⟨hM, b, c, d0, e, hδ⟩ => ?_)
    · subst hM; subst hδ
      obtain ⟨k, d2, hk, rfl⟩ := enumD_mem (List.mem_of_getElem? hd2)
      obtain ⟨g, hg, rfl⟩ := map_at hk
      refine ⟨_, _, tg_tup C (tgs_cons (tg_name 2 C rfl (.inl rfl)) (tgs_cons (tg_name 3 C rfl (.inl rfl)) tgs_nil)), ?_⟩
      refine r_for C (it_enum T.enumerate (nm 1)) (fun _ δ' M3 => M3 = M2 ∧ ∃ d e, δ' = [some (gapsD gaps), some (D.ti r), some (.int (k : Nat)), some (.int g), d, e]) ⟨rfl, _, _, rfl⟩ (fun i3 d δ' M3 hd3 ⟨hM, d0, e, hδ⟩ => ?_) (fun δ' M3 ⟨hM, d0, e, hδ⟩ => ?_)
      · subst hM; subst hδ
        obtain ⟨k2, d3, hk2, rfl⟩ := enumD_mem (List.mem_of_getElem? hd3)
        obtain ⟨g2, hg2, rfl⟩ := map_at hk2
        refine ⟨_, _, tg_tup C (tgs_cons (tg_name 4 C rfl (.inl rfl)) (tgs_cons (tg_name 5 C rfl (.inl rfl)) tgs_nil)), ?_⟩
        have hl := ok.sq r (List.mem_of_getElem? hr1)
        have hi := lt_at hr1
        have h1 := lt_at hg
        have h2 := lt_at hg2
        refine r_no' (t_gt (nm 5) (e_add (nm 3) (ixT (ixT (nm 0) (nm 2) (ok.row (i := k) (by omega) (by omega))) (nm 4) (ok.gap (i := k) (j := k2) (by omega) (by omega) (by omega) (by omega))))) ?_ (run_nil ⟨rfl, _, _, rfl⟩)
        have t := ok.tri i k2 k (by omega) (by omega) (by omega) (by omega) (by omega) (by omega)
        have e1 : gapAt gaps i k2 = g2 := by
          unfold gapAt
          rw [getD_at (i := (i : Int).toNat) hr1, getD_at (i := (k2 : Int).toNat) hg2]
        have e2 : gapAt gaps i k = g := by
          unfold gapAt
          rw [getD_at (i := (i : Int).toNat) hr1, getD_at (i := (k : Int).toNat) hg]
        rw [e1, e2] at t
        exact decide_eq_false (by omega)
      · subst hM; subst hδ
        exact run_nil ⟨rfl, _, _, _, _, rfl⟩
    · subst hM; subst hδ
      exact run_nil ⟨rfl, _, _, _, _, _, rfl⟩
  · subst hM; subst hδ
    exact r_ret ev_bl ⟨rfl, SubM.refl _⟩

def F_are_gaps : FS := FChk (fun gaps => [gapsD gaps]) GapsOk
theorem sc_are_gaps : FnScope ["thing", "row"] ["thing"] (defScope (top 16)) := ⟨rfl, rfl, rfl, by decide +kernel, rfl, by decide +kernel, by decide +kernel⟩
theorem ok_are_gaps (T : Tx K mg) (hF : Has K mg "are_gaps" (top 16)) (c_is_row : Can P w K mg base 3 "is_row" ["thing", "many"] F_is_row) (c_are_straight : Can P w K mg base 1 "are_straight" ["gaps"] F_are_straight) : Can P w K mg base 4 "are_gaps" ["thing"] F_are_gaps := by
  refine can_of hF sc_are_gaps (fun ds M d M' h => by obtain ⟨_, rfl, _⟩ := h; rfl) (fun _ _ _ _ _ _ us hl => match us, hl with | [_], _ => rfl) fun f cdv A outer s H E C hr ds M d M' h => ?_
  obtain ⟨gaps, rfl, ok, rfl, rfl⟩ := h
  have n1 := ok.n1
  have n4 := ok.n4
  refine r_no' (et_w (ew_or (et_not (et_val (isiT T.isinstance T.tuple (nm 0)))) (fun h => (ew_or1 (et_not (t_chain op_le op_le rd_B0 rd_B0 ev_int (e_lenT T.len (nm 0)) (e_gI T.MOST_KINDS))))) (fun _ => rfl))) (by simp; omega) ?_
  refine r_ret (ev_and (e_lcT (own := [("row", 1)]) (fun d => true) C (blkOk_by (by rfl)) T.all (it_tup (nm 0)) (by rw [List.length_map]; omega) (fun d hd => ?_)) fun h => (ev_one (e_call c_are_straight (hr.mono (by decide)) (a1 (nm 0)) (.of gaps ok)))) ⟨rfl, SubM.refl _⟩
  obtain ⟨r, hr1, rfl⟩ := List.mem_map.mp hd
  exact ⟨[1], _, by simp, fun s1 H1 C1 cl1 fp1 => ⟨(tg_name 1 C.bk rfl (.inl rfl)), ts_nil, fun _ => (e_call c_is_row (hr.mono (by decide)) (aC (nm 1) (a1 (e_lenT T.len (nm 0)))) ⟨r, by rw [List.length_map, ok.sq r hr1], by have := ok.sq r hr1; omega, ok.bd r hr1, rfl, rfl⟩)⟩⟩

def StrOk (p : Int × Int) : Prop := 0 ≤ p.1 ∧ p.1 < p.2 ∧ p.2 ≤ 9999
def F_is_stretch : FS := FChk (fun p => [pairD p]) StrOk
theorem sc_is_stretch : FnScope ["thing"] ["thing"] (defScope (top 17)) := ⟨rfl, rfl, rfl, by decide +kernel, rfl, by decide +kernel, by decide +kernel⟩
theorem ok_is_stretch (T : Tx K mg) (hF : Has K mg "is_stretch" (top 17)) (c_is_minute : Can P w K mg base 3 "is_minute" ["thing"] F_is_minute) : Can P w K mg base 4 "is_stretch" ["thing"] F_is_stretch := by
  refine can_of hF sc_is_stretch (fun ds M d M' h => by obtain ⟨_, rfl, _⟩ := h; rfl) (fun _ _ _ _ _ _ us hl => match us, hl with | [_], _ => rfl) fun f cdv A outer s H E C hr ds M d M' h => ?_
  obtain ⟨p, rfl, ⟨h1, h2, h3⟩, rfl, rfl⟩ := h
  refine r_no' (et_w (ew_or (et_not (et_val (isiT T.isinstance T.tuple (nm 0)))) (fun h => (ew_or (t_ne (e_lenT T.len (nm 0)) ev_int) (fun h => (ew_or (et_not (et_val (e_call c_is_minute (hr.mono (by decide)) (a1 (ixT (nm 0) ev_int)) ⟨p.1, rfl, by omega, by omega, rfl, rfl⟩))) (fun h => (ew_or1 (et_not (et_val (e_call c_is_minute (hr.mono (by decide)) (a1 (ixT (nm 0) ev_int)) ⟨p.2, rfl, by omega, by omega, rfl, rfl⟩))))) (fun _ => rfl))) (fun _ => rfl))) (fun _ => rfl))) (by simp) ?_
  exact r_ret (e_lt (ixT (nm 0) ev_int) (ixT (nm 0) ev_int)) ⟨by simp [h2], SubM.refl _⟩
def F_are_shuts : FS := FChk (fun sh => [shutsD sh]) ShutsOk
theorem sc_are_shuts : FnScope ["thing", "one", "k"] ["thing"] (defScope (top 18)) := ⟨rfl, rfl, rfl, by decide +kernel, rfl, by decide +kernel, by decide +kernel⟩
theorem ok_are_shuts (T : Tx K mg) (hF : Has K mg "are_shuts" (top 18)) (c_is_stretch : Can P w K mg base 4 "is_stretch" ["thing"] F_is_stretch) : Can P w K mg base 5 "are_shuts" ["thing"] F_are_shuts := by
  refine can_of hF sc_are_shuts (fun ds M d M' h => by obtain ⟨_, rfl, _⟩ := h; rfl) (fun _ _ _ _ _ _ us hl => match us, hl with | [_], _ => rfl) fun f cdv A outer s H E C hr ds M d M' h => ?_
  obtain ⟨sh, rfl, ok, rfl, rfl⟩ := h
  have n4 := ok.n4
  refine r_no' (et_w (ew_or (et_not (et_val (isiT T.isinstance T.tuple (nm 0)))) (fun h => (ew_or (t_gt (e_lenT T.len (nm 0)) (e_gI T.MOST_SHUTS)) (fun h => (ew_or1 (et_not (et_val (e_lcT (own := [("one", 1)]) (fun d => true) C (blkOk_by (by rfl)) T.all (it_tup (nm 0)) (by rw [List.length_map]; omega) (fun d hd => ?_)))))) (fun _ => rfl))) (fun _ => rfl))) (by simp; omega) ?_
  · obtain ⟨p, hp, rfl⟩ := List.mem_map.mp hd
    exact ⟨[1], _, by simp, fun s1 H1 C1 cl1 fp1 => ⟨(tg_name 1 C.bk rfl (.inl rfl)), ts_nil, fun _ => (e_call c_is_stretch (hr.mono (by decide)) (a1 (nm 1)) (.of p (ok.bd p hp)))⟩⟩
  refine r_ret (e_lcT (own := [("k", 2)]) (fun d => true) C (blkOk_by (by rfl)) T.all (it_range2 rfl T.range (aC ev_int (a1 (e_lenT T.len (nm 0)))) (by rw [List.length_map]; omega)) (by rw [rng_len, List.length_map]; omega) (fun d hd => ?_)) ⟨rfl, SubM.refl _⟩
  obtain ⟨k, hk, rfl⟩ := List.mem_map.mp hd
  rw [List.mem_range, List.length_map] at hk
  have hq := at_lt (l := sh) (i := k + 1) (by omega) (0, 0)
  have hp := at_lt (l := sh) (i := k) (by omega) (0, 0)
  have up := ok.up k _ _ hp hq
  have a1 : atI (sh.map pairD) (1 + (k : Int)) = some (pairD (sh.getD (k + 1) (0, 0))) := by
    rw [atI_pos (by omega), List.getElem?_map, show (1 + (k : Int)).toNat = k + 1 by omega, hq]; rfl
  have a2 : atI (sh.map pairD) (1 + (k : Int) - 1) = some (pairD (sh.getD k (0, 0))) := by
    rw [atI_pos (by omega), List.getElem?_map, show (1 + (k : Int) - 1).toNat = k by omega, hp]; rfl
  exact ⟨[2], _, by simp, fun s1 H1 C1 cl1 fp1 => ⟨(tg_name 2 C.bk rfl (.inl rfl)), ts_nil, fun _ => e_to (e_gt (ixT (ixT (nm 0) (nm 2) a1) ev_int) (ixT (ixT (nm 0) (e_sub (nm 2) ev_int) a2) ev_int)) (congrArg D.bl (decide_eq_true up))⟩⟩
end
end Dr
set_option Elab.async false
set_option linter.all false
set_option maxRecDepth 100000
set_option maxHeartbeats 2000000
/-! the walks of the checks of a sky -/
namespace Dr
open PySem L2
section
variable {P : Program} {w : World} {K : PySem.W.Frag} {mg : Str → Option Value} {base : Heap}
def F_is_meadow : FS := FChk (fun m => [m.d]) Md.Ok
theorem sc_is_meadow : FnScope ["thing"] ["thing"] (defScope (top 19)) := ⟨rfl, rfl, rfl, by decide +kernel, rfl, by decide +kernel, by decide +kernel⟩
theorem ok_is_meadow (T : Tx K mg) (hF : Has K mg "is_meadow" (top 19)) (c_is_within : Can P w K mg base 2 "is_within" ["thing", "low", "high"] F_is_within) (c_are_gaps : Can P w K mg base 4 "are_gaps" ["thing"] F_are_gaps) (c_are_shuts : Can P w K mg base 5 "are_shuts" ["thing"] F_are_shuts) : Can P w K mg base 6 "is_meadow" ["thing"] F_is_meadow := by
  refine can_of hF sc_is_meadow (fun ds M d M' h => by obtain ⟨_, rfl, _⟩ := h; rfl) (fun _ _ _ _ _ _ us hl => match us, hl with | [_], _ => rfl) fun f cdv A outer s H E C hr ds M d M' h => ?_
  obtain ⟨m, rfl, ok, rfl, rfl⟩ := h
  refine r_no' (et_w (ew_or (et_not (et_val (isiT T.isinstance T.tuple (nm 0)))) (fun h => (ew_or1 (t_ne (e_lenT T.len (nm 0)) ev_int))) (fun _ => rfl))) rfl ?_
  refine r_no' (et_w (ew_or (et_not (et_val (e_call c_is_within (hr.mono (by decide)) (aC (ixT (nm 0) ev_int) (aC ev_int (a1 (e_gI T.MOST_RINGS)))) ⟨m.rings, _, _, rfl, ok.r0, ok.r8, rfl, rfl⟩))) (fun h => (ew_or1 (et_not (et_val (e_call c_is_within (hr.mono (by decide)) (aC (ixT (nm 0) ev_int) (aC ev_int (a1 (e_gI T.MOST_SINK)))) ⟨m.sink, _, _, rfl, ok.s0, ok.s60, rfl, rfl⟩))))) (fun _ => rfl))) rfl ?_
  exact r_ret (ev_and (e_call c_are_gaps (hr.mono (by decide)) (a1 (ixT (nm 0) ev_int)) (.of m.gaps ok.gaps)) fun h => (ev_one (e_call c_are_shuts (hr.mono (by decide)) (a1 (ixT (nm 0) ev_int)) (.of m.shuts ok.shuts)))) ⟨rfl, SubM.refl _⟩

def openIn (sh : List (Int × Int)) (m : Int) : Int := sh.foldl (fun f p => if p.1 ≤ f ∧ f < p.2 then p.2 else f) m
def F_open_in : FS := fun ds M d M' => ∃ sh m, ds = [shutsD sh, .int m] ∧ d = .int (openIn sh m) ∧ M' = M
theorem sc_open_in : FnScope ["shuts", "minute", "found", "begin", "end"] ["shuts", "minute"] (defScope (top 20)) := ⟨rfl, rfl, rfl, by decide +kernel, rfl, by decide +kernel, by decide +kernel⟩
theorem ok_open_in (T : Tx K mg) (hF : Has K mg "open_in" (top 20)) : Can P w K mg base 1 "open_in" ["shuts", "minute"] F_open_in := by
  refine can_of hF sc_open_in (fun ds M d M' h => by obtain ⟨_, _, rfl, _⟩ := h; rfl) (fun _ _ _ _ _ _ us hl => match us, hl with | [_, _], _ => rfl) fun f cdv A outer s H E C hr ds M d M' h => ?_
  obtain ⟨sh, m, rfl, rfl, rfl⟩ := h
  refine r_set 2 C (nm 1) ?_
  refine r_for (ds := sh.map pairD) C (it_tup (nm 0)) (fun i δ' M1 => M1 = M' ∧ ∃ a b, δ' = [some (shutsD sh), some (.int m), some (.int (openIn (sh.take i) m)), a, b]) ⟨rfl, _, _, rfl⟩ (fun i d δ' M1 hd ⟨hM, a, b, hδ⟩ => ?_) (fun δ' M1 ⟨hM, a, b, hδ⟩ => ?_)
  · subst hM; subst hδ
    obtain ⟨p, hp, rfl⟩ := map_at hd
    refine ⟨_, _, tg_tup C (tgs_cons (tn 3 C) (tgs_cons (tn 4 C) tgs_nil)), ?_⟩
    have e1 : openIn (sh.take (i + 1)) m = if p.1 ≤ openIn (sh.take i) m ∧ openIn (sh.take i) m < p.2 then p.2 else openIn (sh.take i) m := by
      unfold openIn
      rw [List.take_add_one, hp, List.foldl_append]
      rfl
    refine r_if (t_chain op_le op_lt rd_B0 rd_B0 (nm 3) (nm 2) (nm 4)) (fun h => ?_) (fun h => ?_)
    · refine r_set 2 C (nm 4) (run_nil (run_nil ⟨rfl, some (.int p.1), some (.int p.2), ?_⟩))
      rw [Bool.and_eq_true, decide_eq_true_eq, decide_eq_true_eq] at h
      rw [e1, if_pos h]
      rfl
    · refine run_nil (run_nil ⟨rfl, some (.int p.1), some (.int p.2), ?_⟩)
      rw [e1, if_neg (fun hh => by
        rw [Bool.and_eq_false_iff, decide_eq_false_iff_not, decide_eq_false_iff_not] at h
        rcases h with h | h
        · exact h hh.1
        · exact h hh.2)]
      rfl
  · subst hM; subst hδ
    rw [List.length_map, List.take_length]
    exact r_ret (nm 2) ⟨rfl, SubM.refl _⟩

def F_is_glider : FS := FChk (fun (p : Gld × Md) => [p.1.d, p.2.d]) (fun p => p.2.Ok ∧ p.1.Ok p.2)
theorem sc_is_glider : FnScope ["thing", "meadow", "one"] ["thing", "meadow"] (defScope (top 24)) := ⟨rfl, rfl, rfl, by decide +kernel, rfl, by decide +kernel, by decide +kernel⟩
theorem ok_is_glider (T : Tx K mg) (hF : Has K mg "is_glider" (top 24)) (c_is_within : Can P w K mg base 2 "is_within" ["thing", "low", "high"] F_is_within) (c_is_minute : Can P w K mg base 3 "is_minute" ["thing"] F_is_minute) : Can P w K mg base 4 "is_glider" ["thing", "meadow"] F_is_glider := by
  refine can_of hF sc_is_glider (fun ds M d M' h => by obtain ⟨_, rfl, _⟩ := h; rfl) (fun _ _ _ _ _ _ us hl => match us, hl with | [_, _], _ => rfl) fun f cdv A outer s H E C hr ds M d M' h => ?_
  obtain ⟨⟨g, m⟩, rfl, ⟨mo, ok⟩, rfl, rfl⟩ := h
  dsimp only at mo ok ⊢
  have k1 := ok.k1
  refine r_no' (et_w (ew_or (et_not (et_val (isiT T.isinstance T.tuple (nm 0)))) (fun h => (ew_or (t_ne (e_lenT T.len (nm 0)) ev_int) (fun h => (ew_or1 (et_not (et_val (e_call c_is_within (hr.mono (by decide)) (aC (ixT (nm 0) ev_int) (aC ev_int (a1 (e_sub (e_lenT T.len (ixT (nm 1) ev_int)) ev_int)))) ⟨g.kind, _, _, rfl, ok.k0, by rw [List.length_map]; omega, rfl, rfl⟩))))) (fun _ => rfl))) (fun _ => rfl))) rfl ?_
  refine r_no' (et_w (ew_or (et_not (et_val (e_lcT (own := [("one", 2)]) (fun d => true) C (blkOk_by (by rfl)) T.all (it_tup (e_to (e_slT (nm 0) (i := some 1) (j := some 5) (eo fun _ => ev_int) (eo fun _ => ev_int)) (d' := .tup [.int g.joins, .int g.first, .int g.last, .int g.due]) rfl)) (show 4 ≤ 10000 by decide) (fun d hd => ?_)))) (fun h => (ew_or1 (et_not (et_val (e_call c_is_within (hr.mono (by decide)) (aC (ixT (nm 0) ev_int) (aC ev_int (a1 (e_gI T.MOST_WEIGHT)))) ⟨g.weight, _, _, rfl, ok.w.1, ok.w.2, rfl, rfl⟩))))) (fun _ => rfl))) rfl ?_
  · have hd' : ∃ n : Int, d = .int n ∧ 0 ≤ n ∧ n ≤ 9999 := by
      have := ok.j; have := ok.f; have := ok.l; have := ok.d
      rcases List.mem_cons.mp hd with rfl | hd
      · exact ⟨_, rfl, by omega, by omega⟩
      rcases List.mem_cons.mp hd with rfl | hd
      · exact ⟨_, rfl, by omega, by omega⟩
      rcases List.mem_cons.mp hd with rfl | hd
      · exact ⟨_, rfl, by omega, by omega⟩
      rcases List.mem_cons.mp hd with rfl | hd
      · exact ⟨_, rfl, by omega, by omega⟩
      exact nomatch hd
    obtain ⟨n, rfl, h1, h2⟩ := hd'
    exact ⟨[2], _, by simp, fun s1 H1 C1 cl1 fp1 => ⟨(tn 2 C.bk), ts_nil, fun _ => (e_call c_is_minute (hr.mono (by decide)) (a1 (nm 2)) ⟨n, rfl, h1, h2, rfl, rfl⟩)⟩⟩
  have jf := ok.jf
  have fl := ok.fl
  exact r_ret (ev_and (e_call c_is_within (hr.mono (by decide)) (aC (ixT (nm 0) ev_int) (aC ev_int (a1 (ixT (nm 1) ev_int)))) ⟨g.ring, _, m.rings, rfl, ok.r.1, ok.r.2, rfl, rfl⟩) fun h => (ev_one (e_chain op_le op_le rd_B0 rd_B0 (e_add (ixT (nm 0) ev_int) (ixT (nm 1) ev_int)) (ixT (nm 0) ev_int) (ixT (nm 0) ev_int)))) ⟨by simp [jf, fl], SubM.refl _⟩

def AhOk (m : Md) (a : Option (Int × Int)) : Prop := ∀ p, a = some p → 0 ≤ p.1 ∧ p.1 < m.gaps.length ∧ 0 ≤ p.2 ∧ p.2 ≤ 9999
def F_is_ahead : FS := FChk (fun (p : Option (Int × Int) × Md) => [aheadD p.1, p.2.d]) (fun p => p.2.Ok ∧ AhOk p.2 p.1)
theorem sc_is_ahead : FnScope ["thing", "meadow"] ["thing", "meadow"] (defScope (top 25)) := ⟨rfl, rfl, rfl, by decide +kernel, rfl, by decide +kernel, by decide +kernel⟩
theorem ok_is_ahead (T : Tx K mg) (hF : Has K mg "is_ahead" (top 25)) (c_is_within : Can P w K mg base 2 "is_within" ["thing", "low", "high"] F_is_within) (c_is_minute : Can P w K mg base 3 "is_minute" ["thing"] F_is_minute) : Can P w K mg base 4 "is_ahead" ["thing", "meadow"] F_is_ahead := by
  refine can_of hF sc_is_ahead (fun ds M d M' h => by obtain ⟨_, rfl, _⟩ := h; rfl) (fun _ _ _ _ _ _ us hl => match us, hl with | [_, _], _ => rfl) fun f cdv A outer s H E C hr ds M d M' h => ?_
  obtain ⟨⟨a, m⟩, rfl, ⟨mo, ok⟩, rfl, rfl⟩ := h
  dsimp only at mo ok ⊢
  cases a with
  | none =>
    refine r_if (t_isN (nm 0)) (fun h => ?_) (fun h => ?_)
    · exact r_ret ev_bl ⟨rfl, SubM.refl _⟩
    · exact nomatch (show true = false from h)
  | some p =>
    obtain ⟨h1, h2, h3, h4⟩ := ok p rfl
    refine r_no' (t_isN (nm 0)) rfl ?_
    refine r_no' (et_w (ew_or (et_not (et_val (isiT T.isinstance T.tuple (nm 0)))) (fun h => (ew_or1 (t_ne (e_lenT T.len (nm 0)) ev_int))) (fun _ => rfl))) rfl ?_
    exact r_ret (ev_and (e_call c_is_within (hr.mono (by decide)) (aC (ixT (nm 0) ev_int) (aC ev_int (a1 (e_sub (e_lenT T.len (ixT (nm 1) ev_int)) ev_int)))) ⟨p.1, _, _, rfl, h1, by rw [List.length_map]; omega, rfl, rfl⟩) fun h => (ev_one (e_call c_is_minute (hr.mono (by decide)) (a1 (ixT (nm 0) ev_int)) ⟨p.2, rfl, h3, h4, rfl, rfl⟩))) ⟨rfl, SubM.refl _⟩

structure FxOk (ix : List Int) (gs : List Gld) : Prop where
  len : gs.length ≤ 7
  fx : ∀ i ∈ ix, 0 ≤ i ∧ i < gs.length
  nd : ix.Nodup
  rg : ∀ (i : Nat) g, gs[i]? = some g → g.ring ≠ 0 → (i : Int) ∈ ix
theorem nodup_le {l : List Int} {n : Nat} (hn : l.Nodup) (h : ∀ i ∈ l, 0 ≤ i ∧ i < n) : l.length ≤ n := by
  have h1 : (l.map Int.toNat).Nodup := List.pairwise_map.mpr (hn.imp_of_mem fun {x y} hx hy ne e => ne (by have := h x hx; have := h y hy; omega))
  have h2 : (l.map Int.toNat) ⊆ List.range n := fun x hx => by
    obtain ⟨y, hy, rfl⟩ := List.mem_map.mp hx
    have := h y hy
    exact List.mem_range.mpr (by omega)
  have := h1.length_le_of_subset h2
  rw [List.length_map, List.length_range] at this
  exact this
def ringD : D → Bool
  | .tup [_, .tup [_, _, _, _, _, _, .int r]] => !decide (r = 0)
  | _ => false
def F_are_fixed : FS := FChk (fun (p : List Int × List Gld) => [D.ti p.1, glsD p.2]) (fun p => FxOk p.1 p.2)
theorem sc_are_fixed : FnScope ["thing", "gliders", "g", "glider"] ["thing", "gliders"] (defScope (top 26)) := ⟨rfl, rfl, rfl, by decide +kernel, rfl, by decide +kernel, by decide +kernel⟩
theorem ok_are_fixed (T : Tx K mg) (hF : Has K mg "are_fixed" (top 26)) (c_is_within : Can P w K mg base 2 "is_within" ["thing", "low", "high"] F_is_within) : Can P w K mg base 3 "are_fixed" ["thing", "gliders"] F_are_fixed := by
  refine can_of hF sc_are_fixed (fun ds M d M' h => by obtain ⟨_, rfl, _⟩ := h; rfl) (fun _ _ _ _ _ _ us hl => match us, hl with | [_, _], _ => rfl) fun f cdv A outer s H E C hr ds M d M' h => ?_
  obtain ⟨⟨fx, gs⟩, rfl, ok, rfl, rfl⟩ := h
  dsimp only at ok ⊢
  have n7 := ok.len
  have fl := nodup_le ok.nd ok.fx
  refine r_no' (et_w (ew_or (et_not (et_val (isiT T.isinstance T.tuple (nm 0)))) (fun h => (ew_or1 (et_not (et_val (e_lcT (own := [("g", 2)]) (fun d => true) C (blkOk_by (by rfl)) T.all (it_tup (nm 0)) (by rw [List.length_map]; omega) (fun d hd => ?_)))))) (fun _ => rfl))) rfl ?_
  · obtain ⟨g, hg, rfl⟩ := List.mem_map.mp hd
    obtain ⟨h1, h2⟩ := ok.fx g hg
    exact ⟨[2], _, by simp, fun s1 H1 C1 cl1 fp1 => ⟨(tn 2 C.bk), ts_nil, fun _ => (e_call c_is_within (hr.mono (by decide)) (aC (nm 2) (aC ev_int (a1 (e_sub (e_lenT T.len (nm 1)) ev_int)))) ⟨g, _, _, rfl, h1, by rw [List.length_map]; omega, rfl, rfl⟩)⟩⟩
  refine r_no' (t_ne (e_lenSet C T.len T.set (nm 0) ok.nd (by omega)) (e_lenT T.len (nm 0))) (by rw [List.length_map]; simp) ?_
  refine r_ret (e_lcT (own := [("g", 2), ("glider", 3)]) ringD C (blkOk_by (by rfl)) T.all (it_enum T.enumerate (nm 1)) (by rw [enumD_len, List.length_map]; omega) (fun d hd => ?_)) ⟨rfl, SubM.refl _⟩
  obtain ⟨k, d1, hk, rfl⟩ := enumD_mem hd
  obtain ⟨g, hg, rfl⟩ := map_at hk
  refine ⟨[2, 3], _, by simp, fun s1 H1 C1 cl1 fp1 => ⟨(tg_tup C.bk (tgs_cons (tn 2 C.bk) (tgs_cons (tn 3 C.bk) tgs_nil))), (ts_one (t_ne (ixT (nm 3) ev_int) ev_int)), fun h => ?_⟩⟩
  have h1 : (k : Int) ∈ fx := ok.rg k g hg (by
    intro h0
    have h2 : (!decide (g.ring = 0)) = true := h
    rw [decide_eq_true h0] at h2
    exact nomatch h2)
  exact e_to (e_in (nm 2) (nm 0)) (congrArg D.bl (decide_eq_true h1))

theorem Sk.Ok.fxok {s : Sk} (h : s.Ok) : FxOk s.fixed s.gs := ⟨h.len, h.fx, h.nd, h.rg⟩
def F_is_sky : FS := FChk (fun (s : Sk) => [s.d]) Sk.Ok
theorem sc_is_sky : FnScope ["thing", "meadow", "ahead", "gliders", "fixed", "glider"] ["thing"] (defScope (top 27)) := ⟨rfl, rfl, rfl, by decide +kernel, rfl, by decide +kernel, by decide +kernel⟩
theorem ok_is_sky (T : Tx K mg) (hF : Has K mg "is_sky" (top 27)) (c_is_meadow : Can P w K mg base 6 "is_meadow" ["thing"] F_is_meadow) (c_is_ahead : Can P w K mg base 4 "is_ahead" ["thing", "meadow"] F_is_ahead) (c_is_glider : Can P w K mg base 4 "is_glider" ["thing", "meadow"] F_is_glider) (c_are_fixed : Can P w K mg base 3 "are_fixed" ["thing", "gliders"] F_are_fixed) : Can P w K mg base 7 "is_sky" ["thing"] F_is_sky := by
  refine can_of hF sc_is_sky (fun ds M d M' h => by obtain ⟨_, rfl, _⟩ := h; rfl) (fun _ _ _ _ _ _ us hl => match us, hl with | [_], _ => rfl) fun f cdv A outer s H E C hr ds M d M' h => ?_
  obtain ⟨sk, rfl, ok, rfl, rfl⟩ := h
  have n7 := ok.len
  refine r_no' (et_w (ew_or (et_not (et_val (isiT T.isinstance T.tuple (nm 0)))) (fun h => (ew_or (t_ne (e_lenT T.len (nm 0)) ev_int) (fun h => (ew_or1 (et_not (et_val (e_call c_is_meadow (hr.mono (by decide)) (a1 (ixT (nm 0) ev_int)) (.of sk.md ok.md)))))) (fun _ => rfl))) (fun _ => rfl))) rfl ?_
  refine run_cons (s_tgt (nm 0) (tg_tup C (tgs_cons (tn 1 C) (tgs_cons (tn 2 C) (tgs_cons (tn 3 C) (tgs_cons (tn 4 C) tgs_nil))))) ?_)
  refine r_no' (et_w (ew_or (et_not (et_val (e_call c_is_ahead (hr.mono (by decide)) (aC (nm 2) (a1 (nm 1))) (.of (sk.ahead, sk.md) ⟨ok.md, ok.ahead⟩)))) (fun h => (ew_or (et_not (et_val (isiT T.isinstance T.tuple (nm 3)))) (fun h => (ew_or1 (t_gt (e_lenT T.len (nm 3)) (e_gI T.MOST_GLIDERS)))) (fun _ => rfl))) (fun _ => rfl))) (by simp; omega) ?_
  refine r_ret (ev_and (e_lcT (own := [("glider", 5)]) (fun d => true) C (blkOk_by (by rfl)) T.all (it_tup (nm 3)) (by rw [List.length_map]; omega) (fun d hd => ?_)) fun h => (ev_one (e_call c_are_fixed (hr.mono (by decide)) (aC (nm 4) (a1 (nm 3))) (.of (sk.fixed, sk.gs) ok.fxok)))) ⟨rfl, SubM.refl _⟩
  obtain ⟨g, hg, rfl⟩ := List.mem_map.mp hd
  exact ⟨[5], _, by simp, fun s1 H1 C1 cl1 fp1 => ⟨(tn 5 C.bk), ts_nil, fun _ => (e_call c_is_glider (hr.mono (by decide)) (aC (nm 5) (a1 (nm 1))) (.of (g, sk.md) ⟨ok.md, ok.gl g hg⟩))⟩⟩

def F_check_sky : FS := fun ds M d M' => ∃ s : Sk, ds = [s.d] ∧ s.Ok ∧ d = .non ∧ M' = M
theorem sc_check_sky : FnScope ["sky"] ["sky"] (defScope (top 28)) := ⟨rfl, rfl, rfl, by decide +kernel, rfl, by decide +kernel, by decide +kernel⟩
theorem ok_check_sky (T : Tx K mg) (hF : Has K mg "check_sky" (top 28)) (c_is_sky : Can P w K mg base 7 "is_sky" ["thing"] F_is_sky) : Can P w K mg base 8 "check_sky" ["sky"] F_check_sky := by
  refine can_of hF sc_check_sky (fun ds M d M' h => by obtain ⟨_, rfl, _⟩ := h; rfl) (fun _ _ _ _ _ _ us hl => match us, hl with | [_], _ => rfl) fun f cdv A outer s H E C hr ds M d M' h => ?_
  obtain ⟨sk, rfl, ok, rfl, rfl⟩ := h
  exact r_no' (et_not (et_val (e_call c_is_sky (hr.mono (by decide)) (a1 (nm 0)) (.of sk ok)))) rfl (run_nil ⟨rfl, SubM.refl _⟩)
end
end Dr
set_option Elab.async false
set_option linter.all false
set_option maxRecDepth 100000
set_option maxHeartbeats 2000000
/-! the walks of the orders -/
namespace Dr
open PySem L2
section
variable {X : Cx} {δ : En} {M M1 : Mp} {pos : Pos} {elt tg iter : Expr} {ifs : List Expr} {scope : Scope} {own : List (Str × Nat)} {ds : List D} {stt : Bool}
theorem fm_stepx {α : Type} (p : α → Bool) (f : α → D) (xs : List α) {i : Nat} {x : α} (h : xs[i]? = some x) : ((xs.take (i + 1)).filter p).map f = ((xs.take i).filter p).map f ++ (if p x = true then [f x] else []) := by
  rw [List.take_add_one, h, List.filter_append, List.map_append]
  congr 1
  by_cases hp : p x = true
  · rw [if_pos hp]
    simp [hp]
  · rw [if_neg hp]
    simp [hp]
theorem ev_lcx {α : Type} (xs : List α) (enc : α → D) (p : α → Bool) (f : α → D) (C : Cok X) (ok : BlkOk X.N X.env.scope scope own) (hi : ItD stt X tg iter δ M (xs.map enc) M1) (hz : xs.length ≤ 10000)
    (turn : ∀ x ∈ xs, TurnP stt X scope tg ifs elt (own.map (·.2)) (enc x) δ M1 (p x) (f x)) (hs : ∀ x, foldedSetIterable iter X.env x = pure x := by intro _; rfl) :
    Ev X (.ListComp elt [⟨tg, iter, ifs, 0⟩] scope pos) δ M (.lst ((xs.filter p).map f)) M1 := by
  have h := ev_lc (pos := pos) C ok hi (fun i => ((xs.take i).filter p).map f) (fun _ => M1) (by simp) rfl (by rw [List.length_map]; exact hz) (elt := elt) (ifs := ifs) (fun i d hd => by
    obtain ⟨x, hx, rfl⟩ := map_at hd
    obtain ⟨js, δ', h1, h2⟩ := turn x (List.mem_of_getElem? hx)
    exact ⟨p x, f x, ⟨js, δ', M1, h1, fun s H C cl fp => ⟨(h2 s H C cl fp).1, (h2 s H C cl fp).2.1, (h2 s H C cl fp).2.2, fun _ => rfl⟩⟩, fm_stepx p f xs hx⟩) hs
  rw [List.length_map, List.take_length] at h
  exact h
/-- with no condition -/
theorem ev_lcm {α : Type} (xs : List α) (enc : α → D) (f : α → D) (C : Cok X) (ok : BlkOk X.N X.env.scope scope own) (hi : ItD stt X tg iter δ M (xs.map enc) M1) (hz : xs.length ≤ 10000)
    (turn : ∀ x ∈ xs, TurnP stt X scope tg ifs elt (own.map (·.2)) (enc x) δ M1 true (f x)) (hs : ∀ x, foldedSetIterable iter X.env x = pure x := by intro _; rfl) :
    Ev X (.ListComp elt [⟨tg, iter, ifs, 0⟩] scope pos) δ M (.lst (xs.map f)) M1 := by
  have h := ev_lcx (pos := pos) xs enc (fun _ => true) f C ok hi hz turn hs
  rw [List.filter_eq_self.mpr (fun _ _ => rfl)] at h
  exact h
/-- the whole numbers from 0 on -/
def rgI (n : Nat) : List Int := (List.range n).map fun i : Nat => (i : Int)
theorem rng_rgI (n : Nat) : rng 0 n = (rgI n).map D.int := by
  unfold rng rgI
  rw [List.map_map]
  exact List.map_congr_left fun i _ => by show D.int (0 + (i : Int)) = D.int (i : Int); rw [Int.zero_add]
theorem it_rg {n : Nat} {e : Expr} {p : Pos} (hm : X.mg "range" = none) (h : EvA X [e] δ M [.int (n : Int)] M1) (hb : n ≤ 100000) (hg : Gl X "range" := by rfl) (hs : starEach [e] X.env = [(false, eval e X.env)] := by rfl) : ItD true X tg (.Call (.Name "range" p) [e] [] pos) δ M ((rgI n).map D.int) M1 := by
  have h := it_range1 (tg := tg) (pos := pos) (p := p) hg hm h (by omega) hs
  rw [Int.toNat_natCast, rng_rgI] at h
  exact h
theorem e_lenX {α : Type} {xs : List α} {enc : α → D} {e : Expr} {p : Pos} (hm : X.mg "len" = none) (ha : Ev X e δ M (.tup (xs.map enc)) M1) (hg : Gl X "len" := by rfl) (hs : starEach [e] X.env = (false, eval e X.env) :: starEach [] X.env := by rfl) (hpl : (backTo pos (starEach ([] : List Expr) X.env)).any (·.1) = false := by rfl) : Ev X (.Call (.Name "len" p) [e] [] pos) δ M (.int (xs.length : Nat)) M1 :=
  e_to (e_lenT hm ha hg hs hpl) (by rw [List.length_map])
theorem e_lenLX {α : Type} {xs : List α} {enc : α → D} {e : Expr} {p : Pos} (hm : X.mg "len" = none) (ha : Ev X e δ M (.lst (xs.map enc)) M1) (hg : Gl X "len" := by rfl) (hs : starEach [e] X.env = (false, eval e X.env) :: starEach [] X.env := by rfl) (hpl : (backTo pos (starEach ([] : List Expr) X.env)).any (·.1) = false := by rfl) : Ev X (.Call (.Name "len" p) [e] [] pos) δ M (.int (xs.length : Nat)) M1 :=
  e_to (e_lenL hm ha hg hs hpl) (by rw [List.length_map])
theorem mem_rgI {n : Nat} {i : Int} : i ∈ rgI n ↔ 0 ≤ i ∧ i < n := by
  unfold rgI
  rw [List.mem_map]
  constructor
  · rintro ⟨k, hk, rfl⟩
    have := List.mem_range.mp hk
    omega
  · intro h
    exact ⟨i.toNat, List.mem_range.mpr (by omega), by omega⟩
theorem rgI_len (n : Nat) : (rgI n).length = n := by unfold rgI; rw [List.length_map, List.length_range]
end

/-! ### what the orders are -/
def Gld.z : Gld := ⟨0, 0, 0, 0, 0, 0, 0⟩
def Sk.gl (s : Sk) (i : Int) : Gld := s.gs.getD i.toNat .z
def Sk.free (s : Sk) : List Int := (rgI s.gs.length).filter fun g => !decide (g ∈ s.fixed)
def Sk.joins (s : Sk) : List Int := sortI (s.gs.map Gld.joins)
def Gld.cost (g : Gld) (m : Int) : Int := g.weight * max 0 (m - g.due)
def Sk.soonest (s : Sk) (a : Option (Int × Int)) (i : Int) : Int :=
  openIn s.md.shuts (match a with | none => (s.gl i).first | some p => max (s.gl i).first (p.2 + gapAt s.md.gaps p.1 (s.gl i).kind))
def Sk.inTime (s : Sk) (m p : Int) : Bool := decide ((s.joins.length : Int) ≤ s.md.rings + p) || decide (m - s.md.sink ≤ s.joins.getD (s.md.rings + p).toNat 0)
def Sk.landed (s : Sk) (a : Option (Int × Int)) (i p : Int) : Option Int := if (decide ((s.gl i).last < s.soonest a i) || !s.inTime (s.soonest a i) p) = true then none else some (s.soonest a i)
def Sk.In (s : Sk) (i : Int) : Prop := 0 ≤ i ∧ i < s.gs.length
def Sk.AhK (s : Sk) (a : Option (Int × Int)) : Prop := ∀ p, a = some p → 0 ≤ p.1 ∧ p.1 < s.md.gaps.length
theorem Sk.at_ {s : Sk} {i : Int} (h : s.In i) : s.gs[i.toNat]? = some (s.gl i) := at_lt (by have := h.1; have := h.2; omega) _
theorem Sk.ix {s : Sk} {i : Int} (h : s.In i) : atI (s.gs.map Gld.d) i = some (s.gl i).d := by
  rw [atI_pos h.1, List.getElem?_map, s.at_ h]
  rfl
theorem Sk.Ok.glk {s : Sk} (ok : s.Ok) {i : Int} (h : s.In i) : (s.gl i).Ok s.md := ok.gl _ (List.mem_of_getElem? (s.at_ h))
theorem Sk.joins_len (s : Sk) : s.joins.length = s.gs.length := by
  unfold Sk.joins
  rw [(sortI_perm _).length_eq, List.length_map]

section
variable {P : Program} {w : World} {K : PySem.W.Frag} {mg : Str → Option Value} {base : Heap}
def F_free_ones : FS := fun ds M d M' => ∃ s : Sk, ds = [s.d] ∧ s.Ok ∧ d = D.li s.free ∧ M' = M
theorem sc_free_ones : FnScope ["sky", "g"] ["sky"] (defScope (top 29)) := ⟨rfl, rfl, rfl, by decide +kernel, rfl, by decide +kernel, by decide +kernel⟩
theorem ok_free_ones (T : Tx K mg) (hF : Has K mg "free_ones" (top 29)) : Can P w K mg base 1 "free_ones" ["sky"] F_free_ones := by
  refine can_of hF sc_free_ones (fun ds M d M' h => by obtain ⟨_, rfl, _⟩ := h; rfl) (fun _ _ _ _ _ _ us hl => match us, hl with | [_], _ => rfl) fun f cdv A outer s H E C hr ds M d M' h => ?_
  obtain ⟨sk, rfl, ok, rfl, rfl⟩ := h
  have n7 := ok.len
  exact r_ret (ev_lcx (own := [("g", 1)]) (rgI sk.gs.length) D.int (fun g => !decide (g ∈ sk.fixed)) D.int C (blkOk_by (by rfl)) (it_rg T.range (a1 (e_lenX (xs := sk.gs) (enc := Gld.d) T.len (ixT (nm 0) ev_int))) (by omega)) (by rw [rgI_len]; omega) (fun g hd => ⟨[1], _, by simp, fun s1 H1 C1 cl1 fp1 => ⟨(tn 1 C.bk), (ts_one (t_nin (nm 1) (ixT (nm 0) ev_int))), fun _ => (nm 1)⟩⟩)) ⟨rfl, SubM.refl _⟩

def F_first_open : FS := fun ds M d M' => ∃ (s : Sk) (m : Int), ds = [s.d, .int m] ∧ d = .int (openIn s.md.shuts m) ∧ M' = M
theorem sc_first_open : FnScope ["sky", "minute"] ["sky", "minute"] (defScope (top 30)) := ⟨rfl, rfl, rfl, by decide +kernel, rfl, by decide +kernel, by decide +kernel⟩
theorem ok_first_open (T : Tx K mg) (hF : Has K mg "first_open" (top 30)) (c_open_in : Can P w K mg base 1 "open_in" ["shuts", "minute"] F_open_in) : Can P w K mg base 2 "first_open" ["sky", "minute"] F_first_open := by
  refine can_of hF sc_first_open (fun ds M d M' h => by obtain ⟨_, _, rfl, _⟩ := h; rfl) (fun _ _ _ _ _ _ us hl => match us, hl with | [_, _], _ => rfl) fun f cdv A outer s H E C hr ds M d M' h => ?_
  obtain ⟨sk, m, rfl, rfl, rfl⟩ := h
  exact r_ret (e_call c_open_in (hr.mono (by decide)) (aC (ixT (ixT (nm 0) ev_int) ev_int) (a1 (nm 1))) ⟨sk.md.shuts, m, rfl, rfl, rfl⟩) ⟨rfl, SubM.refl _⟩

def F_late_joins : FS := fun ds M d M' => ∃ (s : Sk), ds = [s.d] ∧ s.gs.length ≤ 7 ∧ d = D.li s.joins ∧ M' = M
theorem sc_late_joins : FnScope ["sky", "glider"] ["sky"] (defScope (top 32)) := ⟨rfl, rfl, rfl, by decide +kernel, rfl, by decide +kernel, by decide +kernel⟩
theorem ok_late_joins (T : Tx K mg) (hF : Has K mg "late_joins" (top 32)) : Can P w K mg base 1 "late_joins" ["sky"] F_late_joins := by
  refine can_of hF sc_late_joins (fun ds M d M' h => by obtain ⟨_, rfl, _⟩ := h; rfl) (fun _ _ _ _ _ _ us hl => match us, hl with | [_], _ => rfl) fun f cdv A outer s H E C hr ds M d M' h => ?_
  obtain ⟨sk, rfl, n7, rfl, rfl⟩ := h
  refine r_ret (e_sortI T.sorted (e_to (ev_lcm (own := [("glider", 1)]) sk.gs Gld.d (fun g => .int g.joins) C (blkOk_by (by rfl)) (it_tup (ixT (nm 0) ev_int)) (by omega) (fun g hd => ⟨[1], _, by simp, fun s1 H1 C1 cl1 fp1 => ⟨(tn 1 C.bk), ts_nil, fun _ => (ixT (nm 1) ev_int)⟩⟩)) (d' := D.li (sk.gs.map Gld.joins)) ?_)) ⟨rfl, SubM.refl _⟩
  exact congrArg D.lst (by rw [List.map_map]; rfl)

def F_own_cost : FS := fun ds M d M' => ∃ (s : Sk) (i m : Int), ds = [s.d, .int i, .int m] ∧ s.Ok ∧ s.In i ∧ d = .int ((s.gl i).cost m) ∧ M' = M
theorem sc_own_cost : FnScope ["sky", "number", "minute", "glider"] ["sky", "number", "minute"] (defScope (top 34)) := ⟨rfl, rfl, rfl, by decide +kernel, rfl, by decide +kernel, by decide +kernel⟩
theorem ok_own_cost (T : Tx K mg) (hF : Has K mg "own_cost" (top 34)) : Can P w K mg base 1 "own_cost" ["sky", "number", "minute"] F_own_cost := by
  refine can_of hF sc_own_cost (fun ds M d M' h => by obtain ⟨_, _, _, rfl, _⟩ := h; rfl) (fun _ _ _ _ _ _ us hl => match us, hl with | [_, _, _], _ => rfl) fun f cdv A outer s H E C hr ds M d M' h => ?_
  obtain ⟨sk, i, m, rfl, ok, hi, rfl, rfl⟩ := h
  have g := ok.glk hi
  have gw := g.w
  refine r_set 3 C (ixT (ixT (nm 0) ev_int) (nm 1) (Sk.ix hi)) ?_
  exact r_ret (e_mul (ixT (nm 3) ev_int) (e_max C T.max ev_int (e_sub (nm 2) (ixT (nm 3) ev_int))) (.inl (by omega))) ⟨rfl, SubM.refl _⟩

def F_soonest_behind : FS := fun ds M d M' => ∃ (s : Sk) (a : Option (Int × Int)) (i : Int), ds = [s.d, aheadD a, .int i] ∧ s.Ok ∧ s.In i ∧ s.AhK a ∧ d = .int (s.soonest a i) ∧ M' = M
theorem sc_soonest_behind : FnScope ["sky", "ahead", "number", "glider", "minute"] ["sky", "ahead", "number"] (defScope (top 35)) := ⟨rfl, rfl, rfl, by decide +kernel, rfl, by decide +kernel, by decide +kernel⟩
theorem ok_soonest_behind (T : Tx K mg) (hF : Has K mg "soonest_behind" (top 35)) (c_first_open : Can P w K mg base 2 "first_open" ["sky", "minute"] F_first_open) : Can P w K mg base 3 "soonest_behind" ["sky", "ahead", "number"] F_soonest_behind := by
  refine can_of hF sc_soonest_behind (fun ds M d M' h => by obtain ⟨_, _, _, rfl, _⟩ := h; rfl) (fun _ _ _ _ _ _ us hl => match us, hl with | [_, _, _], _ => rfl) fun f cdv A outer s H E C hr ds M d M' h => ?_
  obtain ⟨sk, a, i, rfl, ok, hi, ha, rfl, rfl⟩ := h
  have g := ok.glk hi
  refine r_set 3 C (ixT (ixT (nm 0) ev_int) (nm 2) (Sk.ix hi)) ?_
  refine r_set 4 C (ixT (nm 3) ev_int) ?_
  cases a with
  | none =>
    refine r_no' (t_notN (nm 1)) rfl ?_
    exact r_ret (e_call c_first_open (hr.mono (by decide)) (aC (nm 0) (a1 (nm 4))) ⟨sk, (sk.gl i).first, rfl, rfl, rfl⟩) ⟨rfl, SubM.refl _⟩
  | some p =>
    obtain ⟨h1, h2⟩ := ha p rfl
    refine r_if (t_notN (nm 1)) (fun h => ?_) (fun h => ?_)
    · refine r_set 4 C (e_max C T.max (nm 4) (e_add (ixT (nm 1) ev_int) (ixT (ixT (ixT (ixT (nm 0) ev_int) ev_int) (ixT (nm 1) ev_int) (ok.md.gaps.row h1 h2)) (ixT (nm 3) ev_int) (ok.md.gaps.gap h1 h2 g.k0 g.k1)))) (run_nil ?_)
      exact r_ret (e_call c_first_open (hr.mono (by decide)) (aC (nm 0) (a1 (nm 4))) ⟨sk, max (sk.gl i).first (p.2 + gapAt sk.md.gaps p.1 (sk.gl i).kind), rfl, rfl, rfl⟩) ⟨rfl, SubM.refl _⟩
    · exact nomatch (show true = false from h)

def F_leaves_in_time : FS := fun ds M d M' => ∃ (s : Sk) (m p : Int), ds = [s.d, D.li s.joins, .int m, .int p] ∧ s.Ok ∧ 0 ≤ p ∧ d = .bl (s.inTime m p) ∧ M' = M
theorem sc_leaves_in_time : FnScope ["sky", "joins", "minute", "place", "at"] ["sky", "joins", "minute", "place"] (defScope (top 36)) := ⟨rfl, rfl, rfl, by decide +kernel, rfl, by decide +kernel, by decide +kernel⟩
theorem ok_leaves_in_time (T : Tx K mg) (hF : Has K mg "leaves_in_time" (top 36)) : Can P w K mg base 1 "leaves_in_time" ["sky", "joins", "minute", "place"] F_leaves_in_time := by
  refine can_of hF sc_leaves_in_time (fun ds M d M' h => by obtain ⟨_, _, _, rfl, _⟩ := h; rfl) (fun _ _ _ _ _ _ us hl => match us, hl with | [_, _, _, _], _ => rfl) fun f cdv A outer s H E C hr ds M d M' h => ?_
  obtain ⟨sk, m, p, rfl, ok, hp, rfl, rfl⟩ := h
  have r0 := ok.md.r0
  refine r_set 4 C (e_add (ixT (ixT (nm 0) ev_int) ev_int) (nm 3)) ?_
  refine r_ret (ev_or (e_ge (nm 4) (e_lenL T.len (nm 1))) fun h => (ev_one (e_le (e_sub (nm 2) (ixT (ixT (nm 0) ev_int) ev_int)) (ixL (d := .int (sk.joins.getD (sk.md.rings + p).toNat 0)) (nm 1) (nm 4) ?_)))) ⟨?_, SubM.refl _⟩
  · rw [decide_eq_false_iff_not, List.length_map] at h
    rw [atI_pos (by omega), List.getElem?_map, at_lt (by omega) 0]
    rfl
  · rw [List.length_map]
    rfl

def F_landed_at : FS := fun ds M d M' => ∃ (s : Sk) (a : Option (Int × Int)) (i p : Int), ds = [s.d, D.li s.joins, aheadD a, .int i, .int p] ∧ s.Ok ∧ s.In i ∧ s.AhK a ∧ 0 ≤ p ∧ d = optD (s.landed a i p) ∧ M' = M
theorem sc_landed_at : FnScope ["sky", "joins", "ahead", "number", "place", "minute"] ["sky", "joins", "ahead", "number", "place"] (defScope (top 37)) := ⟨rfl, rfl, rfl, by decide +kernel, rfl, by decide +kernel, by decide +kernel⟩
theorem ok_landed_at (T : Tx K mg) (hF : Has K mg "landed_at" (top 37)) (c_soonest_behind : Can P w K mg base 3 "soonest_behind" ["sky", "ahead", "number"] F_soonest_behind) (c_leaves_in_time : Can P w K mg base 1 "leaves_in_time" ["sky", "joins", "minute", "place"] F_leaves_in_time) : Can P w K mg base 4 "landed_at" ["sky", "joins", "ahead", "number", "place"] F_landed_at := by
  refine can_of hF sc_landed_at (fun ds M d M' h => by obtain ⟨_, _, _, _, rfl, _⟩ := h; rfl) (fun _ _ _ _ _ _ us hl => match us, hl with | [_, _, _, _, _], _ => rfl) fun f cdv A outer s H E C hr ds M d M' h => ?_
  obtain ⟨sk, a, i, p, rfl, ok, hi, ha, hp, rfl, rfl⟩ := h
  refine r_set 5 C (e_call c_soonest_behind (hr.mono (by decide)) (aC (nm 0) (aC (nm 2) (a1 (nm 3)))) ⟨sk, a, i, rfl, ok, hi, ha, rfl, rfl⟩) ?_
  refine r_if (et_w (ew_or (t_gt (nm 5) (ixT (ixT (ixT (nm 0) ev_int) (nm 3) (Sk.ix hi)) ev_int)) (fun h => (ew_or1 (et_not (et_val (e_call c_leaves_in_time (hr.mono (by decide)) (aC (nm 0) (aC (nm 1) (aC (nm 5) (a1 (nm 4))))) ⟨sk, sk.soonest a i, p, rfl, ok, hp, rfl, rfl⟩))))) (fun _ => rfl))) (fun h => ?_) (fun h => ?_)
  · have e : sk.landed a i p = none := if_pos h
    rw [e]
    exact r_ret ev_non ⟨rfl, SubM.refl _⟩
  · have e : sk.landed a i p = some (sk.soonest a i) := if_neg (by rw [h]; decide)
    rw [e]
    exact run_nil (r_ret (nm 5) ⟨rfl, SubM.refl _⟩)
end
end Dr
set_option Elab.async false
set_option linter.all false
set_option maxRecDepth 100000
set_option maxHeartbeats 2000000
/-! the walks of the orders: rings, and the soonest way -/
namespace Dr
open PySem L2
section
variable {X : Cx} {δ : En} {M M1 : Mp} {pos : Pos} {elt tg iter : Expr} {ifs : List Expr} {scope : Scope} {own : List (Str × Nat)} {ds : List D} {stt : Bool}
theorem s_setLcx (i : Nat) {α : Type} (xs : List α) (enc : α → D) (p : α → Bool) (f : α → D) {y : Str} {py spos : Pos} {rest : List Stmt} {De : DE} (C : Cok X) (ok : BlkOk X.N X.env.scope scope own) (hi : ItD stt X tg iter δ M (xs.map enc) M1) (hz : xs.length ≤ 10000)
    (turn : ∀ x ∈ xs, TurnP stt X scope tg ifs elt (own.map (·.2)) (enc x) δ M1 (p x) (f x))
    (hsw : swapsWith (.ListComp elt [⟨tg, iter, ifs, 0⟩] scope pos) (some (.Name y py)) spos.line X.env = pure true)
    (k : Run X rest (δ.set i (some (.lst ((xs.filter p).map f)))) M1 De) (hy : X.N[i]? = some y := by rfl) (hyl : X.env.scope.names.lookup y = some .local := by rfl) (hs : ∀ x, foldedSetIterable iter X.env x = pure x := by intro _; rfl) :
    Run X (.Assign [.Name y py] (.ListComp elt [⟨tg, iter, ifs, 0⟩] scope pos) spos :: rest) δ M De :=
  run_cons (s_setLc (pos := pos) i C hy hyl ok hi (fun i => ((xs.take i).filter p).map f) (fun _ => M1) (by simp) rfl (by rw [List.length_map]; exact hz) (elt := elt) (ifs := ifs) (fun i d hd => by
    obtain ⟨x, hx, rfl⟩ := map_at hd
    obtain ⟨js, δ', h1, h2⟩ := turn x (List.mem_of_getElem? hx)
    exact ⟨p x, f x, ⟨js, δ', M1, h1, fun s H C cl fp => ⟨(h2 s H C cl fp).1, (h2 s H C cl fp).2.1, (h2 s H C cl fp).2.2, fun _ => rfl⟩⟩, fm_stepx p f xs hx⟩) (by rw [List.length_map, List.take_length]; exact k) hsw hs)
theorem SubM.fr {M : Mp} {a : Addr} {m : Mob} (h : M a = none) : SubM M (eraM (updM M a m) a) := fun b m' e => by
  have nb : b ≠ a := fun z => by subst z; rw [h] at e; cases e
  rw [eraM_ne nb, updM_ne nb]
  exact e
end
def Sk.below (s : Sk) (l : List (Int × Int)) (t : Int) : List (Int × Int) := l.filter fun p => decide ((s.gl p.1).joins ≤ t) && decide (t < p.2 - s.md.sink)
def Sk.ringStep (s : Sk) (l : List (Int × Int)) (i m most t : Int) : Int := if (decide ((s.gl i).joins ≤ t) && decide (t < m - s.md.sink)) = true then max most (1 + ((s.below l t).length : Int)) else most
def Sk.ringNeed (s : Sk) (l : List (Int × Int)) (i m : Int) : Int := ((s.gl i).joins :: l.map fun p => (s.gl p.1).joins).foldl (s.ringStep l i m) 0
def Sk.mayHold (s : Sk) (l : List (Int × Int)) (i m : Int) : Bool := decide ((s.gl i).ring = 0) || decide (s.ringNeed l i m ≤ (s.gl i).ring)
def Sk.fixAt (s : Sk) : Nat → Option (Int × Int) → List (Int × Int) → List Int → Except Nat (List (Int × Int))
  | _, _, l, [] => .ok l
  | p, a, l, i :: r => match s.landed a i p with
    | none => .error p
    | some m => if s.mayHold l i m = true then s.fixAt (p + 1) (some ((s.gl i).kind, m)) (l ++ [(i, m)]) r else .error p
theorem Sk.fixAt_cons {s : Sk} {p : Nat} {a : Option (Int × Int)} {l : List (Int × Int)} {i : Int} {r : List Int} : s.fixAt p a l (i :: r) = match s.landed a i p with
    | none => .error p
    | some m => if s.mayHold l i m = true then s.fixAt (p + 1) (some ((s.gl i).kind, m)) (l ++ [(i, m)]) r else .error p := rfl
def wayD : Except Nat (List (Int × Int)) → D
  | .error p => .tup [.str "stuck", .int (p : Nat)]
  | .ok l => .tup [.str "lands", .lst (l.map pairD)]
section
variable {P : Program} {w : World} {K : PySem.W.Frag} {mg : Str → Option Value} {base : Heap}
def F_ring_needed : FS := fun ds M d M' => ∃ (s : Sk) (l : List (Int × Int)) (i m : Int), ds = [s.d, .lst (l.map pairD), .int i, .int m] ∧ (∀ p ∈ l, s.In p.1) ∧ l.length ≤ 7 ∧ s.In i ∧ d = .int (s.ringNeed l i m) ∧ M' = M
theorem sc_ring_needed : FnScope ["sky", "landed", "number", "minute", "sink", "joins", "most", "at", "one", "when", "below"] ["sky", "landed", "number", "minute"] (defScope (top 38)) := ⟨rfl, rfl, rfl, by decide +kernel, rfl, by decide +kernel, by decide +kernel⟩
theorem ok_ring_needed (T : Tx K mg) (hF : Has K mg "ring_needed" (top 38)) : Can P w K mg base 1 "ring_needed" ["sky", "landed", "number", "minute"] F_ring_needed := by
  refine can_of hF sc_ring_needed (fun ds M d M' h => by obtain ⟨_, _, _, _, rfl, _⟩ := h; rfl) (fun _ _ _ _ _ _ us hl => match us, hl with | [_, _, _, _], _ => rfl) fun f cdv A outer s H E C hr ds M d M' h => ?_
  obtain ⟨sk, l, i, m, rfl, hl, l7, hi, rfl, rfl⟩ := h
  refine r_set 4 C (ixT (ixT (nm 0) ev_int) ev_int) ?_
  refine r_set 5 C (ixT (ixT (ixT (nm 0) ev_int) (nm 2) (Sk.ix hi)) ev_int) ?_
  refine r_set 6 C ev_int ?_
  refine r_for (ds := ((sk.gl i).joins :: l.map fun p => (sk.gl p.1).joins).map D.int) C (it_list (e_to (e_catL (ev_lst (a1 (nm 5)) (Nat.le_of_ble_eq_true rfl)) (ev_lcm (own := [("one", 8), ("when", 9)]) l pairD (fun p => .int (sk.gl p.1).joins) C (blkOk_by (by rfl)) (it_list (nm 1)) (by omega) (fun p hp => ⟨[8, 9], _, by simp, fun s1 H1 C1 cl1 fp1 => ⟨(tg_tup C.bk (tgs_cons (tn 8 C.bk) (tgs_cons (tn 9 C.bk) tgs_nil))), ts_nil, fun _ => (ixT (ixT (ixT (nm 0) ev_int) (nm 8) (Sk.ix (hl p hp))) ev_int)⟩⟩)) (by rw [List.length_map]; show 1 + _ ≤ _; omega)) (by rw [List.map_cons, List.map_map]; rfl)))
    (fun k δ' M1 => M1 = M' ∧ ∃ a b, δ' = [some sk.d, some (.lst (l.map pairD)), some (.int i), some (.int m), some (.int sk.md.sink), some (.int (sk.gl i).joins), some (.int ((((sk.gl i).joins :: l.map fun p => (sk.gl p.1).joins).take k).foldl (sk.ringStep l i m) 0)), a, none, none, b]) ⟨rfl, _, _, rfl⟩ (fun k d δ' M1 hd ⟨hM, a, b, hδ⟩ => ?_) (fun δ' M1 ⟨hM, a, b, hδ⟩ => ?_)
  · subst hM; subst hδ
    obtain ⟨t, ht, rfl⟩ := map_at hd
    refine ⟨_, _, tn 7 C, ?_⟩
    generalize hr0 : List.foldl (sk.ringStep l i m) 0 (List.take k ((sk.gl i).joins :: l.map fun p => (sk.gl p.1).joins)) = r0
    have e1 : List.foldl (sk.ringStep l i m) 0 (List.take (k + 1) ((sk.gl i).joins :: l.map fun p => (sk.gl p.1).joins)) = sk.ringStep l i m r0 t := by
      rw [List.take_add_one, ht, List.foldl_append, hr0]
      rfl
    refine r_if (t_chain op_le op_lt rd_B0 rd_B0 (nm 5) (nm 7) (e_sub (nm 3) (nm 4))) (fun h => ?_) (fun h => ?_)
    · refine s_setLcx (own := [("one", 8), ("when", 9)]) 10 l pairD (fun p => decide ((sk.gl p.1).joins ≤ t) && decide (t < p.2 - sk.md.sink)) (fun p => .int p.1) C (blkOk_by (by rfl)) (it_list (nm 1)) (by omega) (fun p hp => ⟨[8, 9], _, by simp, fun s1 H1 C1 cl1 fp1 => ⟨(tg_tup C.bk (tgs_cons (tn 8 C.bk) (tgs_cons (tn 9 C.bk) tgs_nil))), (ts_one (t_chain op_le op_lt rd_B0 rd_B0 (ixT (ixT (ixT (nm 0) ev_int) (nm 8) (Sk.ix (hl p hp))) ev_int) (nm 7) (e_sub (nm 9) (nm 4)))), fun _ => (nm 8)⟩⟩) (sw_true rfl rfl rfl (by decide +kernel)) ?_
      refine r_set 6 C (e_max C T.max (nm 6) (e_add ev_int (e_lenLX (xs := sk.below l t) (enc := fun p => .int p.1) T.len (nm 10)))) (run_nil (run_nil ⟨rfl, some (.int t), some (.lst ((sk.below l t).map fun p => .int p.1)), ?_⟩))
      rw [e1, show sk.ringStep l i m r0 t = max r0 (1 + ((sk.below l t).length : Int)) from if_pos h]
      rfl
    · refine run_nil (run_nil ⟨rfl, some (.int t), b, ?_⟩)
      rw [e1, show sk.ringStep l i m r0 t = r0 from if_neg (by rw [h]; decide)]
      rfl
  · subst hM; subst hδ
    rw [List.length_map, List.take_length]
    exact r_ret (nm 6) ⟨rfl, SubM.refl _⟩

def F_may_hold : FS := fun ds M d M' => ∃ (s : Sk) (l : List (Int × Int)) (i m : Int), ds = [s.d, .lst (l.map pairD), .int i, .int m] ∧ (∀ p ∈ l, s.In p.1) ∧ l.length ≤ 7 ∧ s.In i ∧ d = .bl (s.mayHold l i m) ∧ M' = M
theorem sc_may_hold : FnScope ["sky", "landed", "number", "minute", "ring"] ["sky", "landed", "number", "minute"] (defScope (top 39)) := ⟨rfl, rfl, rfl, by decide +kernel, rfl, by decide +kernel, by decide +kernel⟩
theorem ok_may_hold (T : Tx K mg) (hF : Has K mg "may_hold" (top 39)) (c_ring_needed : Can P w K mg base 1 "ring_needed" ["sky", "landed", "number", "minute"] F_ring_needed) : Can P w K mg base 2 "may_hold" ["sky", "landed", "number", "minute"] F_may_hold := by
  refine can_of hF sc_may_hold (fun ds M d M' h => by obtain ⟨_, _, _, _, rfl, _⟩ := h; rfl) (fun _ _ _ _ _ _ us hl => match us, hl with | [_, _, _, _], _ => rfl) fun f cdv A outer s H E C hr ds M d M' h => ?_
  obtain ⟨sk, l, i, m, rfl, hl, l7, hi, rfl, rfl⟩ := h
  refine r_set 4 C (ixT (ixT (ixT (nm 0) ev_int) (nm 2) (Sk.ix hi)) ev_int) ?_
  exact r_ret (ev_or (e_eq (nm 4) ev_int) fun h => (ev_one (e_le (e_call c_ring_needed (hr.mono (by decide)) (aC (nm 0) (aC (nm 1) (aC (nm 2) (a1 (nm 3))))) ⟨sk, l, i, m, rfl, hl, l7, hi, rfl, rfl⟩) (nm 4)))) ⟨rfl, SubM.refl _⟩

def F_soonest_in : FS := fun ds M d M' => ∃ (s : Sk) (o : List Int), ds = [s.d, D.ti o] ∧ s.Ok ∧ (∀ i ∈ o, s.In i) ∧ o.length ≤ 7 ∧ d = wayD (s.fixAt 0 s.ahead [] o) ∧ M' = M
theorem sc_soonest_in : FnScope ["sky", "order", "joins", "ahead", "landed", "place", "number", "minute"] ["sky", "order"] (defScope (top 40)) := ⟨rfl, rfl, rfl, by decide +kernel, rfl, by decide +kernel, by decide +kernel⟩
theorem ok_soonest_in (T : Tx K mg) (hF : Has K mg "soonest_in" (top 40)) (c_late_joins : Can P w K mg base 1 "late_joins" ["sky"] F_late_joins) (c_landed_at : Can P w K mg base 4 "landed_at" ["sky", "joins", "ahead", "number", "place"] F_landed_at) (c_may_hold : Can P w K mg base 2 "may_hold" ["sky", "landed", "number", "minute"] F_may_hold) : Can P w K mg base 5 "soonest_in" ["sky", "order"] F_soonest_in := by
  refine can_of hF sc_soonest_in (fun ds M d M' h => by obtain ⟨_, _, rfl, _⟩ := h; rfl) (fun _ _ _ _ _ _ us hl => match us, hl with | [_, _], _ => rfl) fun f cdv A outer s H E C hr ds M d M' h => ?_
  obtain ⟨sk, o, rfl, ok, ho, o7, rfl, rfl⟩ := h
  refine r_set 2 C (e_call c_late_joins (hr.mono (by decide)) (a1 (nm 0)) ⟨sk, rfl, ok.len, rfl, rfl⟩) ?_
  refine r_set 3 C (ixT (nm 0) ev_int) ?_
  refine run_cons (s_newl 4 C rfl (.inl rfl) ea_nil (by decide) fun lA hlA => ?_)
  refine r_for (ds := enumD (o.map D.int)) C (it_enum T.enumerate (nm 1)) (fun k δ' M1 => ∃ a l, M1 = updM M' lA (.ml (l.map pairD)) ∧ sk.fixAt 0 sk.ahead [] o = sk.fixAt k a l (o.drop k) ∧ sk.AhK a ∧ (∀ p ∈ l, sk.In p.1) ∧ l.length = k ∧ ∃ x y z, δ' = [some sk.d, some (D.ti o), some (D.li sk.joins), some (aheadD a), some (.adr lA), x, y, z])
    ⟨sk.ahead, [], rfl, rfl, fun p hp => ⟨(ok.ahead p hp).1, (ok.ahead p hp).2.1⟩, fun _ h => (nomatch h), rfl, _, _, _, rfl⟩ (fun k d δ' M1 hd ⟨a, l, hM, h1, h2, h3, h4, x, y, z, hδ⟩ => ?_) (fun δ' M1 ⟨a, l, hM, h1, h2, h3, h4, x, y, z, hδ⟩ => ?_)
  · subst hM; subst hδ
    have hk0 := lt_at hd
    rw [enumD_len, List.length_map] at hk0
    have hk1 := at_lt hk0 0
    have hk2 : (enumD (o.map D.int))[k]? = some (.tup [.int (k : Nat), .int (o.getD k 0)]) := enumD_at (by rw [List.getElem?_map, hk1]; rfl)
    rw [hk2] at hd
    cases hd
    generalize o.getD k 0 = i at *
    have hi := ho i (List.mem_of_getElem? hk1)
    have e1 : o.drop k = i :: o.drop (k + 1) := by
      rw [List.drop_eq_getElem_cons hk0]
      congr 1
      exact Option.some.inj (by rw [← List.getElem?_eq_getElem hk0, hk1])
    rw [e1] at h1
    refine ⟨_, _, tg_tup C (tgs_cons (tn 5 C) (tgs_cons (tn 6 C) tgs_nil)), ?_⟩
    refine r_set 7 C (e_call c_landed_at (hr.mono (by decide)) (aC (nm 0) (aC (nm 2) (aC (nm 3) (aC (nm 6) (a1 (nm 5)))))) ⟨sk, a, i, k, rfl, ok, hi, h2, by omega, rfl, rfl⟩) ?_
    rw [Sk.fixAt_cons] at h1
    cases hm : sk.landed a i (k : Nat) with
    | none =>
      rw [hm] at h1
      refine r_if (et_w (ew_or (k' := true) (t_isN (nm 7)) (fun h => ?_) (fun _ => rfl))) (fun h => ?_) (fun h => ?_)
      · exact nomatch (show true = false from h)
      rotate_left
      · exact nomatch (show true = false from h)
      exact r_ret (ev_tup (aC ev_str (a1 (nm 5))) (Nat.le_of_ble_eq_true rfl)) ⟨by rw [h1]; rfl, SubM.new hlA⟩
    | some m =>
      rw [hm] at h1
      dsimp only at h1
      refine r_if (et_w (ew_or (t_isN (nm 7)) (fun h => (ew_or1 (et_borrow 4 (l := lA) (ds := l.map pairD) rfl updM_same (et_not (et_val (e_call c_may_hold (hr.mono (by decide)) (aC (nm 0) (aC (nm 4) (aC (nm 6) (a1 (nm 7))))) ⟨sk, l, i, m, rfl, h3, by omega, hi, rfl, rfl⟩)))))) (fun _ => rfl))) (fun h => ?_) (fun h => ?_)
      · have h' : sk.mayHold l i m = false := by
          have h0 : (!sk.mayHold l i m) = true := h
          rw [Bool.not_eq_true'] at h0
          exact h0
        rw [h', if_neg (by decide)] at h1
        exact r_ret (ev_tup (aC ev_str (a1 (nm 5))) (Nat.le_of_ble_eq_true rfl)) ⟨by rw [h1]; rfl, SubM.new hlA⟩
      · have h' : sk.mayHold l i m = true := by
          have h0 : (!sk.mayHold l i m) = false := h
          rw [Bool.not_eq_false'] at h0
          exact h0
        rw [h', if_pos rfl] at h1
        refine run_nil (run_cons (s_app (nm 4) updM_same (ev_tup (aC (nm 6) (a1 (nm 7))) (Nat.le_of_ble_eq_true rfl)) updM_same (by rw [List.length_map]; omega) ?_))
        refine r_set 3 C (ev_tup (aC (ixT (ixT (ixT (nm 0) ev_int) (nm 6) (Sk.ix hi)) ev_int) (a1 (nm 7))) (Nat.le_of_ble_eq_true rfl)) (run_nil ?_)
        refine ⟨some ((sk.gl i).kind, m), l ++ [(i, m)], ?_, h1, fun p hp => ?_, fun p hp => ?_, by rw [List.length_append, h4]; rfl, _, _, _, rfl⟩
        · rw [updM_updM, List.map_append]
          rfl
        · cases hp
          exact ⟨(ok.glk hi).k0, (ok.glk hi).k1⟩
        · rcases List.mem_append.mp hp with hp | hp
          · exact h3 p hp
          · rcases List.mem_cons.mp hp with rfl | hp
            · exact hi
            · exact nomatch hp
  · subst hM; subst hδ
    rw [enumD_len, List.length_map, List.drop_length] at h1
    exact r_ret (ev_tup (aC ev_str (a1 (ev_freeze (nm 4) updM_same))) (show 2 ≤ 1000 by decide)) ⟨by rw [h1]; rfl, SubM.fr hlA⟩
end
end Dr
set_option Elab.async false
set_option linter.all false
set_option maxRecDepth 100000
set_option maxHeartbeats 2000000
/-! the walks of the best: the least end of what is left -/
namespace Dr
open PySem L2
/-! ### equal tuples of whole numbers -/
theorem pys_ints : ∀ ns : List Int, D.pys (ns.map D.int) = ns.map PyData.int
  | [] => rfl
  | n :: r => by rw [List.map_cons, D.pys, pys_ints r]; rfl
theorem oks_ints : ∀ ns : List Int, D.oks (ns.map D.int) = true
  | [] => rfl
  | n :: r => by rw [List.map_cons, D.oks, oks_ints r]; rfl
theorem lay_ints : ∀ ns : List Int, PyData.canLayAll0 (ns.map PyData.int) = true
  | [] => rfl
  | n :: r => by simp [PyData.canLayAll0, PyData.canLay0, lay_ints r]
theorem dep_ints : ∀ ns : List Int, PyData.depthAll (ns.map PyData.int) = 0
  | [] => rfl
  | n :: r => by simp [PyData.depthAll, PyData.depth, dep_ints r]
theorem eqv_ints : ∀ ns ms : List Int, PyData.eqvAll (ns.map PyData.int) (ms.map PyData.int) = decide (ns = ms)
  | [], [] => by simp [PyData.eqvAll]
  | [], _ :: _ => by simp [PyData.eqvAll]
  | _ :: _, [] => by simp [PyData.eqvAll]
  | a :: r, b :: t => by
    simp only [List.map_cons, PyData.eqvAll, PyData.eqv, eqv_ints r t]
    by_cases h : a = b <;> by_cases h' : r = t <;> simp [h, h']
theorem ti_ok (ns : List Int) : (D.ti ns).ok = true := by rw [D.ok, oks_ints]
theorem ti_py (ns : List Int) : (D.ti ns).py = .tuple (ns.map PyData.int) := by rw [D.py, pys_ints]
theorem ti_sh (ns : List Int) : SeqAt.shaped (D.ti ns).py = true := by
  rw [ti_py]
  simp [SeqAt.shaped, PyData.canLay0, PyData.depth, lay_ints, dep_ints]
theorem ti_eqv (ns ms : List Int) : PyData.eqv (D.ti ns).py (D.ti ms).py = decide (ns = ms) := by
  rw [ti_py, ti_py, PyData.eqv, eqv_ints]
section
variable {X : Cx} {δ : En} {M M1 M2 : Mp} {pos p : Pos} {a b : Expr} {x y d : D}
theorem t_eqT {ns ms : List Int} (C : Cok X) (ha : Ev X a δ M (D.ti ns) M1) (hb : Ev X b δ M1 (D.ti ms) M2) : EvT X (.Compare a [.Eq] [b] pos) δ M (decide (ns = ms)) M2 :=
  t_to (et_cmp (op_eqD (by have := C.hu; omega)) (rd_eqD (ti_ok ns) (ti_ok ms) (ti_sh ns) (ti_sh ms)) ha hb (nomark _)) (ti_eqv ns ms)
theorem t_neT {ns ms : List Int} (C : Cok X) (ha : Ev X a δ M (D.ti ns) M1) (hb : Ev X b δ M1 (D.ti ms) M2) : EvT X (.Compare a [.NotEq] [b] pos) δ M (!decide (ns = ms)) M2 :=
  t_to (et_cmp (op_neD (by have := C.hu; omega)) (rd_neD (ti_ok ns) (ti_ok ms) (ti_sh ns) (ti_sh ms)) ha hb (nomark _)) (by rw [ti_eqv])
theorem t_eqS {i j : Str} (ha : Ev X a δ M (.str i) M1) (hb : Ev X b δ M1 (.str j) M2) : EvT X (.Compare a [.Eq] [b] pos) δ M (i == j) M2 := et_cmp op_eq rd_eqS ha hb (nomark _)
end

/-! ### callees that change a dict: what is asked and told goes by an index -/
section
variable (P : Program) (w : World) (K : PySem.W.Frag) (mg : Str → Option Value) (base : Heap) {α : Type}
def spY (Pre : α → List D → Mp → Prop) (F : α → Mp → D → Mp → Prop) : Sp := fun vs H Q _ => ∃ G M ds x, Pre x ds M ∧ SR P w K G M H ∧ Dts K G vs ds ∧ ∀ d M' v G' H', F x M d M' → Xt P w K G M H G' M' H' → Dt K G' v d → Q v H'
structure CalleeY (k : Nat) (nm : Str) (ps : List Str) (Pre : α → List D → Mp → Prop) (F : α → Mp → D → Mp → Prop) (f : Addr) (fd : FuncData) : Prop where
  ok : FnOk P w K mg base CX0 k f fd ps (spY P w K Pre F)
  bi : Binds K fd ps []
  kp : PySem.W.keepIn K (.ref f) = true
  gl : mg nm = some (.ref f)
abbrev CanY (k : Nat) (nm : Str) (ps : List Str) (Pre : α → List D → Mp → Prop) (F : α → Mp → D → Mp → Prop) : Prop := ∃ f fd, CalleeY P w K mg base k nm ps Pre F f fd
end
section
variable {X : Cx} {δ : En} {M M1 : Mp} {pos : Pos} {e : Expr} {es : List Expr} {α : Type}
theorem e_callY {Pre : α → List D → Mp → Prop} {F : α → Mp → D → Mp → Prop} {k : Nat} {nm : Str} {ps : List Str} {p : Pos} {ds : List D} (x : α) (C : CanY X.prog X.w X.K X.mg X.base k nm ps Pre F) (hr : Room k X.A) (ha : EvA X (e :: es) δ M ds M1) (hP : Pre x ds M1) (hg : Gl X nm := by rfl)
    (hdb : (nm == ("__debug__" : Str)) = false := by decide) (he : starEach (e :: es) X.env = (false, eval e X.env) :: starEach es X.env := by rfl) (hpl : (backTo pos (starEach es X.env)).any (·.1) = false := by rfl) :
    EvX X (.Call (.Name nm p) (e :: es) [] pos) δ M (F x M1) := fun σ G H s E => by
  obtain ⟨f, fd, C⟩ := C
  refine we_of (pe_call C.ok hr hg C.gl C.kp C.bi .nil pass0 wa_pa hdb he hpl) ((ha σ G H s E).mono fun vs H1 ⟨G1, x1, d1⟩ => ?_)
  rw [List.append_nil]
  exact ⟨G1, M1, ds, x, hP, x1.s, d1, fun d M' v G' H' hF x3 d3 => ⟨d, M', G', hF, x1.trans x3, d3⟩⟩
end
section
variable {P : Program} {w : World} {K : PySem.W.Frag} {mg : Str → Option Value} {base : Heap} {α : Type}
theorem canY_of {Pre : α → List D → Mp → Prop} {F : α → Mp → D → Mp → Prop} {k : Nat} {nm : Str} {st : Stmt} {N ps : List Str} (hF : Has K mg nm st) (S : FnScope N ps (defScope st)) (len : ∀ x ds M, Pre x ds M → ds.length = ps.length)
    (bi : ∀ (kV doc pm : Value) (an : Option Addr) (cdv ct : Value) (us : List Value), us.length = ps.length → bindArgs (PySem.W.fnOf nm nm (defArgs st) (defBody st) (defScope st) .none kV doc pm an cdv ct) ⟨us, []⟩ = pure (ps.zip us))
    (run : ∀ (f : Addr) (cdv : Value) (A : Around) (outer : List Env) (s : Shared) (H : Hp) (E : XK), Cok (Bx P w K mg base N nm st f cdv A outer s H E) → Room k (Bx P w K mg base N nm st f cdv A outer s H E).A →
      ∀ x ds M, Pre x ds M → Run (Bx P w K mg base N nm st f cdv A outer s H E) (defBody st) (startD N ds) M { nx := fun _ _ => False, rt := fun d' M'' => ∃ M', F x M d' M' ∧ SubM M' M'' }) : CanY P w K mg base (k + 1) nm ps Pre F := by
  obtain ⟨f, fd, FD, hmg⟩ := hF
  refine ⟨f, fd, ?_, FD.bindsN bi, FD.kp, hmg⟩
  refine FD.ok S (fun vs H Q E h => ?_) (fun cdv A outer s H vs Q E hr h => ?_)
  · obtain ⟨G, M, ds, x, hF, hs, hd, _⟩ := h
    rw [hd.length]
    exact len _ _ _ hF
  · obtain ⟨G, M, ds, x, hF, hs, hd, q⟩ := h
    have C : Cok (Bx P w K mg base N nm st f cdv A outer s H E) := ⟨rfl, S.nd, rfl, by
      have := hr.un
      show (A.deeper (PyProof.Rows.envOfC nm (defScope st) s.heap.objs.size f cdv)).units + 200 < cLine
      omega⟩
    refine ⟨_, PSs.nox wss_pss, ?_⟩
    refine (run f cdv A outer s H E C hr x ds M hF (L2.start N vs) G H hs (envD_start hd)).mono ⟨fun σ' H' h => ?_, fun v H' h => ?_, fun σ' H' h => ?_, fun σ' H' h => ?_⟩
    · obtain ⟨_, _, _, h, _⟩ := h
      exact h.elim
    · obtain ⟨d', M2, G', ⟨M', e, sb⟩, x, dd⟩ := h
      exact q d' M' v G' H' e (x.sub sb) dd
    · obtain ⟨_, _, _, h, _⟩ := h
      exact h
    · obtain ⟨_, _, _, h, _⟩ := h
      exact h
end

/-! ### the least ends -/
def lfW : Option (Int × Int) → Int
  | none => 0
  | some p => p.2
def Sk.lf (s : Sk) : Nat → Option (Int × Int) → List Int → Option Int
  | 0, a, _ => some (lfW a)
  | m + 1, a, left => minI (left.filterMap fun i => match s.landed a i ((s.gs.length : Int) - (m + 1 : Nat)) with
    | none => none
    | some t => s.lf m (some ((s.gl i).kind, t)) (left.filter fun j => !decide (j = i)))
def Sk.lb (s : Sk) (m : Nat) (a : Option (Int × Int)) (left : List Int) (i : Int) : Option (Int × (Int × Int)) := match s.landed a i ((s.gs.length : Int) - (m + 1 : Nat)) with
  | none => none
  | some t => match s.lf m (some ((s.gl i).kind, t)) (left.filter fun j => !decide (j = i)) with
    | none => none
    | some v => some (v, ((s.gl i).kind, t))
theorem Sk.lf_succ (s : Sk) (m : Nat) (a : Option (Int × Int)) (left : List Int) : s.lf (m + 1) a left = minI (left.filterMap fun i => (s.lb m a left i).map Prod.fst) := by
  rw [Sk.lf]
  refine congrArg (fun f => minI (left.filterMap f)) (funext fun i => ?_)
  unfold Sk.lb
  cases s.landed a i ((s.gs.length : Int) - (m + 1 : Nat)) with
  | none => rfl
  | some t =>
    dsimp only
    cases s.lf m (some ((s.gl i).kind, t)) (left.filter fun j => !decide (j = i)) <;> rfl
def foundD : Option (Int × (Int × Int)) → D
  | none => .non
  | some (v, p) => .tup [.int v, pairD p]
def keyD (a : Option (Int × Int)) (left : List Int) : D := .tup [aheadD a, D.ti left]
theorem keys_inj : ∀ {ns ms : List Int}, D.keys (ns.map D.int) = D.keys (ms.map D.int) → ns = ms
  | [], [], _ => rfl
  | [], _ :: _, h => by simp [D.keys] at h
  | _ :: _, [], h => by simp [D.keys] at h
  | a :: r, b :: t, h => by
    simp only [List.map_cons, D.keys, D.key, List.cons.injEq, NestedKey.num.injEq] at h
    rw [h.1, keys_inj h.2]
theorem key_inj {a a' : Option (Int × Int)} {l l' : List Int} (h : (keyD a l).key = (keyD a' l').key) : a = a' ∧ l = l' := by
  simp only [keyD, D.key, D.keys, NestedKey.tup.injEq, List.cons.injEq, and_true] at h
  obtain ⟨h1, h2⟩ := h
  refine ⟨?_, keys_inj h2⟩
  cases a with
  | none =>
    cases a' with
    | none => rfl
    | some p => simp [aheadD, pairD, D.key] at h1
  | some p =>
    cases a' with
    | none => simp [aheadD, pairD, D.key] at h1
    | some q =>
      simp only [aheadD, pairD, D.key, D.keys, NestedKey.tup.injEq, List.cons.injEq, NestedKey.num.injEq, and_true] at h1
      rw [show p = q from Prod.ext h1.1 h1.2]
theorem dk_ints : ∀ ns : List Int, NestedKey.depthAll (D.keys (ns.map D.int)) = 0
  | [] => rfl
  | n :: r => by rw [List.map_cons, D.keys, NestedKey.depthAll, dk_ints r]; rfl
theorem keyD_dep (a : Option (Int × Int)) (l : List Int) : (keyD a l).key.depth ≤ 8 := by
  cases a <;> simp [keyD, aheadD, pairD, D.key, D.keys, NestedKey.depth, NestedKey.depthAll, dk_ints]
theorem fix_ints : ∀ ns : List Int, D.fixs (ns.map D.int) = true
  | [] => rfl
  | n :: r => by rw [List.map_cons, D.fixs, fix_ints r]; rfl
theorem keyD_fix (a : Option (Int × Int)) (l : List Int) : (keyD a l).fix = true := by
  cases a <;> simp [keyD, aheadD, pairD, D.fix, D.fixs, fix_ints]
abbrev Kv := List (NestedKey × D)
def Good (s : Sk) (kvs : Kv) : Prop := ∀ k d, (k, d) ∈ kvs → ∃ a left, k = (keyD a left).key ∧ d = optD (s.lf left.length a left)
theorem Good.look {s : Sk} {kvs : Kv} (h : Good s kvs) {a : Option (Int × Int)} {left : List Int} {d : D} (e : lookD kvs (keyD a left).key = some d) : d = optD (s.lf left.length a left) := by
  obtain ⟨a', l', h1, h2⟩ := h _ _ (look_mem e)
  obtain ⟨rfl, rfl⟩ := key_inj h1
  exact h2
theorem Good.put {s : Sk} {kvs : Kv} (h : Good s kvs) (a : Option (Int × Int)) (left : List Int) : Good s (putD kvs (keyD a left).key (optD (s.lf left.length a left))) := fun k d e => by
  rcases put_mem e with e | e
  · exact h k d e
  · cases e
    exact ⟨a, left, rfl, rfl⟩
theorem Good.nil (s : Sk) : Good s [] := fun _ _ h => nomatch h
def cap : Nat → Nat
  | 0 => 0
  | m + 1 => 1 + (m + 1) * cap m
/-- what is asked of least_from -/
structure LI where
  s : Sk
  a : Option (Int × Int)
  left : List Int
  kd : Addr
  kvs : Kv
structure LI.Ok (x : LI) (m : Nat) : Prop where
  s : x.s.Ok
  a : x.s.AhK x.a
  nd : x.left.Nodup
  inn : ∀ i ∈ x.left, x.s.In i
  len : x.left.length = m
  a0 : m = 0 → x.a ≠ none
  good : Good x.s x.kvs
theorem LI.Ok.le {x : LI} {m : Nat} (h : x.Ok m) : m ≤ x.s.gs.length := by
  rw [← h.len]
  exact nodup_le h.nd h.inn
def PreF (m : Nat) (x : LI) (ds : List D) (M : Mp) : Prop := ds = [x.s.d, D.li x.s.joins, aheadD x.a, D.ti x.left, .str "last", .adr x.kd] ∧ x.Ok m ∧ M x.kd = some (.md x.kvs) ∧ x.kvs.length + cap m ≤ 1000000
def PostF (m : Nat) (x : LI) (M : Mp) (d : D) (M' : Mp) : Prop := ∃ kvs', Good x.s kvs' ∧ kvs'.length ≤ x.kvs.length + cap m ∧ M' = updM M x.kd (.md kvs') ∧ d = optD (x.s.lf m x.a x.left)
def PreB (m : Nat) (x : LI × Int) (ds : List D) (M : Mp) : Prop := ds = [x.1.s.d, D.li x.1.s.joins, aheadD x.1.a, D.ti x.1.left, .int x.2, .str "last", .adr x.1.kd] ∧ x.1.Ok (m + 1) ∧ x.2 ∈ x.1.left ∧ M x.1.kd = some (.md x.1.kvs) ∧ x.1.kvs.length + cap m ≤ 1000000
def PostB (m : Nat) (x : LI × Int) (M : Mp) (d : D) (M' : Mp) : Prop := ∃ kvs', Good x.1.s kvs' ∧ kvs'.length ≤ x.1.kvs.length + cap m ∧ M' = updM M x.1.kd (.md kvs') ∧ d = foundD (x.1.s.lb m x.1.a x.1.left x.2)
theorem updM_id {M : Mp} {a : Addr} {m : Mob} (h : M a = some m) : updM M a m = M := by
  funext b
  unfold updM
  split
  · rename_i e; rw [e, h]
  · rfl
theorem updM_swap {M : Mp} {a b : Addr} {m m' : Mob} (h : a ≠ b) : updM (updM M a m) b m' = updM (updM M b m') a m := by
  funext c
  unfold updM
  by_cases h1 : c = b
  · rw [if_pos h1, if_neg (by rw [h1]; exact fun e => h e.symm), if_pos h1]
  · rw [if_neg h1, if_neg h1]
theorem without_len {l : List Int} {i : Int} (nd : l.Nodup) (h : i ∈ l) : (l.filter fun j => !decide (j = i)).length + 1 = l.length := by
  induction l with
  | nil => exact nomatch h
  | cons x r ih =>
    have hx := (List.nodup_cons.mp nd).1
    have hr := (List.nodup_cons.mp nd).2
    by_cases e : x = i
    · subst e
      have : (r.filter fun j => !decide (j = x)) = r := List.filter_eq_self.mpr fun j hj => by
        have : j ≠ x := fun e => hx (e ▸ hj)
        simp [this]
      rw [List.filter_cons_of_neg (by simp), this, List.length_cons]
    · have hi : i ∈ r := by
        rcases List.mem_cons.mp h with h | h
        · exact absurd h.symm e
        · exact h
      rw [List.filter_cons_of_pos (by simp [e]), List.length_cons, List.length_cons, ih hr hi]
section
variable {P : Program} {w : World} {K : PySem.W.Frag} {mg : Str → Option Value} {base : Heap}
def F_left_without : FS := fun ds M d M' => ∃ (l : List Int) (i : Int), ds = [D.ti l, .int i] ∧ l.length ≤ 1000 ∧ d = D.ti (l.filter fun j => !decide (j = i)) ∧ M' = M
theorem sc_left_without : FnScope ["left", "number", "one"] ["left", "number"] (defScope (top 42)) := ⟨rfl, rfl, rfl, by decide +kernel, rfl, by decide +kernel, by decide +kernel⟩
theorem ok_left_without (T : Tx K mg) (hF : Has K mg "left_without" (top 42)) : Can P w K mg base 1 "left_without" ["left", "number"] F_left_without := by
  refine can_of hF sc_left_without (fun ds M d M' h => by obtain ⟨_, _, rfl, _⟩ := h; rfl) (fun _ _ _ _ _ _ us hl => match us, hl with | [_, _], _ => rfl) fun f cdv A outer s H E C hr ds M d M' h => ?_
  obtain ⟨l, i, rfl, hl, rfl, rfl⟩ := h
  exact r_ret (e_tupL T.tuple (ev_lcx (own := [("one", 2)]) l D.int (fun j => !decide (j = i)) D.int C (blkOk_by (by rfl)) (it_tup (nm 0)) (by omega) (fun d hd => ⟨[2], _, by simp, fun s1 H1 C1 cl1 fp1 => ⟨(tn 2 C.bk), (ts_one (t_ne (nm 2) (nm 1))), fun _ => (nm 2)⟩⟩))) ⟨rfl, SubM.refl _⟩
end
end Dr
set_option Elab.async false
set_option linter.all false
set_option maxRecDepth 100000
set_option maxHeartbeats 2000000
/-! the walks of the best: least_from and least_by -/
namespace Dr
open PySem L2
section
variable {P : Program} {w : World} {K : PySem.W.Frag} {mg : Str → Option Value} {base : Heap}
theorem sc_least_from : FnScope ["sky", "joins", "ahead", "left", "aim", "known", "key", "some", "number", "found"] ["sky", "joins", "ahead", "left", "aim", "known"] (defScope (top 43)) := ⟨rfl, rfl, rfl, by decide +kernel, rfl, by decide +kernel, by decide +kernel⟩
theorem ok_least_from0 (T : Tx K mg) (hF : Has K mg "least_from" (top 43)) (k : Nat) : CanY P w K mg base (k + 1) "least_from" ["sky", "joins", "ahead", "left", "aim", "known"] (PreF 0) (PostF 0) := by
  refine canY_of hF sc_least_from (fun x ds M h => by obtain ⟨rfl, _⟩ := h; rfl) (fun _ _ _ _ _ _ us hl => match us, hl with | [_, _, _, _, _, _], _ => rfl) fun f cdv A outer s H E C hr x ds M h => ?_
  obtain ⟨sk, a, left, kd, kvs⟩ := x
  obtain ⟨rfl, ok, hM, hz⟩ := h
  have e0 : left = [] := List.length_eq_zero_iff.mp ok.len
  subst e0
  cases a with
  | none => exact absurd rfl (ok.a0 rfl)
  | some p =>
    refine r_if (t_eqT C (ms := []) (nm 3) (ev_tup ea_nil (Nat.le_of_ble_eq_true rfl))) (fun h => ?_) (fun h => ?_)
    · refine r_ret (d := .int p.2) (ev_if (t_eqS (nm 4) ev_str) (fun h => (ixT (nm 2) ev_int)) (fun h => ?_)) ⟨M, ⟨kvs, ok.good, Nat.le_add_right _ _, (updM_id hM).symm, rfl⟩, SubM.refl _⟩
      exact absurd h (by decide)
    · exact nomatch (show true = false from h)
theorem ok_least_from (T : Tx K mg) (hF : Has K mg "least_from" (top 43)) {m k : Nat} (c_least_by : CanY P w K mg base k "least_by" ["sky", "joins", "ahead", "left", "number", "aim", "known"] (PreB m) (PostB m)) : CanY P w K mg base (k + 1) "least_from" ["sky", "joins", "ahead", "left", "aim", "known"] (PreF (m + 1)) (PostF (m + 1)) := by
  refine canY_of hF sc_least_from (fun x ds M h => by obtain ⟨rfl, _⟩ := h; rfl) (fun _ _ _ _ _ _ us hl => match us, hl with | [_, _, _, _, _, _], _ => rfl) fun f cdv A outer s H E C hr x ds M h => ?_
  obtain ⟨sk, a, left, kd, kvs⟩ := x
  obtain ⟨rfl, ok, hM, hz⟩ := h
  dsimp only at hM hz ⊢
  have hlen : left.length = m + 1 := ok.len
  have hn : left.length ≤ 7 := by
    have h1 := ok.le
    have h2 := ok.s.len
    dsimp only at h1 h2
    omega
  have hne : left ≠ [] := fun e => by rw [e] at hlen; exact nomatch hlen
  refine r_no' (t_eqT C (ms := []) (nm 3) (ev_tup ea_nil (Nat.le_of_ble_eq_true rfl))) (decide_eq_false hne) ?_
  refine r_set (d := keyD a left) 6 C (ev_tup (aC (nm 2) (a1 (nm 3))) (Nat.le_of_ble_eq_true rfl)) ?_
  have hkf := keyD_fix a left
  have hkd := keyD_dep a left
  cases hl : lookD kvs (keyD a left).key with
  | some d =>
    have hd : d = optD (sk.lf left.length a left) := ok.good.look hl
    refine r_no' (t_ninD C (nm 6) (nm 5) hM hkf ⟨_, rfl⟩ hkd) (by rw [hl]; rfl) ?_
    exact r_ret (e_getD C (nm 5) (nm 6) hM hkf ⟨_, rfl⟩ hkd hl) ⟨M, ⟨kvs, ok.good, Nat.le_add_right _ _, (updM_id hM).symm, by rw [hd, hlen]⟩, SubM.refl _⟩
  | none =>
    refine r_if (t_ninD C (nm 6) (nm 5) hM hkf ⟨_, rfl⟩ hkd) (fun h => ?_) (fun h => ?_)
    rotate_left
    · rw [hl] at h
      exact nomatch (show true = false from h)
    · refine run_cons (s_newl 7 C rfl (.inl rfl) ea_nil (by decide) fun sA hsA => ?_)
      have ne : sA ≠ kd := fun e => by rw [e, hM] at hsA; cases hsA
      have ne' : kd ≠ sA := fun e => ne e.symm
      refine r_for (ds := left.map D.int) C (it_tup (nm 3)) (fun k δ' M1 => ∃ kvs', M1 = updM (updM M sA (.ml (((left.take k).filterMap fun i => (sk.lb m a left i).map Prod.fst).map D.int))) kd (.md kvs') ∧ Good sk kvs' ∧ kvs'.length ≤ kvs.length + k * cap m ∧
          ∃ y z, δ' = [some sk.d, some (D.li sk.joins), some (aheadD a), some (D.ti left), some (.str "last"), some (.adr kd), some (keyD a left), some (.adr sA), y, z])
        ⟨kvs, (updM_id (by rw [updM_ne ne']; exact hM)).symm, ok.good, by omega, _, _, rfl⟩ (fun j d δ' M1 hd ⟨kvs', hM1, hg, hlk, y, z, hδ⟩ => ?_) (fun δ' M1 ⟨kvs', hM1, hg, hlk, y, z, hδ⟩ => ?_)
      · subst hM1; subst hδ
        obtain ⟨i, hi, rfl⟩ := map_at hd
        have hj := lt_at hi
        have hcap : (j + 1) * cap m ≤ (m + 1) * cap m := Nat.mul_le_mul_right _ (by omega)
        have hsz : kvs.length + (1 + (m + 1) * cap m) ≤ 1000000 := hz
        rw [Nat.add_mul, Nat.one_mul] at hcap
        have e1 : (left.take (j + 1)).filterMap (fun i => (sk.lb m a left i).map Prod.fst) = (left.take j).filterMap (fun i => (sk.lb m a left i).map Prod.fst) ++ ((sk.lb m a left i).map Prod.fst).toList := by
          rw [List.take_add_one, hi, List.filterMap_append]
          congr 1
        refine ⟨_, _, tn 8 C, ?_⟩
        refine r_setX 9 C (e_callY (⟨sk, a, left, kd, kvs'⟩, i) c_least_by hr (aC (nm 0) (aC (nm 1) (aC (nm 2) (aC (nm 3) (aC (nm 8) (aC (nm 4) (a1 (nm 5)))))))) ⟨rfl, ⟨ok.s, ok.a, ok.nd, ok.inn, ok.len, ok.a0, hg⟩, List.mem_of_getElem? hi, updM_same, by show kvs'.length + cap m ≤ _; omega⟩) fun d M2 ⟨kvs2, hg2, hl2, hM2, hd2⟩ => ?_
        dsimp only at hg2 hl2 hM2 hd2
        rw [updM_updM] at hM2
        subst hM2
        cases hlb : sk.lb m a left i with
        | none =>
          rw [hlb] at hd2 e1
          subst hd2
          refine r_no' (t_notN (nm 9)) rfl (run_nil ⟨kvs2, ?_, hg2, ?_, _, _, rfl⟩)
          · rw [e1]
            simp
          · rw [Nat.add_mul, Nat.one_mul]; omega
        | some q =>
          obtain ⟨v, p⟩ := q
          rw [hlb] at hd2 e1
          subst hd2
          refine r_if (t_notN (nm 9)) (fun h => ?_) (fun h => ?_)
          · have hsA2 : updM (updM M sA (.ml (((left.take j).filterMap fun i => (sk.lb m a left i).map Prod.fst).map D.int))) kd (.md kvs2) sA = some (.ml (((left.take j).filterMap fun i => (sk.lb m a left i).map Prod.fst).map D.int)) := by rw [updM_ne ne, updM_same]
            refine run_cons (s_app (nm 7) hsA2 (ixT (nm 9) ev_int) hsA2 ?_ (run_nil (run_nil ⟨kvs2, ?_, hg2, ?_, _, _, rfl⟩)))
            · rw [List.length_map]
              have h1 := List.length_filterMap_le (fun i => (sk.lb m a left i).map Prod.fst) (left.take j)
              have h2 := List.length_take_le j left
              omega
            · rw [e1, updM_swap ne', updM_updM, List.map_append]
              rfl
            · rw [Nat.add_mul, Nat.one_mul]; omega
          · exact nomatch (show true = false from h)
      · subst hM1; subst hδ
        rw [List.length_map] at hlk
        rw [List.length_map, List.take_length]
        rw [hlen] at hlk
        have hsz : kvs.length + (1 + (m + 1) * cap m) ≤ 1000000 := hz
        have e2 : minI (left.filterMap fun i => (sk.lb m a left i).map Prod.fst) = sk.lf left.length a left := by rw [hlen, Sk.lf_succ]
        refine run_cons (s_setd C (e_minD C T.min (ev_freeze (nm 7) (by rw [updM_ne ne, updM_same]))) (nm 5) (nm 6) (by rw [eraM_ne ne', updM_same]) hkf ⟨_, rfl⟩ hkd (by omega) (run_nil ?_))
        refine r_ret (e_getD C (nm 5) (nm 6) updM_same hkf ⟨_, rfl⟩ hkd (look_put _ _ _)) ⟨updM M kd (.md (putD kvs' (keyD a left).key (optD (sk.lf left.length a left)))), ⟨_, hg.put a left, ?_, rfl, ?_⟩, ?_⟩
        · have h1 := put_len kvs' (keyD a left).key (optD (sk.lf left.length a left))
          show _ ≤ kvs.length + (1 + (m + 1) * cap m)
          omega
        · rw [e2, hlen]
        · rw [e2]
          intro b m' hb
          unfold updM eraM
          unfold updM at hb
          dsimp only at hb ⊢
          by_cases h1 : b = kd
          · rw [if_pos h1] at hb ⊢
            exact hb
          · rw [if_neg h1] at hb ⊢
            by_cases h2 : b = sA
            · rw [h2, hsA] at hb; cases hb
            · rw [if_neg h2, if_neg h1, if_neg h2]; exact hb

theorem sc_least_by : FnScope ["sky", "joins", "ahead", "left", "number", "aim", "known", "minute", "landing", "least"] ["sky", "joins", "ahead", "left", "number", "aim", "known"] (defScope (top 44)) := ⟨rfl, rfl, rfl, by decide +kernel, rfl, by decide +kernel, by decide +kernel⟩
theorem ok_least_by (T : Tx K mg) (hF : Has K mg "least_by" (top 44)) {m k : Nat} (hk : 5 ≤ k) (c_landed_at : Can P w K mg base 4 "landed_at" ["sky", "joins", "ahead", "number", "place"] F_landed_at) (c_left_without : Can P w K mg base 1 "left_without" ["left", "number"] F_left_without) (c_least_from : CanY P w K mg base k "least_from" ["sky", "joins", "ahead", "left", "aim", "known"] (PreF m) (PostF m)) : CanY P w K mg base (k + 1) "least_by" ["sky", "joins", "ahead", "left", "number", "aim", "known"] (PreB m) (PostB m) := by
  refine canY_of hF sc_least_by (fun x ds M h => by obtain ⟨rfl, _⟩ := h; rfl) (fun _ _ _ _ _ _ us hl => match us, hl with | [_, _, _, _, _, _, _], _ => rfl) fun f cdv A outer s H E C hr x ds M h => ?_
  obtain ⟨⟨sk, a, left, kd, kvs⟩, i⟩ := x
  obtain ⟨rfl, ok, hi, hM, hz⟩ := h
  dsimp only at hi hM hz ⊢
  have hlen : left.length = m + 1 := ok.len
  have hle : m + 1 ≤ sk.gs.length := ok.le
  have h7 := ok.s.len
  dsimp only at h7
  have hin : sk.In i := ok.inn i hi
  refine r_set 7 C (e_call c_landed_at (hr.mono (by omega)) (aC (nm 0) (aC (nm 1) (aC (nm 2) (aC (nm 4) (a1 (e_sub (e_lenX (xs := sk.gs) (enc := Gld.d) T.len (ixT (nm 0) ev_int)) (e_lenX (xs := left) (enc := D.int) T.len (nm 3)))))))) ⟨sk, a, i, (sk.gs.length : Int) - (m + 1 : Nat), by rw [hlen], ok.s, hin, ok.a, by omega, rfl, rfl⟩) ?_
  have hlb : sk.lb m a left i = match sk.landed a i ((sk.gs.length : Int) - (m + 1 : Nat)) with
    | none => none
    | some t => match sk.lf m (some ((sk.gl i).kind, t)) (left.filter fun j => !decide (j = i)) with
      | none => none
      | some v => some (v, ((sk.gl i).kind, t)) := rfl
  cases ht : sk.landed a i ((sk.gs.length : Int) - (m + 1 : Nat)) with
  | none =>
    rw [ht] at hlb
    refine r_if (t_isN (nm 7)) (fun h => ?_) (fun h => ?_)
    · exact r_ret ev_non ⟨M, ⟨kvs, ok.good, Nat.le_add_right _ _, (updM_id hM).symm, by dsimp only; rw [hlb]; rfl⟩, SubM.refl _⟩
    · exact nomatch (show true = false from h)
  | some t =>
    rw [ht] at hlb
    dsimp only at hlb
    refine r_no' (t_isN (nm 7)) rfl ?_
    refine r_set (d := aheadD (some ((sk.gl i).kind, t))) 8 C (ev_tup (aC (ixT (ixT (ixT (nm 0) ev_int) (nm 4) (Sk.ix hin)) ev_int) (a1 (nm 7))) (Nat.le_of_ble_eq_true rfl)) ?_
    have hwl := without_len ok.nd hi
    dsimp only at hwl
    refine r_setX 9 C (e_callY (⟨sk, some ((sk.gl i).kind, t), left.filter fun j => !decide (j = i), kd, kvs⟩ : LI) c_least_from hr (aC (nm 0) (aC (nm 1) (aC (nm 8) (aC (e_call c_left_without (hr.mono (by omega)) (aC (nm 3) (a1 (nm 4))) ⟨left, i, rfl, by omega, rfl, rfl⟩) (aC (nm 5) (a1 (nm 6))))))) ⟨rfl, ⟨ok.s, fun p hp => ?_, ok.nd.sublist List.filter_sublist, fun j hj => ok.inn j (List.mem_filter.mp hj).1, by show (left.filter fun j => !decide (j = i)).length = m; omega, fun _ h => (nomatch h), ok.good⟩, hM, hz⟩) fun d M2 ⟨kvs2, hg2, hl2, hM2, hd2⟩ => ?_
    · cases hp
      exact ⟨(ok.s.glk hin).k0, (ok.s.glk hin).k1⟩
    · dsimp only at hg2 hl2 hM2 hd2
      cases hv : sk.lf m (some ((sk.gl i).kind, t)) (left.filter fun j => !decide (j = i)) with
      | none =>
        rw [hv] at hlb hd2
        subst hd2
        refine r_if (t_isN (nm 9)) (fun h => ?_) (fun h => ?_)
        · exact r_ret ev_non ⟨M2, ⟨kvs2, hg2, hl2, hM2, by dsimp only; rw [hlb]; rfl⟩, SubM.refl _⟩
        · exact nomatch (show true = false from h)
      | some v =>
        rw [hv] at hlb hd2
        subst hd2
        refine r_no' (t_isN (nm 9)) rfl ?_
        refine r_no' (t_eqS (nm 5) ev_str) (by decide) ?_
        exact r_ret (ev_tup (aC (nm 9) (a1 (nm 8))) (Nat.le_of_ble_eq_true rfl)) ⟨M2, ⟨kvs2, hg2, hl2, hM2, by dsimp only; rw [hlb]; rfl⟩, SubM.refl _⟩
theorem ok_least_all (T : Tx K mg) (hF : Has K mg "least_from" (top 43)) (hB : Has K mg "least_by" (top 44)) (c_landed_at : Can P w K mg base 4 "landed_at" ["sky", "joins", "ahead", "number", "place"] F_landed_at) (c_left_without : Can P w K mg base 1 "left_without" ["left", "number"] F_left_without) :
    ∀ m, CanY P w K mg base (5 + 2 * m) "least_from" ["sky", "joins", "ahead", "left", "aim", "known"] (PreF m) (PostF m) ∧ CanY P w K mg base (5 + 2 * m + 1) "least_by" ["sky", "joins", "ahead", "left", "number", "aim", "known"] (PreB m) (PostB m)
  | 0 => ⟨ok_least_from0 T hF 4, ok_least_by T hB (by omega) c_landed_at c_left_without (ok_least_from0 T hF 4)⟩
  | m + 1 => by
    have h1 := ok_least_from T hF (ok_least_all T hF hB c_landed_at c_left_without m).2
    exact ⟨h1, ok_least_by T hB (by omega) c_landed_at c_left_without h1⟩
end
end Dr
set_option Elab.async false
set_option linter.all false
set_option maxRecDepth 100000
set_option maxHeartbeats 2000000
/-! the walks of the best: start_of and best_in -/
namespace Dr
open PySem L2
def Sk.endA (s : Sk) (l : List (Int × Int)) : Option (Int × Int) := l.foldl (fun _ p => some ((s.gl p.1).kind, p.2)) s.ahead
def Sk.costs (s : Sk) (l : List (Int × Int)) : Int := l.foldl (fun c p => c + (s.gl p.1).cost p.2) 0
def Sk.startD (s : Sk) : D := match s.fixAt 0 s.ahead [] s.fixed with
  | .error _ => .non
  | .ok l => .tup [aheadD (s.endA l), .int (s.costs l)]
def Sk.lands (s : Sk) : Bool := match s.fixAt 0 s.ahead [] s.fixed with
  | .error _ => false
  | .ok l => decide (s.gs.length = 0) || (s.lf s.free.length (s.endA l) s.free).isSome
theorem Sk.fixAt_in {s : Sk} : ∀ {o : List Int} {p : Nat} {a : Option (Int × Int)} {l l' : List (Int × Int)}, s.fixAt p a l o = .ok l' → (∀ q ∈ l, s.In q.1) → (∀ i ∈ o, s.In i) → (∀ q ∈ l', s.In q.1) ∧ l'.length = l.length + o.length
  | [], p, a, l, l', h, hl, ho => by
    cases h
    exact ⟨hl, rfl⟩
  | i :: r, p, a, l, l', h, hl, ho => by
    rw [Sk.fixAt_cons] at h
    cases hm : s.landed a i p with
    | none => rw [hm] at h; exact nomatch h
    | some m =>
      rw [hm] at h
      dsimp only at h
      split at h
      · obtain ⟨h1, h2⟩ := s.fixAt_in h (fun q hq => by
          rcases List.mem_append.mp hq with hq | hq
          · exact hl q hq
          · rcases List.mem_cons.mp hq with rfl | hq
            · exact ho i List.mem_cons_self
            · exact nomatch hq) fun j hj => ho j (List.mem_cons_of_mem _ hj)
        refine ⟨h1, ?_⟩
        rw [h2, List.length_append, List.length_cons]
        simp only [List.length_cons, List.length_nil]
        omega
      · exact nomatch h
theorem Sk.endA_cons {s : Sk} : ∀ {l : List (Int × Int)} {a : Option (Int × Int)}, l ≠ [] → ∃ q ∈ l, l.foldl (fun _ p => some ((s.gl p.1).kind, p.2)) a = some ((s.gl q.1).kind, q.2)
  | [], _, h => absurd rfl h
  | [q], a, _ => ⟨q, List.mem_cons_self, rfl⟩
  | q :: r :: t, a, _ => by
    obtain ⟨x, hx, e⟩ := Sk.endA_cons (s := s) (l := r :: t) (a := some ((s.gl q.1).kind, q.2)) (by simp)
    exact ⟨x, List.mem_cons_of_mem _ hx, e⟩
theorem Sk.Ok.endK {s : Sk} (ok : s.Ok) {l : List (Int × Int)} (hl : ∀ q ∈ l, s.In q.1) : s.AhK (s.endA l) := by
  intro p hp
  by_cases e : l = []
  · subst e
    exact ⟨(ok.ahead p hp).1, (ok.ahead p hp).2.1⟩
  · obtain ⟨q, hq, e2⟩ := Sk.endA_cons (s := s) (a := s.ahead) e
    have e3 : s.endA l = some ((s.gl q.1).kind, q.2) := e2
    rw [e3] at hp
    cases hp
    exact ⟨(ok.glk (hl q hq)).k0, (ok.glk (hl q hq)).k1⟩
theorem rgI_nodup (n : Nat) : (rgI n).Nodup := List.pairwise_map.mpr (List.nodup_range.imp fun {a b} h e => h (by omega))
theorem Sk.free_nd (s : Sk) : s.free.Nodup := (rgI_nodup _).sublist List.filter_sublist
theorem Sk.free_in {s : Sk} {i : Int} (h : i ∈ s.free) : s.In i ∧ i ∉ s.fixed := by
  unfold Sk.free at h
  rw [List.mem_filter, mem_rgI] at h
  exact ⟨h.1, by simpa using h.2⟩
theorem Sk.free_of {s : Sk} {i : Int} (h : s.In i) (h2 : i ∉ s.fixed) : i ∈ s.free := by
  unfold Sk.free
  rw [List.mem_filter, mem_rgI]
  exact ⟨h, by simpa using h2⟩
theorem Sk.lb_some {s : Sk} {m : Nat} {a : Option (Int × Int)} {left : List Int} {i v : Int} {p : Int × Int} (h : s.lb m a left i = some (v, p)) : p.1 = (s.gl i).kind ∧ s.lf m (some p) (left.filter fun j => !decide (j = i)) = some v := by
  unfold Sk.lb at h
  cases ht : s.landed a i ((s.gs.length : Int) - (m + 1 : Nat)) with
  | none => rw [ht] at h; exact nomatch h
  | some t =>
    rw [ht] at h
    dsimp only at h
    cases hv : s.lf m (some ((s.gl i).kind, t)) (left.filter fun j => !decide (j = i)) with
    | none => rw [hv] at h; exact nomatch h
    | some v' =>
      rw [hv] at h
      cases h
      exact ⟨rfl, hv⟩
theorem foldl_min_mem : ∀ (ns : List Int) (n : Int), ns.foldl min n ∈ n :: ns
  | [], n => List.mem_cons_self
  | m :: r, n => by
    have h := foldl_min_mem r (min n m)
    rw [List.foldl_cons]
    rcases List.mem_cons.mp h with h | h
    · rw [h]
      by_cases c : n ≤ m
      · rw [Int.min_eq_left c]; exact List.mem_cons_self
      · rw [Int.min_eq_right (by omega)]; exact List.mem_cons_of_mem _ List.mem_cons_self
    · exact List.mem_cons_of_mem _ (List.mem_cons_of_mem _ h)
theorem minI_mem {ns : List Int} {v : Int} (h : minI ns = some v) : v ∈ ns := by
  cases ns with
  | nil => exact nomatch h
  | cons n r =>
    cases h
    exact foldl_min_mem r n
theorem Sk.lf_wit {s : Sk} {m : Nat} {a : Option (Int × Int)} {left : List Int} {v : Int} (h : s.lf (m + 1) a left = some v) : ∃ i ∈ left, (s.lb m a left i).map Prod.fst = some v := by
  rw [Sk.lf_succ] at h
  obtain ⟨i, hi, e⟩ := List.mem_filterMap.mp (minI_mem h)
  exact ⟨i, hi, e⟩
def bud : Nat → Nat
  | 0 => 0
  | m + 1 => (m + 1) * cap m + cap m + bud m
theorem bud_ok : ∀ n, n < 8 → cap n + (cap n + bud n) ≤ 1000000 := by decide +kernel
section
variable {P : Program} {w : World} {K : PySem.W.Frag} {mg : Str → Option Value} {base : Heap}
def F_start_of : FS := fun ds M d M' => ∃ s : Sk, ds = [s.d] ∧ s.Ok ∧ d = s.startD ∧ M' = M
theorem sc_start_of : FnScope ["sky", "way", "ahead", "cost", "number", "minute"] ["sky"] (defScope (top 45)) := ⟨rfl, rfl, rfl, by decide +kernel, rfl, by decide +kernel, by decide +kernel⟩
theorem ok_start_of (T : Tx K mg) (hF : Has K mg "start_of" (top 45)) (c_soonest_in : Can P w K mg base 5 "soonest_in" ["sky", "order"] F_soonest_in) (c_own_cost : Can P w K mg base 1 "own_cost" ["sky", "number", "minute"] F_own_cost) : Can P w K mg base 6 "start_of" ["sky"] F_start_of := by
  refine can_of hF sc_start_of (fun ds M d M' h => by obtain ⟨_, rfl, _⟩ := h; rfl) (fun _ _ _ _ _ _ us hl => match us, hl with | [_], _ => rfl) fun f cdv A outer s H E C hr ds M d M' h => ?_
  obtain ⟨sk, rfl, ok, rfl, rfl⟩ := h
  have f7 : sk.fixed.length ≤ 7 := Nat.le_trans (nodup_le ok.nd ok.fx) ok.len
  refine r_set 1 C (e_call c_soonest_in (hr.mono (by decide)) (aC (nm 0) (a1 (ixT (nm 0) ev_int))) ⟨sk, sk.fixed, rfl, ok, ok.fx, f7, rfl, rfl⟩) ?_
  have hd : sk.startD = match sk.fixAt 0 sk.ahead [] sk.fixed with
    | .error _ => .non
    | .ok l => .tup [aheadD (sk.endA l), .int (sk.costs l)] := rfl
  cases hf : sk.fixAt 0 sk.ahead [] sk.fixed with
  | error p =>
    rw [hf] at hd
    refine r_if (t_eqS (ixT (nm 1) ev_int) ev_str) (fun h => ?_) (fun h => ?_)
    · exact r_ret ev_non ⟨hd.symm, SubM.refl _⟩
    · exact absurd h (by decide)
  | ok l =>
    rw [hf] at hd
    dsimp only at hd
    obtain ⟨hl, hll⟩ := sk.fixAt_in hf (fun _ h => nomatch h) ok.fx
    refine r_no' (t_eqS (ixT (nm 1) ev_int) ev_str) (by decide) ?_
    refine r_set 2 C (ixT (nm 0) ev_int) ?_
    refine r_set 3 C ev_int ?_
    refine r_for (ds := l.map pairD) C (it_list (ixT (nm 1) ev_int)) (fun k δ' M1 => M1 = M' ∧ ∃ x y, δ' = [some sk.d, some (wayD (.ok l)), some (aheadD (sk.endA (l.take k))), some (.int (sk.costs (l.take k))), x, y]) ⟨rfl, _, _, rfl⟩ (fun k d δ' M1 hdd ⟨hM, x, y, hδ⟩ => ?_) (fun δ' M1 ⟨hM, x, y, hδ⟩ => ?_)
    · subst hM; subst hδ
      obtain ⟨q, hq, rfl⟩ := map_at hdd
      have hin := hl q (List.mem_of_getElem? hq)
      have e1 : sk.endA (l.take (k + 1)) = some ((sk.gl q.1).kind, q.2) := by
        unfold Sk.endA
        rw [List.take_add_one, hq, List.foldl_append]
        rfl
      have e2 : sk.costs (l.take (k + 1)) = sk.costs (l.take k) + (sk.gl q.1).cost q.2 := by
        unfold Sk.costs
        rw [List.take_add_one, hq, List.foldl_append]
        rfl
      refine ⟨_, _, tg_tup C (tgs_cons (tn 4 C) (tgs_cons (tn 5 C) tgs_nil)), ?_⟩
      refine r_set (d := aheadD (some ((sk.gl q.1).kind, q.2))) 2 C (ev_tup (aC (ixT (ixT (ixT (nm 0) ev_int) (nm 4) (Sk.ix hin)) ev_int) (a1 (nm 5))) (Nat.le_of_ble_eq_true rfl)) ?_
      refine r_set 3 C (e_add (nm 3) (e_call c_own_cost (hr.mono (by decide)) (aC (nm 0) (aC (nm 4) (a1 (nm 5)))) ⟨sk, q.1, q.2, rfl, ok, hin, rfl, rfl⟩)) (run_nil ⟨rfl, some (.int q.1), some (.int q.2), ?_⟩)
      rw [e1, e2]
      rfl
    · subst hM; subst hδ
      rw [List.length_map, List.take_length]
      exact r_ret (ev_tup (aC (nm 2) (a1 (nm 3))) (Nat.le_of_ble_eq_true rfl)) ⟨hd.symm, SubM.refl _⟩

def PreI (s : Sk) (ds : List D) (M : Mp) : Prop := ds = [s.d, .str "last"] ∧ s.Ok
def PostI (s : Sk) (M : Mp) (d : D) (M' : Mp) : Prop := d.isN = !s.lands ∧ M' = M
theorem sc_best_in : FnScope ["sky", "aim", "start", "joins", "known", "ahead", "left", "least", "number", "order", "one", "found"] ["sky", "aim"] (defScope (top 46)) := ⟨rfl, rfl, rfl, by decide +kernel, rfl, by decide +kernel, by decide +kernel⟩
theorem ok_best_in (T : Tx K mg) (hF : Has K mg "best_in" (top 46)) (c_start_of : Can P w K mg base 6 "start_of" ["sky"] F_start_of) (c_late_joins : Can P w K mg base 1 "late_joins" ["sky"] F_late_joins) (c_free_ones : Can P w K mg base 1 "free_ones" ["sky"] F_free_ones) (c_left_without : Can P w K mg base 1 "left_without" ["left", "number"] F_left_without)
    (c_least : ∀ m, CanY P w K mg base (5 + 2 * m) "least_from" ["sky", "joins", "ahead", "left", "aim", "known"] (PreF m) (PostF m) ∧ CanY P w K mg base (5 + 2 * m + 1) "least_by" ["sky", "joins", "ahead", "left", "number", "aim", "known"] (PreB m) (PostB m)) : CanY P w K mg base 21 "best_in" ["sky", "aim"] PreI PostI := by
  refine canY_of hF sc_best_in (fun x ds M h => by obtain ⟨rfl, _⟩ := h; rfl) (fun _ _ _ _ _ _ us hl => match us, hl with | [_, _], _ => rfl) fun f cdv A outer s H E C hr sk ds M h => ?_
  obtain ⟨rfl, ok⟩ := h
  have n7 := ok.len
  refine r_set 2 C (e_call c_start_of (hr.mono (by decide)) (a1 (nm 0)) ⟨sk, rfl, ok, rfl, rfl⟩) ?_
  have hd : sk.startD = match sk.fixAt 0 sk.ahead [] sk.fixed with
    | .error _ => .non
    | .ok l => .tup [aheadD (sk.endA l), .int (sk.costs l)] := rfl
  have hld : sk.lands = match sk.fixAt 0 sk.ahead [] sk.fixed with
    | .error _ => false
    | .ok l => decide (sk.gs.length = 0) || (sk.lf sk.free.length (sk.endA l) sk.free).isSome := rfl
  cases hf : sk.fixAt 0 sk.ahead [] sk.fixed with
  | error p =>
    rw [hf] at hd hld
    dsimp only at hd hld
    rw [hd]
    refine r_if (t_isN (nm 2)) (fun h => ?_) (fun h => ?_)
    · exact r_ret ev_non ⟨M, ⟨by rw [hld]; rfl, rfl⟩, SubM.refl _⟩
    · exact nomatch (show true = false from h)
  | ok l =>
    rw [hf] at hd hld
    dsimp only at hd hld
    obtain ⟨hl, hll⟩ := sk.fixAt_in hf (fun _ h => nomatch h) ok.fx
    rw [hd]
    refine r_no' (t_isN (nm 2)) rfl ?_
    refine r_if (t_eq (e_lenX (xs := sk.gs) (enc := Gld.d) T.len (ixT (nm 0) ev_int)) ev_int) (fun h => ?_) (fun h => ?_)
    · have h0 : sk.gs.length = 0 := by have := of_decide_eq_true h; omega
      exact r_ret (ev_tup (aC ev_int (a1 (ev_tup ea_nil (Nat.le_of_ble_eq_true rfl)))) (Nat.le_of_ble_eq_true rfl)) ⟨M, ⟨by rw [hld, decide_eq_true h0]; rfl, rfl⟩, SubM.refl _⟩
    · have h0 : sk.gs.length ≠ 0 := by have := of_decide_eq_false h; omega
      rw [decide_eq_false h0, Bool.false_or] at hld
      have frl : sk.free.length ≤ 7 := Nat.le_trans (nodup_le sk.free_nd fun i hi => (Sk.free_in hi).1) n7
      refine run_nil ?_
      refine r_set 3 C (e_call c_late_joins (hr.mono (by decide)) (a1 (nm 0)) ⟨sk, rfl, n7, rfl, rfl⟩) ?_
      refine run_cons (s_newd 4 C fun kd hkd => ?_)
      refine r_set 5 C (ixT (nm 2) ev_int) ?_
      refine r_set 6 C (e_tupL T.tuple (e_call c_free_ones (hr.mono (by decide)) (a1 (nm 0)) ⟨sk, rfl, ok, rfl, rfl⟩)) ?_
      have ea : sk.free.length = 0 → sk.endA l ≠ none := fun e => by
        have hfx : (0 : Int) ∈ sk.fixed := by
          refine Decidable.byContradiction fun hn => ?_
          have := sk.free_of (i := 0) ⟨by omega, by omega⟩ hn
          rw [List.length_eq_zero_iff.mp e] at this
          exact nomatch this
        have hfl := List.length_pos_of_mem hfx
        have hne : l ≠ [] := fun e => by
          rw [e] at hll
          simp only [List.length_nil] at hll
          omega
        obtain ⟨q, _, e2⟩ := Sk.endA_cons (s := sk) (a := sk.ahead) hne
        have e3 : sk.endA l = some ((sk.gl q.1).kind, q.2) := e2
        rw [e3]
        exact fun h => nomatch h
      have bo := bud_ok sk.free.length (by omega)
      refine r_setX 7 C (e_callY (⟨sk, sk.endA l, sk.free, kd, []⟩ : LI) (c_least sk.free.length).1 (hr.mono (by omega)) (aC (nm 0) (aC (nm 3) (aC (nm 5) (aC (nm 6) (aC (nm 1) (a1 (nm 4))))))) ⟨rfl, ⟨ok, ok.endK hl, sk.free_nd, fun i hi => (Sk.free_in hi).1, rfl, ea, Good.nil _⟩, updM_same, by show 0 + _ ≤ _; omega⟩) fun d M2 ⟨kvs2, hg2, hl2, hM2, hd2⟩ => ?_
      dsimp only at hg2 hl2 hM2 hd2
      rw [updM_updM] at hM2
      subst hM2
      cases hv : sk.lf sk.free.length (sk.endA l) sk.free with
      | none =>
        rw [hv] at hld hd2
        subst hd2
        refine r_if (t_isN (nm 7)) (fun h => ?_) (fun h => ?_)
        · exact r_ret ev_non ⟨M, ⟨by rw [hld]; rfl, rfl⟩, SubM.new hkd⟩
        · exact nomatch (show true = false from h)
      | some v =>
        rw [hv] at hld hd2
        subst hd2
        refine r_no' (t_isN (nm 7)) rfl ?_
        refine r_set (d := .int v) 8 C (ev_if (t_eqS (nm 1) ev_str) (fun h => absurd h (by decide)) (fun h => (nm 7))) ?_
        refine r_set 9 C (ixT (nm 0) ev_int) ?_
        refine run_cons (s_while C (fun m δ' M1 => ∃ a left kvs v1 order x y, LI.Ok ⟨sk, a, left, kd, kvs⟩ m ∧ sk.lf m a left = some v1 ∧ M1 = updM M kd (.md kvs) ∧ kvs.length + (cap m + bud m) ≤ 1000000 ∧ order.length + m ≤ 14 ∧ m ≤ 7 ∧
            δ' = [some sk.d, some (.str "last"), some (.tup [aheadD (sk.endA l), .int (sk.costs l)]), some (D.li sk.joins), some (.adr kd), some (aheadD a), some (D.ti left), some (.int v1), some (.int v), some (D.ti order), x, y]) sk.free.length ?_ ?_)
        · refine ⟨sk.endA l, sk.free, kvs2, v, sk.fixed, _, _, ⟨ok, ok.endK hl, sk.free_nd, fun i hi => (Sk.free_in hi).1, rfl, ea, hg2⟩, hv, rfl, ?_, ?_, frl, rfl⟩
          · simp only [List.length_nil] at hl2
            omega
          · have := nodup_le ok.nd ok.fx
            omega
        · rintro m δ' M1 ⟨a, left, kvs, v1, order, x, y, lok, hlf, hM1, hb, ho, hm7, hδ⟩
          subst hM1; subst hδ
          have hlen : left.length = m := lok.len
          refine ⟨!decide (left = []), t_neT C (ms := []) (nm 6) (ev_tup ea_nil (Nat.le_of_ble_eq_true rfl)), fun ht => ?_, fun ht => ?_⟩
          · have hne : left ≠ [] := fun e => by rw [decide_eq_true e] at ht; exact nomatch ht
            cases m with
            | zero => exact absurd (List.length_eq_zero_iff.mp hlen) hne
            | succ m =>
              have hb' : kvs.length + (1 + (m + 1) * cap m + ((m + 1) * cap m + cap m + bud m)) ≤ 1000000 := hb
              obtain ⟨wi, hwi, hwv⟩ := Sk.lf_wit hlf
              have hwn : ∀ {i : Int}, i ∈ left → (left.filter fun j => !decide (j = i)).length + 1 = left.length := fun h => without_len lok.nd h
              refine r_for (ds := left.map D.int) C (it_tup (nm 6)) (fun j δ' M1 => ∃ kvs', M1 = updM M kd (.md kvs') ∧ Good sk kvs' ∧ kvs'.length ≤ kvs.length + j * cap m ∧ (∀ j' < j, ∀ i, left[j']? = some i → (sk.lb m a left i).map Prod.fst ≠ some v1) ∧ ∃ x y,
                  δ' = [some sk.d, some (.str "last"), some (.tup [aheadD (sk.endA l), .int (sk.costs l)]), some (D.li sk.joins), some (.adr kd), some (aheadD a), some (D.ti left), some (.int v1), some (.int v), some (D.ti order), x, y])
                ⟨kvs, rfl, lok.good, by omega, fun j' h => absurd h (by omega), _, _, rfl⟩ (fun j d δ' M1 hdd ⟨kvs', hM1, hg, hlk, hno, x, y, hδ⟩ => ?_) (fun δ' M1 ⟨kvs', hM1, hg, hlk, hno, x, y, hδ⟩ => ?_)
              · subst hM1; subst hδ
                obtain ⟨i, hi, rfl⟩ := map_at hdd
                have hj := lt_at hi
                have him := List.mem_of_getElem? hi
                have hcap : (j + 1) * cap m ≤ (m + 1) * cap m := Nat.mul_le_mul_right _ (by omega)
                rw [Nat.add_mul, Nat.one_mul] at hcap
                refine ⟨_, _, tn 10 C, ?_⟩
                refine r_setX 11 C (e_callY ((⟨sk, a, left, kd, kvs'⟩ : LI), i) (c_least m).2 (hr.mono (by omega)) (aC (nm 0) (aC (nm 3) (aC (nm 5) (aC (nm 6) (aC (nm 10) (aC (nm 1) (a1 (nm 4)))))))) ⟨rfl, ⟨ok, lok.a, lok.nd, lok.inn, lok.len, lok.a0, hg⟩, him, updM_same, by show kvs'.length + cap m ≤ _; omega⟩) fun d M2 ⟨kvs3, hg3, hl3, hM3, hd3⟩ => ?_
                dsimp only at hg3 hl3 hM3 hd3
                rw [updM_updM] at hM3
                subst hM3
                have hnx : (sk.lb m a left i).map Prod.fst ≠ some v1 → ∀ j' < j + 1, ∀ i', left[j']? = some i' → (sk.lb m a left i').map Prod.fst ≠ some v1 := fun hne j' hj' i' hi' => by
                  by_cases e : j' = j
                  · rw [e, hi] at hi'
                    cases hi'
                    exact hne
                  · exact hno j' (by omega) i' hi'
                cases hlb : sk.lb m a left i with
                | none =>
                  rw [hlb] at hd3 hnx
                  subst hd3
                  refine r_no' (et_w (ew_and (k' := false) (t_notN (nm 11)) (fun h => ?_) (fun _ => rfl))) rfl (run_nil ⟨kvs3, rfl, hg3, ?_, hnx (fun h => nomatch h), _, _, rfl⟩)
                  · exact nomatch (show false = true from h)
                  · rw [Nat.add_mul, Nat.one_mul]; omega
                | some q =>
                  obtain ⟨v2, p⟩ := q
                  rw [hlb] at hd3 hnx
                  subst hd3
                  obtain ⟨hp1, hp2⟩ := Sk.lb_some hlb
                  refine r_if (et_w (ew_and (t_notN (nm 11)) (fun h => ew_and1 (t_eq (ixT (nm 11) ev_int) (nm 7))) (fun _ => rfl))) (fun h => ?_) (fun h => ?_)
                  · have hv2 : v2 = v1 := of_decide_eq_true (show decide (v2 = v1) = true from h)
                    subst hv2
                    have hwl := hwn him
                    refine run_cons (s_break ?_)
                    refine r_set (d := D.ti (order ++ [i])) 9 C (e_to (e_catT (nm 9) (ev_tup (a1 (nm 10)) (Nat.le_of_ble_eq_true rfl)) (by rw [List.length_map]; show _ + 1 ≤ _; omega)) (by rw [D.ti, List.map_append]; rfl)) ?_
                    refine r_set 6 C (e_call c_left_without (hr.mono (by decide)) (aC (nm 6) (a1 (nm 10))) ⟨left, i, rfl, by omega, rfl, rfl⟩) ?_
                    have lok' : LI.Ok ⟨sk, some p, left.filter fun j => !decide (j = i), kd, kvs3⟩ m := ⟨ok, fun r hr => by
                      cases hr
                      rw [hp1]
                      exact ⟨(ok.glk (lok.inn i him)).k0, (ok.glk (lok.inn i him)).k1⟩, lok.nd.sublist List.filter_sublist, fun j hj => lok.inn j (List.mem_filter.mp hj).1, by show (left.filter fun j => !decide (j = i)).length = m; omega, fun _ h => (nomatch h), hg3⟩
                    refine r_setX 7 C (e_callY (⟨sk, some p, left.filter fun j => !decide (j = i), kd, kvs3⟩ : LI) (c_least m).1 (hr.mono (by omega)) (aC (nm 0) (aC (nm 3) (aC (ixT (d := pairD p) (nm 11) ev_int) (aC (nm 6) (aC (nm 1) (a1 (nm 4))))))) ⟨rfl, lok', updM_same, by show kvs3.length + cap m ≤ _; omega⟩) fun d M2 ⟨kvs4, hg4, hl4, hM4, hd4⟩ => ?_
                    dsimp only at hg4 hl4 hM4 hd4
                    rw [updM_updM] at hM4
                    subst hM4
                    rw [hp2] at hd4
                    subst hd4
                    refine r_set (d := aheadD (some p)) 5 C (ixT (nm 11) ev_int) (run_nil ⟨m, by omega, some p, _, kvs4, v2, order ++ [i], _, _, ⟨lok'.s, lok'.a, lok'.nd, lok'.inn, lok'.len, lok'.a0, hg4⟩, hp2, rfl, ?_, ?_, by omega, rfl⟩)
                    · have : cap m + bud m ≤ cap m + bud m := Nat.le_refl _
                      omega
                    · rw [List.length_append]
                      show order.length + 1 + m ≤ 14
                      omega
                  · have hv2 : v2 ≠ v1 := of_decide_eq_false (show decide (v2 = v1) = false from h)
                    refine run_nil (run_nil ⟨kvs3, rfl, hg3, ?_, hnx (fun h => hv2 (Option.some.inj h)), _, _, rfl⟩)
                    rw [Nat.add_mul, Nat.one_mul]; omega
              · obtain ⟨j', hj2⟩ := List.mem_iff_getElem?.mp hwi
                have hj1 := lt_at hj2
                exact absurd hwv (hno j' (by rw [List.length_map]; exact hj1) wi hj2)
          · exact r_ret (ev_tup (aC (nm 8) (a1 (nm 9))) (Nat.le_of_ble_eq_true rfl)) ⟨M, ⟨by rw [hld]; rfl, rfl⟩, SubM.new hkd⟩
end
end Dr
set_option Elab.async false
set_option linter.all false
set_option maxRecDepth 100000
set_option maxHeartbeats 2000000
/-! the walks of the tables and the lots -/
namespace Dr
open PySem L2
section
variable {X : Cx} {δ : En} {M M1 M2 : Mp} {pos p lpos : Pos} {elt tg iter a b e : Expr} {ifs : List Expr} {scope : Scope} {own : List (Str × Nat)} {stt : Bool}
theorem e_allX {α : Type} (xs : List α) (enc : α → D) (q : α → Bool) (C : Cok X) (ok : BlkOk X.N X.env.scope scope own) (hm : X.mg "all" = none) (hi : ItD stt X tg iter δ M (xs.map enc) M1) (hz : xs.length ≤ 10000)
    (turn : ∀ x ∈ xs, TurnP stt X scope tg [] elt (own.map (·.2)) (enc x) δ M1 true (.bl (q x))) (hs : ∀ x, foldedSetIterable iter X.env x = pure x := by intro _; rfl) (hg : Gl X "all" := by rfl)
    (hs1 : starEach [.ListComp elt [⟨tg, iter, [], 0⟩] scope lpos] X.env = (false, eval (.ListComp elt [⟨tg, iter, [], 0⟩] scope lpos) X.env) :: starEach [] X.env := by rfl) (hpl : (backTo pos (starEach ([] : List Expr) X.env)).any (·.1) = false := by rfl) :
    Ev X (.Call (.Name "all" p) [.ListComp elt [⟨tg, iter, [], 0⟩] scope lpos] [] pos) δ M (.bl (xs.all q)) M1 :=
  e_to (e_all (bs := xs.map q) C hm (e_to (ev_lcm xs enc (fun x => .bl (q x)) C ok hi hz turn hs) (by rw [List.map_map]; rfl)) hg hs1 hpl) (by rw [List.all_map]; rfl)
theorem e_anyX {α : Type} (xs : List α) (enc : α → D) (q : α → Bool) (C : Cok X) (ok : BlkOk X.N X.env.scope scope own) (hm : X.mg "any" = none) (hi : ItD stt X tg iter δ M (xs.map enc) M1) (hz : xs.length ≤ 10000)
    (turn : ∀ x ∈ xs, TurnP stt X scope tg [] elt (own.map (·.2)) (enc x) δ M1 true (.bl (q x))) (hs : ∀ x, foldedSetIterable iter X.env x = pure x := by intro _; rfl) (hg : Gl X "any" := by rfl)
    (hs1 : starEach [.ListComp elt [⟨tg, iter, [], 0⟩] scope lpos] X.env = (false, eval (.ListComp elt [⟨tg, iter, [], 0⟩] scope lpos) X.env) :: starEach [] X.env := by rfl) (hpl : (backTo pos (starEach ([] : List Expr) X.env)).any (·.1) = false := by rfl) :
    Ev X (.Call (.Name "any" p) [.ListComp elt [⟨tg, iter, [], 0⟩] scope lpos] [] pos) δ M (.bl (xs.any q)) M1 :=
  e_to (e_any (bs := xs.map q) C hm (e_to (ev_lcm xs enc (fun x => .bl (q x)) C ok hi hz turn hs) (by rw [List.map_map]; rfl)) hg hs1 hpl) (by rw [List.any_map]; rfl)
theorem e_listN {n : Nat} {p2 rp : Pos} (C : Cok X) (hm : X.mg "list" = none) (hm2 : X.mg "range" = none) (h : Ev X e δ M (.int (n : Int)) M1) (hb : n ≤ 100000) (hg : Gl X "list" := by rfl) (hg2 : Gl X "range" := by rfl) (na : starEach [e] X.env = (false, eval e X.env) :: starEach [] X.env := by rfl)
    (na2 : starEach [.Call (.Name "range" p2) [e] [] rp] X.env = (false, eval (.Call (.Name "range" p2) [e] [] rp) X.env) :: starEach [] X.env := by rfl) : Ev X (.Call (.Name "list" p) [.Call (.Name "range" p2) [e] [] rp] [] pos) δ M (D.li (rgI n)) M1 :=
  e_to (e_listRg C hm hm2 h (by omega) hg hg2 na na2) (by rw [Int.toNat_natCast, rng_rgI])
theorem li_ok (ns : List Int) : (D.li ns).ok = true := by rw [D.ok, oks_ints]
theorem li_py (ns : List Int) : (D.li ns).py = .list (ns.map PyData.int) := by rw [D.py, pys_ints]
theorem li_sh (ns : List Int) : SeqAt.shaped (D.li ns).py = true := by
  rw [li_py]
  simp [SeqAt.shaped, PyData.canLay0, PyData.depth, lay_ints, dep_ints]
theorem t_neL {ns ms : List Int} (C : Cok X) (ha : Ev X a δ M (D.li ns) M1) (hb : Ev X b δ M1 (D.li ms) M2) : EvT X (.Compare a [.NotEq] [b] pos) δ M (!decide (ns = ms)) M2 :=
  t_to (et_cmp (op_neD (by have := C.hu; omega)) (rd_neD (li_ok ns) (li_ok ms) (li_sh ns) (li_sh ms)) ha hb (nomark _)) (by rw [li_py, li_py, PyData.eqv, eqv_ints])
end

/-! ### the order of the lots -/
def lotE (l : List Int) : D := .tup [.int (l.length : Nat), D.ti l]
theorem lotE_py (l : List Int) : (lotE l).py = .tuple [.int (l.length : Nat), .tuple (l.map PyData.int)] := by
  unfold lotE
  rw [D.py, D.pys, D.pys, D.pys, ti_py]
  rfl
def leL (a b : List Int) : Bool := leD (lotE a) (lotE b)
def sortL (ls : List (List Int)) : List (List Int) := ls.mergeSort leL
theorem sortD_lots (ls : List (List Int)) : sortD (ls.map lotE) = (sortL ls).map lotE := (List.map_mergeSort (r := leL) (s := leD) (f := lotE) (l := ls) fun _ _ _ _ => rfl).symm
theorem leL_lt (a b : List Int) : leL a b = !PySem.W.dataLt (lotE b).py (lotE a).py := rfl
theorem leL_trans (a b c : List Int) (h1 : leL a b = true) (h2 : leL b c = true) : leL a c = true := by
  rw [leL_lt, Bool.not_eq_true'] at *
  cases h : PySem.W.dataLt (lotE c).py (lotE a).py with
  | false => rfl
  | true =>
    rcases PyProof.Rows.lex_negTrans _ (PySem.W.keyToks (lotE b).py) _ h with h | h
    · exact absurd (h.symm.trans h2) (by decide)
    · exact absurd (h.symm.trans h1) (by decide)
theorem leL_total (a b : List Int) : (leL a b || leL b a) = true := by
  rw [leL_lt, leL_lt]
  cases h : PySem.W.dataLt (lotE b).py (lotE a).py with
  | false => rfl
  | true =>
    cases h' : PySem.W.dataLt (lotE a).py (lotE b).py with
    | false => rfl
    | true => exact absurd ((PyProof.Rows.lex_trans _ _ _ h h').symm.trans (PyProof.Rows.lex_irrefl _)) (by decide)
theorem leL_len {a b : List Int} (h : leL a b = true) : a.length ≤ b.length := by
  rw [leL_lt, Bool.not_eq_true', lotE_py, lotE_py, PySem.W.dataLt_pair (by simp [PySem.W.alike]) (by simp [PySem.W.alike, PySem.W.alike_ints])] at h
  by_cases c : a.length ≤ b.length
  · exact c
  · rw [if_neg (by simp [PyData.eqv]; omega), PySem.W.dataLt_int] at h
    have := of_decide_eq_false h
    omega
theorem sortL_perm (ls : List (List Int)) : (sortL ls).Perm ls := List.mergeSort_perm ls leL
theorem sortL_len (ls : List (List Int)) : (sortL ls).Pairwise fun a b => a.length ≤ b.length :=
  (List.pairwise_mergeSort leL_trans leL_total ls).imp fun {_ _} h => leL_len h
/-- all the lots of numbers, as they are built -/
def lotsG (ns : List Int) : List (List Int) := ns.foldl (fun f x => f ++ f.map (· ++ [x])) [[]]
/-- the lots that are not empty, in their order -/
def lotsF (ns : List Int) : List (List Int) := (sortL (lotsG ns)).filter fun l => decide (0 < l.length)
theorem lotsG_snoc (ns : List Int) (x : Int) : lotsG (ns ++ [x]) = lotsG ns ++ (lotsG ns).map (· ++ [x]) := by
  unfold lotsG
  rw [List.foldl_append]
  rfl
theorem lotsG_len (ns : List Int) : (lotsG ns).length = 2 ^ ns.length := by
  suffices h : ∀ (f : List (List Int)), (ns.foldl (fun f x => f ++ f.map (· ++ [x])) f).length = f.length * 2 ^ ns.length by
    have := h [[]]
    unfold lotsG
    rw [this]
    simp
  induction ns with
  | nil => intro f; simp
  | cons x r ih =>
    intro f
    rw [List.foldl_cons, ih, List.length_append, List.length_map, List.length_cons, Nat.pow_succ]
    rw [Nat.mul_comm (2 ^ r.length) 2, ← Nat.mul_assoc]
    congr 1
    omega
theorem pow7 {n : Nat} (h : n ≤ 7) : 2 ^ n ≤ 128 := Nat.pow_le_pow_right (by omega) h
theorem lotsG_mem_len {ns : List Int} {l : List Int} (h : l ∈ lotsG ns) : l.length ≤ ns.length := by
  suffices hh : ∀ (f : List (List Int)) (k : Nat), (∀ l ∈ f, l.length ≤ k) → ∀ l ∈ ns.foldl (fun f x => f ++ f.map (· ++ [x])) f, l.length ≤ k + ns.length by
    have := hh [[]] 0 (fun l hl => by rcases List.mem_cons.mp hl with rfl | h; exact Nat.le_refl _; exact nomatch h) l h
    omega
  clear h l
  induction ns with
  | nil => intro f k hf l hl; have := hf l hl; exact Nat.le_trans this (by omega)
  | cons x r ih =>
    intro f k hf l hl
    rw [List.foldl_cons] at hl
    have := ih _ (k + 1) (fun l hl => by
      rcases List.mem_append.mp hl with h | h
      · have := hf l h; omega
      · obtain ⟨l', hl', rfl⟩ := List.mem_map.mp h
        have := hf l' hl'
        rw [List.length_append]
        simp only [List.length_cons, List.length_nil]
        omega) l hl
    rw [List.length_cons]
    omega
theorem lots_pys (ls : List (List Int)) : D.pys (ls.map lotE) = ls.map fun l => PyData.tuple [.int (l.length : Nat), .tuple (l.map PyData.int)] := by
  induction ls with
  | nil => rfl
  | cons l r ih => rw [List.map_cons, D.pys, ih, lotE_py]; rfl
theorem lots_oks (ls : List (List Int)) : D.oks (ls.map lotE) = true := by
  induction ls with
  | nil => rfl
  | cons l r ih => rw [List.map_cons, D.oks, ih, Bool.and_true]; simp [lotE, D.ok, D.oks, oks_ints]
section
variable {X : Cx} {δ : En} {M M1 M2 : Mp} {pos p : Pos} {e : Expr}
theorem e_sortLots {ls : List (List Int)} (C : Cok X) (hm : X.mg "sorted" = none) (ha : Ev X e δ M (.lst (ls.map lotE)) M1) (hg : Gl X "sorted" := by rfl) (hs : starEach [e] X.env = (false, eval e X.env) :: starEach [] X.env := by rfl) (hpl : (backTo pos (starEach ([] : List Expr) X.env)).any (·.1) = false := by rfl) :
    Ev X (.Call (.Name "sorted" p) [e] [] pos) δ M (.lst ((sortL ls).map lotE)) M1 := by
  refine e_to (e_sortD C hm ha (lots_oks ls) ?_ ?_ ?_ hg hs hpl) (by rw [sortD_lots])
  · rw [lots_pys]
    exact PySem.W.AllAlike.of fun a b => by simp [PySem.W.alike, PySem.W.alikeAll, PySem.W.alike_ints]
  · rw [lots_pys]
    exact PySem.W.Sortable.tuples fun l => ⟨_, _, rfl⟩
  · rw [lots_pys]
    intro q hq
    obtain ⟨l, _, rfl⟩ := List.mem_map.mp hq
    simp [PyData.depth, PyData.depthAll, dep_ints]
end
section
variable {P : Program} {w : World} {K : PySem.W.Frag} {mg : Str → Option Value} {base : Heap}
def F_lots_of : FS := fun ds M d M' => ∃ ns : List Int, ds = [D.li ns] ∧ ns.length ≤ 7 ∧ d = .lst ((lotsF ns).map D.ti) ∧ M' = M
theorem sc_lots_of : FnScope ["numbers", "found", "number", "lot", "long"] ["numbers"] (defScope (top 48)) := ⟨rfl, rfl, rfl, by decide +kernel, rfl, by decide +kernel, by decide +kernel⟩
theorem ok_lots_of (T : Tx K mg) (hF : Has K mg "lots_of" (top 48)) : Can P w K mg base 1 "lots_of" ["numbers"] F_lots_of := by
  refine can_of hF sc_lots_of (fun ds M d M' h => by obtain ⟨_, rfl, _⟩ := h; rfl) (fun _ _ _ _ _ _ us hl => match us, hl with | [_], _ => rfl) fun f cdv A outer s H E C hr ds M d M' h => ?_
  obtain ⟨ns, rfl, n7, rfl, rfl⟩ := h
  refine r_set (d := .lst (([[]] : List (List Int)).map D.ti)) 1 C (ev_lst (a1 (ev_tup ea_nil (Nat.le_of_ble_eq_true rfl))) (Nat.le_of_ble_eq_true rfl)) ?_
  refine r_for (ds := ns.map D.int) C (it_list (nm 0)) (fun k δ' M1 => M1 = M' ∧ ∃ y, δ' = [some (D.li ns), some (.lst ((lotsG (ns.take k)).map D.ti)), y, none, none]) ⟨rfl, _, rfl⟩ (fun k d δ' M1 hd ⟨hM, y, hδ⟩ => ?_) (fun δ' M1 ⟨hM, y, hδ⟩ => ?_)
  · subst hM; subst hδ
    obtain ⟨x, hx, rfl⟩ := map_at hd
    have hk := lt_at hx
    have e1 : ns.take (k + 1) = ns.take k ++ [x] := by rw [List.take_add_one, hx]; rfl
    have hl1 : (lotsG (ns.take k)).length ≤ 128 := by
      rw [lotsG_len, List.length_take]
      exact pow7 (by omega)
    refine ⟨_, _, tn 2 C, ?_⟩
    refine r_set (d := .lst ((lotsG (ns.take (k + 1))).map D.ti)) 1 C (e_to (e_catL (nm 1) (ev_lcm (own := [("lot", 3)]) (lotsG (ns.take k)) D.ti (fun l => D.ti (l ++ [x])) C (blkOk_by (by rfl)) (it_list (nm 1)) (by omega) (fun l hl => ⟨[3], _, by simp, fun s1 H1 C1 cl1 fp1 => ⟨(tn 3 C.bk), ts_nil, fun _ => e_to (e_catT (nm 3) (ev_tup (a1 (nm 2)) (Nat.le_of_ble_eq_true rfl)) ?_) ?_⟩⟩)) ?_) ?_) (run_nil ⟨rfl, some (.int x), rfl⟩)
    · have h1 := lotsG_mem_len hl
      rw [List.length_take] at h1
      rw [List.length_map]
      show l.length + 1 ≤ 1000
      omega
    · rw [D.ti, List.map_append]
      rfl
    · rw [List.length_map, List.length_map]
      omega
    · rw [e1, lotsG_snoc, List.map_append, List.map_map]
      rfl
  · subst hM; subst hδ
    rw [List.length_map, List.take_length]
    have hl1 : (lotsG ns).length ≤ 128 := by
      rw [lotsG_len]
      exact pow7 n7
    have hl2 : (sortL (lotsG ns)).length ≤ 128 := by rw [(sortL_perm _).length_eq]; exact hl1
    exact r_ret (ev_lcx (own := [("long", 4), ("lot", 3)]) (sortL (lotsG ns)) lotE (fun l => decide (0 < l.length)) D.ti C (blkOk_by (by rfl)) (it_list (e_sortLots C T.sorted (ev_lcm (own := [("lot", 3)]) (lotsG ns) D.ti lotE C (blkOk_by (by rfl)) (it_list (nm 1)) (by omega) (fun l hl => ⟨[3], _, by simp, fun s1 H1 C1 cl1 fp1 => ⟨(tn 3 C.bk), ts_nil, fun _ => (ev_tup (aC (e_lenX (xs := l) (enc := D.int) T.len (nm 3)) (a1 (nm 3))) (Nat.le_of_ble_eq_true rfl))⟩⟩)))) (by omega) (fun l hl => ⟨[4, 3], _, by simp, fun s1 H1 C1 cl1 fp1 => ⟨(tg_tup C.bk (tgs_cons (tn 4 C.bk) (tgs_cons (tn 3 C.bk) tgs_nil))), (ts_one (t_to (t_gt (nm 4) ev_int) (decide_eq_decide.mpr (by omega)))), fun _ => (nm 3)⟩⟩)) ⟨rfl, SubM.refl _⟩
end
end Dr
set_option Elab.async false
set_option linter.all false
set_option maxRecDepth 100000
set_option maxHeartbeats 2000000
/-! the walks of the lots -/
namespace Dr
open PySem L2
def idxI (l : List Int) (i : Int) : Int := ((l.idxOf i : Nat) : Int)
def Sk.narrow (s : Sk) (lot : List Int) : Sk := ⟨s.md, s.ahead, lot.map s.gl, (s.fixed.filter fun i => decide (i ∈ lot)).map (idxI lot)⟩
structure LotOk (s : Sk) (lot : List Int) : Prop where
  up : lot.Pairwise (· < ·)
  inn : ∀ i ∈ lot, s.In i
theorem LotOk.nd {s : Sk} {lot : List Int} (h : LotOk s lot) : lot.Nodup := h.up.imp fun {a b} h e => by omega
theorem LotOk.len {s : Sk} {lot : List Int} (ok : s.Ok) (h : LotOk s lot) : lot.length ≤ 7 := Nat.le_trans (nodup_le h.nd h.inn) ok.len
theorem idx_at {l : List Int} {i : Int} (h : i ∈ l) : l[l.idxOf i]? = some i := by
  rw [List.getElem?_eq_getElem (List.idxOf_lt_length_of_mem h)]
  exact congrArg some (List.getElem_idxOf (List.idxOf_lt_length_of_mem h))
theorem idx_no {l : List Int} {i : Int} {m : Nat} (h : m < l.idxOf i) : l[m]? ≠ some i := fun e => by
  have h1 := lt_at e
  have h2 := List.not_of_lt_findIdx h
  rw [List.getElem?_eq_getElem h1] at e
  have h3 := Option.some.inj e
  simp [h3] at h2
theorem idx_eq {l : List Int} {i : Int} {k : Nat} (nd : l.Nodup) (h : l[k]? = some i) : l.idxOf i = k := by
  have h1 := lt_at h
  rw [List.getElem?_eq_getElem h1] at h
  have h3 := Option.some.inj h
  subst h3
  exact nd.idxOf_getElem k h1
theorem Sk.Ok.narrow {s : Sk} (ok : s.Ok) {lot : List Int} (h : LotOk s lot) : (s.narrow lot).Ok where
  md := ok.md
  ahead := ok.ahead
  len := by show (lot.map s.gl).length ≤ 7; rw [List.length_map]; exact h.len ok
  gl := fun g hg => by
    obtain ⟨i, hi, rfl⟩ := List.mem_map.mp hg
    exact ok.glk (h.inn i hi)
  fx := fun j hj => by
    obtain ⟨i, hi, rfl⟩ := List.mem_map.mp hj
    have him : i ∈ lot := of_decide_eq_true (List.mem_filter.mp hi).2
    have := List.idxOf_lt_length_of_mem him
    show 0 ≤ idxI lot i ∧ idxI lot i < ((lot.map s.gl).length : Int)
    rw [List.length_map]
    unfold idxI
    omega
  nd := List.pairwise_map.mpr ((ok.nd.sublist List.filter_sublist).imp_of_mem fun {a b} ha hb ne e => by
    have h1 := idx_at (of_decide_eq_true (List.mem_filter.mp ha).2 : a ∈ lot)
    have h2 := idx_at (of_decide_eq_true (List.mem_filter.mp hb).2 : b ∈ lot)
    have e' : lot.idxOf a = lot.idxOf b := by unfold idxI at e; omega
    rw [e', h2] at h1
    exact ne (Option.some.inj h1).symm)
  rg := fun k g hg hr => by
    obtain ⟨i, hi, rfl⟩ := map_at hg
    have him := List.mem_of_getElem? hi
    have hin := h.inn i him
    have hfx := ok.rg i.toNat (s.gl i) (s.at_ hin) hr
    rw [show ((i.toNat : Nat) : Int) = i by have := hin.1; omega] at hfx
    refine List.mem_map.mpr ⟨i, List.mem_filter.mpr ⟨hfx, decide_eq_true him⟩, ?_⟩
    unfold idxI
    rw [idx_eq h.nd hi]
def Sk.ok (s : Sk) (lot : List Int) : Bool := (s.narrow lot).lands
def hasSub (l : List Int) (os : List (List Int)) : Bool := os.any fun o => o.all fun x => decide (x ∈ l)
def greedyK (q : List Int → Bool) (ls : List (List Int)) (f0 : List (List Int)) : List (List Int) := ls.foldl (fun f l => if (!hasSub l f && q l) = true then f ++ [l] else f) f0
def greedy (q : List Int → Bool) (ls : List (List Int)) : List (List Int) := greedyK q ls []
def Sk.all (s : Sk) : List Int := rgI s.gs.length
def Sk.but (s : Sk) (lot : List Int) : List Int := s.all.filter fun i => !decide (i ∈ lot)
def Sk.stuck (s : Sk) : List (List Int) := greedy (fun l => !s.ok l) (lotsF s.all)
def Sk.sent (s : Sk) : List (List Int) := greedy (fun l => s.ok (s.but l)) ([] :: lotsF s.all)
theorem rgI_up (n : Nat) : (rgI n).Pairwise (· < ·) := List.pairwise_map.mpr (List.pairwise_lt_range.imp fun {a b} h => by omega)
theorem Sk.but_ok (s : Sk) (lot : List Int) : LotOk s (s.but lot) := ⟨(rgI_up _).sublist List.filter_sublist, fun i hi => mem_rgI.mp (List.mem_filter.mp hi).1⟩
theorem lotsG_in {ns : List Int} {l : List Int} (h : l ∈ lotsG ns) : l.Sublist ns := by
  suffices hh : ∀ (f : List (List Int)) (ms : List Int), (∀ l ∈ f, l.Sublist ms) → ∀ l ∈ ns.foldl (fun f x => f ++ f.map (· ++ [x])) f, l.Sublist (ms ++ ns) by
    exact hh [[]] [] (fun l hl => by rcases List.mem_cons.mp hl with rfl | h; exact List.Sublist.refl _; exact nomatch h) l h
  clear h l
  induction ns with
  | nil => intro f ms hf l hl; rw [List.append_nil]; exact hf l hl
  | cons x r ih =>
    intro f ms hf l hl
    rw [List.foldl_cons] at hl
    have := ih _ (ms ++ [x]) (fun l hl => by
      rcases List.mem_append.mp hl with h | h
      · exact (hf l h).trans (List.sublist_append_left _ _)
      · obtain ⟨l', hl', rfl⟩ := List.mem_map.mp h
        exact (hf l' hl').append (List.Sublist.refl _)) l hl
    rw [List.append_assoc] at this
    exact this
theorem lotsF_in {ns : List Int} {l : List Int} (h : l ∈ lotsF ns) : l.Sublist ns := lotsG_in ((sortL_perm _).mem_iff.mp (List.mem_filter.mp h).1)
theorem lotsF_len {ns : List Int} (h : ns.length ≤ 7) : (lotsF ns).length ≤ 128 := by
  unfold lotsF
  refine Nat.le_trans (List.length_filter_le _ _) ?_
  rw [(sortL_perm _).length_eq, lotsG_len]
  exact pow7 h
theorem Sk.sub_ok {s : Sk} {l : List Int} (h : l.Sublist s.all) : LotOk s l := ⟨(rgI_up _).sublist h, fun i hi => mem_rgI.mp (h.subset hi)⟩
theorem greedyK_snoc (q : List Int → Bool) (ls : List (List Int)) (f0 : List (List Int)) (l : List Int) : greedyK q (ls ++ [l]) f0 = if (!hasSub l (greedyK q ls f0) && q l) = true then greedyK q ls f0 ++ [l] else greedyK q ls f0 := by
  unfold greedyK
  rw [List.foldl_append]
  rfl
theorem greedy_len (q : List Int → Bool) (ls : List (List Int)) : (greedy q ls).length ≤ ls.length := by
  suffices h : ∀ f0, (greedyK q ls f0).length ≤ f0.length + ls.length by
    have := h []
    simp only [List.length_nil] at this
    unfold greedy
    omega
  induction ls with
  | nil => intro f0; exact Nat.le_refl _
  | cons l r ih =>
    intro f0
    have := ih (if (!hasSub l f0 && q l) = true then f0 ++ [l] else f0)
    rw [List.length_cons]
    show (greedyK q r _).length ≤ _
    refine Nat.le_trans this ?_
    split
    · rw [List.length_append]; simp only [List.length_cons, List.length_nil]; omega
    · omega
theorem greedy_sub (q : List Int → Bool) (ls : List (List Int)) : ∀ l ∈ greedy q ls, l ∈ ls := by
  suffices h : ∀ f0 l, l ∈ greedyK q ls f0 → l ∈ f0 ∨ l ∈ ls by
    intro l hl
    rcases h [] l hl with h | h
    · exact nomatch h
    · exact h
  induction ls with
  | nil => intro f0 l hl; exact .inl hl
  | cons x r ih =>
    intro f0 l hl
    rcases ih _ l hl with h | h
    · dsimp only at h
      split at h
      · rcases List.mem_append.mp h with h | h
        · exact .inl h
        · rcases List.mem_cons.mp h with rfl | h
          · exact .inr List.mem_cons_self
          · exact nomatch h
      · exact .inl h
    · exact .inr (List.mem_cons_of_mem _ h)
section
variable {P : Program} {w : World} {K : PySem.W.Frag} {mg : Str → Option Value} {base : Heap}
def F_check_lot : FS := fun ds M d M' => ∃ (s : Sk) (l : List Int), ds = [s.d, D.ti l] ∧ s.Ok ∧ LotOk s l ∧ d = .non ∧ M' = M
theorem sc_check_lot : FnScope ["sky", "thing", "one"] ["sky", "thing"] (defScope (top 50)) := ⟨rfl, rfl, rfl, by decide +kernel, rfl, by decide +kernel, by decide +kernel⟩
theorem ok_check_lot (T : Tx K mg) (hF : Has K mg "check_lot" (top 50)) (c_is_whole : Can P w K mg base 1 "is_whole" ["thing"] F_is_whole) : Can P w K mg base 2 "check_lot" ["sky", "thing"] F_check_lot := by
  refine can_of hF sc_check_lot (fun ds M d M' h => by obtain ⟨_, _, rfl, _⟩ := h; rfl) (fun _ _ _ _ _ _ us hl => match us, hl with | [_, _], _ => rfl) fun f cdv A outer s H E C hr ds M d M' h => ?_
  obtain ⟨sk, l, rfl, ok, lok, rfl, rfl⟩ := h
  have l7 := lok.len ok
  refine r_no' (et_w (ew_or (et_not (et_val (isiT T.isinstance T.tuple (nm 1)))) (fun h => (ew_or1 (et_not (et_val (e_lcT (own := [("one", 2)]) (fun d => true) C (blkOk_by (by rfl)) T.all (it_tup (nm 1)) (by rw [List.length_map]; omega) (fun d hd => ?_)))))) (fun _ => rfl))) rfl ?_
  · obtain ⟨i, hi, rfl⟩ := List.mem_map.mp hd
    exact ⟨[2], _, by simp, fun s1 H1 C1 cl1 fp1 => ⟨(tn 2 C.bk), ts_nil, fun _ => (e_call c_is_whole (hr.mono (by decide)) (a1 (nm 2)) ⟨i, rfl, rfl, rfl⟩)⟩⟩
  refine r_no' (et_w (ew_or (t_neL C (e_listT T.list (nm 1)) (e_sortSet C T.sorted T.set (nm 1) lok.up (by omega))) (fun h => (ew_or1 (et_not (et_val (e_lcT (own := [("one", 2)]) (fun d => true) C (blkOk_by (by rfl)) T.all (it_tup (nm 1)) (by rw [List.length_map]; omega) (fun d hd => ?_)))))) (fun _ => rfl))) (by simp) (run_nil ⟨rfl, SubM.refl _⟩)
  · obtain ⟨i, hi, rfl⟩ := List.mem_map.mp hd
    obtain ⟨h1, h2⟩ := lok.inn i hi
    exact ⟨[2], _, by simp, fun s1 H1 C1 cl1 fp1 => ⟨(tn 2 C.bk), ts_nil, fun _ => e_to (e_chain op_le op_lt rd_B0 rd_B0 ev_int (nm 2) (e_lenX (xs := sk.gs) (enc := Gld.d) T.len (ixT (nm 0) ev_int))) (by rw [decide_eq_true h1, decide_eq_true h2]; rfl)⟩⟩

def F_narrowed_to : FS := fun ds M d M' => ∃ (s : Sk) (l : List Int), ds = [s.d, D.ti l] ∧ s.Ok ∧ LotOk s l ∧ d = (s.narrow l).d ∧ M' = M
theorem sc_narrowed_to : FnScope ["sky", "lot", "meadow", "ahead", "gliders", "fixed", "kept", "one"] ["sky", "lot"] (defScope (top 51)) := ⟨rfl, rfl, rfl, by decide +kernel, rfl, by decide +kernel, by decide +kernel⟩
theorem ok_narrowed_to (T : Tx K mg) (hF : Has K mg "narrowed_to" (top 51)) : Can P w K mg base 1 "narrowed_to" ["sky", "lot"] F_narrowed_to := by
  refine can_of hF sc_narrowed_to (fun ds M d M' h => by obtain ⟨_, _, rfl, _⟩ := h; rfl) (fun _ _ _ _ _ _ us hl => match us, hl with | [_, _], _ => rfl) fun f cdv A outer s H E C hr ds M d M' h => ?_
  obtain ⟨sk, l, rfl, ok, lok, rfl, rfl⟩ := h
  have l7 := lok.len ok
  have f7 : sk.fixed.length ≤ 7 := Nat.le_trans (nodup_le ok.nd ok.fx) ok.len
  refine run_cons (s_tgt (nm 0) (tg_tup C (tgs_cons (tn 2 C) (tgs_cons (tn 3 C) (tgs_cons (tn 4 C) (tgs_cons (tn 5 C) tgs_nil))))) ?_)
  refine r_set (d := D.ti ((sk.fixed.filter fun i => decide (i ∈ l)).map (idxI l))) 6 C (e_to (e_tupL T.tuple (ev_lcx (own := [("one", 7)]) sk.fixed D.int (fun i => decide (i ∈ l)) (fun i => .int (idxI l i)) C (blkOk_by (by rfl)) (it_tup (nm 5)) (by omega) (fun i hi => ⟨[7], _, by simp, fun s1 H1 C1 cl1 fp1 => ⟨(tn 7 C.bk), (ts_one (t_in (nm 7) (nm 1))), fun h => (e_index (nm 1) (nm 7) (idx_at (of_decide_eq_true h)) (fun m hm => idx_no hm))⟩⟩))) (by rw [D.ti, List.map_map]; rfl)) ?_
  refine r_ret (d := (sk.narrow l).d) (e_to (ev_tup (aC (nm 2) (aC (nm 3) (aC (e_tupL T.tuple (ev_lcm (own := [("one", 7)]) l D.int (fun i => (sk.gl i).d) C (blkOk_by (by rfl)) (it_tup (nm 1)) (by omega) (fun i hi => ⟨[7], _, by simp, fun s1 H1 C1 cl1 fp1 => ⟨(tn 7 C.bk), ts_nil, fun _ => (ixT (nm 4) (nm 7) (Sk.ix (lok.inn i hi)))⟩⟩))) (a1 (nm 6))))) (Nat.le_of_ble_eq_true rfl)) ?_) ⟨rfl, SubM.refl _⟩
  show D.tup [_, _, _, _] = D.tup [_, _, D.tup ((l.map sk.gl).map Gld.d), _]
  rw [List.map_map]
  rfl

def F_all_land : FS := fun ds M d M' => ∃ (s : Sk) (l : List Int), ds = [s.d, D.ti l] ∧ s.Ok ∧ LotOk s l ∧ d = .bl (s.ok l) ∧ M' = M
theorem sc_all_land : FnScope ["sky", "lot"] ["sky", "lot"] (defScope (top 52)) := ⟨rfl, rfl, rfl, by decide +kernel, rfl, by decide +kernel, by decide +kernel⟩
theorem ok_all_land (T : Tx K mg) (hF : Has K mg "all_land" (top 52)) (c_narrowed_to : Can P w K mg base 1 "narrowed_to" ["sky", "lot"] F_narrowed_to) (c_best_in : CanY P w K mg base 21 "best_in" ["sky", "aim"] PreI PostI) : Can P w K mg base 22 "all_land" ["sky", "lot"] F_all_land := by
  refine can_of hF sc_all_land (fun ds M d M' h => by obtain ⟨_, _, rfl, _⟩ := h; rfl) (fun _ _ _ _ _ _ us hl => match us, hl with | [_, _], _ => rfl) fun f cdv A outer s H E C hr ds M d M' h => ?_
  obtain ⟨sk, l, rfl, ok, lok, rfl, rfl⟩ := h
  exact r_ret (e_to (e_notNX (b := !(sk.narrow l).lands) (e_callY (sk.narrow l) c_best_in hr (aC (e_call c_narrowed_to (hr.mono (by decide)) (aC (nm 0) (a1 (nm 1))) ⟨sk, l, rfl, ok, lok, rfl, rfl⟩) (a1 ev_str)) ⟨rfl, ok.narrow lok⟩)) (by rw [Bool.not_not]; rfl)) ⟨rfl, SubM.refl _⟩

def F_can_land : FS := F_all_land
theorem sc_can_land : FnScope ["sky", "lot"] ["sky", "lot"] (defScope (top 53)) := ⟨rfl, rfl, rfl, by decide +kernel, rfl, by decide +kernel, by decide +kernel⟩
theorem ok_can_land (T : Tx K mg) (hF : Has K mg "can_land" (top 53)) (c_check_sky : Can P w K mg base 8 "check_sky" ["sky"] F_check_sky) (c_check_lot : Can P w K mg base 2 "check_lot" ["sky", "thing"] F_check_lot) (c_all_land : Can P w K mg base 22 "all_land" ["sky", "lot"] F_all_land) : Can P w K mg base 23 "can_land" ["sky", "lot"] F_can_land := by
  refine can_of hF sc_can_land (fun ds M d M' h => by obtain ⟨_, _, rfl, _⟩ := h; rfl) (fun _ _ _ _ _ _ us hl => match us, hl with | [_, _], _ => rfl) fun f cdv A outer s H E C hr ds M d M' h => ?_
  obtain ⟨sk, l, rfl, ok, lok, rfl, rfl⟩ := h
  refine run_cons (s_drop (e_call c_check_sky (hr.mono (by decide)) (a1 (nm 0)) ⟨sk, rfl, ok, rfl, rfl⟩) ?_)
  refine run_cons (s_drop (e_call c_check_lot (hr.mono (by decide)) (aC (nm 0) (a1 (nm 1))) ⟨sk, l, rfl, ok, lok, rfl, rfl⟩) ?_)
  exact r_ret (e_call c_all_land hr (aC (nm 0) (a1 (nm 1))) ⟨sk, l, rfl, ok, lok, rfl, rfl⟩) ⟨rfl, SubM.refl _⟩

def F_holds_one : FS := fun ds M d M' => ∃ (l : List Int) (os : List (List Int)), ds = [D.ti l, .lst (os.map D.ti)] ∧ os.length ≤ 1000 ∧ (∀ o ∈ os, o.length ≤ 1000) ∧ d = .bl (hasSub l os) ∧ M' = M
theorem sc_holds_one : FnScope ["lot", "others", "one", "other"] ["lot", "others"] (defScope (top 54)) := ⟨rfl, rfl, rfl, by decide +kernel, rfl, by decide +kernel, by decide +kernel⟩
theorem ok_holds_one (T : Tx K mg) (hF : Has K mg "holds_one" (top 54)) : Can P w K mg base 1 "holds_one" ["lot", "others"] F_holds_one := by
  refine can_of hF sc_holds_one (fun ds M d M' h => by obtain ⟨_, _, rfl, _⟩ := h; rfl) (fun _ _ _ _ _ _ us hl => match us, hl with | [_, _], _ => rfl) fun f cdv A outer s H E C hr ds M d M' h => ?_
  obtain ⟨l, os, rfl, h1, h2, rfl, rfl⟩ := h
  exact r_ret (e_anyX (own := [("other", 3)]) os D.ti (fun o => o.all fun x => decide (x ∈ l)) C (blkOk_by (by rfl)) T.any (it_list (nm 1)) (by omega) (fun o ho => ⟨[3], _, by simp, fun s1 H1 C1 cl1 fp1 => ⟨(tn 3 C.bk), ts_nil, fun _ => (e_allX (own := [("one", 2)]) o D.int (fun x => decide (x ∈ l)) C.bk (blkOk_by (by rfl)) T.all (it_tup (nm 3)) (by have := h2 o ho; omega) (fun x hx => ⟨[2], _, by simp, fun s1 H1 C1 cl1 fp1 => ⟨(tn 2 C.bk.bk), ts_nil, fun _ => (e_in (nm 2) (nm 0))⟩⟩))⟩⟩)) ⟨rfl, SubM.refl _⟩

theorem lotsF_tup {n : Nat} (hn : n ≤ 7) {l : List Int} (h : l ∈ lotsF (rgI n)) : l.length ≤ 7 := by
  have := (lotsF_in h).length_le
  rw [rgI_len] at this
  omega
def F_lots : (Sk → List (List Int)) → FS := fun r ds M d M' => ∃ (s : Sk), ds = [s.d] ∧ s.Ok ∧ d = .lst ((r s).map D.ti) ∧ M' = M
theorem sc_least_stuck_in : FnScope ["sky", "found", "lot"] ["sky"] (defScope (top 55)) := ⟨rfl, rfl, rfl, by decide +kernel, rfl, by decide +kernel, by decide +kernel⟩
theorem ok_least_stuck_in (T : Tx K mg) (hF : Has K mg "least_stuck_in" (top 55)) (c_lots_of : Can P w K mg base 1 "lots_of" ["numbers"] F_lots_of) (c_holds_one : Can P w K mg base 1 "holds_one" ["lot", "others"] F_holds_one) (c_all_land : Can P w K mg base 22 "all_land" ["sky", "lot"] F_all_land) : Can P w K mg base 23 "least_stuck_in" ["sky"] (F_lots Sk.stuck) := by
  refine can_of hF sc_least_stuck_in (fun ds M d M' h => by obtain ⟨_, rfl, _⟩ := h; rfl) (fun _ _ _ _ _ _ us hl => match us, hl with | [_], _ => rfl) fun f cdv A outer s H E C hr ds M d M' h => ?_
  obtain ⟨sk, rfl, ok, rfl, rfl⟩ := h
  have n7 := ok.len
  have hln : (lotsF sk.all).length ≤ 128 := lotsF_len (by unfold Sk.all; rw [rgI_len]; exact n7)
  refine run_cons (s_newl 1 C rfl (.inl rfl) ea_nil (by decide) fun lA hlA => ?_)
  refine r_for (ds := (lotsF sk.all).map D.ti) C (it_list (e_call c_lots_of (hr.mono (by decide)) (a1 (e_listN C T.list T.range (e_lenX (xs := sk.gs) (enc := Gld.d) T.len (ixT (nm 0) ev_int)) (by omega))) ⟨rgI sk.gs.length, rfl, by rw [rgI_len]; exact n7, rfl, rfl⟩))
    (fun k δ' M1 => M1 = updM M' lA (.ml ((greedy (fun l => !sk.ok l) ((lotsF sk.all).take k)).map D.ti)) ∧ ∃ y, δ' = [some sk.d, some (.adr lA), y]) ⟨rfl, _, rfl⟩ (fun k d δ' M1 hd ⟨hM, y, hδ⟩ => ?_) (fun δ' M1 ⟨hM, y, hδ⟩ => ?_)
  · subst hM; subst hδ
    obtain ⟨l, hl, rfl⟩ := map_at hd
    have hlm := List.mem_of_getElem? hl
    have hls := lotsF_in hlm
    have e1 : greedy (fun l => !sk.ok l) ((lotsF sk.all).take (k + 1)) = if (!hasSub l (greedy (fun l => !sk.ok l) ((lotsF sk.all).take k)) && !sk.ok l) = true then greedy (fun l => !sk.ok l) ((lotsF sk.all).take k) ++ [l] else greedy (fun l => !sk.ok l) ((lotsF sk.all).take k) := by
      rw [List.take_add_one, hl]
      exact greedyK_snoc _ _ _ _
    have hgl := greedy_len (fun l => !sk.ok l) ((lotsF sk.all).take k)
    have hgs := greedy_sub (fun l => !sk.ok l) ((lotsF sk.all).take k)
    generalize hg : greedy (fun l => !sk.ok l) ((lotsF sk.all).take k) = g at *
    have hgl2 : g.length ≤ 128 := Nat.le_trans hgl (Nat.le_trans (List.length_take_le' _ _) hln)
    refine ⟨_, _, tn 2 C, ?_⟩
    refine r_if (et_w (ew_and (et_borrow 1 (l := lA) (ds := g.map D.ti) rfl updM_same (et_not (et_val (e_call c_holds_one (hr.mono (by decide)) (aC (nm 2) (a1 (nm 1))) ⟨l, g, rfl, by omega, fun o ho => by
      have := lotsF_tup n7 (List.mem_of_mem_take (hgs o ho)); omega, rfl, rfl⟩)))) (fun h => (ew_and1 (et_not (et_val (e_call c_all_land (hr.mono (by decide)) (aC (nm 0) (a1 (nm 2))) ⟨sk, l, rfl, ok, Sk.sub_ok hls, rfl, rfl⟩))))) (fun _ => rfl))) (fun h => ?_) (fun h => ?_)
    · rw [if_pos h] at e1
      refine run_cons (s_app (nm 1) updM_same (nm 2) updM_same (by rw [List.length_map]; omega) (run_nil (run_nil ⟨?_, _, rfl⟩)))
      rw [e1, updM_updM, List.map_append]
      rfl
    · rw [if_neg (by rw [h]; decide)] at e1
      refine run_nil (run_nil ⟨?_, _, rfl⟩)
      rw [e1]
  · subst hM; subst hδ
    rw [List.length_map, List.take_length]
    exact r_ret (ev_freeze (nm 1) updM_same) ⟨rfl, SubM.fr hlA⟩
theorem sc_least_stuck : FnScope ["sky"] ["sky"] (defScope (top 56)) := ⟨rfl, rfl, rfl, by decide +kernel, rfl, by decide +kernel, by decide +kernel⟩
theorem ok_least_stuck (T : Tx K mg) (hF : Has K mg "least_stuck" (top 56)) (c_check_sky : Can P w K mg base 8 "check_sky" ["sky"] F_check_sky) (c_least_stuck_in : Can P w K mg base 23 "least_stuck_in" ["sky"] (F_lots Sk.stuck)) : Can P w K mg base 24 "least_stuck" ["sky"] (F_lots Sk.stuck) := by
  refine can_of hF sc_least_stuck (fun ds M d M' h => by obtain ⟨_, rfl, _⟩ := h; rfl) (fun _ _ _ _ _ _ us hl => match us, hl with | [_], _ => rfl) fun f cdv A outer s H E C hr ds M d M' h => ?_
  obtain ⟨sk, rfl, ok, rfl, rfl⟩ := h
  refine run_cons (s_drop (e_call c_check_sky (hr.mono (by decide)) (a1 (nm 0)) ⟨sk, rfl, ok, rfl, rfl⟩) ?_)
  exact r_ret (e_call c_least_stuck_in hr (a1 (nm 0)) ⟨sk, rfl, ok, rfl, rfl⟩) ⟨rfl, SubM.refl _⟩
theorem sc_least_sendings : FnScope ["sky", "numbers", "found", "lot", "one"] ["sky"] (defScope (top 57)) := ⟨rfl, rfl, rfl, by decide +kernel, rfl, by decide +kernel, by decide +kernel⟩
theorem ok_least_sendings (T : Tx K mg) (hF : Has K mg "least_sendings" (top 57)) (c_check_sky : Can P w K mg base 8 "check_sky" ["sky"] F_check_sky) (c_lots_of : Can P w K mg base 1 "lots_of" ["numbers"] F_lots_of) (c_holds_one : Can P w K mg base 1 "holds_one" ["lot", "others"] F_holds_one) (c_all_land : Can P w K mg base 22 "all_land" ["sky", "lot"] F_all_land) : Can P w K mg base 23 "least_sendings" ["sky"] (F_lots Sk.sent) := by
  refine can_of hF sc_least_sendings (fun ds M d M' h => by obtain ⟨_, rfl, _⟩ := h; rfl) (fun _ _ _ _ _ _ us hl => match us, hl with | [_], _ => rfl) fun f cdv A outer s H E C hr ds M d M' h => ?_
  obtain ⟨sk, rfl, ok, rfl, rfl⟩ := h
  have n7 := ok.len
  have hln : (lotsF sk.all).length ≤ 128 := lotsF_len (by unfold Sk.all; rw [rgI_len]; exact n7)
  have hal : sk.all.length ≤ 7 := by unfold Sk.all; rw [rgI_len]; exact n7
  refine run_cons (s_drop (e_call c_check_sky (hr.mono (by decide)) (a1 (nm 0)) ⟨sk, rfl, ok, rfl, rfl⟩) ?_)
  refine r_set (d := D.li sk.all) 1 C (e_listN C T.list T.range (e_lenX (xs := sk.gs) (enc := Gld.d) T.len (ixT (nm 0) ev_int)) (by omega)) ?_
  refine run_cons (s_newl 2 C rfl (.inl rfl) ea_nil (by decide) fun lA hlA => ?_)
  refine r_for (ds := ([] :: lotsF sk.all).map D.ti) C (it_list (e_to (e_catL (ev_lst (a1 (ev_tup ea_nil (Nat.le_of_ble_eq_true rfl))) (Nat.le_of_ble_eq_true rfl)) (e_call c_lots_of (hr.mono (by decide)) (a1 (nm 1)) ⟨sk.all, rfl, hal, rfl, rfl⟩) (by rw [List.length_map]; show 1 + _ ≤ _; omega)) rfl))
    (fun k δ' M1 => M1 = updM M' lA (.ml ((greedy (fun l => sk.ok (sk.but l)) (([] :: lotsF sk.all).take k)).map D.ti)) ∧ ∃ y, δ' = [some sk.d, some (D.li sk.all), some (.adr lA), y, none]) ⟨rfl, _, rfl⟩ (fun k d δ' M1 hd ⟨hM, y, hδ⟩ => ?_) (fun δ' M1 ⟨hM, y, hδ⟩ => ?_)
  · subst hM; subst hδ
    obtain ⟨l, hl, rfl⟩ := map_at hd
    have hin : ∀ l ∈ ([] : List Int) :: lotsF sk.all, l.Sublist sk.all := fun l hl => by
      rcases List.mem_cons.mp hl with rfl | h
      · exact List.nil_sublist _
      · exact lotsF_in h
    have hlm := List.mem_of_getElem? hl
    have hls := hin l hlm
    have e1 : greedy (fun l => sk.ok (sk.but l)) (([] :: lotsF sk.all).take (k + 1)) = if (!hasSub l (greedy (fun l => sk.ok (sk.but l)) (([] :: lotsF sk.all).take k)) && sk.ok (sk.but l)) = true then greedy (fun l => sk.ok (sk.but l)) (([] :: lotsF sk.all).take k) ++ [l] else greedy (fun l => sk.ok (sk.but l)) (([] :: lotsF sk.all).take k) := by
      rw [List.take_add_one, hl]
      exact greedyK_snoc _ _ _ _
    have hgl := greedy_len (fun l => sk.ok (sk.but l)) (([] :: lotsF sk.all).take k)
    have hgs := greedy_sub (fun l => sk.ok (sk.but l)) (([] :: lotsF sk.all).take k)
    generalize hg : greedy (fun l => sk.ok (sk.but l)) (([] :: lotsF sk.all).take k) = g at *
    have hgl2 : g.length ≤ 129 := Nat.le_trans hgl (Nat.le_trans (List.length_take_le' _ _) (by rw [List.length_cons]; omega))
    refine ⟨_, _, tn 3 C, ?_⟩
    refine r_if (et_w (ew_and (et_borrow 2 (l := lA) (ds := g.map D.ti) rfl updM_same (et_not (et_val (e_call c_holds_one (hr.mono (by decide)) (aC (nm 3) (a1 (nm 2))) ⟨l, g, rfl, by omega, fun o ho => by
      have := (hin o (List.mem_of_mem_take (hgs o ho))).length_le; omega, rfl, rfl⟩)))) (fun h => (ew_and1 (et_val (e_call c_all_land (hr.mono (by decide)) (aC (nm 0) (a1 (e_tupL T.tuple (ev_lcx (own := [("one", 4)]) sk.all D.int (fun i => !decide (i ∈ l)) D.int C (blkOk_by (by rfl)) (it_list (nm 1)) (by omega) (fun i hi => ⟨[4], _, by simp, fun s1 H1 C1 cl1 fp1 => ⟨(tn 4 C.bk), (ts_one (t_nin (nm 4) (nm 3))), fun _ => (nm 4)⟩⟩))))) ⟨sk, sk.but l, rfl, ok, sk.but_ok l, rfl, rfl⟩)))) (fun _ => rfl))) (fun h => ?_) (fun h => ?_)
    · rw [if_pos h] at e1
      refine run_cons (s_app (nm 2) updM_same (nm 3) updM_same (by rw [List.length_map]; omega) (run_nil (run_nil ⟨?_, _, rfl⟩)))
      rw [e1, updM_updM, List.map_append]
      rfl
    · rw [if_neg (by rw [h]; decide)] at e1
      refine run_nil (run_nil ⟨?_, _, rfl⟩)
      rw [e1]
  · subst hM; subst hδ
    rw [List.length_map, List.take_length]
    exact r_ret (ev_freeze (nm 2) updM_same) ⟨rfl, SubM.fr hlA⟩
end
end Dr
set_option Elab.async false
set_option linter.all false
set_option maxRecDepth 100000
set_option maxHeartbeats 2000000
/-! expressions of which several ends are told, in the order they run -/
namespace Dr
open PySem L2
section
variable {X : Cx} {δ δ' : En} {M M1 M2 : Mp} {De : DE} {Φ : D → Mp → Prop} {pos p : Pos} {e a b o : Expr} {es : List Expr} {rest : List Stmt} {d : D}
def EvAX (X : Cx) (es : List Expr) (δ : En) (M : Mp) (Φ : List D → Mp → Prop) : Prop := ∀ σ G H, SRX X G M H → EnvD X.K G σ δ → WA X es σ H fun vs H' => ∃ ds M' G', Φ ds M' ∧ XtX X G M H G' M' H' ∧ Dts X.K G' vs ds
theorem x_ev (h : Ev X e δ M d M1) (k : Φ d M1) : EvX X e δ M Φ := fun σ G H s E => (h σ G H s E).mono fun v H' ⟨G', x, dd⟩ => ⟨d, M1, G', k, x, dd⟩
theorem xa_ev {ds : List D} {Ψ : List D → Mp → Prop} (h : EvA X es δ M ds M1) (k : Ψ ds M1) : EvAX X es δ M Ψ := fun σ G H s E => (h σ G H s E).mono fun v H' ⟨G', x, dd⟩ => ⟨ds, M1, G', k, x, dd⟩
theorem xa_nil {Ψ : List D → Mp → Prop} (k : Ψ [] M) : EvAX X [] δ M Ψ := xa_ev ea_nil k
theorem xa_cons {Ψ : List D → Mp → Prop} (h : EvX X e δ M fun d M1 => EvAX X es δ M1 fun ds M2 => Ψ (d :: ds) M2) (hs : starEach (e :: es) X.env = (false, eval e X.env) :: starEach es X.env := by rfl) : EvAX X (e :: es) δ M Ψ := fun σ G H s E => by
  refine wa_of (pa_cons we_pe wa_pa hs) ?_
  refine (h σ G H s E).mono fun v H1 ⟨d, M1, G1, hk, x1, d1⟩ => ?_
  exact (hk σ G1 H1 x1.s (E.mono x1.g)).mono fun vs H2 ⟨ds, M2, G2, hk2, x2, d2⟩ => ⟨d :: ds, M2, G2, hk2, x1.trans x2, .cons (d1.mono x2.g) d2⟩
theorem x_tup {x1} (h : EvAX X es δ M fun ds M1 => ds.length ≤ 1000 ∧ Φ (.tup ds) M1) : EvX X (.Tuple es x1 pos) δ M Φ := fun σ G H s E => by
  refine we_of (pe_tupZ wa_pa) ((h σ G H s E).mono fun vs H1 ⟨ds, M1, G1, ⟨hl, hk⟩, x1, d1⟩ => ⟨?_, fun p o hp ho => ?_⟩)
  · rw [d1.length]; exact Nat.le_trans hl (by decide)
  · have y := Xt.alloc (o := .frz o (.tup vs)) x1.s hp
    exact ⟨_, _, _, hk, x1.trans y, .tup ⟨o, upd_same, ho⟩ (d1.mono y.g)⟩
/-- a new list that will change -/
theorem x_newl (h : EvAX X es δ M fun ds M1 => ds.length ≤ 1000 ∧ ∀ l, M1 l = none → Φ (.adr l) (updM M1 l (.ml ds))) : EvX X (.List es pos) δ M Φ := fun σ G H s E => by
  refine we_of (pe_lst wa_pa) ((h σ G H s E).mono fun vs H1 ⟨ds, M1, G1, ⟨hl, hk⟩, x1, d1⟩ => ⟨?_, fun p hp => ?_⟩)
  · rw [d1.length]; exact Nat.le_trans hl (by decide)
  · have y := Xt.allocM (m := .ml ds) x1.s hp (.ml d1)
    exact ⟨_, _, G1, hk p (x1.s.noM hp), x1.trans y, .adr p⟩
theorem x_listRg {n : Nat} {p2 rp : Pos} (C : Cok X) (hm : X.mg "list" = none) (hm2 : X.mg "range" = none) (h : Ev X e δ M (.int (n : Int)) M1) (hb : n ≤ 100000) (k : ∀ l, M1 l = none → Φ (.adr l) (updM M1 l (.ml ((rgI n).map D.int)))) (hg : Gl X "list" := by rfl) (hg2 : Gl X "range" := by rfl) (na : starEach [e] X.env = (false, eval e X.env) :: starEach [] X.env := by rfl)
    (na2 : starEach [.Call (.Name "range" p2) [e] [] rp] X.env = (false, eval (.Call (.Name "range" p2) [e] [] rp) X.env) :: starEach [] X.env := by rfl) : EvX X (.Call (.Name "list" p) [.Call (.Name "range" p2) [e] [] rp] [] pos) δ M Φ := fun σ G H s E => by
  refine we_of (pe_listRg C.calm hg hm (prg_1 hg2 hm2 we_pe na) na2) ((h σ G H s E).mono fun v H1 ⟨G1, x1, d1⟩ => ?_)
  refine ⟨n, dt_int d1, RgOk.of_le (by omega) (by omega) (by omega) (by omega), fun q hq => ?_⟩
  have h0 : Dts X.K G1 (rgV 0 (n : Int)) ((rgI n).map D.int) := by
    have h1 := rgV_dts (K := X.K) (G := G1) (n : Int)
    rw [Int.toNat_natCast, rng_rgI] at h1
    exact h1
  have y := Xt.allocM (m := .ml ((rgI n).map D.int)) x1.s hq (.ml h0)
  exact ⟨_, _, G1, k q (x1.s.noM hq), x1.trans y, .adr q⟩
theorem x_call {α : Type} {Pre : α → List D → Mp → Prop} {F : α → Mp → D → Mp → Prop} {k : Nat} {nm : Str} {ps : List Str} {p : Pos} (C : CanY X.prog X.w X.K X.mg X.base k nm ps Pre F) (hr : Room k X.A) (ha : EvAX X (e :: es) δ M fun ds M1 => ∃ x, Pre x ds M1 ∧ ∀ d M', F x M1 d M' → Φ d M') (hg : Gl X nm := by rfl)
    (hdb : (nm == ("__debug__" : Str)) = false := by decide) (he : starEach (e :: es) X.env = (false, eval e X.env) :: starEach es X.env := by rfl) (hpl : (backTo pos (starEach es X.env)).any (·.1) = false := by rfl) :
    EvX X (.Call (.Name nm p) (e :: es) [] pos) δ M Φ := fun σ G H s E => by
  obtain ⟨f, fd, C⟩ := C
  refine we_of (pe_call C.ok hr hg C.gl C.kp C.bi .nil pass0 wa_pa hdb he hpl) ((ha σ G H s E).mono fun vs H1 ⟨ds, M1, G1, ⟨x, hP, hk⟩, x1, d1⟩ => ?_)
  rw [List.append_nil]
  exact ⟨G1, M1, ds, x, hP, x1.s, d1, fun d M' v G' H' hF x3 d3 => ⟨d, M', G', hk d M' hF, x1.trans x3, d3⟩⟩
theorem s_tgtX {tg : Expr} {js : List Nat} (h : EvX X e δ M fun d M1 => ∃ δ', TgD true X tg js d δ δ' ∧ Run X rest δ' M1 De) (hs : swapsWithSole [tg] e pos.line X.env = pure false := by rfl) (hw : swappedStores [tg] e X.env = pure none := by rfl)
    (h1 : (assignEach [tg] X.env).map (·.2) = [assign tg X.env] := by rfl) : Run X (.Assign [tg] e pos :: rest) δ M De := run_cons fun σ G H s E => by
  refine ws_of (ps_asg we_pe wg_pg hs hw h1) ((h σ G H s E).mono fun v H1 ⟨d, M1, G1, ⟨δ', ht, k⟩, x1, d1⟩ => ?_)
  exact (ht σ G1 H1 v (E.mono x1.g) (.inl d1) x1.s.ex).mono fun σ' H' ⟨e1, E1, _⟩ => by
    subst e1
    exact ⟨_, _, G1, k, x1, E1⟩
theorem s_parX (i j : Nat) {x y : Str} {px py pt : Pos} {kt k2 pt2} (C : Cok X) (hij : i ≠ j) (h : EvAX X [a, b] δ M fun ds M1 => ∃ da db, ds = [da, db] ∧ Run X rest ((δ.set i (some da)).set j (some db)) M1 De)
    (hi : X.N[i]? = some x := by rfl) (hj : X.N[j]? = some y := by rfl) (hx : X.env.scope.names.lookup x = some .local := by rfl) (hy : X.env.scope.names.lookup y = some .local := by rfl)
    (hw : swappedStores [.Tuple [.Name x px, .Name y py] kt pt] (.Tuple [a, b] k2 pt2) X.env = pure (some [x, y]) := by rfl)
    (hs : swapsWithSole [.Tuple [.Name x px, .Name y py] kt pt] (.Tuple [a, b] k2 pt2) pos.line X.env = pure false := by rfl) :
    Run X (.Assign [.Tuple [.Name x px, .Name y py] kt pt] (.Tuple [a, b] k2 pt2) pos :: rest) δ M De := run_cons fun σ G H s E => by
  refine ws_of (ps_par C.calm C.nd hi hj hij hx hy wa_pa hw hs) ((h σ G H s E).mono fun vs H1 ⟨ds, M1, G1, ⟨da, db, hds, k⟩, x1, d1⟩ => ?_)
  subst hds
  obtain ⟨v, w, rfl, h1, h2⟩ := dts2 d1
  exact ⟨v, w, rfl, _, _, G1, k, x1, ((E.mono x1.g).set h1 i).set h2 j⟩
theorem s_appX {l : Addr} {ds0 : List D} {apos cpos : Pos} (ho : Ev X o δ M (.adr l) M) (hM0 : M l = some (.ml ds0)) (h : EvX X e δ M fun d M1 => ∃ ds, M1 l = some (.ml ds) ∧ ds.length ≤ 10000 ∧ Run X rest δ (updM M1 l (.ml (ds ++ [d]))) De)
    (hbase : attributeBase o "append" X.env (eval o X.env) = eval o X.env := by rfl)
    (hfew : ((backTo cpos (starEach [e] X.env)).all (fun x => !x.1) && (backToKw cpos (keywordEach [] X.env)).all (fun x => x.1.isSome)
      && decide ([e].length + ([] : List Keyword).length + (if ([] : List Keyword).isEmpty then 0 else 1) < 30)) = true := by rfl)
    (hline : (apos.endLine == cpos.line) = true := by rfl) (hs : starEach [e] X.env = (false, eval e X.env) :: starEach [] X.env := by rfl) (hplain : (backTo cpos (starEach [] X.env)).any (·.1) = false := by rfl)
    (hsw : swapsWith (.Call (.Attribute o "append" apos) [e] [] cpos) none pos.line X.env = pure false := by rfl) :
    Run X (.Expr (.Call (.Attribute o "append" apos) [e] [] cpos) pos :: rest) δ M De := run_cons fun σ G H s E => by
  refine ws_of (ps_expr (pe_bm PySem.F.plainAttrs_list PySem.F.slot_list_append PySem.F.type_list_append mt_append we_pe (pa_cons we_pe pa_nil hs) hbase hfew hline hs hplain) hsw) ((ho σ G H s E).mono fun v H1 ⟨G1, x1, d1⟩ => ?_)
  rw [dt_adr d1]
  refine ⟨tyV_M x1.s hM0, (h σ G1 H1 x1.s (E.mono x1.g)).mono fun y H2 ⟨d, M1, G2, ⟨ds, hM, hz, k⟩, x2, d2⟩ => ?_⟩
  obtain ⟨vs, h1, h2⟩ := x2.s.ml hM
  refine ⟨l, vs, y, rfl, rfl, h1, ?_, ?_⟩
  · rw [h2.length]; exact Nat.lt_of_le_of_lt hz (by decide)
  · have y := Xt.mutM (m' := .ml (ds ++ [d])) x2.s hM (.ml (h2.app (.cons d2 .nil)))
    exact ⟨_, _, G2, k, (x1.trans x2).trans y, E.mono (x1.g.trans x2.g)⟩
theorem r_retX (h : EvX X e δ M fun d M1 => De.rt d M1) : Run X (.Return (some e) pos :: rest) δ M De := run_cons fun σ G H s E =>
  ws_of (ps_ret we_pe) ((h σ G H s E).mono fun v H1 ⟨d, M1, G1, k, x1, d1⟩ => ⟨d, M1, G1, k, x1, d1⟩)
section
variable {scope : Scope} {elt tg iter : Expr} {ifs : List Expr} {own : List (Str × Nat)} {ds : List D} {stt : Bool}
/-- a comprehension whose list will change -/
theorem x_lc (C : Cok X) (ok : BlkOk X.N X.env.scope scope own) (hi : ItD stt X tg iter δ M ds M1) (acc : Nat → List D) (Mf : Nat → Mp) (a0 : acc 0 = []) (m0 : Mf 0 = M1) (hz : ds.length ≤ 10000)
    (turn : ∀ i d, ds[i]? = some d → ∃ b r, Turn1 stt X scope tg ifs elt (own.map (·.2)) d δ (Mf i) b r (Mf (i + 1)) ∧ acc (i + 1) = acc i ++ (if b = true then [r] else []))
    (k : ∀ l, Mf ds.length l = none → Φ (.adr l) (updM (Mf ds.length) l (.ml (acc ds.length)))) (hs : ∀ x, foldedSetIterable iter X.env x = pure x := by intro _; rfl) :
    EvX X (.ListComp elt [⟨tg, iter, ifs, 0⟩] scope pos) δ M Φ := fun σ G H s E =>
  we_of (pe_lc C.calm C.nd wi_pi ok (fun s H C cl fp => ⟨fun pins s1 _ _ _ u _ I r h => h s H C cl fp pins s1 u I r⟩) (fun s H C cl fp => ⟨fun pins s1 _ _ _ I h => h s H C cl fp pins s1 I⟩) (fun s H C cl fp => ⟨fun pins s1 _ _ _ I h => h s H C cl fp pins s1 I⟩) hs)
    (lcg_ hi acc Mf a0 m0 hz turn s E fun Dl us G' H' x' hD gD mD hH hus => by
      refine ⟨_, _, G', k Dl mD, ⟨x'.g, ⟨x'.s.ex, fun a m q => ?_⟩, x'.fr, x'.ng, fun a q => ?_, x'.dm⟩, .adr Dl⟩
      · by_cases z : a = Dl
        · subst z
          rw [updM_same] at q
          cases q
          exact ⟨gD, _, hH, .ml hus⟩
        · rw [updM_ne z] at q
          exact x'.s.mu a m q
      · by_cases z : a = Dl
        · subst z; exact .inr hD
        · rw [updM_ne z] at q; exact x'.nm a q)
end
end
end Dr
set_option Elab.async false
set_option linter.all false
set_option maxRecDepth 100000
set_option maxHeartbeats 2000000
/-! the walks of the law's small parts -/
namespace Dr
open PySem L2
section
variable {X : Cx} {δ : En} {M M1 M2 : Mp} {pos p : Pos} {e : Expr} {i : Int}
theorem e_neg (h : Ev X e δ M (.int i) M1) : Ev X (.UnaryOp .USub e pos) δ M (.int (-i)) M1 := ev_un un_neg (fun G H v s h Q k => by
  rw [dt_int h]
  exact ⟨i, rfl, k _ G H (Xt.refl s) (.int _)⟩) h
/-- one of a list of whole numbers -/
theorem pick (L : List Int) {i : Int} (h0 : 0 ≤ i) (h1 : i < L.length) : atI (L.map D.int) i = some (.int (L.getD i.toNat 0)) := by
  rw [atI_pos h0, List.getElem?_map, at_lt (by omega) 0]
  rfl
theorem pick_mem (L : List Int) {i : Int} (h0 : 0 ≤ i) (h1 : i < L.length) : L.getD i.toNat 0 ∈ L := List.mem_of_getElem? (at_lt (by omega) 0)
end
/-- the hits of a list of lots -/
def meets (os : List (List Int)) (l : List Int) : Bool := os.all fun o => o.any fun x => decide (x ∈ l)
def hits (ls os : List (List Int)) : List (List Int) := greedy (meets os) ls
section
variable {P : Program} {w : World} {K : PySem.W.Frag} {mg : Str → Option Value} {base : Heap}
def F_take : FS := fun ds M d M' => ∃ pa n k, ds = [.adr pa, .int k] ∧ M pa = some (.ml [.int n]) ∧ (0 < k ∧ k < 1073741824) ∧ d = .int (n % k) ∧ M' = updM M pa (.ml [.int (n / k)])
theorem sc_law_take : FnScope ["_law_pot_here", "_law_wide", "_law_found"] ["_law_pot_here", "_law_wide"] (defScope (top 61)) := ⟨rfl, rfl, rfl, by decide +kernel, rfl, by decide +kernel, by decide +kernel⟩
theorem ok_law_take (T : Tx K mg) (hF : Has K mg "_law_take" (top 61)) : Can P w K mg base 1 "_law_take" ["_law_pot_here", "_law_wide"] F_take := by
  refine can_of hF sc_law_take (fun ds M d M' h => by obtain ⟨_, _, _, rfl, _⟩ := h; rfl) (fun _ _ _ _ _ _ us hl => match us, hl with | [_, _], _ => rfl) fun f cdv A outer s H E C hr ds M d M' h => ?_
  obtain ⟨pa, n, k, rfl, hM, hk, rfl, rfl⟩ := h
  refine r_set 2 C (e_mod (ixM (nm 0) ev_int hM) (nm 1) hk.1) ?_
  refine run_cons (s_seti (e_div (ixM (nm 0) ev_int hM) (nm 1) hk) (nm 0) ev_int hM (j := 0) rfl ?_)
  exact r_ret (nm 2) ⟨rfl, SubM.refl _⟩

def PreP (c : Int) (ds : List D) (M : Mp) : Prop := ds = [.int c]
def PostP (c : Int) (M : Mp) (d : D) (M' : Mp) : Prop := ∃ l n, M l = none ∧ d = .adr l ∧ M' = updM M l (.ml [.int n])
theorem sc_law_pot : FnScope ["_law_cell", "_law_number", "_law_j", "_law_more"] ["_law_cell"] (defScope (top 60)) := ⟨rfl, rfl, rfl, by decide +kernel, rfl, by decide +kernel, by decide +kernel⟩
theorem ok_law_pot (T : Tx K mg) (hF : Has K mg "_law_pot" (top 60)) : CanY P w K mg base 1 "_law_pot" ["_law_cell"] PreP PostP := by
  refine canY_of hF sc_law_pot (fun x ds M h => by unfold PreP at h; subst h; rfl) (fun _ _ _ _ _ _ us hl => match us, hl with | [_], _ => rfl) fun f cdv A outer s H E C hr c ds M h => ?_
  unfold PreP at h
  subst h
  refine r_if (t_ge (nm 0) (e_pow ev_int ev_int ⟨by omega, by omega, by decide⟩)) (fun h => ?_) (fun h => ?_)
  · exact r_retX (x_newl (xa_cons (x_ev (e_sub (nm 0) (e_pow ev_int ev_int ⟨by omega, by omega, by decide⟩)) (xa_nil ⟨Nat.le_of_ble_eq_true rfl, fun l hl => ⟨_, ⟨l, _, hl, rfl, rfl⟩, SubM.refl _⟩⟩))))
  · refine run_nil (r_set 1 C ev_int ?_)
    refine r_for (ds := (rgI 64).map D.int) C (it_rg (n := 64) T.range (a1 ev_int) (by omega)) (fun k δ' M1 => M1 = M ∧ ∃ n x y, δ' = [some (.int c), some (.int n), x, y]) ⟨rfl, _, _, _, rfl⟩ (fun k d δ' M1 hd ⟨hM, n, x, y, hδ⟩ => ?_) (fun δ' M1 ⟨hM, n, x, y, hδ⟩ => ?_)
    · subst hM; subst hδ
      obtain ⟨j, hj, rfl⟩ := map_at hd
      refine ⟨_, _, tn 2 C, ?_⟩
      refine r_set 3 C (e_mod (e_mul (e_add (e_add (e_mod (nm 0) ev_int (by omega)) (e_mul ev_int (nm 2) (.inl (by omega)))) ev_int) ev_int (.inr (by omega))) ev_int (by omega)) ?_
      generalize hm : (c % 2147483629 + 7919 * j + 1) * 48271 % 2147483647 = m
      have hm1 : 0 ≤ m ∧ m < 2147483647 := by omega
      refine r_set 3 C (e_mod (e_add (e_add (e_mul (nm 3) (nm 3) (.inl (by omega))) (e_mul ev_int (nm 2) (.inl (by omega)))) ev_int) ev_int (by omega)) ?_
      exact r_set 1 C (e_add (e_mul (nm 1) ev_int (.inr (by omega))) (nm 3)) (run_nil ⟨rfl, _, _, _, rfl⟩)
    · subst hM; subst hδ
      exact r_retX (x_newl (xa_cons (x_ev (nm 1) (xa_nil ⟨Nat.le_of_ble_eq_true rfl, fun l hl => ⟨_, ⟨l, _, hl, rfl, rfl⟩, SubM.refl _⟩⟩))))

def F_law_lots : FS := fun ds M d M' => ∃ n : Nat, ds = [.int (n : Nat)] ∧ n ≤ 7 ∧ d = .lst ((sortL (lotsG (rgI n))).map D.ti) ∧ M' = M
theorem sc_law_lots : FnScope ["_law_many", "_law_found", "_law_one", "_law_lot", "_law_long"] ["_law_many"] (defScope (top 65)) := ⟨rfl, rfl, rfl, by decide +kernel, rfl, by decide +kernel, by decide +kernel⟩
theorem ok_law_lots (T : Tx K mg) (hF : Has K mg "_law_lots" (top 65)) : Can P w K mg base 1 "_law_lots" ["_law_many"] F_law_lots := by
  refine can_of hF sc_law_lots (fun ds M d M' h => by obtain ⟨_, rfl, _⟩ := h; rfl) (fun _ _ _ _ _ _ us hl => match us, hl with | [_], _ => rfl) fun f cdv A outer s H E C hr ds M d M' h => ?_
  obtain ⟨n, rfl, n7, rfl, rfl⟩ := h
  refine r_set (d := .lst (([[]] : List (List Int)).map D.ti)) 1 C (ev_lst (a1 (ev_tup ea_nil (Nat.le_of_ble_eq_true rfl))) (Nat.le_of_ble_eq_true rfl)) ?_
  refine r_for (ds := (rgI n).map D.int) C (it_rg T.range (a1 (nm 0)) (by omega)) (fun k δ' M1 => M1 = M' ∧ ∃ y, δ' = [some (.int (n : Nat)), some (.lst ((lotsG ((rgI n).take k)).map D.ti)), y, none, none]) ⟨rfl, _, rfl⟩ (fun k d δ' M1 hd ⟨hM, y, hδ⟩ => ?_) (fun δ' M1 ⟨hM, y, hδ⟩ => ?_)
  · subst hM; subst hδ
    obtain ⟨x, hx, rfl⟩ := map_at hd
    have hk := lt_at hx
    rw [rgI_len] at hk
    have e1 : (rgI n).take (k + 1) = (rgI n).take k ++ [x] := by rw [List.take_add_one, hx]; rfl
    have hl1 : (lotsG ((rgI n).take k)).length ≤ 128 := by
      rw [lotsG_len, List.length_take]
      exact pow7 (by omega)
    refine ⟨_, _, tn 2 C, ?_⟩
    refine r_set (d := .lst ((lotsG ((rgI n).take (k + 1))).map D.ti)) 1 C (e_to (e_catL (nm 1) (ev_lcm (own := [("_law_lot", 3)]) (lotsG ((rgI n).take k)) D.ti (fun l => D.ti (l ++ [x])) C (blkOk_by (by rfl)) (it_list (nm 1)) (by omega) (fun l hl => ⟨[3], _, by simp, fun s1 H1 C1 cl1 fp1 => ⟨(tn 3 C.bk), ts_nil, fun _ => e_to (e_catT (nm 3) (ev_tup (a1 (nm 2)) (Nat.le_of_ble_eq_true rfl)) ?_) ?_⟩⟩)) ?_) ?_) (run_nil ⟨rfl, some (.int x), rfl⟩)
    · have h1 := lotsG_mem_len hl
      rw [List.length_take] at h1
      rw [List.length_map]
      show l.length + 1 ≤ 1000
      omega
    · rw [D.ti, List.map_append]
      rfl
    · rw [List.length_map, List.length_map]
      omega
    · rw [e1, lotsG_snoc, List.map_append, List.map_map]
      rfl
  · subst hM; subst hδ
    rw [List.length_map, List.take_length]
    have hl1 : (lotsG (rgI n)).length ≤ 128 := by
      rw [lotsG_len, rgI_len]
      exact pow7 n7
    have hl2 : (sortL (lotsG (rgI n))).length ≤ 128 := by rw [(sortL_perm _).length_eq]; exact hl1
    exact r_ret (ev_lcm (own := [("_law_long", 4), ("_law_lot", 3)]) (sortL (lotsG (rgI n))) lotE D.ti C (blkOk_by (by rfl)) (it_list (e_sortLots C T.sorted (ev_lcm (own := [("_law_lot", 3)]) (lotsG (rgI n)) D.ti lotE C (blkOk_by (by rfl)) (it_list (nm 1)) (by omega) (fun l hl => ⟨[3], _, by simp, fun s1 H1 C1 cl1 fp1 => ⟨(tn 3 C.bk), ts_nil, fun _ => (ev_tup (aC (e_lenX (xs := l) (enc := D.int) T.len (nm 3)) (a1 (nm 3))) (Nat.le_of_ble_eq_true rfl))⟩⟩)))) (by omega) (fun l hl => ⟨[4, 3], _, by simp, fun s1 H1 C1 cl1 fp1 => ⟨(tg_tup C.bk (tgs_cons (tn 4 C.bk) (tgs_cons (tn 3 C.bk) tgs_nil))), ts_nil, fun _ => (nm 3)⟩⟩)) ⟨rfl, SubM.refl _⟩

def F_law_hits : FS := fun ds M d M' => ∃ ls os : List (List Int), ds = [.lst (ls.map D.ti), .lst (os.map D.ti)] ∧ ls.length ≤ 200 ∧ os.length ≤ 200 ∧ (∀ l ∈ ls, l.length ≤ 1000) ∧ (∀ o ∈ os, o.length ≤ 1000) ∧ d = .lst ((hits ls os).map D.ti) ∧ M' = M
theorem sc_law_hits : FnScope ["_law_lots_here", "_law_others", "_law_found", "_law_lot", "_law_shares", "_law_one", "_law_other", "_law_less"] ["_law_lots_here", "_law_others"] (defScope (top 67)) := ⟨rfl, rfl, rfl, by decide +kernel, rfl, by decide +kernel, by decide +kernel⟩
theorem ok_law_hits (T : Tx K mg) (hF : Has K mg "_law_hits" (top 67)) : Can P w K mg base 1 "_law_hits" ["_law_lots_here", "_law_others"] F_law_hits := by
  refine can_of hF sc_law_hits (fun ds M d M' h => by obtain ⟨_, _, rfl, _⟩ := h; rfl) (fun _ _ _ _ _ _ us hl => match us, hl with | [_, _], _ => rfl) fun f cdv A outer s H E C hr ds M d M' h => ?_
  obtain ⟨ls, os, rfl, hls, hos, hll, hol, rfl, rfl⟩ := h
  refine run_cons (s_newl 2 C rfl (.inl rfl) ea_nil (by decide) fun lA hlA => ?_)
  refine r_for (ds := ls.map D.ti) C (it_list (nm 0)) (fun k δ' M1 => M1 = updM M' lA (.ml ((hits (ls.take k) os).map D.ti)) ∧ ∃ y z, δ' = [some (.lst (ls.map D.ti)), some (.lst (os.map D.ti)), some (.adr lA), y, z, none, none, none]) ⟨rfl, _, _, rfl⟩ (fun k d δ' M1 hd ⟨hM, y, z, hδ⟩ => ?_) (fun δ' M1 ⟨hM, y, z, hδ⟩ => ?_)
  · subst hM; subst hδ
    obtain ⟨l, hl, rfl⟩ := map_at hd
    have e1 : hits (ls.take (k + 1)) os = if (!hasSub l (hits (ls.take k) os) && meets os l) = true then hits (ls.take k) os ++ [l] else hits (ls.take k) os := by
      unfold hits
      rw [List.take_add_one, hl]
      exact greedyK_snoc _ _ _ _
    have hgl : (hits (ls.take k) os).length ≤ 200 := Nat.le_trans (greedy_len (meets os) (ls.take k)) (Nat.le_trans (List.length_take_le' _ _) hls)
    have hgs : ∀ g ∈ hits (ls.take k) os, g.length ≤ 1000 := fun g hg => hll g (List.mem_of_mem_take (greedy_sub (meets os) (ls.take k) g hg))
    generalize hits (ls.take k) os = g at *
    refine ⟨_, _, tn 3 C, ?_⟩
    refine r_set (d := .bl (meets os l)) 4 C (e_allX (own := [("_law_other", 6)]) os D.ti (fun o => o.any fun x => decide (x ∈ l)) C (blkOk_by (by rfl)) T.all (it_list (nm 1)) (by omega) (fun o ho => ⟨[6], _, by simp, fun s1 H1 C1 cl1 fp1 => ⟨(tn 6 C.bk), ts_nil, fun _ => (e_anyX (own := [("_law_one", 5)]) o D.int (fun x => decide (x ∈ l)) C.bk (blkOk_by (by rfl)) T.any (it_tup (nm 6)) (by have := hol o ho; omega) (fun x hx => ⟨[5], _, by simp, fun s1 H1 C1 cl1 fp1 => ⟨(tn 5 C.bk.bk), ts_nil, fun _ => (e_in (nm 5) (nm 3))⟩⟩))⟩⟩)) ?_
    refine r_if (et_w (ew_and (et_val (nm 4)) (fun h => (ew_and1 (et_borrow 2 (l := lA) (ds := g.map D.ti) rfl updM_same (et_not (et_val (e_anyX (own := [("_law_less", 7)]) g D.ti (fun o => o.all fun x => decide (x ∈ l)) C (blkOk_by (by rfl)) T.any (it_list (nm 2)) (by omega) (fun o ho => ⟨[7], _, by simp, fun s1 H1 C1 cl1 fp1 => ⟨(tn 7 C.bk), ts_nil, fun _ => (e_allX (own := [("_law_one", 5)]) o D.int (fun x => decide (x ∈ l)) C.bk (blkOk_by (by rfl)) T.all (it_tup (nm 7)) (by have := hgs o ho; omega) (fun x hx => ⟨[5], _, by simp, fun s1 H1 C1 cl1 fp1 => ⟨(tn 5 C.bk.bk), ts_nil, fun _ => (e_in (nm 5) (nm 3))⟩⟩))⟩⟩))))))) (fun _ => rfl))) (fun h => ?_) (fun h => ?_)
    · have h' : (!hasSub l g && meets os l) = true := by rw [Bool.and_comm]; exact h
      rw [if_pos h'] at e1
      refine run_cons (s_app (nm 2) updM_same (nm 3) updM_same (by rw [List.length_map]; omega) (run_nil (run_nil ⟨?_, _, _, rfl⟩)))
      rw [e1, updM_updM, List.map_append]
      rfl
    · have h' : (!hasSub l g && meets os l) = false := by rw [Bool.and_comm]; exact h
      rw [if_neg (by rw [h']; decide)] at e1
      refine run_nil (run_nil ⟨?_, _, _, rfl⟩)
      rw [e1]
  · subst hM; subst hδ
    rw [List.length_map, List.take_length]
    exact r_ret (ev_freeze (nm 2) updM_same) ⟨rfl, SubM.fr hlA⟩
end
end Dr
set_option Elab.async false
set_option linter.all false
set_option maxRecDepth 100000
set_option maxHeartbeats 2000000
/-! the walk of _law_gaps: a table that is filled and made straight -/
namespace Dr
open PySem L2
/-! ### the table -/
def rowL (q : Nat) (r : Nat → Int) : List Int := (List.range q).map r
def matL (q : Nat) (m : Nat → Nat → Int) : List (List Int) := (List.range q).map fun i => rowL q (m i)
def fwm (c : Nat) (m : Nat → Nat → Int) (i j : Nat) : Int := min (m i j) (m i c + m c j)
def fwk (m : Nat → Nat → Int) : Nat → Nat → Nat → Int
  | 0 => m
  | c + 1 => fwm c (fwk m c)
def mixm (c a : Nat) (m : Nat → Nat → Int) (i j : Nat) : Int := if i < a then fwm c m i j else m i j
theorem rowL_len (q : Nat) (r : Nat → Int) : (rowL q r).length = q := by unfold rowL; rw [List.length_map, List.length_range]
theorem matL_len (q : Nat) (m : Nat → Nat → Int) : (matL q m).length = q := by unfold matL; rw [List.length_map, List.length_range]
theorem rowL_at {q : Nat} {r : Nat → Int} {j : Nat} (h : j < q) : (rowL q r)[j]? = some (r j) := by
  unfold rowL
  rw [List.getElem?_map, List.getElem?_range h]
  rfl
theorem matL_at {q : Nat} {m : Nat → Nat → Int} {i : Nat} (h : i < q) : (matL q m)[i]? = some (rowL q (m i)) := by
  unfold matL
  rw [List.getElem?_map, List.getElem?_range h]
  rfl
theorem rowL_congr {q : Nat} {r r' : Nat → Int} (h : ∀ j, j < q → r j = r' j) : rowL q r = rowL q r' := List.map_congr_left fun j hj => h j (List.mem_range.mp hj)
theorem matL_congr {q : Nat} {m m' : Nat → Nat → Int} (h : ∀ i j, i < q → j < q → m i j = m' i j) : matL q m = matL q m' := List.map_congr_left fun i hi => rowL_congr fun j hj => h i j (List.mem_range.mp hi) hj
theorem matL_set {q : Nat} {m m' : Nat → Nat → Int} {a : Nat} (h : ∀ i j, i < q → j < q → i ≠ a → m i j = m' i j) : (matL q m).set a (rowL q (m' a)) = matL q m' := by
  apply List.ext_getElem?
  intro i
  rw [List.getElem?_set]
  by_cases hi : i < q
  · rw [matL_at hi, matL_at hi, matL_len]
    by_cases e : a = i
    · subst e
      rw [if_pos rfl, if_pos hi]
    · rw [if_neg e, rowL_congr fun j hj => h i j hi hj fun z => e z.symm]
  · have h1 : (matL q m)[i]? = none := List.getElem?_eq_none (by rw [matL_len]; omega)
    have h2 : (matL q m')[i]? = none := List.getElem?_eq_none (by rw [matL_len]; omega)
    rw [h1, h2, matL_len]
    by_cases e : a = i
    · rw [if_pos e, if_neg (by omega)]
    · rw [if_neg e]
structure Pos1 (q : Nat) (m : Nat → Nat → Int) : Prop where
  lo : ∀ i j, i < q → j < q → 1 ≤ m i j
  hi : ∀ i j, i < q → j < q → m i j ≤ 99
theorem Pos1.fw {q c : Nat} {m : Nat → Nat → Int} (h : Pos1 q m) (hc : c < q) : Pos1 q (fwm c m) := ⟨fun i j hi hj => by
  have h1 := h.lo i j hi hj; have h2 := h.lo i c hi hc; have h3 := h.lo c j hc hj
  unfold fwm; omega, fun i j hi hj => by
  have h1 := h.hi i j hi hj
  unfold fwm; omega⟩
theorem Pos1.fwk {q : Nat} {m : Nat → Nat → Int} (h : Pos1 q m) : ∀ c, c ≤ q → Pos1 q (fwk m c)
  | 0, _ => h
  | c + 1, hc => (h.fwk c (by omega)).fw (by omega)
theorem fw_tri {q : Nat} {m : Nat → Nat → Int} (h : Pos1 q m) : ∀ k, k ≤ q → ∀ c, c < k → ∀ i j, i < q → j < q → fwk m k i j ≤ fwk m k i c + fwk m k c j
  | 0, _, c, hc, _, _, _, _ => by omega
  | k + 1, hk, c, hc, i, j, hi, hj => by
    have P := h.fwk k (by omega)
    have T := fw_tri h k (by omega)
    have hkq : k < q := by omega
    show fwm k (fwk m k) i j ≤ fwm k (fwk m k) i c + fwm k (fwk m k) c j
    unfold fwm
    generalize fwk m k = d at *
    have p1 := P.lo i k hi hkq
    have p2 := P.lo k j hkq hj
    have p3 := P.lo k k hkq hkq
    by_cases e : c = k
    · subst e
      omega
    · have hck : c < k := by omega
      have hcq : c < q := by omega
      have t1 := T c hck i j hi hj
      have t2 := T c hck k j hkq hj
      have t3 := T c hck i k hi hkq
      have p4 := P.lo i c hi hcq
      have p5 := P.lo c j hcq hj
      have p6 := P.lo k c hkq hcq
      have p7 := P.lo c k hcq hkq
      omega
theorem gapAt_mat {q : Nat} {m : Nat → Nat → Int} {i j : Int} (h0 : 0 ≤ i) (h1 : i < q) (h2 : 0 ≤ j) (h3 : j < q) : gapAt (matL q m) i j = m i.toNat j.toNat := by
  unfold gapAt
  rw [getD_at (matL_at (by omega)), getD_at (rowL_at (by omega))]
theorem fw_ok {q : Nat} {m : Nat → Nat → Int} (h : Pos1 q m) (h1 : 1 ≤ q) (h4 : q ≤ 4) : GapsOk (matL q (fwk m q)) where
  n1 := by rw [matL_len]; exact h1
  n4 := by rw [matL_len]; exact h4
  sq := fun r hr => by
    obtain ⟨i, hi, rfl⟩ := List.mem_map.mp hr
    rw [rowL_len, matL_len]
  bd := fun r hr g hg => by
    obtain ⟨i, hi, rfl⟩ := List.mem_map.mp hr
    obtain ⟨j, hj, rfl⟩ := List.mem_map.mp hg
    have P := h.fwk q (Nat.le_refl q)
    exact ⟨P.lo i j (List.mem_range.mp hi) (List.mem_range.mp hj), P.hi i j (List.mem_range.mp hi) (List.mem_range.mp hj)⟩
  tri := fun a b c ha0 ha1 hb0 hb1 hc0 hc1 => by
    rw [matL_len] at ha1 hb1 hc1
    rw [gapAt_mat ha0 ha1 hb0 hb1, gapAt_mat ha0 ha1 hc0 hc1, gapAt_mat hc0 hc1 hb0 hb1]
    exact fw_tri h q (Nat.le_refl q) c.toNat (by omega) a.toNat b.toNat (by omega) (by omega)
/-- dividing by k, j times -/
def dv (n k : Int) : Nat → Int
  | 0 => n
  | j + 1 => dv n k j / k
theorem e_toM {X : Cx} {δ : En} {e : Expr} {M M1 M2 : Mp} {d d' : D} (h : Ev X e δ M d M1) (hd : d = d') (hm : M1 = M2) : Ev X e δ M d' M2 := hd ▸ hm ▸ h
section
variable {P : Program} {w : World} {K : PySem.W.Frag} {mg : Str → Option Value} {base : Heap}
structure PA where
  pa : Addr
  n : Int
def PreG (x : PA) (ds : List D) (M : Mp) : Prop := ds = [.adr x.pa] ∧ M x.pa = some (.ml [.int x.n])
def PostG (x : PA) (M : Mp) (d : D) (M' : Mp) : Prop := ∃ gaps n', GapsOk gaps ∧ d = gapsD gaps ∧ M' = updM M x.pa (.ml [.int n'])
theorem sc_law_gaps : FnScope ["_law_pot_here", "_law_many", "_law_far", "_law_found", "_law_b", "_law_a", "_law_c", "_law_row"] ["_law_pot_here"] (defScope (top 62)) := ⟨rfl, rfl, rfl, by decide +kernel, rfl, by decide +kernel, by decide +kernel⟩
theorem ok_law_gaps (T : Tx K mg) (hF : Has K mg "_law_gaps" (top 62)) (c_law_take : Can P w K mg base 1 "_law_take" ["_law_pot_here", "_law_wide"] F_take) : CanY P w K mg base 2 "_law_gaps" ["_law_pot_here"] PreG PostG := by
  refine canY_of hF sc_law_gaps (fun x ds M h => by obtain ⟨rfl, _⟩ := h; rfl) (fun _ _ _ _ _ _ us hl => match us, hl with | [_], _ => rfl) fun f cdv A outer s H E C hr x ds M h => ?_
  obtain ⟨pa, n⟩ := x
  obtain ⟨rfl, hM⟩ := h
  dsimp only at hM ⊢
  obtain ⟨q, hq⟩ : ∃ q : Nat, (1 + n % 4 : Int) = q := ⟨(1 + n % 4).toNat, by omega⟩
  have q1 : 1 ≤ q := by omega
  have q4 : q ≤ 4 := by omega
  refine s_tgtX (x_tup (xa_cons (x_ev (e_to (e_add ev_int (e_call c_law_take hr (aC (nm 0) (a1 ev_int)) ⟨pa, n, 4, rfl, hM, by omega, rfl, rfl⟩)) (congrArg D.int hq)) (xa_cons (x_ev (ixL (ev_lst (aC ev_int (aC ev_int (a1 ev_int))) (Nat.le_of_ble_eq_true rfl)) (e_call c_law_take hr (aC (nm 0) (a1 ev_int)) ⟨pa, n / 4, 3, rfl, updM_same, by omega, rfl, rfl⟩) (pick [3, 12, 40] (by omega) (by show _ < (3 : Int); omega))) (xa_nil ⟨Nat.le_of_ble_eq_true rfl, _, tg_tup C (tgs_cons (tn 1 C) (tgs_cons (tn 2 C) tgs_nil)), ?_⟩))))))
  have hfm := pick_mem [3, 12, 40] (i := n / 4 % 3) (by omega) (by show _ < (3 : Int); omega)
  generalize ([3, 12, 40] : List Int).getD (n / 4 % 3).toNat 0 = far at *
  have hfar : 1 ≤ far ∧ far ≤ 40 := by
    simp only [List.mem_cons, List.not_mem_nil, or_false] at hfm
    omega
  rw [updM_updM]
  generalize n / 4 / 3 = n2
  refine r_setX 3 C (x_lc (own := [("_law_a", 5)]) (ds := (rgI q).map D.int) C (blkOk_by (by rfl)) (it_rg T.range (a1 (nm 1)) (by omega)) (fun a => (List.range a).map fun a => D.li (rowL q fun b => 1 + dv n2 far (a * q + b) % far)) (fun a => updM M pa (.ml [.int (dv n2 far (a * q))])) rfl (by rw [Nat.zero_mul]; rfl) (by rw [List.length_map, rgI_len]; omega) (fun a d hd => ?_) (fun fA hfA => ?_)) (fun d M1 hh => hh)
  · obtain ⟨x, hx, rfl⟩ := map_at hd
    have hlt := lt_at hx
    rw [rgI_len] at hlt
    refine ⟨true, D.li (rowL q fun b => 1 + dv n2 far (a * q + b) % far), ⟨[5], _, _, by simp, fun s1 H1 C1 cl1 fp1 => ⟨(tn 5 C.bk), ts_nil, fun _ => ?_, fun h => nomatch h⟩⟩, ?_⟩
    · refine e_toM (ev_lc (own := [("_law_b", 4)]) (ds := (rgI q).map D.int) C.bk (blkOk_by (by rfl)) (it_rg T.range (a1 (nm 1)) (by omega)) (fun b => (List.range b).map fun b => D.int (1 + dv n2 far (a * q + b) % far)) (fun b => updM M pa (.ml [.int (dv n2 far (a * q + b))])) rfl rfl (by rw [List.length_map, rgI_len]; omega) (fun b d hd => ?_)) ?_ ?_
      · obtain ⟨y, hy, rfl⟩ := map_at hd
        refine ⟨true, .int (1 + dv n2 far (a * q + b) % far), ⟨[4], _, _, by simp, fun s2 H2 C2 cl2 fp2 => ⟨(tn 4 C.bk.bk), ts_nil, fun _ => e_add ev_int (e_call c_law_take hr (aC (nm 0) (a1 (nm 2))) ⟨pa, dv n2 far (a * q + b), far, rfl, updM_same, by omega, rfl, ?_⟩), fun h => nomatch h⟩⟩, ?_⟩
        · rw [updM_updM]
          rfl
        · rw [List.range_succ, List.map_append]
          rfl
      · rw [List.length_map, rgI_len]
        exact congrArg D.lst (by unfold rowL; rw [List.map_map]; rfl)
      · rw [List.length_map, rgI_len, Nat.succ_mul]
    · rw [List.range_succ, List.map_append]; rfl
  · rw [List.length_map, rgI_len] at hfA ⊢
    have hpf : pa ≠ fA := fun e => by rw [← e, updM_same] at hfA; cases hfA
    have hMf : M fA = none := by rw [updM_ne (fun e => hpf e.symm)] at hfA; exact hfA
    generalize dv n2 far (q * q) = n3
    have P0 : Pos1 q (fun a b => 1 + dv n2 far (a * q + b) % far) := ⟨fun i j _ _ => by have := Int.emod_nonneg (dv n2 far (i * q + j)) (b := far) (by omega); show 1 ≤ 1 + dv n2 far (i * q + j) % far; omega, fun i j _ _ => by have := Int.emod_lt_of_pos (dv n2 far (i * q + j)) (b := far) (by omega); show 1 + dv n2 far (i * q + j) % far ≤ 99; omega⟩
    have e0 : ((List.range q).map fun a => D.li (rowL q fun b => 1 + dv n2 far (a * q + b) % far)) = (matL q (fun a b => 1 + dv n2 far (a * q + b) % far)).map D.li := by unfold matL; rw [List.map_map]; rfl
    rw [e0]
    generalize (fun a b => 1 + dv n2 far (a * q + b) % far) = m0 at P0
    refine r_for (ds := (rgI q).map D.int) C (it_rg T.range (a1 (nm 1)) (by omega)) (fun c δ' M1 => M1 = updM (updM M pa (.ml [.int n3])) fA (.ml ((matL q (fwk m0 c)).map D.li)) ∧ ∃ x y, δ' = [some (.adr pa), some (.int (q : Nat)), some (.int far), some (.adr fA), none, x, y, none]) ⟨rfl, _, _, rfl⟩ (fun c d δ' M1 hd ⟨hM1, x, y, hδ⟩ => ?_) (fun δ' M1 ⟨hM1, x, y, hδ⟩ => ?_)
    · subst hM1; subst hδ
      obtain ⟨ci, hci, rfl⟩ := map_at hd
      have hc := lt_at hci
      rw [rgI_len] at hc
      have hce : ci = (c : Int) := by
        have h1 := rng_at (lo := 0) hc
        rw [rng_rgI, List.getElem?_map, hci] at h1
        have h2 := Option.some.inj h1
        cases h2
        omega
      subst hce
      have P := P0.fwk c (by omega)
      refine ⟨_, _, tn 6 C, ?_⟩
      have em : fwk m0 (c + 1) = fwm c (fwk m0 c) := rfl
      rw [em]
      generalize fwk m0 c = m at *
      refine r_for (ds := (rgI q).map D.int) C (it_rg T.range (a1 (nm 1)) (by omega)) (fun a δ' M1 => M1 = updM (updM M pa (.ml [.int n3])) fA (.ml ((matL q (mixm c a m)).map D.li)) ∧ ∃ x, δ' = [some (.adr pa), some (.int (q : Nat)), some (.int far), some (.adr fA), none, x, some (.int (c : Int)), none]) ⟨by rw [matL_congr (m := mixm c 0 m) (m' := m) fun i j _ _ => by unfold mixm; rw [if_neg (by omega)]], _, rfl⟩ (fun a d δ' M1 hd ⟨hM1, x, hδ⟩ => ?_) (fun δ' M1 ⟨hM1, x, hδ⟩ => ?_)
      · subst hM1; subst hδ
        obtain ⟨ai, hai, rfl⟩ := map_at hd
        have ha := lt_at hai
        rw [rgI_len] at ha
        have hae : ai = (a : Int) := by
          have h1 := rng_at (lo := 0) ha
          rw [rng_rgI, List.getElem?_map, hai] at h1
          have h2 := Option.some.inj h1
          cases h2
          omega
        subst hae
        refine ⟨_, _, tn 5 C, ?_⟩
        have hra : atI ((matL q (mixm c a m)).map D.li) (a : Int) = some (D.li (rowL q (mixm c a m a))) := by rw [atI_pos (by omega), List.getElem?_map, Int.toNat_natCast, matL_at ha]; rfl
        have hrc : atI ((matL q (mixm c a m)).map D.li) (c : Int) = some (D.li (rowL q (mixm c a m c))) := by rw [atI_pos (by omega), List.getElem?_map, Int.toNat_natCast, matL_at hc]; rfl
        have hrr : ∀ (r : Nat → Int) {j : Int}, 0 ≤ j → j < q → atI ((rowL q r).map D.int) j = some (.int (r j.toNat)) := fun r j h0 h1 => by rw [atI_pos h0, List.getElem?_map, rowL_at (by omega)]; rfl
        refine run_cons (s_seti (d := D.li (rowL q (fwm c m a))) (j := a) (e_to (ev_lcm (own := [("_law_b", 4)]) (rgI q) D.int (fun b => .int (fwm c m a b.toNat)) C (blkOk_by (by rfl)) (it_rg T.range (a1 (nm 1)) (by omega)) (by rw [rgI_len]; omega) (fun b hb => ⟨[4], _, by simp, fun s2 H2 C2 cl2 fp2 => ⟨(tn 4 C.bk), ts_nil, fun _ => e_to (e_min C.bk T.min (ixL (ixM (nm 3) (nm 5) updM_same hra) (nm 4) (hrr _ (mem_rgI.mp hb).1 (mem_rgI.mp hb).2)) (e_add (ixL (ixM (nm 3) (nm 5) updM_same hra) (nm 6) (hrr _ (by omega) (by omega))) (ixL (ixM (nm 3) (nm 6) updM_same hrc) (nm 4) (hrr _ (mem_rgI.mp hb).1 (mem_rgI.mp hb).2)))) ?_⟩⟩)) ?_) (nm 3) (nm 5) updM_same ?_ (run_nil ⟨?_, _, rfl⟩))
        · have hb1 := mem_rgI.mp hb
          refine congrArg D.int ?_
          rw [Int.toNat_natCast]
          have e1 : ∀ j, mixm c a m a j = m a j := fun j => by unfold mixm; rw [if_neg (by omega)]
          have e2 : mixm c a m c b.toNat = m c b.toNat := by
            unfold mixm
            by_cases h : c < a
            · rw [if_pos h]
              unfold fwm
              have := P.lo c c hc hc
              omega
            · rw [if_neg h]
          rw [e1, e1, e2]
          rfl
        · refine congrArg D.lst ?_
          unfold rgI rowL
          rw [List.map_map, List.map_map]
          rfl
        · rw [List.length_map, matL_len]
          unfold ixN
          rw [if_pos (by omega), if_pos (by omega), Int.toNat_natCast]
        · rw [updM_updM, ← List.map_set, matL_congr (m := mixm c (a + 1) m) (m' := mixm c (a + 1) m) fun _ _ _ _ => rfl]
          have e3 : rowL q (fwm c m a) = rowL q (mixm c (a + 1) m a) := rowL_congr fun j _ => by unfold mixm; rw [if_pos (by omega)]
          rw [e3, matL_set (m' := mixm c (a + 1) m) fun i j _ _ hne => by
            unfold mixm
            by_cases h : i < a
            · rw [if_pos h, if_pos (by omega)]
            · rw [if_neg h, if_neg (by omega)]]
      · subst hM1; subst hδ
        rw [List.length_map, rgI_len]
        refine run_nil ⟨?_, _, _, rfl⟩
        rw [matL_congr (m := mixm c q m) (m' := fwm c m) fun i j hi _ => by unfold mixm; rw [if_pos hi]]
    · subst hM1; subst hδ
      rw [List.length_map, rgI_len]
      have P := P0.fwk q (Nat.le_refl q)
      refine r_ret (d := gapsD (matL q (fwk m0 q))) (e_tupL T.tuple (ev_lcm (own := [("_law_row", 7)]) (matL q (fwk m0 q)) D.li D.ti C (blkOk_by (by rfl)) (it_list (ev_freeze (nm 3) updM_same)) (by rw [matL_len]; omega) (fun r hr => ⟨[7], _, by simp, fun s2 H2 C2 cl2 fp2 => ⟨(tn 7 C.bk), ts_nil, fun _ => e_tupL T.tuple (nm 7)⟩⟩))) ⟨updM M pa (.ml [.int n3]), ⟨_, n3, fw_ok P0 q1 q4, rfl, rfl⟩, SubM.fr ?_⟩
      rw [updM_ne (fun e => hpf e.symm)]
      exact hMf
end
end Dr
set_option Elab.async false
set_option linter.all false
set_option maxRecDepth 100000
set_option maxHeartbeats 2000000
/-! the walk of _law_meadow -/
namespace Dr
open PySem L2
section
variable {P : Program} {w : World} {K : PySem.W.Frag} {mg : Str → Option Value} {base : Heap}
structure ShAt (sh : List (Int × Int)) (t : Int) : Prop where
  bd : ∀ p ∈ sh, 0 ≤ p.1 ∧ p.1 < p.2 ∧ p.2 < t
  up : ∀ (k : Nat) p q, sh[k]? = some p → sh[k + 1]? = some q → p.2 < q.1
theorem ShAt.nil : ShAt [] 0 where
  bd := fun _ h => nomatch h
  up := fun _ _ _ h _ => nomatch h
theorem ShAt.snoc {sh : List (Int × Int)} {t b e : Int} (h : ShAt sh t) (h0 : 0 ≤ t) (h1 : t ≤ b) (h2 : b < e) : ShAt (sh ++ [(b, e)]) (e + 1) where
  bd := fun p hp => by
    rcases List.mem_append.mp hp with hp | hp
    · have := h.bd p hp; omega
    · rcases List.mem_cons.mp hp with rfl | hp
      · show 0 ≤ b ∧ b < e ∧ e < e + 1; omega
      · exact nomatch hp
  up := fun k p q hp hq => by
    by_cases c : k + 1 < sh.length
    · rw [List.getElem?_append_left (by omega)] at hp hq
      exact h.up k p q hp hq
    · have hl := lt_at hq
      rw [List.length_append] at hl
      simp only [List.length_cons, List.length_nil] at hl
      rw [List.getElem?_append_left (by omega)] at hp
      rw [List.getElem?_append_right (by omega), show k + 1 - sh.length = 0 by omega] at hq
      cases hq
      have := h.bd p (List.mem_of_getElem? hp)
      show p.2 < b
      omega
theorem SubM.new2 {M : Mp} {a b : Addr} {x y : Mob} (h : M a = none) : SubM (updM M b y) (updM (updM M a x) b y) := fun c m' e => by
  by_cases hb : c = b
  · subst hb
    rw [updM_same] at e ⊢
    exact e
  · rw [updM_ne hb] at e ⊢
    have na : c ≠ a := fun z => by subst z; rw [h] at e; cases e
    rw [updM_ne na]
    exact e
def PostM (x : PA) (M : Mp) (d : D) (M' : Mp) : Prop := ∃ md n', Md.Ok md ∧ d = md.d ∧ M' = updM M x.pa (.ml [.int n'])
theorem sc_law_meadow : FnScope ["_law_pot_here", "_law_shuts", "_law_at", "_law_turn", "_law_begin"] ["_law_pot_here"] (defScope (top 63)) := ⟨rfl, rfl, rfl, by decide +kernel, rfl, by decide +kernel, by decide +kernel⟩
theorem ok_law_meadow (T : Tx K mg) (hF : Has K mg "_law_meadow" (top 63)) (c_law_take : Can P w K mg base 1 "_law_take" ["_law_pot_here", "_law_wide"] F_take) (c_law_gaps : CanY P w K mg base 2 "_law_gaps" ["_law_pot_here"] PreG PostG) : CanY P w K mg base 3 "_law_meadow" ["_law_pot_here"] PreG PostM := by
  refine canY_of hF sc_law_meadow (fun x ds M h => by obtain ⟨rfl, _⟩ := h; rfl) (fun _ _ _ _ _ _ us hl => match us, hl with | [_], _ => rfl) fun f cdv A outer s H E C hr x ds M h => ?_
  obtain ⟨pa, n⟩ := x
  obtain ⟨rfl, hM⟩ := h
  dsimp only at hM ⊢
  refine s_parX 1 2 C (by decide) (xa_cons (x_newl (xa_nil ⟨Nat.zero_le _, fun sA hsA => xa_cons (x_ev ev_int (xa_nil ⟨_, _, rfl, ?_⟩))⟩)))
  have hps : pa ≠ sA := fun e => by rw [← e, hM] at hsA; cases hsA
  have hsp : sA ≠ pa := fun e => hps e.symm
  have hkm := pick_mem [1, 5] (i := n % 2) (by omega) (by show _ < (2 : Int); omega)
  generalize hkk : ([1, 5] : List Int).getD (n % 2).toNat 0 = kk at hkm
  have hk15 : 1 ≤ kk ∧ kk ≤ 5 := by
    simp only [List.mem_cons, List.not_mem_nil, or_false] at hkm
    omega
  obtain ⟨q, hq⟩ : ∃ q : Nat, (n / 2 % kk : Int) = q := ⟨(n / 2 % kk).toNat, by have := Int.emod_nonneg (n / 2) (b := kk) (by omega); omega⟩
  have q4 : q ≤ 4 := by have := Int.emod_lt_of_pos (n / 2) (b := kk) (by omega); omega
  refine r_for (ds := (rgI q).map D.int) (M1 := updM (updM M sA (.ml [])) pa (.ml [.int (n / 2 / kk)])) C (it_rg T.range (a1 (e_to (e_call c_law_take (hr.mono (by decide)) (aC (nm 0) (a1 (e_to (ixL (ev_lst (aC ev_int (a1 ev_int)) (Nat.le_of_ble_eq_true rfl)) (e_call c_law_take (hr.mono (by decide)) (aC (nm 0) (a1 ev_int)) ⟨pa, n, 2, rfl, by rw [updM_ne hps]; exact hM, by omega, rfl, rfl⟩) (pick [1, 5] (by omega) (by show _ < (2 : Int); omega))) (congrArg D.int hkk)))) ⟨pa, n / 2, kk, rfl, updM_same, by omega, rfl, by rw [updM_updM]⟩) (congrArg D.int hq))) (by omega))
    (fun k δ' M1 => ∃ sh t m, M1 = updM (updM M sA (.ml (sh.map pairD))) pa (.ml [.int m]) ∧ sh.length = k ∧ ShAt sh t ∧ 0 ≤ t ∧ t ≤ 50 * (k : Nat) ∧ ∃ y z, δ' = [some (.adr pa), some (.adr sA), some (.int t), y, z]) ⟨[], 0, _, rfl, rfl, .nil, by omega, by omega, _, _, rfl⟩ (fun k d δ' M1 hd ⟨sh, t, m, hM1, hl, hs, h0, h50, y, z, hδ⟩ => ?_) (fun δ' M1 ⟨sh, t, m, hM1, hl, hs, h0, h50, y, z, hδ⟩ => ?_)
  · subst hM1; subst hδ
    obtain ⟨x, hx, rfl⟩ := map_at hd
    have hk := lt_at hx
    rw [rgI_len] at hk
    refine ⟨_, _, tn 3 C, ?_⟩
    refine r_set 4 C (e_add (nm 2) (e_call c_law_take (hr.mono (by decide)) (aC (nm 0) (a1 ev_int)) ⟨pa, m, 25, rfl, updM_same, by omega, rfl, rfl⟩)) ?_
    rw [updM_updM]
    have b1 : 0 ≤ m % 25 ∧ m % 25 < 25 := by omega
    generalize m % 25 = u at b1
    generalize m / 25 = m2
    have b2 : 0 ≤ m2 % 25 ∧ m2 % 25 < 25 := by omega
    refine run_cons (s_app (d := pairD (t + u, t + u + 1 + m2 % 25)) (nm 1) (by rw [updM_ne hsp, updM_same]) (ev_tup (aC (nm 4) (a1 (e_add (e_add (nm 4) ev_int) (e_call c_law_take (hr.mono (by decide)) (aC (nm 0) (a1 ev_int)) ⟨pa, m2, 25, rfl, updM_same, by omega, rfl, rfl⟩)))) (Nat.le_of_ble_eq_true rfl)) (ds := sh.map pairD) (by rw [updM_ne hsp, updM_ne hsp, updM_same]) (by rw [List.length_map]; omega) ?_)
    generalize m2 % 25 = v at b2
    rw [updM_updM, updM_swap hps, updM_updM]
    refine r_set 2 C (e_add (ixT (ixM (d := pairD (t + u, t + u + 1 + v)) (nm 1) (e_neg ev_int) (by rw [updM_ne hsp, updM_same]) ?_) ev_int) ev_int) (run_nil ⟨sh ++ [(t + u, t + u + 1 + v)], t + u + 1 + v + 1, m2 / 25, ?_, by rw [List.length_append, hl]; rfl, hs.snoc h0 (by omega) (by omega), by omega, by omega, _, _, rfl⟩)
    · rw [atI_last, List.getLast?_append]
      rfl
    · rw [List.map_append]
      rfl
  · subst hM1; subst hδ
    rw [List.length_map, rgI_len] at hl h50
    have r1 := pick_mem [8, 1, 2, 3, 0] (i := m % 5) (by omega) (by show _ < (5 : Int); omega)
    have r2 := pick_mem [0, 2, 9, 60] (i := m / 5 % 4) (by omega) (by show _ < (4 : Int); omega)
    refine r_retX (x_tup (xa_cons (x_ev (ixL (ev_lst (aC ev_int (aC ev_int (aC ev_int (aC ev_int (a1 ev_int))))) (Nat.le_of_ble_eq_true rfl)) (e_call c_law_take (hr.mono (by decide)) (aC (nm 0) (a1 ev_int)) ⟨pa, m, 5, rfl, updM_same, by omega, rfl, rfl⟩) (pick [8, 1, 2, 3, 0] (by omega) (by show _ < (5 : Int); omega)))
      (xa_cons (x_ev (ixL (ev_lst (aC ev_int (aC ev_int (aC ev_int (a1 ev_int)))) (Nat.le_of_ble_eq_true rfl)) (e_call c_law_take (hr.mono (by decide)) (aC (nm 0) (a1 ev_int)) ⟨pa, m / 5, 4, rfl, updM_same, by omega, rfl, rfl⟩) (pick [0, 2, 9, 60] (by omega) (by show _ < (4 : Int); omega)))
      (xa_cons (x_call c_law_gaps hr (xa_cons (x_ev (nm 0) (xa_nil ⟨⟨pa, m / 5 / 4⟩, ⟨rfl, updM_same⟩, fun d M' ⟨gaps, n', gok, hd, hM'⟩ => ?_⟩))))))))))
    dsimp only at hM'
    rw [updM_updM, updM_updM, updM_updM] at hM'
    subst hd; subst hM'
    refine xa_cons (x_ev (e_tupM T.tuple (nm 1) (ds := sh.map pairD) (by rw [updM_ne hsp, updM_same])) (xa_nil ⟨Nat.le_of_ble_eq_true rfl, updM M pa (.ml [.int n']), ⟨⟨([8, 1, 2, 3, 0] : List Int).getD (m % 5).toNat 0, ([0, 2, 9, 60] : List Int).getD (m / 5 % 4).toNat 0, gaps, sh⟩, n', ?_, rfl, rfl⟩, SubM.new2 hsA⟩))
    generalize ([8, 1, 2, 3, 0] : List Int).getD (m % 5).toNat 0 = a1 at *
    generalize ([0, 2, 9, 60] : List Int).getD (m / 5 % 4).toNat 0 = a2 at *
    simp only [List.mem_cons, List.not_mem_nil, or_false] at r1 r2
    refine ⟨by show 0 ≤ a1; omega, by show a1 ≤ 8; omega, by show 0 ≤ a2; omega, by show a2 ≤ 60; omega, gok, ⟨by show sh.length ≤ 4; omega, fun p hp => by have := hs.bd p hp; omega, hs.up⟩⟩
end
end Dr
set_option Elab.async false
set_option linter.all false
set_option maxRecDepth 100000
set_option maxHeartbeats 2000000
/-! the walk of _law_sky -/
namespace Dr
open PySem L2
def Gld.ds (g : Gld) : List D := [.int g.kind, .int g.joins, .int g.first, .int g.last, .int g.due, .int g.weight, .int g.ring]
theorem nodup_at {α : Type} [DecidableEq α] {l : List α} (nd : l.Nodup) {i j : Nat} {a : α} (h1 : l[i]? = some a) (h2 : l[j]? = some a) : i = j := by
  have hi := lt_at h1
  have hj := lt_at h2
  rw [List.getElem?_eq_getElem hi] at h1
  rw [List.getElem?_eq_getElem hj] at h2
  have e1 := nd.idxOf_getElem i hi
  have e2 := nd.idxOf_getElem j hj
  rw [Option.some.inj h1] at e1
  rw [Option.some.inj h2] at e2
  exact e1.symm.trans e2
structure GS (M0 : Mp) (pa gA : Addr) (ps : List (Addr × Gld)) (n : Int) (M : Mp) : Prop where
  p : M pa = some (.ml [.int n])
  g : M gA = some (.ml (ps.map fun x => .adr x.1))
  e : ∀ x ∈ ps, M x.1 = some (.ml x.2.ds)
  nd : (ps.map Prod.fst).Nodup
  ng : ∀ x ∈ ps, x.1 ≠ gA
  np : ∀ x ∈ ps, x.1 ≠ pa
  pg : gA ≠ pa
  k : ∀ b m, M0 b = some m → b ≠ pa → M b = some m
  fg : M0 gA = none
  fe : ∀ x ∈ ps, M0 x.1 = none
section
variable {M0 M : Mp} {pa gA : Addr} {ps : List (Addr × Gld)} {n : Int}
theorem GS.take (G : GS M0 pa gA ps n M) (n' : Int) : GS M0 pa gA ps n' (updM M pa (.ml [.int n'])) where
  p := updM_same
  g := by rw [updM_ne G.pg]; exact G.g
  e := fun x hx => by rw [updM_ne (G.np x hx)]; exact G.e x hx
  nd := G.nd
  ng := G.ng
  np := G.np
  pg := G.pg
  k := fun b m h hb => by rw [updM_ne hb]; exact G.k b m h hb
  fg := G.fg
  fe := G.fe
theorem GS.other (G : GS M0 pa gA ps n M) {b : Addr} (m : Mob) (h0 : M0 b = none) (h1 : b ≠ pa) (h2 : b ≠ gA) (h3 : ∀ x ∈ ps, x.1 ≠ b) : GS M0 pa gA ps n (updM M b m) where
  p := by rw [updM_ne h1.symm]; exact G.p
  g := by rw [updM_ne h2.symm]; exact G.g
  e := fun x hx => by rw [updM_ne (h3 x hx)]; exact G.e x hx
  nd := G.nd
  ng := G.ng
  np := G.np
  pg := G.pg
  k := fun c m' h hc => by
    have : c ≠ b := fun e => by rw [e, h0] at h; cases h
    rw [updM_ne this]
    exact G.k c m' h hc
  fg := G.fg
  fe := G.fe
theorem GS.fresh (G : GS M0 pa gA ps n M) {b : Addr} (h : M b = none) : M0 b = none ∧ b ≠ pa ∧ b ≠ gA ∧ ∀ x ∈ ps, x.1 ≠ b := by
  have h1 : b ≠ pa := fun e => by rw [e, G.p] at h; cases h
  refine ⟨?_, h1, (fun e => by rw [e, G.g] at h; cases h), (fun x hx e => by rw [← e, G.e x hx] at h; cases h)⟩
  cases e : M0 b with
  | none => rfl
  | some m => rw [G.k b m e h1] at h; cases h
theorem GS.snoc (G : GS M0 pa gA ps n M) {l : Addr} (g : Gld) (hl : M l = none) : GS M0 pa gA (ps ++ [(l, g)]) n (updM (updM M l (.ml g.ds)) gA (.ml ((ps.map fun x => .adr x.1) ++ [.adr l]))) := by
  obtain ⟨h0, h1, h2, h3⟩ := G.fresh hl
  have G1 := G.other (.ml g.ds) h0 h1 h2 h3
  have mm : ∀ x, x ∈ ps ++ [(l, g)] → x ∈ ps ∨ x = (l, g) := fun x hx => by
    rcases List.mem_append.mp hx with h | h
    · exact .inl h
    · exact .inr (List.mem_singleton.mp h)
  refine ⟨by rw [updM_ne G.pg.symm]; exact G1.p, by rw [updM_same, List.map_append]; rfl, fun x hx => ?_, ?_, fun x hx => ?_, fun x hx => ?_, G.pg, fun b m h hb => ?_, G.fg, fun x hx => ?_⟩
  · rcases mm x hx with h | rfl
    · rw [updM_ne (G.ng x h)]; exact G1.e x h
    · rw [updM_ne h2, updM_same]
  · rw [List.map_append]
    refine List.nodup_append.mpr ⟨G.nd, List.nodup_cons.mpr ⟨(fun h => nomatch h), List.nodup_nil⟩, fun a ha b hb e => ?_⟩
    have hb' : b = l := List.mem_singleton.mp hb
    obtain ⟨x, hx, rfl⟩ := List.mem_map.mp ha
    exact h3 x hx (e.trans hb')
  · rcases mm x hx with h | rfl
    · exact G.ng x h
    · exact h2
  · rcases mm x hx with h | rfl
    · exact G.np x h
    · exact h1
  · have : b ≠ gA := fun e => by rw [e, G.fg] at h; cases h
    rw [updM_ne this]
    exact G1.k b m h hb
  · rcases mm x hx with h | rfl
    · exact G.fe x h
    · exact h0
theorem GS.setg (G : GS M0 pa gA ps n M) {k : Nat} {x : Addr × Gld} (hx : ps[k]? = some x) (g : Gld) : GS M0 pa gA (ps.set k (x.1, g)) n (updM M x.1 (.ml g.ds)) := by
  have hm := List.mem_of_getElem? hx
  have hk := lt_at hx
  have hf : (ps.set k (x.1, g)).map Prod.fst = ps.map Prod.fst := by
    rw [List.map_set]
    apply List.ext_getElem?
    intro i
    rw [List.getElem?_set]
    by_cases e : k = i
    · subst e
      rw [if_pos rfl, List.length_map, if_pos hk, List.getElem?_map, hx]
      rfl
    · rw [if_neg e]
  have hin : ∀ y ∈ ps.set k (x.1, g), y.1 ∈ ps.map Prod.fst := fun y hy => hf ▸ List.mem_map_of_mem hy
  have hin2 : ∀ y ∈ ps.set k (x.1, g), ∃ z ∈ ps, z.1 = y.1 := fun y hy => List.mem_map.mp (hin y hy)
  refine ⟨by rw [updM_ne (G.np x hm).symm]; exact G.p, ?_, fun y hy => ?_, by rw [hf]; exact G.nd, fun y hy => ?_, fun y hy => ?_, G.pg, fun b m h hb => ?_, G.fg, fun y hy => ?_⟩
  · rw [updM_ne (G.ng x hm).symm, G.g]
    have e1 : (ps.set k (x.1, g)).map (fun x => D.adr x.1) = ((ps.set k (x.1, g)).map Prod.fst).map D.adr := by rw [List.map_map]; rfl
    have e2 : ps.map (fun x => D.adr x.1) = (ps.map Prod.fst).map D.adr := by rw [List.map_map]; rfl
    rw [e1, e2, hf]
  · obtain ⟨i, hi⟩ := List.mem_iff_getElem?.mp hy
    rw [List.getElem?_set] at hi
    by_cases e : k = i
    · subst e
      rw [if_pos rfl, if_pos hk] at hi
      cases hi
      exact updM_same
    · rw [if_neg e] at hi
      have hy' := List.mem_of_getElem? hi
      have ne : y.1 ≠ x.1 := fun z => by
        have h1 : (ps.map Prod.fst)[i]? = some y.1 := by rw [List.getElem?_map, hi]; rfl
        have h2 : (ps.map Prod.fst)[k]? = some x.1 := by rw [List.getElem?_map, hx]; rfl
        rw [z] at h1
        have hi' := lt_at h1
        have hk' := lt_at h2
        rw [List.getElem?_eq_getElem hi'] at h1
        rw [List.getElem?_eq_getElem hk'] at h2
        exact e (nodup_at G.nd (by rw [List.getElem?_eq_getElem hk', Option.some.inj h2]) (by rw [List.getElem?_eq_getElem hi', Option.some.inj h1]))
      rw [updM_ne ne]
      exact G.e y hy'
  · obtain ⟨z, hz, e⟩ := hin2 y hy
    exact e ▸ G.ng z hz
  · obtain ⟨z, hz, e⟩ := hin2 y hy
    exact e ▸ G.np z hz
  · have : b ≠ x.1 := fun e => by rw [e, G.fe x hm] at h; cases h
    rw [updM_ne this]
    exact G.k b m h hb
  · obtain ⟨z, hz, e⟩ := hin2 y hy
    exact e ▸ G.fe z hz
end
/-- the two lists of the second loop too -/
structure GL (M0 : Mp) (pa gA lA fA : Addr) (ps : List (Addr × Gld)) (n : Int) (ls fx : List Int) (M : Mp) : Prop where
  G : GS M0 pa gA ps n M
  l : M lA = some (.ml (ls.map D.int))
  f : M fA = some (.ml (fx.map D.int))
  lf : lA ≠ fA
  l0 : M0 lA = none
  f0 : M0 fA = none
  lp : lA ≠ pa
  fp : fA ≠ pa
  lg : lA ≠ gA
  fg : fA ≠ gA
  le : ∀ x ∈ ps, x.1 ≠ lA
  fe : ∀ x ∈ ps, x.1 ≠ fA
section
variable {M0 M : Mp} {pa gA lA fA : Addr} {ps : List (Addr × Gld)} {n : Int} {ls fx : List Int}
theorem GL.take (L : GL M0 pa gA lA fA ps n ls fx M) (n' : Int) : GL M0 pa gA lA fA ps n' ls fx (updM M pa (.ml [.int n'])) :=
  ⟨L.G.take n', by rw [updM_ne L.lp]; exact L.l, by rw [updM_ne L.fp]; exact L.f, L.lf, L.l0, L.f0, L.lp, L.fp, L.lg, L.fg, L.le, L.fe⟩
theorem GL.setl (L : GL M0 pa gA lA fA ps n ls fx M) (ls' : List Int) : GL M0 pa gA lA fA ps n ls' fx (updM M lA (.ml (ls'.map D.int))) :=
  ⟨L.G.other _ L.l0 L.lp L.lg L.le, updM_same, by rw [updM_ne L.lf.symm]; exact L.f, L.lf, L.l0, L.f0, L.lp, L.fp, L.lg, L.fg, L.le, L.fe⟩
theorem GL.setf (L : GL M0 pa gA lA fA ps n ls fx M) (fx' : List Int) : GL M0 pa gA lA fA ps n ls fx' (updM M fA (.ml (fx'.map D.int))) :=
  ⟨L.G.other _ L.f0 L.fp L.fg L.fe, by rw [updM_ne L.lf]; exact L.l, updM_same, L.lf, L.l0, L.f0, L.lp, L.fp, L.lg, L.fg, L.le, L.fe⟩
theorem GL.setg (L : GL M0 pa gA lA fA ps n ls fx M) {k : Nat} {x : Addr × Gld} (hx : ps[k]? = some x) (g : Gld) : GL M0 pa gA lA fA (ps.set k (x.1, g)) n ls fx (updM M x.1 (.ml g.ds)) := by
  have hm := List.mem_of_getElem? hx
  have hin2 : ∀ y ∈ ps.set k (x.1, g), ∃ z ∈ ps, z.1 = y.1 := fun y hy => by
    rcases List.mem_or_eq_of_mem_set hy with h | h
    · exact ⟨y, h, rfl⟩
    · subst h
      exact ⟨x, hm, rfl⟩
  exact ⟨L.G.setg hx g, by rw [updM_ne (L.le x hm).symm]; exact L.l, by rw [updM_ne (L.fe x hm).symm]; exact L.f, L.lf, L.l0, L.f0, L.lp, L.fp, L.lg, L.fg, fun y hy => by
    obtain ⟨z, hz, e⟩ := hin2 y hy
    exact e ▸ L.le z hz, fun y hy => by
    obtain ⟨z, hz, e⟩ := hin2 y hy
    exact e ▸ L.fe z hz⟩
end
/-- a glider as it is made, its ring aside -/
structure GenOk (m : Md) (g : Gld) : Prop where
  k0 : 0 ≤ g.kind
  k1 : g.kind < m.gaps.length
  j : 0 ≤ g.joins ∧ g.joins ≤ 100
  f : g.joins + m.sink ≤ g.first ∧ g.first ≤ 200
  l : g.first ≤ g.last ∧ g.last ≤ 700
  d : 0 ≤ g.due ∧ g.due ≤ 700
  w : 0 ≤ g.weight ∧ g.weight ≤ 99
  r : 0 ≤ g.ring ∧ g.ring ≤ m.rings
theorem GenOk.ok {m : Md} (mo : m.Ok) {g : Gld} (h : GenOk m g) : g.Ok m := by
  have := h.j; have := h.f; have := h.l; have := h.d; have := mo.s0
  exact ⟨h.k0, h.k1, by omega, by omega, by omega, by omega, h.w, h.r, h.f.1, h.l.1⟩
structure SkG (s : Sk) : Prop where
  ok : s.Ok
  last : ∀ g ∈ s.gs, g.last ≤ 9000
section
variable {P : Program} {w : World} {K : PySem.W.Frag} {mg : Str → Option Value} {base : Heap}
def PreS (x : PA × Int) (ds : List D) (M : Mp) : Prop := ds = [.adr x.1.pa, .int x.2] ∧ M x.1.pa = some (.ml [.int x.1.n]) ∧ 0 ≤ x.2 ∧ x.2 ≤ 7
def PostS (x : PA × Int) (M : Mp) (d : D) (M' : Mp) : Prop := ∃ sk n', SkG sk ∧ d = sk.d ∧ M' = updM M x.1.pa (.ml [.int n'])
end
end Dr
set_option Elab.async false
set_option linter.all false
set_option maxRecDepth 100000
set_option maxHeartbeats 2000000
/-! the walk of _law_sky: its statements -/
namespace Dr
open PySem L2
theorem pick2 {a b : Int} {i : Int} (h0 : 0 ≤ i) (h1 : i < 2) : atI ([D.int a, D.int b]) i = some (.int ([a, b].getD i.toNat 0)) := pick [a, b] h0 h1
theorem erase_perm {ls : List Int} {j : Nat} {i : Int} (h : ls[j]? = some i) (fx : List Int) : (ls.eraseIdx j ++ (fx ++ [i])).Perm (ls ++ fx) := by
  have hj := lt_at h
  rw [List.eraseIdx_eq_take_drop_succ]
  have e : ls = ls.take j ++ i :: ls.drop (j + 1) := by
    have h1 := List.take_append_drop j ls
    rw [List.drop_eq_getElem_cons hj] at h1
    rw [List.getElem?_eq_getElem hj] at h
    rw [Option.some.inj h] at h1
    exact h1.symm
  have h2 : (ls ++ fx).Perm ((ls.take j ++ i :: ls.drop (j + 1)) ++ fx) := by rw [← e]
  refine List.Perm.trans ?_ h2.symm
  rw [List.append_assoc, List.append_assoc]
  refine List.Perm.append_left _ ?_
  rw [← List.append_assoc]
  refine (List.perm_append_comm).trans ?_
  exact List.Perm.refl _
section
variable {P : Program} {w : World} {K : PySem.W.Frag} {mg : Str → Option Value} {base : Heap}
theorem sc_law_sky : FnScope ["_law_pot_here", "_law_most", "_law_meadow_here", "_law_gliders", "_law_wide", "_law_long", "_law_number", "_law_joins", "_law_first", "_law_last", "_law_due", "_law_left", "_law_fixed", "_law_turn", "_law_ahead", "_law_one"] ["_law_pot_here", "_law_most"] (defScope (top 64)) := ⟨rfl, rfl, rfl, by decide +kernel, rfl, by decide +kernel, by decide +kernel⟩
theorem ok_law_sky (T : Tx K mg) (hF : Has K mg "_law_sky" (top 64)) (c_law_take : Can P w K mg base 1 "_law_take" ["_law_pot_here", "_law_wide"] F_take) (c_law_meadow : CanY P w K mg base 3 "_law_meadow" ["_law_pot_here"] PreG PostM) : CanY P w K mg base 4 "_law_sky" ["_law_pot_here", "_law_most"] PreS PostS := by
  refine canY_of hF sc_law_sky (fun x ds M h => by obtain ⟨rfl, _⟩ := h; rfl) (fun _ _ _ _ _ _ us hl => match us, hl with | [_, _], _ => rfl) fun f cdv A outer s H E C hr x ds M h => ?_
  obtain ⟨⟨pa, n⟩, most⟩ := x
  obtain ⟨rfl, hM, hm0, hm7⟩ := h
  dsimp only at hM hm0 hm7 ⊢
  refine s_parX 2 3 C (by decide) (xa_cons (x_call c_law_meadow hr (xa_cons (x_ev (nm 0) (xa_nil ⟨⟨pa, n⟩, ⟨rfl, hM⟩, fun d M1 ⟨md, n1, mo, hd, hM1⟩ => ?_⟩)))))
  dsimp only at hM1
  subst hd; subst hM1
  refine xa_cons (x_newl (xa_nil ⟨Nat.zero_le _, fun gA hgA => xa_nil ⟨_, _, rfl, ?_⟩⟩))
  have hgp : gA ≠ pa := fun e => by rw [e, updM_same] at hgA; cases hgA
  have hg0 : M gA = none := by rw [updM_ne hgp] at hgA; exact hgA
  have gn1 := mo.gaps.n1
  have gn4 := mo.gaps.n4
  have ms0 := mo.s0
  have ms60 := mo.s60
  have G0 : GS M pa gA [] n1 (updM (updM M pa (.ml [.int n1])) gA (.ml [])) := ⟨by rw [updM_ne hgp.symm]; exact updM_same, updM_same, fun _ h => (nomatch h), List.nodup_nil, fun _ h => (nomatch h), fun _ h => (nomatch h), hgp, fun b m h hb => by
    have : b ≠ gA := fun e => by rw [e, hg0] at h; cases h
    rw [updM_ne this, updM_ne hb]
    exact h, hg0, fun _ h => (nomatch h)⟩
  generalize updM (updM M pa (.ml [.int n1])) gA (.ml []) = M2 at G0
  refine s_parX 4 5 C (by decide) (xa_ev (aC (ixL (ev_lst (aC ev_int (aC ev_int (a1 ev_int))) (Nat.le_of_ble_eq_true rfl)) (e_call c_law_take (hr.mono (by decide)) (aC (nm 0) (a1 ev_int)) ⟨pa, n1, 3, rfl, G0.p, by omega, rfl, rfl⟩) (pick [5, 20, 60] (by omega) (by show _ < (3 : Int); omega))) (a1 (ixL (ev_lst (aC ev_int (aC ev_int (aC ev_int (a1 ev_int)))) (Nat.le_of_ble_eq_true rfl)) (e_call c_law_take (hr.mono (by decide)) (aC (nm 0) (a1 ev_int)) ⟨pa, n1 / 3, 4, rfl, updM_same, by omega, rfl, rfl⟩) (pick [4, 30, 90, 400] (by omega) (by show _ < (4 : Int); omega))))) ⟨_, _, rfl, ?_⟩)
  have G1 := (G0.take (n1 / 3)).take (n1 / 3 / 4)
  generalize updM (updM M2 pa (.ml [.int (n1 / 3)])) pa (.ml [.int (n1 / 3 / 4)]) = M3 at G1
  have hw := pick_mem [5, 20, 60] (i := n1 % 3) (by omega) (by show _ < (3 : Int); omega)
  have hlo := pick_mem [4, 30, 90, 400] (i := n1 / 3 % 4) (by omega) (by show _ < (4 : Int); omega)
  generalize ([5, 20, 60] : List Int).getD (n1 % 3).toNat 0 = wide at *
  generalize ([4, 30, 90, 400] : List Int).getD (n1 / 3 % 4).toNat 0 = long at *
  generalize n1 / 3 / 4 = n2 at G1
  simp only [List.mem_cons, List.not_mem_nil, or_false] at hw hlo
  have hw1 : 1 ≤ wide ∧ wide ≤ 60 := by omega
  have hl1 : 1 ≤ long ∧ long ≤ 400 := by omega
  clear hw hlo
  obtain ⟨q, hq⟩ : ∃ q : Nat, (n2 % (most + 1) : Int) = q := ⟨(n2 % (most + 1)).toNat, by have := Int.emod_nonneg n2 (b := most + 1) (by omega); omega⟩
  have q7 : q ≤ 7 := by have := Int.emod_lt_of_pos n2 (b := most + 1) (by omega); omega
  refine r_for (ds := (rgI q).map D.int) (M1 := updM M3 pa (.ml [.int (n2 / (most + 1))])) C (it_rg T.range (a1 (e_to (e_call c_law_take (hr.mono (by decide)) (aC (nm 0) (a1 (e_add (nm 1) ev_int))) ⟨pa, n2, most + 1, rfl, G1.p, by omega, rfl, rfl⟩) (congrArg D.int hq))) (by omega))
    (fun k δ' M1 => ∃ ps n, GS M pa gA ps n M1 ∧ ps.length = k ∧ (∀ x ∈ ps, GenOk md x.2 ∧ x.2.ring = 0) ∧ ∃ y6 y7 y8 y9 y10, δ' = [some (.adr pa), some (.int most), some md.d, some (.adr gA), some (.int wide), some (.int long), y6, y7, y8, y9, y10, none, none, none, none, none])
    ⟨[], _, G1.take _, rfl, fun _ h => (nomatch h), _, _, _, _, _, rfl⟩ (fun k d δ' M1 hd ⟨ps, n3, G, hl, hgo, y6, y7, y8, y9, y10, hδ⟩ => ?_) (fun δ' M1 ⟨ps, n3, G, hl, hgo, y6, y7, y8, y9, y10, hδ⟩ => ?_)
  · subst hδ
    obtain ⟨x, hx, rfl⟩ := map_at hd
    have hk := lt_at hx
    rw [rgI_len] at hk
    refine ⟨_, _, tn 6 C, ?_⟩
    refine r_set 7 C (e_call c_law_take (hr.mono (by decide)) (aC (nm 0) (a1 (nm 4))) ⟨pa, n3, wide, rfl, G.p, by omega, rfl, rfl⟩) ?_
    have hj0 := Int.emod_nonneg n3 (b := wide) (by omega)
    have hj1 := Int.emod_lt_of_pos n3 (b := wide) (by omega)
    have G2 := G.take (n3 / wide)
    generalize updM M1 pa (.ml [.int (n3 / wide)]) = M4 at G2
    generalize n3 / wide = n4 at G2
    generalize n3 % wide = joins at hj0 hj1
    refine r_set 8 C (e_add (e_add (nm 7) (ixT (nm 2) ev_int)) (ixL (ev_lst (aC ev_int (a1 (e_call c_law_take (hr.mono (by decide)) (aC (nm 0) (a1 ev_int)) ⟨pa, n4, 9, rfl, G2.p, by omega, rfl, rfl⟩))) (Nat.le_of_ble_eq_true rfl)) (e_call c_law_take (hr.mono (by decide)) (aC (nm 0) (a1 ev_int)) ⟨pa, n4 / 9, 2, rfl, updM_same, by omega, rfl, rfl⟩) (pick2 (by omega) (by omega)))) ?_
    have hu := pick_mem [0, n4 % 9] (i := n4 / 9 % 2) (by omega) (by show _ < (2 : Int); omega)
    simp only [List.mem_cons, List.not_mem_nil, or_false] at hu
    have G3 := (G2.take (n4 / 9)).take (n4 / 9 / 2)
    generalize updM (updM M4 pa (.ml [.int (n4 / 9)])) pa (.ml [.int (n4 / 9 / 2)]) = M5 at G3
    generalize ([0, n4 % 9] : List Int).getD (n4 / 9 % 2).toNat 0 = u at *
    have hu1 : 0 ≤ u ∧ u ≤ 8 := by omega
    clear hu
    generalize n4 / 9 / 2 = n5 at G3
    refine s_parX 9 10 C (by decide) (xa_ev (aC (e_add (nm 8) (e_call c_law_take (hr.mono (by decide)) (aC (nm 0) (a1 (nm 5))) ⟨pa, n5, long, rfl, G3.p, by omega, rfl, rfl⟩)) (a1 (e_add (nm 7) (e_call c_law_take (hr.mono (by decide)) (aC (nm 0) (a1 (nm 5))) ⟨pa, n5 / long, long, rfl, updM_same, by omega, rfl, rfl⟩)))) ⟨_, _, rfl, ?_⟩)
    have hv0 := Int.emod_nonneg n5 (b := long) (by omega)
    have hv1 := Int.emod_lt_of_pos n5 (b := long) (by omega)
    have hz0 := Int.emod_nonneg (n5 / long) (b := long) (by omega)
    have hz1 := Int.emod_lt_of_pos (n5 / long) (b := long) (by omega)
    have G4 := (G3.take (n5 / long)).take (n5 / long / long)
    generalize updM (updM M5 pa (.ml [.int (n5 / long)])) pa (.ml [.int (n5 / long / long)]) = M6 at G4
    generalize n5 / long / long = n6 at G4
    generalize n5 / long % long = z at *
    generalize n5 % long = v at *
    obtain ⟨gk, hgk⟩ : ∃ gk : Int, gk = md.gaps.length := ⟨_, rfl⟩
    have k0 := Int.emod_nonneg n6 (b := gk) (by omega)
    have k1 := Int.emod_lt_of_pos n6 (b := gk) (by omega)
    have hwm := pick_mem [0, 1, 7, 99] (i := n6 / gk % 4) (by omega) (by show _ < (4 : Int); omega)
    refine s_appX (nm 3) G4.g (x_newl (xa_ev (aC (e_call c_law_take (hr.mono (by decide)) (aC (nm 0) (a1 (e_to (e_lenX (xs := md.gaps) (enc := D.ti) T.len (ixT (nm 2) ev_int)) (congrArg D.int hgk.symm)))) ⟨pa, n6, gk, rfl, G4.p, by omega, rfl, rfl⟩) (aC (nm 7) (aC (nm 8) (aC (nm 9) (aC (nm 10) (aC (ixL (ev_lst (aC ev_int (aC ev_int (aC ev_int (a1 ev_int)))) (Nat.le_of_ble_eq_true rfl)) (e_call c_law_take (hr.mono (by decide)) (aC (nm 0) (a1 ev_int)) ⟨pa, n6 / gk, 4, rfl, updM_same, by omega, rfl, rfl⟩) (pick [0, 1, 7, 99] (by omega) (by show _ < (4 : Int); omega))) (a1 ev_int))))))) ⟨Nat.le_of_ble_eq_true rfl, fun l hl0 => ?_⟩))
    have G5 := (G4.take (n6 / gk)).take (n6 / gk / 4)
    generalize updM (updM M6 pa (.ml [.int (n6 / gk)])) pa (.ml [.int (n6 / gk / 4)]) = M7 at G5 hl0 ⊢
    generalize ([0, 1, 7, 99] : List Int).getD (n6 / gk % 4).toNat 0 = wt at *
    simp only [List.mem_cons, List.not_mem_nil, or_false] at hwm
    have G6 := G5.snoc ⟨n6 % gk, joins, joins + md.sink + u, joins + md.sink + u + v, joins + z, wt, 0⟩ hl0
    obtain ⟨f0, f1, f2, f3⟩ := G5.fresh hl0
    refine ⟨_, by rw [updM_ne f2.symm]; exact G5.g, by rw [List.length_map]; omega, run_nil ⟨_, _, G6, by rw [List.length_append, hl]; rfl, fun x hx => ?_, _, _, _, _, _, rfl⟩⟩
    rcases List.mem_append.mp hx with h | h
    · exact hgo x h
    · rcases List.mem_singleton.mp h with rfl
      refine ⟨⟨k0, by show n6 % gk < _; omega, ?_, ?_, ?_, ?_, ?_, ?_⟩, rfl⟩
      · show 0 ≤ joins ∧ joins ≤ 100; omega
      · show joins + md.sink ≤ joins + md.sink + u ∧ joins + md.sink + u ≤ 200; omega
      · show joins + md.sink + u ≤ joins + md.sink + u + v ∧ joins + md.sink + u + v ≤ 700; omega
      · show 0 ≤ joins + z ∧ joins + z ≤ 700; omega
      · show 0 ≤ wt ∧ wt ≤ 99; omega
      · exact ⟨Int.le_refl _, mo.r0⟩
  · subst hδ
    rw [List.length_map, rgI_len] at hl
    clear hq G1 G0
    refine s_parX 11 12 C (by decide) (xa_cons (x_listRg (n := ps.length) C T.list T.range (e_to (e_lenM T.len (nm 3) G.g) (by rw [List.length_map])) (by omega) fun lA hlA => xa_cons (x_newl (xa_nil ⟨Nat.zero_le _, fun fA hfA => xa_nil ⟨_, _, rfl, ?_⟩⟩))))
    obtain ⟨a0, a1', a2, a3⟩ := G.fresh hlA
    have hlf : lA ≠ fA := fun e => by rw [e, updM_same] at hfA; cases hfA
    have hfA' : M1 fA = none := by rw [updM_ne hlf.symm] at hfA; exact hfA
    obtain ⟨b0, b1, b2, b3⟩ := G.fresh hfA'
    have L0 : GL M pa gA lA fA ps n3 (rgI ps.length) [] (updM (updM M1 lA (.ml ((rgI ps.length).map D.int))) fA (.ml [])) := ⟨(G.other _ a0 a1' a2 a3).other _ b0 b1 b2 b3, by rw [updM_ne hlf]; exact updM_same, updM_same, hlf, a0, b0, a1', b1, a2, b2, a3, b3⟩
    clear hlA hfA hfA'
    generalize updM (updM M1 lA (.ml ((rgI ps.length).map D.int))) fA (.ml []) = M4 at L0
    clear G
    obtain ⟨lk, hlk⟩ : ∃ lk : Int, lk = (ps.length : Int) + 1 := ⟨_, rfl⟩
    have t0 := Int.emod_nonneg n3 (b := lk) (by omega)
    have t1 := Int.emod_lt_of_pos n3 (b := lk) (by omega)
    have hqm := pick_mem [0, n3 % lk] (i := n3 / lk % 2) (by omega) (by show _ < (2 : Int); omega)
    generalize hqv : ([0, n3 % lk] : List Int).getD (n3 / lk % 2).toNat 0 = qv at hqm
    simp only [List.mem_cons, List.not_mem_nil, or_false] at hqm
    obtain ⟨q2, hq2⟩ : ∃ q2 : Nat, qv = q2 := ⟨qv.toNat, by omega⟩
    have hq2l : q2 ≤ ps.length := by omega
    refine r_for (ds := (rgI q2).map D.int) (M1 := updM (updM M4 pa (.ml [.int (n3 / lk)])) pa (.ml [.int (n3 / lk / 2)])) C (it_rg T.range (a1 (e_to (ixL (ev_lst (aC ev_int (a1 (e_call c_law_take (hr.mono (by decide)) (aC (nm 0) (a1 (e_to (e_add (e_lenM T.len (nm 3) L0.G.g) ev_int) (congrArg D.int (by rw [List.length_map]; exact hlk.symm))))) ⟨pa, n3, lk, rfl, L0.G.p, by omega, rfl, rfl⟩))) (Nat.le_of_ble_eq_true rfl)) (e_call c_law_take (hr.mono (by decide)) (aC (nm 0) (a1 ev_int)) ⟨pa, n3 / lk, 2, rfl, updM_same, by omega, rfl, rfl⟩) (pick2 (by omega) (by omega))) (congrArg D.int (hqv.trans hq2)))) (by omega))
      (fun k δ' M1 => ∃ ps' n ls fx, GL M pa gA lA fA ps' n ls fx M1 ∧ ps'.length = ps.length ∧ fx.length = k ∧ ls.length + k = ps.length ∧ (ls ++ fx).Nodup ∧ (∀ i ∈ ls ++ fx, 0 ≤ i ∧ i < (ps.length : Nat)) ∧ (∀ x ∈ ps', GenOk md x.2) ∧ (∀ (k : Nat) x, ps'[k]? = some x → x.2.ring ≠ 0 → (k : Int) ∈ fx) ∧
        ∃ y6 y7 y8 y9 y10 y13, δ' = [some (.adr pa), some (.int most), some md.d, some (.adr gA), some (.int wide), some (.int long), y6, y7, y8, y9, y10, some (.adr lA), some (.adr fA), y13, none, none])
      ⟨ps, _, _, _, (L0.take _).take _, rfl, rfl, by rw [rgI_len]; rfl, by rw [List.append_nil]; exact rgI_nodup _, fun i hi => by rw [List.append_nil] at hi; exact mem_rgI.mp hi, fun x hx => (hgo x hx).1, fun k x hx hne => absurd (hgo x (List.mem_of_getElem? hx)).2 hne, _, _, _, _, _, _, rfl⟩
      (fun k d δ' M1 hd ⟨ps', n4, ls, fx, L, hpl, hfl, hll, hnd, hin, hgo', hrg, y6, y7, y8, y9, y10, y13, hδ⟩ => ?_) (fun δ' M1 ⟨ps', n4, ls, fx, L, hpl, hfl, hll, hnd, hin, hgo', hrg, y6, y7, y8, y9, y10, y13, hδ⟩ => ?_)
    · subst hδ
      obtain ⟨x, hx, rfl⟩ := map_at hd
      have hk := lt_at hx
      rw [rgI_len] at hk
      have hlp : 0 < ls.length := by omega
      refine ⟨_, _, tn 13 C, ?_⟩
      obtain ⟨ln, hln⟩ : ∃ ln : Int, ln = (ls.length : Int) := ⟨_, rfl⟩
      have u0 := Int.emod_nonneg n4 (b := ln) (by omega)
      have u1 := Int.emod_lt_of_pos n4 (b := ln) (by omega)
      have hat := at_lt (l := ls) (i := (n4 % ln).toNat) (by omega) 0
      generalize ls.getD (n4 % ln).toNat 0 = ii at hat
      have L1 := L.take (n4 / ln)
      have L2 := L1.setl (ls.eraseIdx (n4 % ln).toNat)
      have hek : (ls.map D.int).eraseIdx (n4 % ln).toNat = (ls.eraseIdx (n4 % ln).toNat).map D.int := by
        rw [List.eraseIdx_eq_take_drop_succ, List.eraseIdx_eq_take_drop_succ, List.map_append, List.map_take, List.map_drop]
      refine run_cons (s_app (nm 12) L.f (e_toM (ev_pop (nm 11) L.l (e_call c_law_take (hr.mono (by decide)) (aC (nm 0) (a1 (e_to (e_lenM T.len (nm 11) L.l) (congrArg D.int (by rw [List.length_map]; exact hln.symm))))) ⟨pa, n4, ln, rfl, L.G.p, by omega, rfl, rfl⟩) L1.l u0 rfl (d := .int ii) (by rw [List.getElem?_map, hat]; rfl) (by rw [List.length_map]; omega)) rfl (by rw [hek])) L2.f (by rw [List.length_map]; omega) ?_)
      have L3 := L2.setf (fx ++ [ii])
      rw [List.map_append] at L3
      have hperm := erase_perm hat fx
      have hfl' : (fx ++ [ii]).length = k + 1 := by rw [List.length_append, hfl]; rfl
      have hll' : (ls.eraseIdx (n4 % ln).toNat).length + (k + 1) = ps.length := by
        rw [List.length_eraseIdx, if_pos (by omega)]
        omega
      have hnd' := hperm.nodup_iff.mpr hnd
      have hin' : ∀ i ∈ ls.eraseIdx (n4 % ln).toNat ++ (fx ++ [ii]), 0 ≤ i ∧ i < (ps.length : Nat) := fun i hi => hin i (hperm.mem_iff.mp hi)
      have hii : 0 ≤ ii ∧ ii < (ps.length : Nat) := hin ii (List.mem_append_left _ (List.mem_of_getElem? hat))
      have hrg' : ∀ (k : Nat) x, ps'[k]? = some x → x.2.ring ≠ 0 → (k : Int) ∈ fx ++ [ii] := fun k x hx hne => List.mem_append_left _ (hrg k x hx hne)
      generalize ls.eraseIdx (n4 % ln).toNat = ls' at *
      change Run _ _ _ (updM (updM (updM M1 pa (.ml [.int (n4 / ln)])) lA (.ml (ls'.map D.int))) fA (.ml (fx.map D.int ++ [D.int ii]))) _
      generalize hM5 : updM (updM (updM M1 pa (.ml [.int (n4 / ln)])) lA (.ml (ls'.map D.int))) fA (.ml (fx.map D.int ++ [D.int ii])) = M5
      have L4 : GL M pa gA lA fA ps' (n4 / ln) ls' (fx ++ [ii]) M5 := hM5 ▸ L3
      clear L L1 L2 L3 hM5
      generalize n4 / ln = n5 at L4
      by_cases hrn : 0 < md.rings
      · refine r_if (et_w (ew_and (t_gt (ixT (nm 2) ev_int) ev_int) (fun h => (ew_and1 (t_eq (e_call c_law_take (hr.mono (by decide)) (aC (nm 0) (a1 ev_int)) ⟨pa, n5, 3, rfl, L4.G.p, by omega, rfl, rfl⟩) ev_int))) (fun h => absurd (of_decide_eq_false h) (by omega)))) (fun h => ?_) (fun h => ?_)
        · have L5 := L4.take (n5 / 3)
          generalize updM M5 pa (.ml [.int (n5 / 3)]) = M6 at L5
          generalize n5 / 3 = n6 at L5
          have r0 := Int.emod_nonneg n6 (b := md.rings) (by omega)
          have r1 := Int.emod_lt_of_pos n6 (b := md.rings) (by omega)
          have r8 := mo.r8
          have hgt := at_lt (l := ps') (i := ii.toNat) (by omega) (0, Gld.z)
          generalize ps'.getD ii.toNat (0, Gld.z) = xx at hgt
          have L6 := L5.take (n6 / md.rings)
          have hxm := List.mem_of_getElem? hgt
          have L7 := L6.setg hgt { xx.2 with ring := 1 + n6 % md.rings }
          refine run_cons (s_seti (l := xx.1) (j := 6) (ds := xx.2.ds) (e_add ev_int (e_call c_law_take (hr.mono (by decide)) (aC (nm 0) (a1 (ixT (nm 2) ev_int))) ⟨pa, n6, md.rings, rfl, L5.G.p, by omega, rfl, rfl⟩)) (ixM (nm 3) (ixM (d := .int ii) (nm 12) (e_neg ev_int) L6.f ?_) L6.G.g ?_) ev_int (L6.G.e xx hxm) rfl (run_nil (run_nil ⟨_, _, _, _, L7, by rw [List.length_set]; exact hpl, hfl', hll', hnd', hin', fun y hy => ?_, fun k y hy hne => ?_, _, _, _, _, _, _, rfl⟩)))
          · rw [atI_last, List.map_append, List.getLast?_append]
            rfl
          · rw [atI_pos hii.1, List.getElem?_map, hgt]
            rfl
          · rcases List.mem_or_eq_of_mem_set hy with h | h
            · exact hgo' y h
            · subst h
              have g := hgo' xx hxm
              exact ⟨g.k0, g.k1, g.j, g.f, g.l, g.d, g.w, by show 0 ≤ 1 + n6 % md.rings ∧ 1 + n6 % md.rings ≤ md.rings; omega⟩
          · rw [List.getElem?_set] at hy
            by_cases e : ii.toNat = k
            · have : (k : Int) = ii := by omega
              rw [this]
              exact List.mem_append_right _ (List.mem_singleton.mpr rfl)
            · rw [if_neg e] at hy
              exact hrg' k y hy hne
        · exact run_nil (run_nil ⟨_, _, _, _, L4.take _, hpl, hfl', hll', hnd', hin', hgo', hrg', _, _, _, _, _, _, rfl⟩)
      · refine r_no' (et_w (ew_and (k' := false) (t_gt (ixT (nm 2) ev_int) ev_int) (fun h => absurd (of_decide_eq_true h) (by omega)) (fun _ => rfl))) (Bool.and_false _) (run_nil ⟨_, _, _, _, L4, hpl, hfl', hll', hnd', hin', hgo', hrg', _, _, _, _, _, _, rfl⟩)
    · subst hδ
      rw [List.length_map, rgI_len] at hfl hll
      clear L0
      have G := L.G
      obtain ⟨gk, hgk⟩ : ∃ gk : Int, gk = md.gaps.length := ⟨_, rfl⟩
      have k0 := Int.emod_nonneg n4 (b := gk) (by omega)
      have k1 := Int.emod_lt_of_pos n4 (b := gk) (by omega)
      obtain ⟨ah, hah, hahok⟩ : ∃ ah, atI [.non, .tup [.int (n4 % gk), .int (n4 / gk % 30)]] (n4 / gk / 30 % 2) = some (aheadD ah) ∧ ∀ p, ah = some p → 0 ≤ p.1 ∧ p.1 < md.gaps.length ∧ 0 ≤ p.2 ∧ p.2 ≤ 9999 := by
        rcases (by omega : n4 / gk / 30 % 2 = 0 ∨ n4 / gk / 30 % 2 = 1) with e | e
        · rw [e]
          exact ⟨none, rfl, fun p hp => nomatch hp⟩
        · rw [e]
          exact ⟨some (n4 % gk, n4 / gk % 30), rfl, fun p hp => by cases hp; exact ⟨k0, by omega, by omega, by omega⟩⟩
      refine r_set (d := aheadD ah) 14 C (ixL (ev_lst (aC ev_non (a1 (ev_tup (aC (e_call c_law_take (hr.mono (by decide)) (aC (nm 0) (a1 (e_to (e_lenX (xs := md.gaps) (enc := D.ti) T.len (ixT (nm 2) ev_int)) (congrArg D.int hgk.symm)))) ⟨pa, n4, gk, rfl, G.p, by omega, rfl, rfl⟩) (a1 (e_call c_law_take (hr.mono (by decide)) (aC (nm 0) (a1 ev_int)) ⟨pa, n4 / gk, 30, rfl, updM_same, by omega, rfl, rfl⟩))) (Nat.le_of_ble_eq_true rfl)))) (Nat.le_of_ble_eq_true rfl)) (e_call c_law_take (hr.mono (by decide)) (aC (nm 0) (a1 ev_int)) ⟨pa, n4 / gk / 30, 2, rfl, updM_same, by omega, rfl, rfl⟩) hah) ?_
      have L5 := ((L.take (n4 / gk)).take (n4 / gk / 30)).take (n4 / gk / 30 / 2)
      generalize updM (updM (updM M1 pa (.ml [.int (n4 / gk)])) pa (.ml [.int (n4 / gk / 30)])) pa (.ml [.int (n4 / gk / 30 / 2)]) = M5 at L5
      generalize n4 / gk / 30 / 2 = n6 at L5
      have hfm : eraM M5 gA fA = some (.ml (fx.map D.int)) := by rw [eraM_ne L5.fg]; exact L5.f
      refine r_ret (d := Sk.d ⟨md, ah, ps'.map Prod.snd, fx⟩) (e_to (ev_tup (aC (nm 2) (aC (nm 14) (aC (e_tupL T.tuple (ev_lcm (own := [("_law_one", 15)]) ps' (fun x => .adr x.1) (fun x => x.2.d) C (blkOk_by (by rfl)) (it_list (ev_freeze (nm 3) L5.G.g)) (by omega) (fun x hx => ⟨[15], _, by simp, fun s2 H2 C2 cl2 fp2 => ⟨(tn 15 C.bk), ts_nil, fun _ => e_tupM (ds := x.2.ds) T.tuple (nm 15) (by rw [eraM_ne (L5.G.ng x hx)]; exact L5.G.e x hx)⟩⟩))) (a1 (e_tupM T.tuple (nm 12) hfm))))) (Nat.le_of_ble_eq_true rfl)) ?_) ⟨updM M pa (.ml [.int n6]), ⟨⟨md, ah, ps'.map Prod.snd, fx⟩, n6, ⟨⟨mo, hahok, ?_, ?_, ?_, ?_, ?_⟩, ?_⟩, rfl, rfl⟩, ?_⟩
      · show D.tup [_, _, _, _] = D.tup [_, _, D.tup ((ps'.map Prod.snd).map Gld.d), _]
        rw [List.map_map]
        rfl
      · show (ps'.map Prod.snd).length ≤ 7
        rw [List.length_map]
        omega
      · intro g hg
        obtain ⟨x, hx, rfl⟩ := List.mem_map.mp hg
        exact (hgo' x hx).ok mo
      · intro i hi
        have := hin i (List.mem_append_right _ hi)
        show 0 ≤ i ∧ i < ((ps'.map Prod.snd).length : Nat)
        rw [List.length_map]
        omega
      · exact (List.nodup_append.mp hnd).2.1
      · intro k g hg hne
        obtain ⟨x, hx, rfl⟩ := map_at hg
        exact hrg k x hx hne
      · intro g hg
        obtain ⟨x, hx, rfl⟩ := List.mem_map.mp hg
        have := (hgo' x hx).l
        omega
      · intro b m hb
        by_cases e1 : b = pa
        · subst e1
          rw [updM_same] at hb
          cases hb
          rw [eraM_ne L5.G.pg.symm]
          exact L5.G.p
        · rw [updM_ne e1] at hb
          have e2 : b ≠ gA := fun z => by rw [z, hg0] at hb; cases hb
          rw [eraM_ne e2]
          exact L5.G.k b m hb e1
end
end Dr
set_option Elab.async false
set_option linter.all false
set_option maxRecDepth 100000
set_option maxHeartbeats 2000000
/-! the walk of _law_crowded -/
namespace Dr
open PySem L2
def Gld.late (g : Gld) (u : Int) : Gld := { g with last := g.first + u }
def crowdG (gs : List Gld) (n far : Int) (k : Nat) : List Gld := (List.range k).map fun i => (gs.getD i .z).late (dv n far i % far)
section
variable {X : Cx} {δ : En} {M M1 : Mp} {pos p : Pos} {e : Expr}
theorem e_intB {b : Bool} (hm : X.mg "int" = none) (ha : Ev X e δ M (.bl b) M1) (hg : Gl X "int" := by rfl) (hs : starEach [e] X.env = (false, eval e X.env) :: starEach [] X.env := by rfl) (hpl : (backTo pos (starEach ([] : List Expr) X.env)).any (·.1) = false := by rfl) : Ev X (.Call (.Name "int" p) [e] [] pos) δ M (.int (if b then 1 else 0)) M1 := ev_callTy call_int1 (by decide +kernel) cd_intB hg hm (ea_cons ha ea_nil hs) (by decide) (by decide) hs hpl
end
section
variable {P : Program} {w : World} {K : PySem.W.Frag} {mg : Str → Option Value} {base : Heap}
def PostC (x : PA) (M : Mp) (d : D) (M' : Mp) : Prop := ∃ sk n', Sk.Ok sk ∧ d = sk.d ∧ M' = updM M x.pa (.ml [.int n'])
theorem sc_law_crowded : FnScope ["_law_pot_here", "_law_meadow_here", "_law_ahead", "_law_gliders", "_law_fixed", "_law_far", "_law_some", "_law_one"] ["_law_pot_here"] (defScope (top 66)) := ⟨rfl, rfl, rfl, by decide +kernel, rfl, by decide +kernel, by decide +kernel⟩
theorem ok_law_crowded (T : Tx K mg) (hF : Has K mg "_law_crowded" (top 66)) (c_law_take : Can P w K mg base 1 "_law_take" ["_law_pot_here", "_law_wide"] F_take) (c_law_sky : CanY P w K mg base 4 "_law_sky" ["_law_pot_here", "_law_most"] PreS PostS) : CanY P w K mg base 5 "_law_crowded" ["_law_pot_here"] PreG PostC := by
  refine canY_of hF sc_law_crowded (fun x ds M h => by obtain ⟨rfl, _⟩ := h; rfl) (fun _ _ _ _ _ _ us hl => match us, hl with | [_], _ => rfl) fun f cdv A outer s H E C hr x ds M h => ?_
  obtain ⟨pa, n⟩ := x
  obtain ⟨rfl, hM⟩ := h
  dsimp only at hM ⊢
  have hmm : (0 : Int) ≤ (if decide (n % 8 = 1) = true then 1 else 0) ∧ (if decide (n % 8 = 1) = true then (1 : Int) else 0) < 2 := by split <;> omega
  have hmo := pick_mem [6, 7] hmm.1 hmm.2
  have hmo2 : 0 ≤ ([6, 7] : List Int).getD (if decide (n % 8 = 1) = true then 1 else 0 : Int).toNat 0 ∧ ([6, 7] : List Int).getD (if decide (n % 8 = 1) = true then 1 else 0 : Int).toNat 0 ≤ 7 := by
    generalize ([6, 7] : List Int).getD (if decide (n % 8 = 1) = true then 1 else 0 : Int).toNat 0 = z at *
    simp only [List.mem_cons, List.not_mem_nil, or_false] at hmo
    omega
  refine s_tgtX (js := [1] ++ ([2] ++ ([3] ++ ([4] ++ [])))) (x_call c_law_sky hr (xa_ev (aC (nm 0) (a1 (ixL (ev_lst (aC ev_int (a1 ev_int)) (Nat.le_of_ble_eq_true rfl)) (e_intB T.int (e_eq (e_call c_law_take (hr.mono (by decide)) (aC (nm 0) (a1 ev_int)) ⟨pa, n, 8, rfl, hM, by omega, rfl, rfl⟩) ev_int)) (pick [6, 7] hmm.1 hmm.2)))) ⟨(⟨pa, n / 8⟩, _), ⟨rfl, updM_same, hmo2.1, hmo2.2⟩, fun d M' ⟨sk, n', sok, hd, hM'⟩ => ?_⟩))
  · dsimp only at hM'
    rw [updM_updM] at hM'
    subst hd; subst hM'
    refine ⟨_, tg_tup (ds := [sk.md.d, aheadD sk.ahead, glsD sk.gs, D.ti sk.fixed]) C (tgs_cons (tn 1 C) (tgs_cons (tn 2 C) (tgs_cons (tn 3 C) (tgs_cons (tn 4 C) tgs_nil)))), ?_⟩
    refine r_set 5 C (ixL (ev_lst (aC ev_int (aC ev_int (aC ev_int (a1 ev_int)))) (Nat.le_of_ble_eq_true rfl)) (e_call c_law_take (hr.mono (by decide)) (aC (nm 0) (a1 ev_int)) ⟨pa, n', 4, rfl, updM_same, by omega, rfl, rfl⟩) (pick [1, 4, 12, 25] (by omega) (by show _ < (4 : Int); omega))) ?_
    rw [updM_updM]
    have hf := pick_mem [1, 4, 12, 25] (i := n' % 4) (by omega) (by show _ < (4 : Int); omega)
    generalize ([1, 4, 12, 25] : List Int).getD (n' % 4).toNat 0 = far at *
    simp only [List.mem_cons, List.not_mem_nil, or_false] at hf
    have hf1 : 1 ≤ far ∧ far ≤ 25 := by omega
    generalize n' / 4 = n2
    have g7 := sok.ok.len
    refine run_cons (s_setLc (own := [("_law_one", 7)]) (ds := sk.gs.map Gld.d) 6 C rfl rfl (blkOk_by (by rfl)) (it_tup (nm 3)) (fun k => (crowdG sk.gs n2 far k).map Gld.d) (fun k => updM M pa (.ml [.int (dv n2 far k)])) rfl rfl (by rw [List.length_map]; omega) (fun k d hd => ?_) ?_ (sw_true rfl rfl rfl (by decide +kernel)))
    · obtain ⟨g, hg, rfl⟩ := map_at hd
      have u0 := Int.emod_nonneg (dv n2 far k) (b := far) (by omega)
      refine ⟨true, (g.late (dv n2 far k % far)).d, ⟨[7], _, _, by simp, fun s1 H1 C1 cl1 fp1 => ⟨(tn 7 C.bk), ts_nil, fun _ => e_toM (e_catT (e_catT (e_to (e_slT (i := none) (j := some 3) (nm 7) trivial (eo fun _ => ev_int)) (d' := .tup [.int g.kind, .int g.joins, .int g.first]) rfl) (ev_tup (a1 (e_add (ixT (nm 7) ev_int) (e_call c_law_take (hr.mono (by decide)) (aC (nm 0) (a1 (nm 5))) ⟨pa, dv n2 far k, far, rfl, updM_same, by omega, rfl, rfl⟩))) (Nat.le_of_ble_eq_true rfl)) (show 3 + 1 ≤ 1000 by decide)) (e_to (e_slT (i := some 4) (j := none) (nm 7) (eo fun _ => ev_int) trivial) (d' := .tup [.int g.due, .int g.weight, .int g.ring]) rfl) (show 4 + 3 ≤ 1000 by decide)) rfl (by rw [updM_updM]; rfl), fun h => nomatch h⟩⟩, ?_⟩
      have e1 : crowdG sk.gs n2 far (k + 1) = crowdG sk.gs n2 far k ++ [g.late (dv n2 far k % far)] := by
        unfold crowdG
        rw [List.range_succ, List.map_append]
        show _ = _ ++ [g.late _]
        congr 1
        show [(sk.gs.getD k .z).late _] = _
        rw [getD_at hg]
      rw [e1, List.map_append]
      rfl
    · rw [List.length_map]
      have hgs : ∀ g ∈ crowdG sk.gs n2 far sk.gs.length, g.Ok sk.md := fun g hg => by
        obtain ⟨k, hk, rfl⟩ := List.mem_map.mp hg
        have hat := at_lt (List.mem_range.mp hk) Gld.z
        have hm := List.mem_of_getElem? hat
        have o := sok.ok.gl _ hm
        have l := sok.last _ hm
        have u0 := Int.emod_nonneg (dv n2 far k) (b := far) (by omega)
        have u1 := Int.emod_lt_of_pos (dv n2 far k) (b := far) (by omega)
        have jf := o.jf
        have fl := o.fl
        have f := o.f
        exact ⟨o.k0, o.k1, o.j, o.f, by show 0 ≤ (sk.gs.getD k .z).first + dv n2 far k % far ∧ (sk.gs.getD k .z).first + dv n2 far k % far ≤ 9999; omega, o.d, o.w, o.r, o.jf, by show (sk.gs.getD k .z).first ≤ (sk.gs.getD k .z).first + dv n2 far k % far; omega⟩
      have hln : (crowdG sk.gs n2 far sk.gs.length).length = sk.gs.length := by unfold crowdG; rw [List.length_map, List.length_range]
      exact r_ret (d := Sk.d ⟨sk.md, sk.ahead, crowdG sk.gs n2 far sk.gs.length, sk.fixed⟩) (ev_tup (aC (nm 1) (aC (nm 2) (aC (e_tupL T.tuple (nm 6)) (a1 (nm 4))))) (Nat.le_of_ble_eq_true rfl)) ⟨updM M pa (.ml [.int (dv n2 far sk.gs.length)]), ⟨⟨sk.md, sk.ahead, crowdG sk.gs n2 far sk.gs.length, sk.fixed⟩, _, ⟨sok.ok.md, sok.ok.ahead, by rw [hln]; exact g7, hgs, by rw [hln]; exact sok.ok.fx, sok.ok.nd, fun k g hg hne => by
        have hk := lt_at hg
        rw [hln] at hk
        have hat := at_lt hk Gld.z
        unfold crowdG at hg
        rw [List.getElem?_map, List.getElem?_range hk] at hg
        cases hg
        exact sok.ok.rg k _ hat hne⟩, rfl, rfl⟩, SubM.refl _⟩
end
end Dr
set_option Elab.async false
set_option linter.all false
set_option maxRecDepth 100000
set_option maxHeartbeats 2000000
/-! the walk of _law_cell_at, and of law -/
namespace Dr
open PySem L2
def Sk.lots (s : Sk) : List (List Int) := sortL (lotsG s.all)
def Sk.back (s : Sk) (lot : List Int) (b : Int) : List Int := s.all.filter fun i => (!decide (i ∈ lot) || decide (i = b))
/-- what the law leans on: in plain words of lots -/
structure Plain (s : Sk) : Prop where
  p1 : hits s.lots s.stuck = s.sent
  p2 : hits s.lots s.sent = s.stuck
  p3 : s.sent = [[]] → s.stuck = []
  p4 : ∀ l ∈ s.lots, s.ok l = !hasSub l s.stuck
  p5 : ∀ l ∈ s.sent, s.ok (s.but l) = true
  p6 : ∀ l ∈ s.sent, ∀ b ∈ l, s.ok (s.back l b) = false
section
variable {P : Program} {w : World} {K : PySem.W.Frag} {mg : Str → Option Value} {base : Heap}
def spCell (K : PySem.W.Frag) : Sp := fun vs H Q _ => ∃ (a : Addr) (ns : List Int), vs = [.ref a, .int 0] ∧ SqL K H a (ns.map V.int) ∧ ∀ c, Q (.int c) H
def spLaw (K : PySem.W.Frag) : Sp := fun vs H Q _ => ∃ (a : Addr) (ns : List Int), vs = [.ref a] ∧ SqL K H a (ns.map V.int) ∧ ∀ H', Q (.bl true) H'
theorem sc_law_cell_at : FnScope ["_law_script", "_law_k"] ["_law_script", "_law_k"] (defScope (top 59)) := ⟨rfl, rfl, rfl, by decide +kernel, rfl, by decide +kernel, by decide +kernel⟩
theorem ok_law_cell_at (T : Tx K mg) {f : Addr} {fd : FuncData} (FD : FunD K "_law_cell_at" "_law_cell_at" (defArgs (top 59)) (defBody (top 59)) (defScope (top 59)) [] [] f fd) : FnOk P w K mg base CX0 1 f fd ["_law_script", "_law_k"] (spCell K) := by
  refine FD.ok sc_law_cell_at (fun vs H Q E h => ?_) (fun cdv A outer s H vs Q E hr h => ?_)
  · obtain ⟨a, ns, rfl, _⟩ := h
    rfl
  · obtain ⟨a, ns, rfl, hq, q⟩ := h
    refine ⟨_, PSs.nox wss_pss, ?_⟩
    refine wss_of (pss_cons ws_ps wss_pss) ?_
    refine ws_of (ps_if wt_pt wss_pss wss_pss) ?_
    refine wt_of (pt_cmpR op_lt we_pe we_pe (nomark _)) ?_
    refine we_of (pv 1) ⟨.int 0, rfl, ?_⟩
    refine we_of (pe_callB (id := "len") call_len_seq (by rfl) T.len PySem.boot_len wa_pa (by decide) (by decide) (by rfl) (by rfl)) ?_
    refine wa_of (pa_cons we_pe pa_nil (by rfl)) ?_
    refine we_of (pv 0) ⟨.ref a, rfl, ?_⟩
    refine ⟨a, ns.map V.int, rfl, .inl hq, ?_⟩
    refine ⟨0, ((ns.map V.int).length : Nat), rfl, rfl, ?_⟩
    cases ns with
    | nil =>
      refine ⟨false, rfl, ?_⟩
      show WSs _ [] _ _ _
      exact wss_of pss_nil (wss_of (pss_one (ps_ret pe_int)) (q 0))
    | cons n r =>
      refine ⟨true, ?_, ?_⟩
      · simp
      · show WSs _ [_] _ _ _
        refine wss_of (pss_one (ps_ret we_pe)) ?_
        refine we_of (pe_ix ix_list we_pe we_pe (fun _ _ => rfl)) ?_
        refine we_of (pv 0) ⟨.ref a, rfl, ?_⟩
        refine we_of (pv 1) ⟨.int 0, rfl, ?_⟩
        exact ⟨a, _, 0, .int n, rfl, rfl, hq, (by rw [atI_pos (by omega)]; rfl), q n⟩
end
/-! ### equal lists of tuples of whole numbers -/
theorem oks_lots : ∀ ls : List (List Int), D.oks (ls.map D.ti) = true
  | [] => rfl
  | l :: r => by rw [List.map_cons, D.oks, oks_lots r, ti_ok]; rfl
theorem pys_lots : ∀ ls : List (List Int), D.pys (ls.map D.ti) = ls.map fun l => PyData.tuple (l.map PyData.int)
  | [] => rfl
  | l :: r => by rw [List.map_cons, D.pys, pys_lots r, ti_py]; rfl
theorem lay_lots : ∀ ls : List (List Int), PyData.canLayAll0 (ls.map fun l => PyData.tuple (l.map PyData.int)) = true
  | [] => rfl
  | l :: r => by simp [PyData.canLayAll0, PyData.canLay0, lay_lots r, lay_ints]
theorem dep_lots : ∀ ls : List (List Int), PyData.depthAll (ls.map fun l => PyData.tuple (l.map PyData.int)) ≤ 1
  | [] => by simp [PyData.depthAll]
  | l :: r => by
    have := dep_lots r
    simp only [List.map_cons, PyData.depthAll, PyData.depth, dep_ints]
    omega
theorem eqv_lots : ∀ ls ms : List (List Int), PyData.eqvAll (ls.map fun l => PyData.tuple (l.map PyData.int)) (ms.map fun l => PyData.tuple (l.map PyData.int)) = decide (ls = ms)
  | [], [] => by simp [PyData.eqvAll]
  | [], _ :: _ => by simp [PyData.eqvAll]
  | _ :: _, [] => by simp [PyData.eqvAll]
  | a :: r, b :: t => by
    simp only [List.map_cons, PyData.eqvAll, PyData.eqv, eqv_lots r t, eqv_ints]
    by_cases h : a = b <;> by_cases h' : r = t <;> simp [h, h']
theorem ll_ok (ls : List (List Int)) : (D.lst (ls.map D.ti)).ok = true := by rw [D.ok, oks_lots]
theorem ll_py (ls : List (List Int)) : (D.lst (ls.map D.ti)).py = .list (ls.map fun l => PyData.tuple (l.map PyData.int)) := by rw [D.py, pys_lots]
theorem ll_sh (ls : List (List Int)) : SeqAt.shaped (D.lst (ls.map D.ti)).py = true := by
  rw [ll_py]
  have := dep_lots ls
  have e : (PyData.list (ls.map fun l => PyData.tuple (l.map PyData.int))).depth ≤ 2 := by
    rw [PyData.depth]
    omega
  unfold SeqAt.shaped
  rw [PyData.canLay0, lay_lots, Bool.true_and, decide_eq_true_eq]
  omega
theorem ll_eqv (ls ms : List (List Int)) : PyData.eqv (D.lst (ls.map D.ti)).py (D.lst (ms.map D.ti)).py = decide (ls = ms) := by
  rw [ll_py, ll_py, PyData.eqv, eqv_lots]
section
variable {X : Cx} {δ : En} {M M1 M2 : Mp} {pos p : Pos} {a b : Expr}
theorem t_eqLL {ls ms : List (List Int)} (C : Cok X) (ha : Ev X a δ M (.lst (ls.map D.ti)) M1) (hb : Ev X b δ M1 (.lst (ms.map D.ti)) M2) : EvT X (.Compare a [.Eq] [b] pos) δ M (decide (ls = ms)) M2 :=
  t_to (et_cmp (op_eqD (by have := C.hu; omega)) (rd_eqD (ll_ok ls) (ll_ok ms) (ll_sh ls) (ll_sh ms)) ha hb (nomark _)) (ll_eqv ls ms)
theorem t_neLL {ls ms : List (List Int)} (C : Cok X) (ha : Ev X a δ M (.lst (ls.map D.ti)) M1) (hb : Ev X b δ M1 (.lst (ms.map D.ti)) M2) : EvT X (.Compare a [.NotEq] [b] pos) δ M (!decide (ls = ms)) M2 :=
  t_to (et_cmp (op_neD (by have := C.hu; omega)) (rd_neD (ll_ok ls) (ll_ok ms) (ll_sh ls) (ll_sh ms)) ha hb (nomark _)) (by rw [ll_eqv])
theorem t_neB {i j : Bool} (ha : Ev X a δ M (.bl i) M1) (hb : Ev X b δ M1 (.bl j) M2) : EvT X (.Compare a [.NotEq] [b] pos) δ M (!(i == j)) M2 := et_cmp op_ne rd_neB ha hb (nomark _)
end
theorem Sk.lots_in {s : Sk} {l : List Int} (h : l ∈ s.lots) : l.Sublist s.all := lotsG_in ((sortL_perm _).mem_iff.mp h)
theorem Sk.lots_len {s : Sk} (ok : s.Ok) : s.lots.length ≤ 128 := by
  unfold Sk.lots
  rw [(sortL_perm _).length_eq, lotsG_len]
  unfold Sk.all
  rw [rgI_len]
  exact pow7 ok.len
theorem Sk.lots_pos (s : Sk) : 0 < s.lots.length := by
  unfold Sk.lots
  rw [(sortL_perm _).length_eq, lotsG_len]
  exact Nat.two_pow_pos _
theorem Sk.back_ok (s : Sk) (lot : List Int) (b : Int) : LotOk s (s.back lot b) := ⟨(rgI_up _).sublist List.filter_sublist, fun i hi => mem_rgI.mp (List.mem_filter.mp hi).1⟩
theorem Sk.stuck_in {s : Sk} {l : List Int} (h : l ∈ s.stuck) : l.Sublist s.all := lotsF_in (greedy_sub _ _ l h)
theorem Sk.sent_in {s : Sk} {l : List Int} (h : l ∈ s.sent) : l.Sublist s.all := by
  rcases List.mem_cons.mp (greedy_sub _ _ l h) with rfl | h
  · exact List.nil_sublist _
  · exact lotsF_in h
theorem Sk.stuck_len {s : Sk} (ok : s.Ok) : s.stuck.length ≤ 128 := Nat.le_trans (greedy_len _ _) (lotsF_len (by unfold Sk.all; rw [rgI_len]; exact ok.len))
theorem Sk.sent_len {s : Sk} (ok : s.Ok) : s.sent.length ≤ 129 := Nat.le_trans (greedy_len _ _) (by
  have := lotsF_len (ns := s.all) (by unfold Sk.all; rw [rgI_len]; exact ok.len)
  rw [List.length_cons]
  omega)
theorem Sk.all_len {s : Sk} (ok : s.Ok) : s.all.length ≤ 7 := by unfold Sk.all; rw [rgI_len]; exact ok.len
section
variable {P : Program} {w : World} {K : PySem.W.Frag} {mg : Str → Option Value} {base : Heap}
theorem sc_law : FnScope ["_law_script", "_law_pot_here", "_law_sky_here", "_law_every", "_law_lots_here", "_law_stuck", "_law_sent", "_law_turn", "_law_lot", "_law_due", "_law_one", "_law_less", "_law_back"] ["_law_script"] (defScope (top 68)) := ⟨rfl, rfl, rfl, by decide +kernel, rfl, by decide +kernel, by decide +kernel⟩
abbrev LawX (P : Program) (w : World) (K : PySem.W.Frag) (mg : Str → Option Value) (base : Heap) := Bx P w K mg base ["_law_script", "_law_pot_here", "_law_sky_here", "_law_every", "_law_lots_here", "_law_stuck", "_law_sent", "_law_turn", "_law_lot", "_law_due", "_law_one", "_law_less", "_law_back"] "law" (top 68)
theorem law_rest (T : Tx K mg) (plain : ∀ s : Sk, s.Ok → Plain s) (c_law_take : Can P w K mg base 1 "_law_take" ["_law_pot_here", "_law_wide"] F_take) (c_law_crowded : CanY P w K mg base 5 "_law_crowded" ["_law_pot_here"] PreG PostC)
    (c_law_lots : Can P w K mg base 1 "_law_lots" ["_law_many"] F_law_lots) (c_law_hits : Can P w K mg base 1 "_law_hits" ["_law_lots_here", "_law_others"] F_law_hits)
    (c_least_stuck : Can P w K mg base 24 "least_stuck" ["sky"] (F_lots Sk.stuck)) (c_least_sendings : Can P w K mg base 23 "least_sendings" ["sky"] (F_lots Sk.sent)) (c_can_land : Can P w K mg base 23 "can_land" ["sky", "lot"] F_can_land)
    {f : Addr} {cdv : Value} {A : Around} {outer : List Env} {s : Shared} {H : Hp} {E : XK} (C : Cok (LawX P w K mg base f cdv A outer s H E)) (hr : Room 24 (LawX P w K mg base f cdv A outer s H E).A) {pa : Addr} {n : Int} :
    Run (LawX P w K mg base f cdv A outer s H E) ((defBody (top 68)).drop 1) [none, some (.adr pa), none, none, none, none, none, none, none, none, none, none, none] (updM Mz pa (.ml [.int n])) (Goal (.bl true) Mz) := by
  have sub : ∀ M : Mp, SubM Mz M := fun M a m h => nomatch h
  refine r_setX 2 C (x_call c_law_crowded (hr.mono (by decide)) (xa_ev (a1 (nm 1)) ⟨⟨pa, n⟩, ⟨rfl, updM_same⟩, fun d M1 h => h⟩)) fun d M1 ⟨sk, n1, ok, hd, hM1⟩ => ?_
  dsimp only at hM1
  rw [updM_updM] at hM1
  subst hd; subst hM1
  have g7 := ok.len
  have pl := plain sk ok
  have l7 := Sk.all_len ok
  have ll := Sk.lots_len ok
  have lp := sk.lots_pos
  have sl := Sk.stuck_len ok
  have el := Sk.sent_len ok
  refine s_parX 3 4 C (by decide) (xa_ev (aC (e_to (e_tupRg C T.tuple T.range (e_lenX (xs := sk.gs) (enc := Gld.d) T.len (ixT (nm 2) ev_int)) (by omega)) (d' := D.ti sk.all) (by rw [Int.toNat_natCast, rng_rgI]; rfl)) (a1 (e_call c_law_lots (hr.mono (by decide)) (a1 (e_lenX (xs := sk.gs) (enc := Gld.d) T.len (ixT (nm 2) ev_int))) (d := .lst (sk.lots.map D.ti)) ⟨sk.gs.length, rfl, g7, rfl, rfl⟩))) ⟨_, _, rfl, ?_⟩)
  refine s_parX 5 6 C (by decide) (xa_ev (aC (e_call c_least_stuck hr (a1 (nm 2)) ⟨sk, rfl, ok, rfl, rfl⟩) (a1 (e_call c_least_sendings (hr.mono (by decide)) (a1 (nm 2)) ⟨sk, rfl, ok, rfl, rfl⟩))) ⟨_, _, rfl, ?_⟩)
  refine r_no' (t_neLL C (e_call c_law_hits (hr.mono (by decide)) (aC (nm 4) (a1 (nm 5))) ⟨sk.lots, sk.stuck, rfl, by omega, by omega, fun l h => by have := (Sk.lots_in h).length_le; omega, fun l h => by have := (Sk.stuck_in h).length_le; omega, rfl, rfl⟩) (nm 6)) (by rw [pl.p1]; simp) ?_
  refine r_no' (et_w (ew_or (et_w (ew_and (t_neLL (ms := [[]]) C (nm 6) (ev_lst (a1 (ev_tup ea_nil (Nat.le_of_ble_eq_true rfl))) (Nat.le_of_ble_eq_true rfl))) (fun h => (ew_and1 (t_neLL C (e_call c_law_hits (hr.mono (by decide)) (aC (nm 4) (a1 (nm 6))) ⟨sk.lots, sk.sent, rfl, by omega, by omega, fun l h => by have := (Sk.lots_in h).length_le; omega, fun l h => by have := (Sk.sent_in h).length_le; omega, rfl, rfl⟩) (nm 5)))) (fun _ => rfl)))
    (fun h => (ew_or1 (et_w (ew_and (t_eqLL (ms := [[]]) C (nm 6) (ev_lst (a1 (ev_tup ea_nil (Nat.le_of_ble_eq_true rfl))) (Nat.le_of_ble_eq_true rfl))) (fun h => (ew_and1 (t_neLL (ms := []) C (nm 5) (ev_lst ea_nil (Nat.le_of_ble_eq_true rfl))))) (fun _ => rfl))))) (fun _ => rfl))) ?_ ?_
  · rw [pl.p2]
    by_cases h : sk.sent = [[]]
    · rw [pl.p3 h]; simp
    · simp [h]
  refine r_for (ds := (rgI 12).map D.int) C (it_rg (n := 12) T.range (a1 ev_int) (by omega)) (fun k δ' M1 => ∃ m y7 y8 y9, M1 = updM Mz pa (.ml [.int m]) ∧ δ' = [none, some (.adr pa), some sk.d, some (D.ti sk.all), some (.lst (sk.lots.map D.ti)), some (.lst (sk.stuck.map D.ti)), some (.lst (sk.sent.map D.ti)), y7, y8, y9, none, none, none]) ⟨_, _, _, _, rfl, rfl⟩ (fun k d δ' M1 hd ⟨m, y7, y8, y9, hM, hδ⟩ => ?_) (fun δ' M1 ⟨m, y7, y8, y9, hM, hδ⟩ => ?_)
  · subst hM; subst hδ
    obtain ⟨x, hx, rfl⟩ := map_at hd
    refine ⟨_, _, tn 7 C, ?_⟩
    obtain ⟨ln, hln⟩ : ∃ ln : Int, ln = (sk.lots.length : Int) := ⟨_, rfl⟩
    have u0 := Int.emod_nonneg m (b := ln) (by omega)
    have u1 := Int.emod_lt_of_pos m (b := ln) (by omega)
    have hat := at_lt (l := sk.lots) (i := (m % ln).toNat) (by omega) []
    generalize sk.lots.getD (m % ln).toNat [] = lot at hat
    have hlm := List.mem_of_getElem? hat
    have hls := Sk.lots_in hlm
    have hll := hls.length_le
    refine r_set (d := D.ti lot) 8 C (ixL (nm 4) (e_call c_law_take (hr.mono (by decide)) (aC (nm 1) (a1 (e_to (e_lenLX (xs := sk.lots) (enc := D.ti) T.len (nm 4)) (congrArg D.int hln.symm)))) ⟨pa, m, ln, rfl, updM_same, by omega, rfl, rfl⟩) (by rw [atI_pos u0, List.getElem?_map, hat]; rfl)) ?_
    rw [updM_updM]
    refine r_set (d := .bl (!hasSub lot sk.stuck)) 9 C (ev_not (e_anyX (own := [("_law_less", 11)]) sk.stuck D.ti (fun o => o.all fun x => decide (x ∈ lot)) C (blkOk_by (by rfl)) T.any (it_list (nm 5)) (by omega) (fun o ho => ⟨[11], _, by simp, fun s1 H1 C1 cl1 fp1 => ⟨(tn 11 C.bk), ts_nil, fun _ => (e_allX (own := [("_law_one", 10)]) o D.int (fun x => decide (x ∈ lot)) C.bk (blkOk_by (by rfl)) T.all (it_tup (nm 11)) (by have := (Sk.stuck_in ho).length_le; omega) (fun x hx => ⟨[10], _, by simp, fun s1 H1 C1 cl1 fp1 => ⟨(tn 10 C.bk.bk), ts_nil, fun _ => (e_in (nm 10) (nm 8))⟩⟩))⟩⟩))) ?_
    refine r_no' (t_neB (e_call c_can_land (hr.mono (by decide)) (aC (nm 2) (a1 (nm 8))) ⟨sk, lot, rfl, ok, Sk.sub_ok hls, rfl, rfl⟩) (nm 9)) (by rw [pl.p4 lot hlm]; simp) (run_nil ⟨_, _, _, _, rfl, rfl⟩)
  · subst hM; subst hδ
    refine r_for (ds := cutD (sk.sent.map D.ti) none (some 6)) C (it_list (e_slL (nm 6) (i := none) (j := some 6) trivial (eo fun _ => ev_int))) (fun k δ' M1 => M1 = updM Mz pa (.ml [.int m]) ∧ ∃ y7 y8 y9 y12, δ' = [none, some (.adr pa), some sk.d, some (D.ti sk.all), some (.lst (sk.lots.map D.ti)), some (.lst (sk.stuck.map D.ti)), some (.lst (sk.sent.map D.ti)), y7, y8, y9, none, none, y12]) ⟨rfl, _, _, _, _, rfl⟩ (fun k d δ' M1 hd ⟨hM, y7, y8, y9, y12, hδ⟩ => ?_) (fun δ' M1 ⟨hM, y7, y8, y9, y12, hδ⟩ => ?_)
    · subst hM; subst hδ
      have hdm : d ∈ sk.sent.map D.ti := List.mem_of_mem_drop (List.mem_of_mem_take (List.mem_of_getElem? hd))
      obtain ⟨lot, hlot, rfl⟩ := List.mem_map.mp hdm
      have hls := Sk.sent_in hlot
      have hll := hls.length_le
      refine ⟨_, _, tn 8 C, ?_⟩
      refine r_no' (t_isnB (e_call c_can_land (hr.mono (by decide)) (aC (nm 2) (a1 (e_tupL T.tuple (ev_lcx (own := [("_law_one", 10)]) sk.all D.int (fun i => !decide (i ∈ lot)) D.int C (blkOk_by (by rfl)) (it_tup (nm 3)) (by omega) (fun i hi => ⟨[10], _, by simp, fun s1 H1 C1 cl1 fp1 => ⟨(tn 10 C.bk), (ts_one (t_nin (nm 10) (nm 8))), fun _ => (nm 10)⟩⟩))))) ⟨sk, sk.but lot, rfl, ok, sk.but_ok lot, rfl, rfl⟩)) (by rw [pl.p5 lot hlot]; rfl) ?_
      refine r_for (ds := lot.map D.int) C (it_tup (nm 8)) (fun k δ' M1 => M1 = updM Mz pa (.ml [.int m]) ∧ ∃ y7 y9 y12, δ' = [none, some (.adr pa), some sk.d, some (D.ti sk.all), some (.lst (sk.lots.map D.ti)), some (.lst (sk.stuck.map D.ti)), some (.lst (sk.sent.map D.ti)), y7, some (D.ti lot), y9, none, none, y12]) ⟨rfl, _, _, _, rfl⟩ (fun k d δ' M1 hd ⟨hM, y7, y9, y12, hδ⟩ => ?_) (fun δ' M1 ⟨hM, y7, y9, y12, hδ⟩ => ?_)
      · subst hM; subst hδ
        obtain ⟨bk, hbk, rfl⟩ := map_at hd
        refine ⟨_, _, tn 12 C, ?_⟩
        refine r_no' (t_isnB (e_call c_can_land (hr.mono (by decide)) (aC (nm 2) (a1 (e_tupL T.tuple (ev_lcx (own := [("_law_one", 10)]) sk.all D.int (fun i => (!decide (i ∈ lot) || decide (i = bk))) D.int C (blkOk_by (by rfl)) (it_tup (nm 3)) (by omega) (fun i hi => ⟨[10], _, by simp, fun s1 H1 C1 cl1 fp1 => ⟨(tn 10 C.bk), (ts_one (et_w (ew_or (t_nin (nm 10) (nm 8)) (fun h => (ew_or1 (t_eq (nm 10) (nm 12)))) (fun _ => rfl)))), fun _ => (nm 10)⟩⟩))))) ⟨sk, sk.back lot bk, rfl, ok, sk.back_ok lot bk, rfl, rfl⟩)) (by rw [pl.p6 lot hlot bk (List.mem_of_getElem? hbk)]; rfl) (run_nil ⟨rfl, _, _, _, rfl⟩)
      · subst hM; subst hδ
        exact run_nil ⟨rfl, _, _, _, _, rfl⟩
    · subst hM; subst hδ
      exact r_ret ev_bl ⟨rfl, sub _⟩
end
end Dr
set_option Elab.async false
set_option linter.all false
set_option maxRecDepth 100000
set_option maxHeartbeats 2000000
/-! the walk of law, whole -/
namespace Dr
open PySem L2
section
variable {P : Program} {w : World} {K : PySem.W.Frag} {mg : Str → Option Value} {base : Heap}
theorem ok_law (T : Tx K mg) (plain : ∀ s : Sk, s.Ok → Plain s) {f fC : Addr} {fd fdC : FuncData} (FD : FunD K "law" "law" (defArgs (top 68)) (defBody (top 68)) (defScope (top 68)) [] [] f fd)
    (FC : FunD K "_law_cell_at" "_law_cell_at" (defArgs (top 59)) (defBody (top 59)) (defScope (top 59)) [] [] fC fdC) (gC : mg "_law_cell_at" = some (.ref fC))
    (c_law_pot : CanY P w K mg base 1 "_law_pot" ["_law_cell"] PreP PostP) (c_law_take : Can P w K mg base 1 "_law_take" ["_law_pot_here", "_law_wide"] F_take) (c_law_crowded : CanY P w K mg base 5 "_law_crowded" ["_law_pot_here"] PreG PostC)
    (c_law_lots : Can P w K mg base 1 "_law_lots" ["_law_many"] F_law_lots) (c_law_hits : Can P w K mg base 1 "_law_hits" ["_law_lots_here", "_law_others"] F_law_hits)
    (c_least_stuck : Can P w K mg base 24 "least_stuck" ["sky"] (F_lots Sk.stuck)) (c_least_sendings : Can P w K mg base 23 "least_sendings" ["sky"] (F_lots Sk.sent)) (c_can_land : Can P w K mg base 23 "can_land" ["sky", "lot"] F_can_land) :
    FnOk P w K mg base CX0 25 f fd ["_law_script"] (spLaw K) := by
  refine FD.ok sc_law (fun vs H Q E h => ?_) (fun cdv A outer s H vs Q E hr h => ?_)
  · obtain ⟨a, ns, rfl, _⟩ := h
    rfl
  · obtain ⟨a, ns, rfl, hq, q⟩ := h
    have C : Cok (LawX P w K mg base f cdv A outer s H E) := ⟨rfl, sc_law.nd, rfl, by
      have := hr.un
      show (A.deeper (PyProof.Rows.envOfC "law" (defScope (top 68)) s.heap.objs.size f cdv)).units + 200 < cLine
      omega⟩
    have bC : Binds K fdC ["_law_script", "_law_k"] [] := FC.bindsN fun _ _ _ _ _ _ us hl => match us, hl with | [_, _], _ => rfl
    obtain ⟨fP, fdP, CP⟩ := c_law_pot
    have hr1 : Room 1 (LawX P w K mg base f cdv A outer s H E).A := hr.mono (by decide)
    refine ⟨_, PSs.nox wss_pss, ?_⟩
    refine wss_of (pss_cons ws_ps wss_pss) ?_
    refine ws_of (ps_set (i := 1) C.nd (by rfl) (.inl (by rfl)) we_pe (by rfl) (.inl (by rfl))) ?_
    refine we_of (pe_call CP.ok hr1 (by rfl) CP.gl CP.kp CP.bi .nil pass0 wa_pa (by decide) (by rfl) (by rfl)) ?_
    refine wa_of (pa_cons we_pe pa_nil (by rfl)) ?_
    refine we_of (pe_call (ok_law_cell_at T FC) hr1 (by rfl) gC FC.kp bC .nil pass0 wa_pa (by decide) (by rfl) (by rfl)) ?_
    refine wa_of (pa_cons we_pe (pa_cons we_pe pa_nil (by rfl)) (by rfl)) ?_
    refine we_of (pv 0) ⟨.ref a, rfl, ?_⟩
    refine we_of pe_int ?_
    refine ⟨a, ns, rfl, hq, fun c => ?_⟩
    refine ⟨fun _ => none, Mz, [.int c], c, rfl, ⟨(fun _ _ e => nomatch e), (fun _ _ e => nomatch e)⟩, .cons (.int c) .nil, fun d M' v G' H' hF x3 d3 => ?_⟩
    obtain ⟨l, n, _, rfl, rfl⟩ := hF
    have E0 : EnvD K G' (L2.start ["_law_script", "_law_pot_here", "_law_sky_here", "_law_every", "_law_lots_here", "_law_stuck", "_law_sent", "_law_turn", "_law_lot", "_law_due", "_law_one", "_law_less", "_law_back"] [.ref a]) (List.replicate 13 none) := ⟨rfl, fun i d e => by
      rw [List.getElem?_replicate] at e
      split at e
      · exact nomatch Option.some.inj e
      · exact nomatch e⟩
    refine ((law_rest T plain c_law_take c_law_crowded c_law_lots c_law_hits c_least_stuck c_least_sendings c_can_land C hr) _ G' H' x3.s (E0.set d3 1)).mono ⟨fun σ' H' h => ?_, fun v H' h => ?_, fun σ' H' h => ?_, fun σ' H' h => ?_⟩
    · obtain ⟨_, _, _, ⟨h, _⟩, _⟩ := h
      exact nomatch h
    · obtain ⟨d', M2, G2, ⟨e, _⟩, _, dd⟩ := h
      subst e
      rw [dt_bl dd]
      exact q H'
    · obtain ⟨_, _, _, h, _⟩ := h
      exact h
    · obtain ⟨_, _, _, h, _⟩ := h
      exact h
end
end Dr
set_option Elab.async false
set_option linter.all false
set_option maxRecDepth 100000
set_option maxHeartbeats 2000000
/-! the plain law, first half: who lands in a lot still lands in a smaller one -/
namespace Dr
/-! ### the soonest minutes, of gliders alone -/
def soonG (md : Md) (a : Option (Int × Int)) (g : Gld) : Int :=
  openIn md.shuts (match a with | none => g.first | some p => max g.first (p.2 + gapAt md.gaps p.1 g.kind))
def inT (md : Md) (J : List Int) (m p : Int) : Bool := decide ((J.length : Int) ≤ md.rings + p) || decide (m - md.sink ≤ J.getD (md.rings + p).toNat 0)
abbrev LG := List (Gld × Int)
def belowG (md : Md) (L : LG) (t : Int) : LG := L.filter fun q => decide (q.1.joins ≤ t) && decide (t < q.2 - md.sink)
def ringG (md : Md) (L : LG) (g : Gld) (m : Int) : Int := (g.joins :: L.map fun q => q.1.joins).foldl (fun most t => if (decide (g.joins ≤ t) && decide (t < m - md.sink)) = true then max most (1 + ((belowG md L t).length : Int)) else most) 0
def holdG (md : Md) (L : LG) (g : Gld) (m : Int) : Bool := decide (g.ring = 0) || decide (ringG md L g m ≤ g.ring)
def full (md : Md) (J : List Int) : Int → Option (Int × Int) → LG → List Gld → Prop
  | _, _, _, [] => True
  | p, a, L, g :: r => soonG md a g ≤ g.last ∧ inT md J (soonG md a g) p = true ∧ holdG md L g (soonG md a g) = true ∧ full md J (p + 1) (some (g.kind, soonG md a g)) (L ++ [(g, soonG md a g)]) r
theorem openIn_cons (p : Int × Int) (sh : List (Int × Int)) (m : Int) : openIn (p :: sh) m = openIn sh (if p.1 ≤ m ∧ m < p.2 then p.2 else m) := rfl
theorem openIn_ge : ∀ (sh : List (Int × Int)) (m : Int), m ≤ openIn sh m
  | [], m => Int.le_refl m
  | p :: sh, m => by
    rw [openIn_cons]
    have := openIn_ge sh (if p.1 ≤ m ∧ m < p.2 then p.2 else m)
    split at this <;> rename_i h
    · rw [if_pos h]; omega
    · rw [if_neg h]; exact this
theorem openIn_mono : ∀ (sh : List (Int × Int)) {m m' : Int}, m ≤ m' → openIn sh m ≤ openIn sh m'
  | [], m, m', h => h
  | p :: sh, m, m', h => by
    rw [openIn_cons, openIn_cons]
    refine openIn_mono sh ?_
    split <;> split <;> omega
/-- an ahead that never holds one back longer -/
def KOk (md : Md) (g : Gld) : Prop := 0 ≤ g.kind ∧ g.kind < md.gaps.length
def AOk (md : Md) (a : Option (Int × Int)) : Prop := ∀ p, a = some p → 0 ≤ p.1 ∧ p.1 < md.gaps.length
def dom (md : Md) (a' a : Option (Int × Int)) : Prop := ∀ g, KOk md g → soonG md a' g ≤ soonG md a g
theorem gap_pos {md : Md} (ok : md.Ok) {i j : Int} (h0 : 0 ≤ i) (h1 : i < md.gaps.length) (h2 : 0 ≤ j) (h3 : j < md.gaps.length) : 1 ≤ gapAt md.gaps i j := by
  have hr := at_lt (l := md.gaps) (i := i.toNat) (by omega) []
  have hrm := List.mem_of_getElem? hr
  have hrl := ok.gaps.sq _ hrm
  have hg := at_lt (l := md.gaps.getD i.toNat []) (i := j.toNat) (by omega) 0
  exact (ok.gaps.bd _ hrm _ (List.mem_of_getElem? hg)).1
theorem dom_same {md : Md} {k m m' : Int} (h : m' ≤ m) : dom md (some (k, m')) (some (k, m)) := fun g _ => by
  refine openIn_mono _ ?_
  show max g.first (m' + gapAt md.gaps k g.kind) ≤ max g.first (m + gapAt md.gaps k g.kind)
  omega
theorem dom_skip {md : Md} (ok : md.Ok) {a : Option (Int × Int)} (ha : AOk md a) {y : Gld} (hy : KOk md y) : dom md a (some (y.kind, soonG md a y)) := fun g hg => by
  cases a with
  | none =>
    refine openIn_mono _ ?_
    show g.first ≤ max g.first _
    omega
  | some p =>
    obtain ⟨h0, h1⟩ := ha p rfl
    refine openIn_mono _ ?_
    show max g.first (p.2 + gapAt md.gaps p.1 g.kind) ≤ max g.first (soonG md (some p) y + gapAt md.gaps y.kind g.kind)
    have t := ok.gaps.tri p.1 g.kind y.kind h0 h1 hg.1 hg.2 hy.1 hy.2
    have u : max y.first (p.2 + gapAt md.gaps p.1 y.kind) ≤ soonG md (some p) y := openIn_ge _ _
    omega
theorem soon_ge_first {md : Md} {a : Option (Int × Int)} {g : Gld} : g.first ≤ soonG md a g := by
  refine Int.le_trans ?_ (openIn_ge _ _)
  cases a with
  | none => exact Int.le_refl _
  | some p => show g.first ≤ max g.first _; omega
theorem soon_gt {md : Md} (ok : md.Ok) {p : Int × Int} (h0 : 0 ≤ p.1) (h1 : p.1 < md.gaps.length) {g : Gld} (hg : KOk md g) : p.2 + 1 ≤ soonG md (some p) g := by
  refine Int.le_trans ?_ (openIn_ge _ _)
  have := gap_pos ok h0 h1 hg.1 hg.2
  show p.2 + 1 ≤ max g.first (p.2 + gapAt md.gaps p.1 g.kind)
  omega
/-! ### rings -/
structure Lrel (md : Md) (L' L : LG) : Prop where
  t : ∀ q ∈ L', ∃ r ∈ L, r.1.joins = q.1.joins
  b : ∀ t, (belowG md L' t).length ≤ (belowG md L t).length
theorem ring_le {md : Md} {L : LG} {j : Int} {m r : Int} : ∀ (ts : List Int) (i : Int), ts.foldl (fun most t => if (decide (j ≤ t) && decide (t < m - md.sink)) = true then max most (1 + ((belowG md L t).length : Int)) else most) i ≤ r ↔ i ≤ r ∧ ∀ t ∈ ts, j ≤ t → t < m - md.sink → 1 + ((belowG md L t).length : Int) ≤ r
  | [], i => ⟨fun h => ⟨h, fun _ h => nomatch h⟩, fun h => h.1⟩
  | t :: ts, i => by
    rw [List.foldl_cons, ring_le ts]
    constructor
    · rintro ⟨h1, h2⟩
      by_cases c : j ≤ t ∧ t < m - md.sink
      · rw [if_pos (by rw [decide_eq_true c.1, decide_eq_true c.2]; rfl)] at h1
        refine ⟨by omega, fun u hu h3 h4 => ?_⟩
        rcases List.mem_cons.mp hu with rfl | hu
        · omega
        · exact h2 u hu h3 h4
      · rw [if_neg (by rw [Bool.and_eq_true, decide_eq_true_eq, decide_eq_true_eq]; exact c)] at h1
        refine ⟨h1, fun u hu h3 h4 => ?_⟩
        rcases List.mem_cons.mp hu with rfl | hu
        · exact absurd ⟨h3, h4⟩ c
        · exact h2 u hu h3 h4
    · rintro ⟨h1, h2⟩
      refine ⟨?_, fun u hu => h2 u (List.mem_cons_of_mem _ hu)⟩
      split <;> rename_i c
      · rw [Bool.and_eq_true, decide_eq_true_eq, decide_eq_true_eq] at c
        have := h2 t List.mem_cons_self c.1 c.2
        omega
      · exact h1
theorem hold_mono {md : Md} {L' L : LG} (h : Lrel md L' L) {g : Gld} {m' m : Int} (hm : m' ≤ m) (hh : holdG md L g m = true) : holdG md L' g m' = true := by
  unfold holdG at *
  rw [Bool.or_eq_true, decide_eq_true_eq, decide_eq_true_eq] at *
  rcases hh with hh | hh
  · exact .inl hh
  · refine .inr ?_
    unfold ringG at *
    rw [ring_le] at *
    refine ⟨hh.1, fun t ht h1 h2 => ?_⟩
    have ht' : t ∈ g.joins :: L.map fun q => q.1.joins := by
      rcases List.mem_cons.mp ht with rfl | ht
      · exact List.mem_cons_self
      · obtain ⟨q, hq, rfl⟩ := List.mem_map.mp ht
        obtain ⟨r, hr, e⟩ := h.t q hq
        rw [← e]
        exact List.mem_cons_of_mem _ (List.mem_map.mpr ⟨r, hr, rfl⟩)
    have := hh.2 t ht' h1 (by omega)
    have := h.b t
    omega
theorem Lrel.snoc {md : Md} {L' L : LG} (h : Lrel md L' L) {g : Gld} {m' m : Int} (hm : m' ≤ m) : Lrel md (L' ++ [(g, m')]) (L ++ [(g, m)]) where
  t := fun q hq => by
    rcases List.mem_append.mp hq with hq | hq
    · obtain ⟨r, hr, e⟩ := h.t q hq
      exact ⟨r, List.mem_append_left _ hr, e⟩
    · rcases List.mem_singleton.mp hq with rfl
      exact ⟨(g, m), List.mem_append_right _ (List.mem_singleton.mpr rfl), rfl⟩
  b := fun t => by
    unfold belowG
    rw [List.filter_append, List.filter_append, List.length_append, List.length_append]
    have := h.b t
    unfold belowG at this
    have e : (List.filter (fun q : Gld × Int => decide (q.1.joins ≤ t) && decide (t < q.2 - md.sink)) [(g, m')]).length ≤ (List.filter (fun q : Gld × Int => decide (q.1.joins ≤ t) && decide (t < q.2 - md.sink)) [(g, m)]).length := by
      by_cases c : g.joins ≤ t ∧ t < m' - md.sink
      · rw [List.filter_cons_of_pos (by dsimp only; rw [decide_eq_true c.1, decide_eq_true c.2]; rfl), List.filter_cons_of_pos (by dsimp only; rw [decide_eq_true c.1, decide_eq_true (by omega : t < m - md.sink)]; rfl)]
        exact Nat.le_refl _
      · rw [List.filter_cons_of_neg (by rw [Bool.and_eq_true, decide_eq_true_eq, decide_eq_true_eq]; exact c)]
        exact Nat.zero_le _
    omega
theorem Lrel.drop {md : Md} {L : LG} {q : Gld × Int} : Lrel md L (L ++ [q]) where
  t := fun r hr => ⟨r, List.mem_append_left _ hr, rfl⟩
  b := fun t => by
    unfold belowG
    rw [List.filter_append, List.length_append]
    omega
/-! ### the late joins, one gone -/
structure Jrel (J J' : List Int) (j : Int) : Prop where
  len : J.length = J'.length + 1
  up : ∀ k, k < J'.length → J.getD k 0 ≤ J'.getD k 0
  nx : ∀ k, k < J'.length → J.getD (k + 1) 0 ≤ J'.getD k 0 ∨ J.getD (k + 1) 0 ≤ j
theorem sorted_eq {l l' : List Int} (h : l.Perm l') (h1 : l.Pairwise (· ≤ ·)) (h2 : l'.Pairwise (· ≤ ·)) : l = l' := (sortI_unique h h1).trans (sortI_unique (List.Perm.refl _) h2).symm
theorem jrel_of {J J' : List Int} {j : Int} (hp : J.Perm (j :: J')) (h1 : J.Pairwise (· ≤ ·)) (h2 : J'.Pairwise (· ≤ ·)) : Jrel J J' j := by
  have hsp : J'.Perm (J'.filter (fun x => decide (x < j)) ++ J'.filter (fun x => !decide (x < j))) := (List.filter_append_perm _ _).symm
  have hlt : ∀ x ∈ J'.filter (fun x => decide (x < j)), x < j := fun x hx => of_decide_eq_true (List.mem_filter.mp hx).2
  have hge : ∀ x ∈ J'.filter (fun x => !decide (x < j)), j ≤ x := fun x hx => by
    have := (List.mem_filter.mp hx).2
    simp at this
    exact this
  have s1 := h2.sublist (List.filter_sublist (p := fun x => decide (x < j)))
  have s2 := h2.sublist (List.filter_sublist (p := fun x => !decide (x < j)))
  have e1 : J' = J'.filter (fun x => decide (x < j)) ++ J'.filter (fun x => !decide (x < j)) := sorted_eq hsp h2 (List.pairwise_append.mpr ⟨s1, s2, fun a ha b hb => by have := hlt a ha; have := hge b hb; omega⟩)
  have e2 : J = J'.filter (fun x => decide (x < j)) ++ j :: J'.filter (fun x => !decide (x < j)) := sorted_eq (hp.trans ((List.Perm.cons j hsp).trans List.perm_middle.symm)) h1 (List.pairwise_append.mpr ⟨s1, List.pairwise_cons.mpr ⟨hge, s2⟩, fun a ha b hb => by
    have := hlt a ha
    rcases List.mem_cons.mp hb with rfl | hb
    · omega
    · have := hge b hb; omega⟩)
  generalize J'.filter (fun x => decide (x < j)) = A at *
  generalize J'.filter (fun x => !decide (x < j)) = B at *
  subst e1; subst e2
  have hA : ∀ k, k < A.length → A.getD k 0 < j := fun k hk => hlt _ (List.mem_of_getElem? (at_lt hk 0))
  have hB : ∀ k, k < B.length → j ≤ B.getD k 0 := fun k hk => hge _ (List.mem_of_getElem? (at_lt hk 0))
  have hBB : ∀ k, k + 1 < B.length → B.getD k 0 ≤ B.getD (k + 1) 0 := fun k hk => by
    have := List.pairwise_iff_getElem.mp s2 k (k + 1) (by omega) hk (by omega)
    rw [getD_at (List.getElem?_eq_getElem (show k < B.length by omega)), getD_at (List.getElem?_eq_getElem hk)]
    exact this
  have gl : ∀ (X : List Int) k, k < A.length → (A ++ X).getD k 0 = A.getD k 0 := fun X k hk => by
    rw [List.getD_eq_getElem?_getD, List.getD_eq_getElem?_getD, List.getElem?_append_left hk]
  have gr : ∀ (X : List Int) k, A.length ≤ k → (A ++ X).getD k 0 = X.getD (k - A.length) 0 := fun X k hk => by
    rw [List.getD_eq_getElem?_getD, List.getD_eq_getElem?_getD, List.getElem?_append_right hk]
  refine ⟨by rw [List.length_append, List.length_append, List.length_cons]; omega, fun k hk => ?_, fun k hk => ?_⟩
  · rw [List.length_append] at hk
    by_cases c : k < A.length
    · rw [gl _ k c, gl _ k c]; exact Int.le_refl _
    · rw [gr _ k (by omega), gr _ k (by omega)]
      cases e : k - A.length with
      | zero => have := hB 0 (by omega); exact this
      | succ i => have := hBB i (by omega); exact this
  · rw [List.length_append] at hk
    by_cases c : k < A.length
    · refine .inr ?_
      by_cases c2 : k + 1 < A.length
      · rw [gl _ _ c2]; have := hA _ c2; omega
      · rw [gr _ _ (by omega), show k + 1 - A.length = 0 by omega]; exact Int.le_refl _
    · refine .inl ?_
      rw [gr _ _ (by omega), gr _ _ (by omega), show k + 1 - A.length = (k - A.length) + 1 by omega]
      exact Int.le_refl _
/-! ### one glider gone from an order -/
theorem full_after {md : Md} (ok : md.Ok) {J J' : List Int} {y : Gld} {my : Int} (hj : Jrel J J' y.joins) (hmy : y.joins + md.sink ≤ my) : ∀ (B : List Gld) {p : Int} {a a' : Option (Int × Int)} {q : Int × Int} {L L' : LG}, (∀ g ∈ B, KOk md g) → 0 < p → a = some q → my ≤ q.2 → 0 ≤ q.1 → q.1 < md.gaps.length → dom md a' a → Lrel md L' L → full md J p a L B → full md J' (p - 1) a' L' B
  | [], _, _, _, _, _, _, _, _, _, _, _, _, _, _, _ => trivial
  | g :: B, p, a, a', q, L, L', hB, hp, ha, hq, h0, h1, hd, hl, ⟨f1, f2, f3, f4⟩ => by
    subst ha
    have hg := hB g List.mem_cons_self
    have hm := hd g hg
    have hgt := soon_gt ok h0 h1 hg
    have r0 := ok.r0
    have k1 := hj.len
    refine ⟨Int.le_trans hm f1, ?_, hold_mono hl hm f3, ?_⟩
    · unfold inT at *
      rw [Bool.or_eq_true, decide_eq_true_eq, decide_eq_true_eq] at *
      by_cases c : (J'.length : Int) ≤ md.rings + (p - 1)
      · exact .inl c
      · refine .inr ?_
        rcases f2 with f2 | f2
        · omega
        · have hk : (md.rings + (p - 1)).toNat + 1 = (md.rings + p).toNat := by omega
          have := hj.nx (md.rings + (p - 1)).toNat (by omega)
          rw [hk] at this
          omega
    · have hn := full_after ok hj hmy B (p := p + 1) (a := some (g.kind, soonG md (some q) g)) (a' := some (g.kind, soonG md a' g)) (q := (g.kind, soonG md (some q) g)) (fun g hg => hB g (List.mem_cons_of_mem _ hg)) (by omega) rfl (by show my ≤ soonG md (some q) g; omega) hg.1 hg.2 (dom_same hm) (hl.snoc hm) f4
      rw [show p + 1 - 1 = p - 1 + 1 by omega] at hn
      exact hn
theorem full_gone {md : Md} (ok : md.Ok) {J J' : List Int} {y : Gld} (hy : KOk md y) (hyf : y.joins + md.sink ≤ y.first) (hj : Jrel J J' y.joins) {B : List Gld} (hB : ∀ g ∈ B, KOk md g) : ∀ (A : List Gld) {p : Int} {a : Option (Int × Int)} {L : LG}, (∀ g ∈ A, KOk md g) → 0 ≤ p → AOk md a → full md J p a L (A ++ y :: B) → full md J' p a L (A ++ B)
  | [], p, a, L, _, hp, ha, ⟨f1, f2, f3, f4⟩ => by
    have h := full_after ok hj (my := soonG md a y) (Int.le_trans hyf soon_ge_first) B (p := p + 1) (q := (y.kind, soonG md a y)) hB (by omega) rfl (Int.le_refl _) hy.1 hy.2 (dom_skip ok ha hy) Lrel.drop f4
    rw [show p + 1 - 1 = p by omega] at h
    exact h
  | g :: A, p, a, L, hA, hp, ha, ⟨f1, f2, f3, f4⟩ => by
    have hg := hA g List.mem_cons_self
    have r0 := ok.r0
    have k1 := hj.len
    refine ⟨f1, ?_, f3, full_gone ok hy hyf hj hB A (fun g hg => hA g (List.mem_cons_of_mem _ hg)) (by omega) (fun q hq => by cases hq; exact hg) f4⟩
    unfold inT at *
    rw [Bool.or_eq_true, decide_eq_true_eq, decide_eq_true_eq] at *
    by_cases c : (J'.length : Int) ≤ md.rings + p
    · exact .inl c
    · refine .inr ?_
      rcases f2 with f2 | f2
      · omega
      · have := hj.up (md.rings + p).toNat (by omega)
        omega
end Dr
set_option Elab.async false
set_option linter.all false
set_option maxRecDepth 100000
set_option maxHeartbeats 2000000
/-! the plain law, second half: what lands, told by an order -/
namespace Dr
theorem Sk.soon_eq (s : Sk) (a : Option (Int × Int)) (i : Int) : s.soonest a i = soonG s.md a (s.gl i) := rfl
theorem Sk.inT_eq (s : Sk) (m p : Int) : s.inTime m p = inT s.md s.joins m p := rfl
theorem Sk.landed_iff {s : Sk} {a : Option (Int × Int)} {i p m : Int} : s.landed a i p = some m ↔ m = soonG s.md a (s.gl i) ∧ soonG s.md a (s.gl i) ≤ (s.gl i).last ∧ inT s.md s.joins (soonG s.md a (s.gl i)) p = true := by
  unfold Sk.landed
  rw [Sk.soon_eq, Sk.inT_eq]
  split <;> rename_i h
  · rw [Bool.or_eq_true, decide_eq_true_eq, Bool.not_eq_true'] at h
    constructor
    · intro e; exact nomatch e
    · rintro ⟨_, h1, h2⟩
      rcases h with h | h
      · omega
      · rw [h] at h2; exact nomatch h2
  · rw [Bool.or_eq_true, decide_eq_true_eq, Bool.not_eq_true', not_or] at h
    constructor
    · intro e
      cases e
      exact ⟨rfl, by omega, by simpa using h.2⟩
    · rintro ⟨rfl, _, _⟩
      rfl
def Sk.lG (s : Sk) (l : List (Int × Int)) : LG := l.map fun q => (s.gl q.1, q.2)
theorem Sk.below_len (s : Sk) (l : List (Int × Int)) (t : Int) : (s.below l t).length = (belowG s.md (s.lG l) t).length := by
  unfold Sk.below belowG Sk.lG
  rw [List.filter_map, List.length_map]
  rfl
theorem Sk.hold_eq (s : Sk) (l : List (Int × Int)) (i m : Int) : s.mayHold l i m = holdG s.md (s.lG l) (s.gl i) m := by
  have e : (s.lG l).map (fun q => q.1.joins) = l.map fun p => (s.gl p.1).joins := by
    unfold Sk.lG
    rw [List.map_map]
    rfl
  have e2 : s.ringStep l i m = fun most t => if (decide ((s.gl i).joins ≤ t) && decide (t < m - s.md.sink)) = true then max most (1 + ((belowG s.md (s.lG l) t).length : Int)) else most := by
    funext most t
    unfold Sk.ringStep
    rw [Sk.below_len]
  have e3 : s.ringNeed l i m = ringG s.md (s.lG l) (s.gl i) m := by
    unfold Sk.ringNeed ringG
    rw [e, e2]
  unfold Sk.mayHold holdG
  rw [e3]
theorem Sk.lG_snoc (s : Sk) (l : List (Int × Int)) (i m : Int) : s.lG (l ++ [(i, m)]) = s.lG l ++ [(s.gl i, m)] := by
  unfold Sk.lG
  rw [List.map_append]
  rfl
theorem Sk.endA_snoc (s : Sk) (l : List (Int × Int)) (i m : Int) : s.endA (l ++ [(i, m)]) = some ((s.gl i).kind, m) := by
  unfold Sk.endA
  rw [List.foldl_append]
  rfl
/-- the fixed ones, both ways -/
theorem Sk.fix_to {s : Sk} : ∀ {o : List Int} {p : Nat} {l l' : List (Int × Int)} {r : List Gld}, s.fixAt p (s.endA l) l o = .ok l' → full s.md s.joins ((p : Int) + o.length) (s.endA l') (s.lG l') r → full s.md s.joins p (s.endA l) (s.lG l) (o.map s.gl ++ r)
  | [], p, l, l', r, h, hf => by
    cases h
    rw [List.length_nil, Int.natCast_zero, Int.add_zero] at hf
    exact hf
  | i :: o, p, l, l', r, h, hf => by
    rw [Sk.fixAt_cons] at h
    cases hm : s.landed (s.endA l) i p with
    | none => rw [hm] at h; exact nomatch h
    | some m =>
      rw [hm] at h
      dsimp only at h
      obtain ⟨e1, e2, e3⟩ := Sk.landed_iff.mp hm
      split at h <;> rename_i hh
      · rw [← Sk.endA_snoc s l i m] at h
        have hf' : full s.md s.joins ((p + 1 : Nat) + (o.length : Int)) (s.endA l') (s.lG l') r := by
          rw [List.length_cons] at hf
          rw [show ((p + 1 : Nat) : Int) + (o.length : Int) = (p : Int) + ((o.length + 1 : Nat) : Int) by omega]
          exact hf
        have ih := Sk.fix_to h hf'
        rw [Sk.endA_snoc, Sk.lG_snoc] at ih
        rw [e1] at ih hh
        rw [Sk.hold_eq] at hh
        exact ⟨e2, e3, hh, ih⟩
      · exact nomatch h
theorem Sk.fix_of {s : Sk} : ∀ {o : List Int} {p : Nat} {l : List (Int × Int)} {r : List Gld}, full s.md s.joins p (s.endA l) (s.lG l) (o.map s.gl ++ r) → ∃ l', s.fixAt p (s.endA l) l o = .ok l' ∧ full s.md s.joins ((p : Int) + o.length) (s.endA l') (s.lG l') r
  | [], p, l, r, h => ⟨l, rfl, by rw [List.length_nil, Int.natCast_zero, Int.add_zero]; exact h⟩
  | i :: o, p, l, r, ⟨h1, h2, h3, h4⟩ => by
    have hm : s.landed (s.endA l) i p = some (soonG s.md (s.endA l) (s.gl i)) := Sk.landed_iff.mpr ⟨rfl, h1, h2⟩
    rw [← Sk.hold_eq] at h3
    rw [← Sk.endA_snoc s l i, ← Sk.lG_snoc] at h4
    obtain ⟨l', e1, e2⟩ := Sk.fix_of (p := p + 1) h4
    refine ⟨l', ?_, ?_⟩
    · rw [Sk.fixAt_cons, hm]
      dsimp only
      rw [if_pos h3, ← Sk.endA_snoc s l i]
      exact e1
    · rw [List.length_cons]
      rw [show (p : Int) + ((o.length + 1 : Nat) : Int) = ((p + 1 : Nat) : Int) + (o.length : Int) by omega]
      exact e2
theorem minI_some {ns : List Int} (h : ns ≠ []) : (minI ns).isSome = true := by
  cases ns with
  | nil => exact absurd rfl h
  | cons n r => rfl
theorem hold_free {md : Md} {L : LG} {g : Gld} {m : Int} (h : g.ring = 0) : holdG md L g m = true := by
  unfold holdG
  rw [decide_eq_true h]
  rfl
/-- the free ones, both ways -/
theorem Sk.free_to {s : Sk} : ∀ {m : Nat} {a : Option (Int × Int)} {left : List Int}, left.Nodup → left.length = m → m ≤ s.gs.length → (∀ i ∈ left, (s.gl i).ring = 0) → (s.lf m a left).isSome = true → ∃ o : List Int, o.Perm left ∧ ∀ L, full s.md s.joins ((s.gs.length : Int) - m) a L (o.map s.gl)
  | 0, a, left, nd, hl, hn, hr, h => ⟨[], by rw [List.length_eq_zero_iff.mp hl], fun L => trivial⟩
  | m + 1, a, left, nd, hl, hn, hr, h => by
    obtain ⟨v, hv⟩ := Option.isSome_iff_exists.mp h
    obtain ⟨i, hi, e⟩ := Sk.lf_wit hv
    cases hb : s.lb m a left i with
    | none => rw [hb] at e; exact nomatch e
    | some q =>
      obtain ⟨v2, p⟩ := q
      unfold Sk.lb at hb
      cases ht : s.landed a i ((s.gs.length : Int) - (m + 1 : Nat)) with
      | none => rw [ht] at hb; exact nomatch hb
      | some t =>
        rw [ht] at hb
        dsimp only at hb
        cases hf : s.lf m (some ((s.gl i).kind, t)) (left.filter fun j => !decide (j = i)) with
        | none => rw [hf] at hb; exact nomatch hb
        | some v3 =>
          obtain ⟨e1, e2, e3⟩ := Sk.landed_iff.mp ht
          have hwl := without_len nd hi
          obtain ⟨o, ho, hfo⟩ := Sk.free_to (m := m) (left := left.filter fun j => !decide (j = i)) (nd.sublist List.filter_sublist) (by omega) (by omega) (fun j hj => hr j (List.mem_filter.mp hj).1) (by rw [hf]; rfl)
          refine ⟨i :: o, ?_, fun L => ⟨e2, e3, hold_free (hr i hi), ?_⟩⟩
          · refine (List.Perm.cons i ho).trans ?_
            have e : left.erase i = left.filter fun j => !decide (j = i) := by
              rw [nd.erase_eq_filter]
              refine List.filter_congr fun x _ => ?_
              by_cases c : x = i <;> simp [c]
            rw [← e]
            exact (List.perm_cons_erase hi).symm
          · have := hfo (L ++ [(s.gl i, soonG s.md a (s.gl i))])
            rw [e1] at this
            rw [show (s.gs.length : Int) - ((m + 1 : Nat) : Int) + 1 = (s.gs.length : Int) - (m : Nat) by omega]
            exact this
theorem Sk.free_back {s : Sk} : ∀ {m : Nat} {a : Option (Int × Int)} {left o : List Int} {L : LG}, left.Nodup → left.length = m → m ≤ s.gs.length → o.Perm left → full s.md s.joins ((s.gs.length : Int) - m) a L (o.map s.gl) → (s.lf m a left).isSome = true
  | 0, a, left, o, L, nd, hl, hn, ho, h => rfl
  | m + 1, a, left, [], L, nd, hl, hn, ho, h => by
    rw [← ho.length_eq] at hl
    exact nomatch hl
  | m + 1, a, left, i :: o, L, nd, hl, hn, ho, ⟨h1, h2, h3, h4⟩ => by
    have hi : i ∈ left := ho.mem_iff.mp List.mem_cons_self
    have hwl := without_len nd hi
    have ho2 : o.Perm (left.filter fun j => !decide (j = i)) := by
      have e : left.erase i = left.filter fun j => !decide (j = i) := by
        rw [nd.erase_eq_filter]
        refine List.filter_congr fun x _ => ?_
        by_cases c : x = i <;> simp [c]
      rw [← e]
      have := ho.erase i
      rw [List.erase_cons_head] at this
      exact this
    rw [show (s.gs.length : Int) - ((m + 1 : Nat) : Int) + 1 = (s.gs.length : Int) - (m : Nat) by omega] at h4
    have ih := Sk.free_back (m := m) (nd.sublist List.filter_sublist) (by omega) (by omega) ho2 h4
    obtain ⟨v, hv⟩ := Option.isSome_iff_exists.mp ih
    have hld : s.landed a i ((s.gs.length : Int) - (m + 1 : Nat)) = some (soonG s.md a (s.gl i)) := Sk.landed_iff.mpr ⟨rfl, h1, h2⟩
    rw [Sk.lf_succ]
    refine minI_some fun e => ?_
    have hm : v ∈ left.filterMap fun i => (s.lb m a left i).map Prod.fst := by
      refine List.mem_filterMap.mpr ⟨i, hi, ?_⟩
      unfold Sk.lb
      rw [hld]
      dsimp only
      rw [hv]
      rfl
    rw [e] at hm
    exact nomatch hm
theorem Sk.free_ring {s : Sk} (ok : s.Ok) {i : Int} (h : i ∈ s.free) : (s.gl i).ring = 0 := by
  obtain ⟨h1, h2⟩ := Sk.free_in h
  refine Decidable.byContradiction fun hn => h2 ?_
  have := ok.rg i.toNat (s.gl i) (s.at_ h1) hn
  rw [show ((i.toNat : Nat) : Int) = i by have := h1.1; omega] at this
  exact this
theorem Sk.fixed_free_len {s : Sk} (ok : s.Ok) : s.fixed.length + s.free.length = s.gs.length := by
  have hp : (s.fixed ++ s.free).Perm (rgI s.gs.length) := (List.perm_ext_iff_of_nodup (List.nodup_append.mpr ⟨ok.nd, s.free_nd, fun a ha b hb e => (Sk.free_in hb).2 (e ▸ ha)⟩) (rgI_nodup _)).mpr fun i => by
    rw [List.mem_append, mem_rgI]
    constructor
    · rintro (h | h)
      · exact ok.fx i h
      · exact (Sk.free_in h).1
    · intro h
      by_cases c : i ∈ s.fixed
      · exact .inl c
      · exact .inr (Sk.free_of h c)
  have := hp.length_eq
  rw [List.length_append, rgI_len] at this
  exact this
theorem Sk.lands_iff {s : Sk} (ok : s.Ok) : s.lands = true ↔ ∃ o : List Int, o.Perm s.free ∧ full s.md s.joins 0 s.ahead [] ((s.fixed ++ o).map s.gl) := by
  have hfl := Sk.fixed_free_len ok
  have hld : s.lands = match s.fixAt 0 s.ahead [] s.fixed with
    | .error _ => false
    | .ok l => decide (s.gs.length = 0) || (s.lf s.free.length (s.endA l) s.free).isSome := rfl
  constructor
  · intro h
    cases hf : s.fixAt 0 s.ahead [] s.fixed with
    | error p => rw [hld, hf] at h; exact nomatch h
    | ok l =>
      rw [hld, hf] at h
      dsimp only at h
      have h' : (s.lf s.free.length (s.endA l) s.free).isSome = true := by
        rw [Bool.or_eq_true, decide_eq_true_eq] at h
        rcases h with h | h
        · have : s.free.length = 0 := by omega
          rw [this]
          rfl
        · exact h
      obtain ⟨o, ho, hfo⟩ := Sk.free_to s.free_nd rfl (by omega) (fun i hi => Sk.free_ring ok hi) h'
      refine ⟨o, ho, ?_⟩
      rw [List.map_append]
      have := hfo (s.lG l)
      rw [show (s.gs.length : Int) - (s.free.length : Nat) = ((0 : Nat) : Int) + (s.fixed.length : Nat) by omega] at this
      exact Sk.fix_to (l := []) (p := 0) hf this
  · rintro ⟨o, ho, h⟩
    rw [List.map_append] at h
    obtain ⟨l, e1, e2⟩ := Sk.fix_of (l := []) (p := 0) h
    rw [show ((0 : Nat) : Int) + (s.fixed.length : Nat) = (s.gs.length : Int) - (s.free.length : Nat) by omega] at e2
    have h' := Sk.free_back s.free_nd rfl (by omega) ho e2
    have e1' : s.fixAt 0 s.ahead [] s.fixed = .ok l := e1
    rw [hld, e1']
    dsimp only
    rw [h', Bool.or_true]
end Dr
set_option Elab.async false
set_option linter.all false
set_option maxRecDepth 100000
set_option maxHeartbeats 2000000
/-! the plain law: lots, and the smaller lot of one that lands -/
namespace Dr
def atY (Y : List Int) (k : Int) : Int := Y.getD k.toNat 0
theorem atY_some {Y : List Int} {k : Int} (h0 : 0 ≤ k) (h1 : k < Y.length) : Y[k.toNat]? = some (atY Y k) := at_lt (by omega) 0
theorem atY_mem {Y : List Int} {k : Int} (h0 : 0 ≤ k) (h1 : k < Y.length) : atY Y k ∈ Y := List.mem_of_getElem? (atY_some h0 h1)
theorem atY_idx {Y : List Int} {i : Int} (h : i ∈ Y) : atY Y (idxI Y i) = i := by
  unfold atY idxI
  rw [Int.toNat_natCast]
  exact getD_at (idx_at h)
theorem idx_atY {Y : List Int} (nd : Y.Nodup) {k : Int} (h0 : 0 ≤ k) (h1 : k < Y.length) : idxI Y (atY Y k) = k := by
  unfold idxI
  rw [idx_eq nd (atY_some h0 h1)]
  omega
theorem idxI_in {Y : List Int} {i : Int} (h : i ∈ Y) : 0 ≤ idxI Y i ∧ idxI Y i < Y.length := by
  have := List.idxOf_lt_length_of_mem h
  unfold idxI
  omega
theorem rgI_atY (Y : List Int) : (rgI Y.length).map (atY Y) = Y := by
  apply List.ext_getElem?
  intro k
  unfold rgI
  rw [List.map_map, List.getElem?_map]
  by_cases h : k < Y.length
  · rw [List.getElem?_range h, List.getElem?_eq_getElem h]
    show some (atY Y (k : Int)) = _
    have := atY_some (Y := Y) (k := (k : Int)) (by omega) (by omega)
    rw [Int.toNat_natCast, List.getElem?_eq_getElem h] at this
    exact this.symm
  · rw [List.getElem?_eq_none (by rw [List.length_range]; omega), List.getElem?_eq_none (by omega)]
    rfl
section
variable {s : Sk} {Y : List Int}
theorem nar_len : (s.narrow Y).gs.length = Y.length := by show (Y.map s.gl).length = _; rw [List.length_map]
theorem nar_gl {k : Int} (h0 : 0 ≤ k) (h1 : k < Y.length) : (s.narrow Y).gl k = s.gl (atY Y k) := by
  show (Y.map s.gl).getD k.toNat .z = _
  exact getD_at (by rw [List.getElem?_map, atY_some h0 h1]; rfl)
theorem nar_idx {i : Int} (h : i ∈ Y) : (s.narrow Y).gl (idxI Y i) = s.gl i := by
  obtain ⟨h0, h1⟩ := idxI_in h
  rw [nar_gl h0 h1, atY_idx h]
theorem nar_fixed {k : Int} (nd : Y.Nodup) (h0 : 0 ≤ k) (h1 : k < Y.length) : k ∈ (s.narrow Y).fixed ↔ atY Y k ∈ s.fixed := by
  show k ∈ (s.fixed.filter fun i => decide (i ∈ Y)).map (idxI Y) ↔ _
  rw [List.mem_map]
  constructor
  · rintro ⟨i, hi, e⟩
    obtain ⟨h2, h3⟩ := List.mem_filter.mp hi
    have := atY_idx (of_decide_eq_true h3 : i ∈ Y)
    rw [e] at this
    rw [this]
    exact h2
  · intro h
    exact ⟨atY Y k, List.mem_filter.mpr ⟨h, decide_eq_true (atY_mem h0 h1)⟩, idx_atY nd h0 h1⟩
theorem nar_free (nd : Y.Nodup) : (s.narrow Y).free.map (atY Y) = Y.filter fun i => !decide (i ∈ s.fixed) := by
  unfold Sk.free
  rw [nar_len]
  have e : (rgI Y.length).filter (fun g => !decide (g ∈ (s.narrow Y).fixed)) = (rgI Y.length).filter ((fun i => !decide (i ∈ s.fixed)) ∘ atY Y) := List.filter_congr fun k hk => by
    obtain ⟨h0, h1⟩ := mem_rgI.mp hk
    show _ = !decide (atY Y k ∈ s.fixed)
    rw [decide_eq_decide.mpr (nar_fixed nd h0 h1)]
  rw [e, ← List.filter_map, rgI_atY]
def joinsY (s : Sk) (Y : List Int) : List Int := sortI ((Y.map s.gl).map Gld.joins)
def Feas (s : Sk) (Y : List Int) : Prop := ∃ o : List Int, o.Perm (Y.filter fun i => !decide (i ∈ s.fixed)) ∧ full s.md (joinsY s Y) 0 s.ahead [] (((s.fixed.filter fun i => decide (i ∈ Y)) ++ o).map s.gl)
theorem map_nar {o : List Int} (h : ∀ k ∈ o, 0 ≤ k ∧ k < Y.length) : o.map (s.narrow Y).gl = (o.map (atY Y)).map s.gl := by
  rw [List.map_map]
  exact List.map_congr_left fun k hk => nar_gl (h k hk).1 (h k hk).2
theorem nar_fix_map : (s.narrow Y).fixed.map (s.narrow Y).gl = (s.fixed.filter fun i => decide (i ∈ Y)).map s.gl := by
  show ((s.fixed.filter fun i => decide (i ∈ Y)).map (idxI Y)).map (s.narrow Y).gl = _
  rw [List.map_map]
  exact List.map_congr_left fun i hi => nar_idx (of_decide_eq_true (List.mem_filter.mp hi).2)
theorem ok_iff (ok : s.Ok) (h : LotOk s Y) : s.ok Y = true ↔ Feas s Y := by
  unfold Sk.ok
  rw [Sk.lands_iff (ok.narrow h)]
  constructor
  · rintro ⟨o, ho, hf⟩
    refine ⟨o.map (atY Y), ?_, ?_⟩
    · rw [← nar_free h.nd]
      exact ho.map _
    · rw [List.map_append, nar_fix_map, map_nar fun k hk => by
        have := (Sk.free_in (ho.mem_iff.mp hk)).1
        rw [Sk.In, nar_len] at this
        exact this] at hf
      rw [List.map_append]
      exact hf
  · rintro ⟨o, ho, hf⟩
    have hoY : ∀ i ∈ o, i ∈ Y := fun i hi => (List.mem_filter.mp (ho.mem_iff.mp hi)).1
    refine ⟨o.map (idxI Y), ?_, ?_⟩
    · have e : ((s.narrow Y).free.map (atY Y)).map (idxI Y) = (s.narrow Y).free := by
        rw [List.map_map]
        refine (List.map_congr_left fun k hk => ?_).trans (List.map_id _)
        have := (Sk.free_in hk).1
        rw [Sk.In, nar_len] at this
        exact idx_atY h.nd this.1 this.2
      rw [← e, nar_free h.nd]
      exact ho.map _
    · have e : (o.map (idxI Y)).map (s.narrow Y).gl = o.map s.gl := by
        rw [List.map_map]
        exact List.map_congr_left fun i hi => nar_idx (hoY i hi)
      rw [List.map_append, nar_fix_map, e, ← List.map_append]
      exact hf
end
/-! ### one gone -/
def wo (Y : List Int) (y : Int) : List Int := Y.filter fun j => !decide (j = y)
theorem mem_wo {Y : List Int} {y i : Int} : i ∈ wo Y y ↔ i ∈ Y ∧ i ≠ y := by
  unfold wo
  rw [List.mem_filter]
  simp
theorem wo_erase {Y : List Int} (nd : Y.Nodup) (y : Int) : Y.erase y = wo Y y := by
  rw [nd.erase_eq_filter]
  refine List.filter_congr fun x _ => ?_
  by_cases c : x = y <;> simp [c]
theorem wo_none {Y : List Int} {y : Int} (h : y ∉ Y) : wo Y y = Y := List.filter_eq_self.mpr fun x hx => by
  have : x ≠ y := fun e => h (e ▸ hx)
  simp [this]
theorem wo_append (A B : List Int) (y : Int) : wo (A ++ B) y = wo A y ++ wo B y := List.filter_append A B
theorem wo_filter (Y : List Int) (y : Int) (p : Int → Bool) : wo (Y.filter p) y = (wo Y y).filter p := by
  unfold wo
  rw [List.filter_filter, List.filter_filter]
  exact List.filter_congr fun x _ => Bool.and_comm _ _
theorem Feas.gone {s : Sk} (ok : s.Ok) {Y : List Int} (h : LotOk s Y) {y : Int} (hy : y ∈ Y) (hf : Feas s Y) : Feas s (wo Y y) := by
  obtain ⟨o, ho, hf⟩ := hf
  have hnd := h.nd
  have hon : o.Nodup := ho.nodup_iff.mpr (hnd.sublist List.filter_sublist)
  have hoin : ∀ i ∈ o, i ∈ Y ∧ i ∉ s.fixed := fun i hi => by
    have := List.mem_filter.mp (ho.mem_iff.mp hi)
    exact ⟨this.1, by simpa using this.2⟩
  have hSn : ((s.fixed.filter fun i => decide (i ∈ Y)) ++ o).Nodup := List.nodup_append.mpr ⟨ok.nd.sublist List.filter_sublist, hon, fun a ha b hb e => (hoin b hb).2 (e ▸ (List.mem_filter.mp ha).1)⟩
  have hSin : ∀ i ∈ (s.fixed.filter fun i => decide (i ∈ Y)) ++ o, i ∈ Y := fun i hi => by
    rcases List.mem_append.mp hi with hi | hi
    · exact of_decide_eq_true (List.mem_filter.mp hi).2
    · exact (hoin i hi).1
  have hyS : y ∈ (s.fixed.filter fun i => decide (i ∈ Y)) ++ o := by
    by_cases c : y ∈ s.fixed
    · exact List.mem_append_left _ (List.mem_filter.mpr ⟨c, decide_eq_true hy⟩)
    · exact List.mem_append_right _ (ho.mem_iff.mpr (List.mem_filter.mpr ⟨hy, by simpa using c⟩))
  have hfix : (s.fixed.filter fun i => decide (i ∈ wo Y y)) = wo (s.fixed.filter fun i => decide (i ∈ Y)) y := by
    unfold wo
    rw [List.filter_filter]
    refine List.filter_congr fun x _ => ?_
    by_cases c : x = y <;> by_cases c2 : x ∈ Y <;> simp [c, c2]
  have hov : (wo o y).Perm ((wo Y y).filter fun i => !decide (i ∈ s.fixed)) := by
    rw [← wo_filter]
    exact ho.filter _
  refine ⟨wo o y, hov, ?_⟩
  rw [hfix, ← wo_append]
  have hjp : (joinsY s Y).Perm ((s.gl y).joins :: joinsY s (wo Y y)) := by
    have h1 : Y.Perm (y :: wo Y y) := by
      rw [← wo_erase hnd]
      exact List.perm_cons_erase hy
    have h2 := (h1.map s.gl).map Gld.joins
    exact (sortI_perm _).trans (h2.trans (List.Perm.cons _ (sortI_perm _).symm))
  have hj := jrel_of hjp (sortI_sorted _) (sortI_sorted _)
  generalize (s.fixed.filter fun i => decide (i ∈ Y)) ++ o = S at *
  obtain ⟨A, B, rfl⟩ := List.append_of_mem hyS
  have hk : ∀ i ∈ Y, KOk s.md (s.gl i) := fun i hi => ⟨(ok.glk (h.inn i hi)).k0, (ok.glk (h.inn i hi)).k1⟩
  have e : wo (A ++ y :: B) y = A ++ B := by
    obtain ⟨n1, n2, n3⟩ := List.nodup_append.mp hSn
    obtain ⟨n4, n5⟩ := List.nodup_cons.mp n2
    rw [wo_append, wo_none fun hA => n3 y hA y List.mem_cons_self rfl]
    congr 1
    show wo ([y] ++ B) y = B
    rw [wo_append, wo_none n4]
    have : wo [y] y = [] := by simp [wo]
    rw [this]
    rfl
  rw [e]
  rw [List.map_append, List.map_cons] at hf
  rw [List.map_append]
  exact full_gone ok.md (hk y hy) (ok.glk (h.inn y hy)).jf hj (fun g hg => by
    obtain ⟨i, hi, rfl⟩ := List.mem_map.mp hg
    exact hk i (hSin i (List.mem_append_right _ (List.mem_cons_of_mem _ hi)))) (A.map s.gl) (fun g hg => by
    obtain ⟨i, hi, rfl⟩ := List.mem_map.mp hg
    exact hk i (hSin i (List.mem_append_left _ hi))) (Int.le_refl 0) (fun p hp => ⟨(ok.ahead p hp).1, (ok.ahead p hp).2.1⟩) hf
theorem LotOk.wo {s : Sk} {Y : List Int} (h : LotOk s Y) (y : Int) : LotOk s (wo Y y) := ⟨h.up.sublist List.filter_sublist, fun i hi => h.inn i (mem_wo.mp hi).1⟩
theorem up_ext : ∀ {a b : List Int}, a.Pairwise (· < ·) → b.Pairwise (· < ·) → (∀ i, i ∈ a ↔ i ∈ b) → a = b := fun {a b} h1 h2 h => by
  have n1 : a.Nodup := h1.imp fun {x y} h e => by omega
  have n2 : b.Nodup := h2.imp fun {x y} h e => by omega
  have hp := (List.perm_ext_iff_of_nodup n1 n2).mpr h
  exact sorted_eq hp (h1.imp fun {x y} h => by omega) (h2.imp fun {x y} h => by omega)
theorem ok_mono {s : Sk} (ok : s.Ok) : ∀ (n : Nat) {X Y : List Int}, Y.length ≤ X.length + n → LotOk s X → LotOk s Y → (∀ i ∈ X, i ∈ Y) → s.ok Y = true → s.ok X = true
  | n, X, Y, hl, hX, hY, hs, h => by
    by_cases c : ∀ i ∈ Y, i ∈ X
    · rw [up_ext hX.up hY.up fun i => ⟨hs i, c i⟩]
      exact h
    · obtain ⟨y, hy⟩ := Classical.not_forall.mp c
      obtain ⟨hyY, hyX⟩ := Classical.not_imp.mp hy
      have hle : X.length < Y.length := by
        have := hX.nd.length_le_of_subset (fun i hi => mem_wo.mpr ⟨hs i hi, fun e => hyX (e ▸ hi)⟩ : X ⊆ wo Y y)
        have h2 := without_len hY.nd hyY
        have h3 : (wo Y y).length + 1 = Y.length := h2
        omega
      cases n with
      | zero => omega
      | succ n =>
        have h2 : (wo Y y).length + 1 = Y.length := without_len hY.nd hyY
        refine ok_mono ok n (Y := wo Y y) (by omega) hX (hY.wo y) (fun i hi => mem_wo.mpr ⟨hs i hi, fun e => hyX (e ▸ hi)⟩) ?_
        exact (ok_iff ok (hY.wo y)).mpr (((ok_iff ok hY).mp h).gone ok hY hyY)
theorem ok_nil (s : Sk) : s.ok [] = true := by
  have e : (s.narrow []).fixed = [] := by
    show (s.fixed.filter fun i => decide (i ∈ ([] : List Int))).map _ = []
    rw [List.filter_eq_nil_iff.mpr fun i _ => by simp]
    rfl
  unfold Sk.ok Sk.lands
  rw [e]
  rfl
end Dr
set_option Elab.async false
set_option linter.all false
set_option maxRecDepth 100000
set_option maxHeartbeats 2000000
/-! the plain law: the least lots, and how they stand to each other -/
namespace Dr
theorem lotsG_take {ns : List Int} {k : Nat} (h : k < ns.length) : lotsG (ns.take (k + 1)) = lotsG (ns.take k) ++ (lotsG (ns.take k)).map (· ++ [ns[k]]) := by
  rw [List.take_add_one, List.getElem?_eq_getElem h]
  exact lotsG_snoc _ _
theorem lotsG_nodup {ns : List Int} (nd : ns.Nodup) : ∀ k, k ≤ ns.length → (lotsG (ns.take k)).Nodup
  | 0, _ => by
    rw [List.take_zero]
    exact List.nodup_cons.mpr ⟨(fun h => nomatch h), List.nodup_nil⟩
  | k + 1, hk => by
    have ih := lotsG_nodup nd k (by omega)
    rw [lotsG_take (by omega)]
    refine List.nodup_append.mpr ⟨ih, List.pairwise_map.mpr (ih.imp fun {a b} hne e => hne (List.append_cancel_right e)), fun a ha b hb e => ?_⟩
    obtain ⟨c, hc, rfl⟩ := List.mem_map.mp hb
    have h1 := (lotsG_in ha).subset (e ▸ List.mem_append_right _ (List.mem_singleton.mpr rfl) : ns[k] ∈ a)
    obtain ⟨i, hi⟩ := List.mem_iff_getElem?.mp h1
    have hil := lt_at hi
    rw [List.length_take] at hil
    rw [List.getElem?_take_of_lt (by omega)] at hi
    have := nodup_at nd hi (List.getElem?_eq_getElem (show k < ns.length by omega))
    omega
theorem sub_one {b : List Int} {x : Int} (h : b.Sublist [x]) : b = [] ∨ b = [x] := by
  cases h with
  | cons _ h => exact .inl (List.sublist_nil.mp h)
  | cons_cons _ h => exact .inr (by rw [List.sublist_nil.mp h])
theorem lotsG_of {ns : List Int} : ∀ k, k ≤ ns.length → ∀ l, l.Sublist (ns.take k) → l ∈ lotsG (ns.take k)
  | 0, _, l, h => by
    rw [List.take_zero] at h ⊢
    rw [List.sublist_nil.mp h]
    exact List.mem_cons_self
  | k + 1, hk, l, h => by
    rw [lotsG_take (by omega)]
    rw [List.take_add_one, List.getElem?_eq_getElem (show k < ns.length by omega)] at h
    obtain ⟨a, b, rfl, h1, h2⟩ := List.sublist_append_iff.mp h
    have ih := lotsG_of k (by omega) a h1
    rcases sub_one (h2 : b.Sublist [ns[k]]) with rfl | rfl
    · rw [List.append_nil]
      exact List.mem_append_left _ ih
    · exact List.mem_append_right _ (List.mem_map.mpr ⟨a, ih, rfl⟩)
section
variable {s : Sk}
theorem lots_mem {l : List Int} : l ∈ s.lots ↔ l.Sublist s.all := by
  unfold Sk.lots
  rw [(sortL_perm _).mem_iff]
  have e : s.all.take s.all.length = s.all := List.take_length
  constructor
  · exact lotsG_in
  · intro h
    have := lotsG_of (ns := s.all) s.all.length (Nat.le_refl _) l (by rw [e]; exact h)
    rw [e] at this
    exact this
theorem lots_nodup : s.lots.Nodup := by
  unfold Sk.lots
  rw [(sortL_perm _).nodup_iff]
  have := lotsG_nodup (rgI_nodup s.gs.length) s.all.length (Nat.le_refl _)
  rw [show (rgI s.gs.length).take s.all.length = s.all from List.take_length] at this
  exact this
theorem lots_sorted : s.lots.Pairwise fun a b => a.length ≤ b.length := sortL_len _
theorem lots_nil : s.lots = [] :: lotsF s.all := by
  have hm : ([] : List Int) ∈ s.lots := lots_mem.mpr (List.nil_sublist _)
  unfold lotsF
  show s.lots = [] :: s.lots.filter _
  have nd := lots_nodup (s := s)
  have so := lots_sorted (s := s)
  generalize s.lots = L at *
  cases L with
  | nil => exact nomatch hm
  | cons a r =>
    have ha : a = [] := by
      rcases List.mem_cons.mp hm with h | h
      · exact h.symm
      · have := (List.pairwise_cons.mp so).1 [] h
        exact List.length_eq_zero_iff.mp (by simpa using this)
    subst ha
    rw [List.filter_cons_of_neg (by simp)]
    refine congrArg _ (List.filter_eq_self.mpr fun b hb => ?_).symm
    have : b ≠ [] := fun e => (List.nodup_cons.mp nd).1 (e ▸ hb)
    exact decide_eq_true (List.length_pos_iff.mpr this)
theorem lots_ok {l : List Int} (h : l ∈ s.lots) : LotOk s l := Sk.sub_ok (lots_mem.mp h)
end
/-! ### least lots -/
def Sb (a b : List Int) : Prop := ∀ x ∈ a, x ∈ b
theorem Sb.eq {a b : List Int} (ha : a.Pairwise (· < ·)) (hb : b.Pairwise (· < ·)) (h : Sb a b) (hl : b.length ≤ a.length) : a = b := by
  have na : a.Nodup := ha.imp fun {x y} h e => by omega
  have nb : b.Nodup := hb.imp fun {x y} h e => by omega
  refine up_ext ha hb fun i => ⟨h i, fun hi => Decidable.byContradiction fun hn => ?_⟩
  have h1 := na.length_le_of_subset (fun x hx => mem_wo.mpr ⟨h x hx, fun e => hn (e ▸ hx)⟩ : a ⊆ wo b i)
  have h2 : (wo b i).length + 1 = b.length := without_len nb hi
  omega
theorem Sb.len {a b : List Int} (ha : a.Pairwise (· < ·)) (h : Sb a b) : a.length ≤ b.length := by
  have na : a.Nodup := ha.imp fun {x y} h e => by omega
  exact na.length_le_of_subset h
def Min (q : List Int → Bool) (L : List (List Int)) (l : List Int) : Prop := q l = true ∧ ∀ m ∈ L, Sb m l → q m = true → m = l
def minB (q : List Int → Bool) (L : List (List Int)) (l : List Int) : Bool := q l && L.all fun m => !(m.all (fun x => decide (x ∈ l)) && q m) || decide (m = l)
theorem sb_iff {a b : List Int} : (a.all fun x => decide (x ∈ b)) = true ↔ Sb a b := by
  rw [List.all_eq_true]
  exact ⟨fun h x hx => of_decide_eq_true (h x hx), fun h x hx => decide_eq_true (h x hx)⟩
theorem min_iff {q : List Int → Bool} {L : List (List Int)} {l : List Int} : minB q L l = true ↔ Min q L l := by
  unfold minB Min
  rw [Bool.and_eq_true, List.all_eq_true]
  refine and_congr_right fun _ => ⟨fun h m hm h1 h2 => ?_, fun h m hm => ?_⟩
  · have := h m hm
    rw [sb_iff.mpr h1, h2] at this
    exact of_decide_eq_true (by simpa using this)
  · cases h1 : (m.all fun x => decide (x ∈ l)) with
    | false => rfl
    | true =>
      cases h2 : q m with
      | false => rfl
      | true =>
        rw [h m hm (sb_iff.mp h1) h2]
        simp
theorem has_iff {l : List Int} {os : List (List Int)} : hasSub l os = true ↔ ∃ o ∈ os, Sb o l := by
  unfold hasSub
  rw [List.any_eq_true]
  exact ⟨fun ⟨o, h1, h2⟩ => ⟨o, h1, sb_iff.mp h2⟩, fun ⟨o, h1, h2⟩ => ⟨o, h1, sb_iff.mpr h2⟩⟩
structure LOk (L : List (List Int)) : Prop where
  up : ∀ l ∈ L, l.Pairwise (· < ·)
  nd : L.Nodup
  so : L.Pairwise fun a b => a.length ≤ b.length
theorem LOk.least {L : List (List Int)} (O : LOk L) {q : List Int → Bool} : ∀ (n : Nat) {l : List Int}, l.length ≤ n → l ∈ L → q l = true → ∃ m ∈ L, Sb m l ∧ Min q L m
  | n, l, hn, hl, hq => by
    by_cases c : Min q L l
    · exact ⟨l, hl, fun x hx => hx, c⟩
    · have : ∃ m ∈ L, Sb m l ∧ q m = true ∧ m ≠ l := Classical.byContradiction fun hno => c ⟨hq, fun m hm h1 h2 => Decidable.byContradiction fun hne => hno ⟨m, hm, h1, h2, hne⟩⟩
      obtain ⟨m, hm, h1, h2, hne⟩ := this
      have hlt : m.length < l.length := by
        refine Nat.lt_of_not_le fun hle => hne (Sb.eq (O.up m hm) (O.up l hl) h1 hle)
      cases n with
      | zero => omega
      | succ n =>
        obtain ⟨m2, h3, h4, h5⟩ := O.least n (l := m) (by omega) hm h2
        exact ⟨m2, h3, fun x hx => h1 x (h4 x hx), h5⟩
theorem LOk.greedy {L : List (List Int)} (O : LOk L) (q : List Int → Bool) : ∀ k, k ≤ L.length → greedy q (L.take k) = (L.take k).filter (minB q L)
  | 0, _ => by rw [List.take_zero]; rfl
  | k + 1, hk => by
    have ih := O.greedy q k (by omega)
    have hkl : k < L.length := by omega
    have e1 : L.take (k + 1) = L.take k ++ [L[k]] := by rw [List.take_add_one, List.getElem?_eq_getElem hkl]; rfl
    have hmem : L[k] ∈ L := List.getElem_mem hkl
    rw [e1, List.filter_append]
    show greedyK q (L.take k ++ [L[k]]) [] = _
    rw [greedyK_snoc]
    rw [show greedyK q (L.take k) [] = (L.take k).filter (minB q L) from ih]
    have key : (!hasSub L[k] ((L.take k).filter (minB q L)) && q L[k]) = minB q L L[k] := by
      cases hm : minB q L L[k] with
      | true =>
        have M := min_iff.mp hm
        rw [M.1, Bool.and_true, Bool.not_eq_true']
        refine Bool.eq_false_iff.mpr fun hh => ?_
        obtain ⟨o, ho, hs⟩ := has_iff.mp hh
        obtain ⟨h1, h2⟩ := List.mem_filter.mp ho
        have e := M.2 o (List.mem_of_mem_take h1) hs (min_iff.mp h2).1
        obtain ⟨i, hi⟩ := List.mem_iff_getElem?.mp h1
        have hil := lt_at hi
        rw [List.length_take] at hil
        rw [List.getElem?_take_of_lt (by omega), e] at hi
        have := nodup_at O.nd hi (List.getElem?_eq_getElem hkl)
        omega
      | false =>
        cases hq : q L[k] with
        | false => rw [Bool.and_false]
        | true =>
          rw [Bool.and_true, Bool.not_eq_false']
          obtain ⟨m, h1, h2, h3⟩ := O.least L[k].length (Nat.le_refl _) hmem hq
          have hne : m ≠ L[k] := fun e => by
            rw [e] at h3
            rw [min_iff.mpr h3] at hm
            exact nomatch hm
          have hlt : m.length < L[k].length := Nat.lt_of_not_le fun hle => hne (Sb.eq (O.up m h1) (O.up _ hmem) h2 hle)
          refine has_iff.mpr ⟨m, List.mem_filter.mpr ⟨?_, min_iff.mpr h3⟩, h2⟩
          obtain ⟨i, hi⟩ := List.mem_iff_getElem?.mp h1
          have hil := lt_at hi
          rw [List.getElem?_eq_getElem hil] at hi
          have him := Option.some.inj hi
          have hik : i < k := by
            refine Nat.lt_of_not_le fun hle => ?_
            rcases Nat.lt_or_eq_of_le hle with h | h
            · have := List.pairwise_iff_getElem.mp O.so k i hkl hil h
              rw [him] at this
              omega
            · subst h
              rw [him] at hlt
              omega
          refine List.mem_of_getElem? (i := i) ?_
          rw [List.getElem?_take_of_lt hik, List.getElem?_eq_getElem hil, him]
    rw [key]
    cases hm : minB q L L[k] with
    | true => rw [if_pos rfl, List.filter_cons_of_pos hm]; rfl
    | false => rw [if_neg (by decide), List.filter_cons_of_neg (by rw [hm]; decide), List.filter_nil, List.append_nil]
theorem LOk.greedy_all {L : List (List Int)} (O : LOk L) (q : List Int → Bool) : Dr.greedy q L = L.filter (minB q L) := by
  have := O.greedy q L.length (Nat.le_refl _)
  rw [List.take_length] at this
  exact this
theorem LOk.greedy_congr {L : List (List Int)} (O : LOk L) {q q' : List Int → Bool} (h : ∀ l ∈ L, q l = q' l) : Dr.greedy q L = Dr.greedy q' L := by
  rw [O.greedy_all, O.greedy_all]
  refine List.filter_congr fun l hl => Bool.eq_iff_iff.mpr ?_
  rw [min_iff, min_iff]
  unfold Min
  rw [h l hl]
  exact and_congr_right fun _ => ⟨fun g m hm h1 h2 => g m hm h1 ((h m hm).trans h2), fun g m hm h1 h2 => g m hm h1 ((h m hm).symm.trans h2)⟩
theorem lots_LOk (s : Sk) : LOk s.lots := ⟨fun l h => (lots_ok h).up, lots_nodup, lots_sorted⟩
theorem meets_iff {os : List (List Int)} {l : List Int} : meets os l = true ↔ ∀ o ∈ os, ∃ x ∈ o, x ∈ l := by
  unfold meets
  rw [List.all_eq_true]
  constructor
  · intro h o ho
    obtain ⟨x, h1, h2⟩ := List.any_eq_true.mp (h o ho)
    exact ⟨x, h1, of_decide_eq_true h2⟩
  · intro h o ho
    obtain ⟨x, h1, h2⟩ := h o ho
    exact List.any_eq_true.mpr ⟨x, h1, decide_eq_true h2⟩
theorem mem_but {s : Sk} {l : List Int} {i : Int} : i ∈ s.but l ↔ s.In i ∧ i ∉ l := by
  unfold Sk.but Sk.all
  rw [List.mem_filter, mem_rgI]
  simp [Sk.In]
theorem but_lots (s : Sk) (l : List Int) : s.but l ∈ s.lots := lots_mem.mpr List.filter_sublist
section
variable {s : Sk} (ok : s.Ok)
include ok
theorem stuck_eq : s.stuck = s.lots.filter (minB (fun l => !s.ok l) s.lots) := by
  rw [← (lots_LOk s).greedy_all, lots_nil]
  unfold Sk.stuck greedy
  show _ = greedyK _ (lotsF s.all) (if (!hasSub [] [] && !s.ok []) = true then [] ++ [[]] else [])
  rw [ok_nil, if_neg (by simp)]
theorem sent_eq : s.sent = s.lots.filter (minB (fun l => s.ok (s.but l)) s.lots) := by
  rw [← (lots_LOk s).greedy_all, lots_nil]
  rfl
theorem mono2 {X Y : List Int} (hX : X ∈ s.lots) (hY : Y ∈ s.lots) (h : Sb X Y) (hk : s.ok Y = true) : s.ok X = true := ok_mono ok Y.length (by omega) (lots_ok hX) (lots_ok hY) h hk
theorem plain_p4 {l : List Int} (hl : l ∈ s.lots) : s.ok l = !hasSub l s.stuck := by
  rw [stuck_eq ok]
  cases h : s.ok l with
  | true =>
    refine ((Bool.not_eq_true' _).mpr (Bool.eq_false_iff.mpr fun hh => ?_)).symm
    obtain ⟨o, ho, hs⟩ := has_iff.mp hh
    obtain ⟨h1, h2⟩ := List.mem_filter.mp ho
    have h3 : (!s.ok o) = true := (min_iff.mp h2).1
    rw [mono2 ok h1 hl hs h] at h3
    exact nomatch h3
  | false =>
    refine ((Bool.not_eq_false' _).mpr (has_iff.mpr ?_)).symm
    obtain ⟨m, h1, h2, h3⟩ := (lots_LOk s).least (q := fun l => !s.ok l) l.length (Nat.le_refl _) hl (by rw [h]; rfl)
    exact ⟨m, List.mem_filter.mpr ⟨h1, min_iff.mpr h3⟩, h2⟩
theorem stuck_lots {o : List Int} (h : o ∈ s.stuck) : o ∈ s.lots := by
  rw [stuck_eq ok] at h
  exact (List.mem_filter.mp h).1
theorem sent_lots {o : List Int} (h : o ∈ s.sent) : o ∈ s.lots := by
  rw [sent_eq ok] at h
  exact (List.mem_filter.mp h).1
theorem sent_min {o : List Int} (h : o ∈ s.sent) : Min (fun l => s.ok (s.but l)) s.lots o := by
  rw [sent_eq ok] at h
  exact min_iff.mp (List.mem_filter.mp h).2
theorem plain_p1 : hits s.lots s.stuck = s.sent := by
  rw [sent_eq ok, ← (lots_LOk s).greedy_all]
  refine (lots_LOk s).greedy_congr fun l hl => Bool.eq_iff_iff.mpr ?_
  rw [meets_iff, plain_p4 ok (but_lots s l)]
  rw [Bool.not_eq_true', Bool.eq_false_iff]
  constructor
  · intro h hh
    obtain ⟨o, ho, hs⟩ := has_iff.mp hh
    obtain ⟨x, h1, h2⟩ := h o ho
    exact (mem_but.mp (hs x h1)).2 h2
  · intro h o ho
    refine Classical.byContradiction fun hn => h (has_iff.mpr ⟨o, ho, fun x hx => mem_but.mpr ⟨(lots_ok (stuck_lots ok ho)).inn x hx, fun hxl => hn ⟨x, hx, hxl⟩⟩⟩)
theorem plain_p2 : hits s.lots s.sent = s.stuck := by
  rw [stuck_eq ok, ← (lots_LOk s).greedy_all]
  refine (lots_LOk s).greedy_congr fun l hl => Bool.eq_iff_iff.mpr ?_
  rw [meets_iff, Bool.not_eq_true']
  constructor
  · intro h
    refine Bool.eq_false_iff.mpr fun hk => ?_
    have e : s.but (s.but l) = l := up_ext (s.but_ok _).up (lots_ok hl).up fun i => by
      rw [mem_but, mem_but]
      constructor
      · rintro ⟨h1, h2⟩
        exact Decidable.byContradiction fun h3 => h2 ⟨h1, h3⟩
      · intro hi
        exact ⟨(lots_ok hl).inn i hi, fun h3 => h3.2 hi⟩
    obtain ⟨m, h1, h2, h3⟩ := (lots_LOk s).least (q := fun l => s.ok (s.but l)) (s.but l).length (Nat.le_refl _) (but_lots s l) (by rw [e]; exact hk)
    have hm : m ∈ s.sent := by
      rw [sent_eq ok]
      exact List.mem_filter.mpr ⟨h1, min_iff.mpr h3⟩
    obtain ⟨x, h4, h5⟩ := h m hm
    exact (mem_but.mp (h2 x h4)).2 h5
  · intro h o ho
    refine Classical.byContradiction fun hn => ?_
    have h1 := mono2 ok hl (but_lots s o) (fun x hx => mem_but.mpr ⟨(lots_ok hl).inn x hx, fun hxo => hn ⟨x, hxo, hx⟩⟩) (sent_min ok ho).1
    rw [h] at h1
    exact nomatch h1
theorem plain_ : Plain s where
  p1 := plain_p1 ok
  p2 := plain_p2 ok
  p3 := fun h => by
    have h0 : ([] : List Int) ∈ s.sent := by rw [h]; exact List.mem_cons_self
    have h1 := (sent_min ok h0).1
    rw [stuck_eq ok]
    refine List.filter_eq_nil_iff.mpr fun l hl hm => ?_
    have h2 : (!s.ok l) = true := (min_iff.mp hm).1
    have h3 := mono2 ok hl (but_lots s []) (fun x hx => mem_but.mpr ⟨(lots_ok hl).inn x hx, fun h => nomatch h⟩) h1
    rw [h3] at h2
    exact nomatch h2
  p4 := fun l hl => plain_p4 ok hl
  p5 := fun l hl => (sent_min ok hl).1
  p6 := fun l hl b hb => by
    refine Bool.eq_false_iff.mpr fun hk => ?_
    have hin := lots_ok (sent_lots ok hl)
    have e : s.back l b = s.but (wo l b) := up_ext (s.back_ok l b).up (s.but_ok _).up fun i => by
      rw [mem_but, mem_wo]
      unfold Sk.back Sk.all
      rw [List.mem_filter, mem_rgI, Bool.or_eq_true, Bool.not_eq_true', decide_eq_false_iff_not, decide_eq_true_eq]
      show s.In i ∧ _ ↔ s.In i ∧ _
      refine and_congr_right fun _ => ⟨?_, fun h => ?_⟩
      · rintro (h | h) ⟨h1, h2⟩
        · exact h h1
        · exact h2 h
      · by_cases c : i = b
        · exact .inr c
        · exact .inl fun h1 => h ⟨h1, c⟩
    rw [e] at hk
    have hw : wo l b ∈ s.lots := lots_mem.mpr (List.filter_sublist.trans (lots_mem.mp (sent_lots ok hl)))
    have := (sent_min ok hl).2 (wo l b) hw (fun x hx => (mem_wo.mp hx).1) hk
    rw [← this] at hb
    exact (mem_wo.mp hb).2 rfl
end
end Dr
theorem DrPlain : ∀ s : Dr.Sk, s.Ok → Dr.Plain s := fun _ ok => Dr.plain_ ok
set_option maxHeartbeats 0
namespace DrH
open PySem PySem.Spec PyProof.Rows L2
theorem facts (plain : ∀ s : Dr.Sk, s.Ok → Dr.Plain s) {P : Program} {w : World} {K : PySem.W.Frag} {h : Heap} {mg : Str → Option Value} {f : Addr} (X : K.In h) (G : h.Ns mainGlobals mg) (hfa : mg ("law" : Str) = some (.ref f)) (c : He.SaysD fa fn K) :
    ∃ fd : FuncData, (∀ (s : Shared) (v : Value), BindsTo s fd ⟨[v], []⟩ [("_law_script", v)]) ∧ ∀ base : Heap, K.In base → base.Ns mainGlobals mg → FnOk P w K mg base CX0 25 f fd ["_law_script"] (Dr.spLaw K) := by
  have T : Dr.Tx K mg := ⟨He.free_ok X G (c.fact 57 (f := .free "isinstance") rfl), He.free_ok X G (c.fact 58 (f := .free "len") rfl), He.free_ok X G (c.fact 59 (f := .free "all") rfl), He.free_ok X G (c.fact 60 (f := .free "any") rfl), He.free_ok X G (c.fact 61 (f := .free "enumerate") rfl), He.free_ok X G (c.fact 62 (f := .free "range") rfl), He.free_ok X G (c.fact 63 (f := .free "sorted") rfl), He.free_ok X G (c.fact 64 (f := .free "max") rfl), He.free_ok X G (c.fact 65 (f := .free "min") rfl), He.free_ok X G (c.fact 66 (f := .free "tuple") rfl), He.free_ok X G (c.fact 67 (f := .free "list") rfl), He.free_ok X G (c.fact 68 (f := .free "set") rfl), He.free_ok X G (c.fact 69 (f := .free "int") rfl), He.free_ok X G (c.fact 70 (f := .free "bool") rfl), He.int_ok X G (c.fact 49 (f := .int "MOST_RINGS" 8) rfl), He.int_ok X G (c.fact 50 (f := .int "MOST_SINK" 60) rfl), He.int_ok X G (c.fact 51 (f := .int "MOST_KINDS" 4) rfl), He.int_ok X G (c.fact 52 (f := .int "MOST_GAP" 99) rfl), He.int_ok X G (c.fact 53 (f := .int "MOST_SHUTS" 4) rfl), He.int_ok X G (c.fact 54 (f := .int "MOST_MINUTE" 9999) rfl), He.int_ok X G (c.fact 55 (f := .int "MOST_GLIDERS" 7) rfl), He.int_ok X G (c.fact 56 (f := .int "MOST_WEIGHT" 99) rfl)⟩
  have h_is_whole : Dr.Has K mg "is_whole" (Dr.top 11) := by
    obtain ⟨fd, F⟩ := c.def_ 0 (d := d_is_whole) rfl
    exact ⟨_, fd, F, He.glo_ok X G (c.fact 0 (f := .glo "is_whole") rfl)⟩
  have h_is_within : Dr.Has K mg "is_within" (Dr.top 12) := by
    obtain ⟨fd, F⟩ := c.def_ 1 (d := d_is_within) rfl
    exact ⟨_, fd, F, He.glo_ok X G (c.fact 1 (f := .glo "is_within") rfl)⟩
  have h_is_minute : Dr.Has K mg "is_minute" (Dr.top 13) := by
    obtain ⟨fd, F⟩ := c.def_ 2 (d := d_is_minute) rfl
    exact ⟨_, fd, F, He.glo_ok X G (c.fact 2 (f := .glo "is_minute") rfl)⟩
  have h_is_row : Dr.Has K mg "is_row" (Dr.top 14) := by
    obtain ⟨fd, F⟩ := c.def_ 3 (d := d_is_row) rfl
    exact ⟨_, fd, F, He.glo_ok X G (c.fact 3 (f := .glo "is_row") rfl)⟩
  have h_are_straight : Dr.Has K mg "are_straight" (Dr.top 15) := by
    obtain ⟨fd, F⟩ := c.def_ 4 (d := d_are_straight) rfl
    exact ⟨_, fd, F, He.glo_ok X G (c.fact 4 (f := .glo "are_straight") rfl)⟩
  have h_are_gaps : Dr.Has K mg "are_gaps" (Dr.top 16) := by
    obtain ⟨fd, F⟩ := c.def_ 5 (d := d_are_gaps) rfl
    exact ⟨_, fd, F, He.glo_ok X G (c.fact 5 (f := .glo "are_gaps") rfl)⟩
  have h_is_stretch : Dr.Has K mg "is_stretch" (Dr.top 17) := by
    obtain ⟨fd, F⟩ := c.def_ 6 (d := d_is_stretch) rfl
    exact ⟨_, fd, F, He.glo_ok X G (c.fact 6 (f := .glo "is_stretch") rfl)⟩
  have h_are_shuts : Dr.Has K mg "are_shuts" (Dr.top 18) := by
    obtain ⟨fd, F⟩ := c.def_ 7 (d := d_are_shuts) rfl
    exact ⟨_, fd, F, He.glo_ok X G (c.fact 7 (f := .glo "are_shuts") rfl)⟩
  have h_is_meadow : Dr.Has K mg "is_meadow" (Dr.top 19) := by
    obtain ⟨fd, F⟩ := c.def_ 8 (d := d_is_meadow) rfl
    exact ⟨_, fd, F, He.glo_ok X G (c.fact 8 (f := .glo "is_meadow") rfl)⟩
  have h_open_in : Dr.Has K mg "open_in" (Dr.top 20) := by
    obtain ⟨fd, F⟩ := c.def_ 9 (d := d_open_in) rfl
    exact ⟨_, fd, F, He.glo_ok X G (c.fact 9 (f := .glo "open_in") rfl)⟩
  have h_is_glider : Dr.Has K mg "is_glider" (Dr.top 24) := by
    obtain ⟨fd, F⟩ := c.def_ 10 (d := d_is_glider) rfl
    exact ⟨_, fd, F, He.glo_ok X G (c.fact 10 (f := .glo "is_glider") rfl)⟩
  have h_is_ahead : Dr.Has K mg "is_ahead" (Dr.top 25) := by
    obtain ⟨fd, F⟩ := c.def_ 11 (d := d_is_ahead) rfl
    exact ⟨_, fd, F, He.glo_ok X G (c.fact 11 (f := .glo "is_ahead") rfl)⟩
  have h_are_fixed : Dr.Has K mg "are_fixed" (Dr.top 26) := by
    obtain ⟨fd, F⟩ := c.def_ 12 (d := d_are_fixed) rfl
    exact ⟨_, fd, F, He.glo_ok X G (c.fact 12 (f := .glo "are_fixed") rfl)⟩
  have h_is_sky : Dr.Has K mg "is_sky" (Dr.top 27) := by
    obtain ⟨fd, F⟩ := c.def_ 13 (d := d_is_sky) rfl
    exact ⟨_, fd, F, He.glo_ok X G (c.fact 13 (f := .glo "is_sky") rfl)⟩
  have h_check_sky : Dr.Has K mg "check_sky" (Dr.top 28) := by
    obtain ⟨fd, F⟩ := c.def_ 14 (d := d_check_sky) rfl
    exact ⟨_, fd, F, He.glo_ok X G (c.fact 14 (f := .glo "check_sky") rfl)⟩
  have h_free_ones : Dr.Has K mg "free_ones" (Dr.top 29) := by
    obtain ⟨fd, F⟩ := c.def_ 15 (d := d_free_ones) rfl
    exact ⟨_, fd, F, He.glo_ok X G (c.fact 15 (f := .glo "free_ones") rfl)⟩
  have h_first_open : Dr.Has K mg "first_open" (Dr.top 30) := by
    obtain ⟨fd, F⟩ := c.def_ 16 (d := d_first_open) rfl
    exact ⟨_, fd, F, He.glo_ok X G (c.fact 16 (f := .glo "first_open") rfl)⟩
  have h_late_joins : Dr.Has K mg "late_joins" (Dr.top 32) := by
    obtain ⟨fd, F⟩ := c.def_ 17 (d := d_late_joins) rfl
    exact ⟨_, fd, F, He.glo_ok X G (c.fact 17 (f := .glo "late_joins") rfl)⟩
  have h_own_cost : Dr.Has K mg "own_cost" (Dr.top 34) := by
    obtain ⟨fd, F⟩ := c.def_ 18 (d := d_own_cost) rfl
    exact ⟨_, fd, F, He.glo_ok X G (c.fact 18 (f := .glo "own_cost") rfl)⟩
  have h_soonest_behind : Dr.Has K mg "soonest_behind" (Dr.top 35) := by
    obtain ⟨fd, F⟩ := c.def_ 19 (d := d_soonest_behind) rfl
    exact ⟨_, fd, F, He.glo_ok X G (c.fact 19 (f := .glo "soonest_behind") rfl)⟩
  have h_leaves_in_time : Dr.Has K mg "leaves_in_time" (Dr.top 36) := by
    obtain ⟨fd, F⟩ := c.def_ 20 (d := d_leaves_in_time) rfl
    exact ⟨_, fd, F, He.glo_ok X G (c.fact 20 (f := .glo "leaves_in_time") rfl)⟩
  have h_landed_at : Dr.Has K mg "landed_at" (Dr.top 37) := by
    obtain ⟨fd, F⟩ := c.def_ 21 (d := d_landed_at) rfl
    exact ⟨_, fd, F, He.glo_ok X G (c.fact 21 (f := .glo "landed_at") rfl)⟩
  have h_ring_needed : Dr.Has K mg "ring_needed" (Dr.top 38) := by
    obtain ⟨fd, F⟩ := c.def_ 22 (d := d_ring_needed) rfl
    exact ⟨_, fd, F, He.glo_ok X G (c.fact 22 (f := .glo "ring_needed") rfl)⟩
  have h_may_hold : Dr.Has K mg "may_hold" (Dr.top 39) := by
    obtain ⟨fd, F⟩ := c.def_ 23 (d := d_may_hold) rfl
    exact ⟨_, fd, F, He.glo_ok X G (c.fact 23 (f := .glo "may_hold") rfl)⟩
  have h_soonest_in : Dr.Has K mg "soonest_in" (Dr.top 40) := by
    obtain ⟨fd, F⟩ := c.def_ 24 (d := d_soonest_in) rfl
    exact ⟨_, fd, F, He.glo_ok X G (c.fact 24 (f := .glo "soonest_in") rfl)⟩
  have h_left_without : Dr.Has K mg "left_without" (Dr.top 42) := by
    obtain ⟨fd, F⟩ := c.def_ 25 (d := d_left_without) rfl
    exact ⟨_, fd, F, He.glo_ok X G (c.fact 25 (f := .glo "left_without") rfl)⟩
  have h_least_from : Dr.Has K mg "least_from" (Dr.top 43) := by
    obtain ⟨fd, F⟩ := c.def_ 26 (d := d_least_from) rfl
    exact ⟨_, fd, F, He.glo_ok X G (c.fact 26 (f := .glo "least_from") rfl)⟩
  have h_least_by : Dr.Has K mg "least_by" (Dr.top 44) := by
    obtain ⟨fd, F⟩ := c.def_ 27 (d := d_least_by) rfl
    exact ⟨_, fd, F, He.glo_ok X G (c.fact 27 (f := .glo "least_by") rfl)⟩
  have h_start_of : Dr.Has K mg "start_of" (Dr.top 45) := by
    obtain ⟨fd, F⟩ := c.def_ 28 (d := d_start_of) rfl
    exact ⟨_, fd, F, He.glo_ok X G (c.fact 28 (f := .glo "start_of") rfl)⟩
  have h_best_in : Dr.Has K mg "best_in" (Dr.top 46) := by
    obtain ⟨fd, F⟩ := c.def_ 29 (d := d_best_in) rfl
    exact ⟨_, fd, F, He.glo_ok X G (c.fact 29 (f := .glo "best_in") rfl)⟩
  have h_lots_of : Dr.Has K mg "lots_of" (Dr.top 48) := by
    obtain ⟨fd, F⟩ := c.def_ 30 (d := d_lots_of) rfl
    exact ⟨_, fd, F, He.glo_ok X G (c.fact 30 (f := .glo "lots_of") rfl)⟩
  have h_check_lot : Dr.Has K mg "check_lot" (Dr.top 50) := by
    obtain ⟨fd, F⟩ := c.def_ 31 (d := d_check_lot) rfl
    exact ⟨_, fd, F, He.glo_ok X G (c.fact 31 (f := .glo "check_lot") rfl)⟩
  have h_narrowed_to : Dr.Has K mg "narrowed_to" (Dr.top 51) := by
    obtain ⟨fd, F⟩ := c.def_ 32 (d := d_narrowed_to) rfl
    exact ⟨_, fd, F, He.glo_ok X G (c.fact 32 (f := .glo "narrowed_to") rfl)⟩
  have h_all_land : Dr.Has K mg "all_land" (Dr.top 52) := by
    obtain ⟨fd, F⟩ := c.def_ 33 (d := d_all_land) rfl
    exact ⟨_, fd, F, He.glo_ok X G (c.fact 33 (f := .glo "all_land") rfl)⟩
  have h_can_land : Dr.Has K mg "can_land" (Dr.top 53) := by
    obtain ⟨fd, F⟩ := c.def_ 34 (d := d_can_land) rfl
    exact ⟨_, fd, F, He.glo_ok X G (c.fact 34 (f := .glo "can_land") rfl)⟩
  have h_holds_one : Dr.Has K mg "holds_one" (Dr.top 54) := by
    obtain ⟨fd, F⟩ := c.def_ 35 (d := d_holds_one) rfl
    exact ⟨_, fd, F, He.glo_ok X G (c.fact 35 (f := .glo "holds_one") rfl)⟩
  have h_least_stuck_in : Dr.Has K mg "least_stuck_in" (Dr.top 55) := by
    obtain ⟨fd, F⟩ := c.def_ 36 (d := d_least_stuck_in) rfl
    exact ⟨_, fd, F, He.glo_ok X G (c.fact 36 (f := .glo "least_stuck_in") rfl)⟩
  have h_least_stuck : Dr.Has K mg "least_stuck" (Dr.top 56) := by
    obtain ⟨fd, F⟩ := c.def_ 37 (d := d_least_stuck) rfl
    exact ⟨_, fd, F, He.glo_ok X G (c.fact 37 (f := .glo "least_stuck") rfl)⟩
  have h_least_sendings : Dr.Has K mg "least_sendings" (Dr.top 57) := by
    obtain ⟨fd, F⟩ := c.def_ 38 (d := d_least_sendings) rfl
    exact ⟨_, fd, F, He.glo_ok X G (c.fact 38 (f := .glo "least_sendings") rfl)⟩
  have h_law_cell_at : Dr.Has K mg "_law_cell_at" (Dr.top 59) := by
    obtain ⟨fd, F⟩ := c.def_ 39 (d := d_law_cell_at) rfl
    exact ⟨_, fd, F, He.glo_ok X G (c.fact 39 (f := .glo "_law_cell_at") rfl)⟩
  have h_law_pot : Dr.Has K mg "_law_pot" (Dr.top 60) := by
    obtain ⟨fd, F⟩ := c.def_ 40 (d := d_law_pot) rfl
    exact ⟨_, fd, F, He.glo_ok X G (c.fact 40 (f := .glo "_law_pot") rfl)⟩
  have h_law_take : Dr.Has K mg "_law_take" (Dr.top 61) := by
    obtain ⟨fd, F⟩ := c.def_ 41 (d := d_law_take) rfl
    exact ⟨_, fd, F, He.glo_ok X G (c.fact 41 (f := .glo "_law_take") rfl)⟩
  have h_law_gaps : Dr.Has K mg "_law_gaps" (Dr.top 62) := by
    obtain ⟨fd, F⟩ := c.def_ 42 (d := d_law_gaps) rfl
    exact ⟨_, fd, F, He.glo_ok X G (c.fact 42 (f := .glo "_law_gaps") rfl)⟩
  have h_law_meadow : Dr.Has K mg "_law_meadow" (Dr.top 63) := by
    obtain ⟨fd, F⟩ := c.def_ 43 (d := d_law_meadow) rfl
    exact ⟨_, fd, F, He.glo_ok X G (c.fact 43 (f := .glo "_law_meadow") rfl)⟩
  have h_law_sky : Dr.Has K mg "_law_sky" (Dr.top 64) := by
    obtain ⟨fd, F⟩ := c.def_ 44 (d := d_law_sky) rfl
    exact ⟨_, fd, F, He.glo_ok X G (c.fact 44 (f := .glo "_law_sky") rfl)⟩
  have h_law_lots : Dr.Has K mg "_law_lots" (Dr.top 65) := by
    obtain ⟨fd, F⟩ := c.def_ 45 (d := d_law_lots) rfl
    exact ⟨_, fd, F, He.glo_ok X G (c.fact 45 (f := .glo "_law_lots") rfl)⟩
  have h_law_crowded : Dr.Has K mg "_law_crowded" (Dr.top 66) := by
    obtain ⟨fd, F⟩ := c.def_ 46 (d := d_law_crowded) rfl
    exact ⟨_, fd, F, He.glo_ok X G (c.fact 46 (f := .glo "_law_crowded") rfl)⟩
  have h_law_hits : Dr.Has K mg "_law_hits" (Dr.top 67) := by
    obtain ⟨fd, F⟩ := c.def_ 47 (d := d_law_hits) rfl
    exact ⟨_, fd, F, He.glo_ok X G (c.fact 47 (f := .glo "_law_hits") rfl)⟩
  obtain ⟨fd, F⟩ := c.def_ 48 (d := d_law) rfl
  have e := hfa.symm.trans (He.glo_ok X G (c.fact 48 (f := .glo "law") rfl))
  cases e
  have b := FunD.bindsA (ps := ["_law_script"]) F fun _ _ _ _ _ _ us hl => match us, hl with | [_], _ => rfl
  refine ⟨fd, fun s v => b s [v] rfl, fun base _ _ => ?_⟩
  have c_is_whole := Dr.ok_is_whole (P := P) (w := w) (base := base) T h_is_whole
  have c_is_within := Dr.ok_is_within (P := P) (w := w) (base := base) T h_is_within c_is_whole
  have c_is_minute := Dr.ok_is_minute (P := P) (w := w) (base := base) T h_is_minute c_is_within
  have c_is_row := Dr.ok_is_row (P := P) (w := w) (base := base) T h_is_row c_is_within
  have c_are_straight := Dr.ok_are_straight (P := P) (w := w) (base := base) T h_are_straight
  have c_are_gaps := Dr.ok_are_gaps (P := P) (w := w) (base := base) T h_are_gaps c_is_row c_are_straight
  have c_is_stretch := Dr.ok_is_stretch (P := P) (w := w) (base := base) T h_is_stretch c_is_minute
  have c_are_shuts := Dr.ok_are_shuts (P := P) (w := w) (base := base) T h_are_shuts c_is_stretch
  have c_is_meadow := Dr.ok_is_meadow (P := P) (w := w) (base := base) T h_is_meadow c_is_within c_are_gaps c_are_shuts
  have c_open_in := Dr.ok_open_in (P := P) (w := w) (base := base) T h_open_in
  have c_is_glider := Dr.ok_is_glider (P := P) (w := w) (base := base) T h_is_glider c_is_within c_is_minute
  have c_is_ahead := Dr.ok_is_ahead (P := P) (w := w) (base := base) T h_is_ahead c_is_within c_is_minute
  have c_are_fixed := Dr.ok_are_fixed (P := P) (w := w) (base := base) T h_are_fixed c_is_within
  have c_is_sky := Dr.ok_is_sky (P := P) (w := w) (base := base) T h_is_sky c_is_meadow c_is_ahead c_is_glider c_are_fixed
  have c_check_sky := Dr.ok_check_sky (P := P) (w := w) (base := base) T h_check_sky c_is_sky
  have c_free_ones := Dr.ok_free_ones (P := P) (w := w) (base := base) T h_free_ones
  have c_first_open := Dr.ok_first_open (P := P) (w := w) (base := base) T h_first_open c_open_in
  have c_late_joins := Dr.ok_late_joins (P := P) (w := w) (base := base) T h_late_joins
  have c_own_cost := Dr.ok_own_cost (P := P) (w := w) (base := base) T h_own_cost
  have c_soonest_behind := Dr.ok_soonest_behind (P := P) (w := w) (base := base) T h_soonest_behind c_first_open
  have c_leaves_in_time := Dr.ok_leaves_in_time (P := P) (w := w) (base := base) T h_leaves_in_time
  have c_landed_at := Dr.ok_landed_at (P := P) (w := w) (base := base) T h_landed_at c_soonest_behind c_leaves_in_time
  have c_ring_needed := Dr.ok_ring_needed (P := P) (w := w) (base := base) T h_ring_needed
  have c_may_hold := Dr.ok_may_hold (P := P) (w := w) (base := base) T h_may_hold c_ring_needed
  have c_soonest_in := Dr.ok_soonest_in (P := P) (w := w) (base := base) T h_soonest_in c_late_joins c_landed_at c_may_hold
  have c_left_without := Dr.ok_left_without (P := P) (w := w) (base := base) T h_left_without
  have c_least_all := Dr.ok_least_all (P := P) (w := w) (base := base) T h_least_from h_least_by c_landed_at c_left_without
  have c_start_of := Dr.ok_start_of (P := P) (w := w) (base := base) T h_start_of c_soonest_in c_own_cost
  have c_best_in := Dr.ok_best_in (P := P) (w := w) (base := base) T h_best_in c_start_of c_late_joins c_free_ones c_left_without c_least_all
  have c_lots_of := Dr.ok_lots_of (P := P) (w := w) (base := base) T h_lots_of
  have c_check_lot := Dr.ok_check_lot (P := P) (w := w) (base := base) T h_check_lot c_is_whole
  have c_narrowed_to := Dr.ok_narrowed_to (P := P) (w := w) (base := base) T h_narrowed_to
  have c_all_land := Dr.ok_all_land (P := P) (w := w) (base := base) T h_all_land c_narrowed_to c_best_in
  have c_can_land := Dr.ok_can_land (P := P) (w := w) (base := base) T h_can_land c_check_sky c_check_lot c_all_land
  have c_holds_one := Dr.ok_holds_one (P := P) (w := w) (base := base) T h_holds_one
  have c_least_stuck_in := Dr.ok_least_stuck_in (P := P) (w := w) (base := base) T h_least_stuck_in c_lots_of c_holds_one c_all_land
  have c_least_stuck := Dr.ok_least_stuck (P := P) (w := w) (base := base) T h_least_stuck c_check_sky c_least_stuck_in
  have c_least_sendings := Dr.ok_least_sendings (P := P) (w := w) (base := base) T h_least_sendings c_check_sky c_lots_of c_holds_one c_all_land
  have c_law_pot := Dr.ok_law_pot (P := P) (w := w) (base := base) T h_law_pot
  have c_law_take := Dr.ok_law_take (P := P) (w := w) (base := base) T h_law_take
  have c_law_gaps := Dr.ok_law_gaps (P := P) (w := w) (base := base) T h_law_gaps c_law_take
  have c_law_meadow := Dr.ok_law_meadow (P := P) (w := w) (base := base) T h_law_meadow c_law_take c_law_gaps
  have c_law_sky := Dr.ok_law_sky (P := P) (w := w) (base := base) T h_law_sky c_law_take c_law_meadow
  have c_law_lots := Dr.ok_law_lots (P := P) (w := w) (base := base) T h_law_lots
  have c_law_crowded := Dr.ok_law_crowded (P := P) (w := w) (base := base) T h_law_crowded c_law_take c_law_sky
  have c_law_hits := Dr.ok_law_hits (P := P) (w := w) (base := base) T h_law_hits
  obtain ⟨fC, fdC, FC, gC⟩ := h_law_cell_at
  exact Dr.ok_law T plain F FC gC c_law_pot c_law_take c_law_crowded c_law_lots c_law_hits c_least_stuck c_least_sendings c_can_land
end DrH
open PySem PySem.W PySem.Calls PyProof.Rows
theorem PySem.Challenge.cw_downrings_k54_whole_stuck_lots_and_sendi_holds : PySem.Challenge.rw_downrings_k54_whole_stuck_lots_and_sendi.Holds := by
  w_on; o_law
  refine HandSHeadRun.head_any (r := OpenLaw.row PySem.Challenge.rw_downrings_k54_whole_stuck_lots_and_sendi) (q := view (OpenLaw.row PySem.Challenge.rw_downrings_k54_whole_stuck_lots_and_sendi).prog [68]) (H := DrH.hk) (ob := DrH.ob) (M := 3000) (loose := DrH.lo) (d := HandSHeadRun.topDef (OpenLaw.row PySem.Challenge.rw_downrings_k54_whole_stuck_lots_and_sendi).prog 68) (kwd := []) DrH.ob_eq
    (by kernel_rfl) (fun s => by kernel_rfl) DrH.run (by kernel_rfl) (by kernel_rfl) (by kernel_rfl) (by rfl) (by first | assumption | decide +kernel) (by decide +kernel) ⟨rfl, rfl, rfl, rfl, rfl, by decide +kernel⟩ ?hw ?hc
  case hw => w_witness2
  case hc =>
    refine L2.walk_ofE (l := PySem.Challenge.rw_downrings_k54_whole_stuck_lots_and_sendi) (n := 63) (k := 25) (x := "_law_script") (CX := L2.CX0) rfl (by decide) (by kernel_rfl) ⟨rfl, by decide, by decide⟩ ?F (fun _ _ _ _ z => z)
    intro w mg fa h Y G hmg0
    obtain ⟨K, KX, c⟩ := Y
    have hmg : mg ("law" : PySem.Str) = some (.ref fa) := by
      have e : (HandSHeadRun.topDef (OpenLaw.row PySem.Challenge.rw_downrings_k54_whole_stuck_lots_and_sendi).prog 68).name = ("law" : PySem.Str) := by kernel_rfl
      rw [← e]
      exact hmg0
    obtain ⟨fd, hb, hF⟩ := DrH.facts DrPlain (P := (PySem.Challenge.rw_downrings_k54_whole_stuck_lots_and_sendi).prog) (w := w) KX G hmg c
    exact ⟨K, fd, Dr.spLaw K, KX, hb, fun H a ns hl _ hS => ⟨a, ns, rfl, hS, fun _ => rfl⟩, hF⟩
