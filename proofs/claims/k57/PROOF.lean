import PyProof.Rows.All
import Wide.All
import OpenK.AllK
import Wide.FinOn
import KE.KStateDown
import HandS.Base
import HandS.Call
import HandS.List
import HandS.Comp
import HandS.Iter
import HandS.Text
import HandS.Ends
import HandS.More
import HandS.Words
import HandS.WordsList
import HandS.WordsExc
import HandS.Defaults
import HandS.MakeKw
import HandS.MakeKwOnly
import HandS.Exc
import HandS.ExcOwn
import HandS.ExcInit
import HandS.ExcField
import HandS.ExcIs
import HandS.TryMany
import HandS.TryOnly
import HandS.Codes
import HandS.Flow
import HandS.Style
import HandS.OwnEq
import HandS.Zip
import HandS.TupAny
import HandS.TupMul
import HandS.Deep
import HandS.RaiseMore
import HandS.IsInst
import HandS.Wide
import HandS.Conv
import HandS.Head0
import HandS.Head1
import HandS.Head2
import HandS.HeadEnd
import HandS.HeadHook1
import HandS.HeadHook2
import PySem.Challenge.RW_seamhall_k57_whole_replays
import HandS.Walk
import HandS.ForMost
import KE.LtData
import KE.DataMinMax
import KE.GoesEnum
import KE.DataEq
import HandS.ForExc
import HandS.ForSpec
import KE.KCallOwn
import OpenK.KOps
import PyProof.InstNe
import PyProof.P3Eq
import KE.KUnpackStar
/-! ## SHM -/
set_option maxRecDepth 100000
/-! the mirror: what the defs compute, in plain Lean -/
namespace SH
abbrev Pic := List (List Int)
structure Shape (w h : Nat) (p : Pic) : Prop where
  hgt : p.length = h
  wid : ∀ r ∈ p, r.length = w
def nearI (n : Nat) (x : Int) : Int := if (if x < (n : Int) - 1 then x else (n : Int) - 1) > 0 then (if x < (n : Int) - 1 then x else (n : Int) - 1) else 0
def nearM (ns : List Int) (x : Int) : Int := ns.getD (nearI ns.length x).toNat 0
def absM (i : Int) : Int := if i < 0 then -i else i
def rowM (p : Pic) (y : Int) : List Int := p.getD y.toNat []
def cellM (p : Pic) (y x : Int) : Int := (rowM p y).getD x.toNat 0
def upI (y : Int) : Int := if y - 1 > 0 then y - 1 else 0
def dnI (n : Nat) (y : Int) : Int := if y + 1 < (n : Int) - 1 then y + 1 else (n : Int) - 1
def joinM (p : Pic) (x y : Int) : Int := absM (nearM (rowM p y) (x - 1) - nearM (rowM p y) (x + 1))
def worthM (p : Pic) (x y : Int) : Int := joinM p x y + absM (cellM p (upI y) x - cellM p (dnI p.length y) x)
/-- what a step costs; before: none in the first row -/
def costM (p : Pic) (x y : Int) (before : Option Int) (worth : Bool) : Int :=
  if worth then worthM p x y else match before with
    | none => joinM p x y
    | some b => if b = x then joinM p x y else joinM p x y + absM (cellM p (y - 1) x - cellM p y (if b < x then x - 1 else x + 1))
def swapM (p : Pic) : Pic := (List.range (p.headD []).length).map fun (x : Nat) => p.map fun r => r.getD x 0
def freeM (p : Pic) : Pic := p.map fun r => r.map fun _ => (0 : Int)
def nextM (x : Int) (w : Nat) : List Int := [x - 1, x, x + 1].filter fun t => decide (0 ≤ t) && decide (t < (w : Int))
def wayM (r : List Int) (x : Int) : List Int := r.take x.toNat ++ r.drop (x + 1).toNat
def withoutM (p : Pic) (s : List Int) : Pic := (p.zip s).map fun q => wayM q.1 q.2
def inM (r : List Int) (x c : Int) : List Int := r.take x.toNat ++ ([c] ++ r.drop x.toNat)
def put3 : Pic → List Int → List Int → Pic
  | r :: p, x :: s, c :: cs => inM r x c :: put3 p s cs
  | _, _, _ => []
def nextI (n : Nat) (x : Int) : Int := if x + 1 < (n : Int) - 1 then x + 1 else (n : Int) - 1
def meanM (r : List Int) (x : Int) : Int := (r.getD x.toNat 0 + r.getD (nextI r.length x).toNat 0) / 2
def meansM (p : Pic) (s : List Int) : List Int := (p.zip s).map fun q => meanM q.1 q.2
def takenM (p : Pic) (s : List Int) : List Int := (p.zip s).map fun q => q.1.getD q.2.toNat 0
/-! ### small laws -/
theorem nearI_ok {n : Nat} {x : Int} (h : 0 < n) : 0 ≤ nearI n x ∧ nearI n x < n := by
  unfold nearI
  split <;> split at * <;> omega
theorem nextI_ok {n : Nat} {x : Int} (h : 0 ≤ x) (hx : x < n) : 0 ≤ nextI n x ∧ nextI n x < n := by
  unfold nextI
  split <;> omega
theorem upI_ok {n : Nat} {y : Int} (h : 0 ≤ y) (hy : y < n) : 0 ≤ upI y ∧ upI y < n := by
  unfold upI
  split <;> omega
theorem dnI_ok {n : Nat} {y : Int} (h : 0 ≤ y) (hy : y < n) : 0 ≤ dnI n y ∧ dnI n y < n := by
  unfold dnI
  split <;> omega
theorem getD_mem {α : Type} {l : List α} {i : Nat} {d : α} (h : i < l.length) : l.getD i d ∈ l := by
  rw [List.getD_eq_getElem?_getD, List.getElem?_eq_getElem h]
  exact List.getElem_mem h
theorem rowM_len {w h : Nat} {p : Pic} (S : Shape w h p) {y : Int} (h0 : 0 ≤ y) (h1 : y < h) : (rowM p y).length = w := S.wid _ (getD_mem (by have := S.hgt; omega))
theorem rowM_mem {w h : Nat} {p : Pic} (S : Shape w h p) {y : Int} (h0 : 0 ≤ y) (h1 : y < h) : rowM p y ∈ p := getD_mem (by have := S.hgt; omega)
end SH

/-! ## SHTxt -/
set_option Elab.async false
set_option linter.all false
set_option maxRecDepth 100000
/-! the text by places -/
namespace SH
open PySem PySem.Spec PyProof.Rows L2
def top (i : Nat) : Stmt := PySem.Challenge.pw_seamhall_k57_whole_replays.main.body.getD i (.Pass ⟨0, 0, 0, 0⟩)
abbrev s_wall : Stmt := top 0
abbrev s_NoRoom_init : Stmt := inClass (top 7) 0
abbrev s_is_number : Stmt := top 14
abbrev s_is_row : Stmt := top 15
abbrev s_is_picture : Stmt := top 16
abbrev s_need_picture : Stmt := top 17
abbrev s_swapped : Stmt := top 18
abbrev s_need_manner : Stmt := top 21
abbrev s_near : Stmt := top 22
abbrev s_worth_at : Stmt := top 23
abbrev s_join_at : Stmt := top 24
abbrev s_step_cost : Stmt := top 25
abbrev s_free_marks : Stmt := top 30
abbrev s_next_ones : Stmt := top 31
abbrev s_add : Stmt := top 32
abbrev s_downs : Stmt := top 33
abbrev s_starts : Stmt := top 34
abbrev s_best_way : Stmt := top 35
abbrev s_without : Stmt := top 36
abbrev s_put_in : Stmt := top 37
abbrev s_means : Stmt := top 38
abbrev s_near_next : Stmt := top 39
abbrev s_Stand_init : Stmt := inClass (top 41) 0
abbrev s_Desk_init : Stmt := inClass (top 42) 0
abbrev s_Desk_len : Stmt := inClass (top 42) 1
abbrev s_Desk_eq : Stmt := inClass (top 42) 2
abbrev s_Desk_str : Stmt := inClass (top 42) 3
abbrev s_Desk_turn_to : Stmt := inClass (top 42) 4
abbrev s_Desk_size : Stmt := inClass (top 42) 5
abbrev s_Desk_picture : Stmt := inClass (top 42) 6
abbrev s_Desk_marks : Stmt := inClass (top 42) 7
abbrev s_Desk_mark : Stmt := inClass (top 42) 8
abbrev s_Desk_keep : Stmt := inClass (top 42) 9
abbrev s_Desk_drop : Stmt := inClass (top 42) 10
abbrev s_Desk_free : Stmt := inClass (top 42) 11
abbrev s_Desk_seam_of : Stmt := inClass (top 42) 12
abbrev s_Desk_narrow : Stmt := inClass (top 42) 13
abbrev s_Desk_flatten : Stmt := inClass (top 42) 14
abbrev s_Desk_widen : Stmt := inClass (top 42) 15
abbrev s_Desk_steps : Stmt := inClass (top 42) 16
abbrev s_Desk_log : Stmt := inClass (top 42) 17
abbrev s_Desk_back : Stmt := inClass (top 42) 18
abbrev s_Desk_forth : Stmt := inClass (top 42) 19
abbrev s_Desk_counts : Stmt := inClass (top 42) 20
abbrev s_Desk_twin : Stmt := inClass (top 42) 21
abbrev s_is_deed : Stmt := top 46
abbrev s_do : Stmt := top 47
abbrev s_replayed : Stmt := top 48
abbrev s_step_back : Stmt := top 49
abbrev s_origin_of : Stmt := top 50
abbrev s_number_of : Stmt := top 53
abbrev s_is_plain_deed : Stmt := top 54
abbrev s_log_text : Stmt := top 55
abbrev s_deed_in : Stmt := top 56
abbrev s_read_log : Stmt := top 57
abbrev s_Ldrawn : Stmt := top 59
abbrev s_Lpicture : Stmt := top 60
abbrev s_Lsome : Stmt := top 61
abbrev s_Lmanner : Stmt := top 62
abbrev s_Ldone : Stmt := top 63
abbrev s_Ldeed : Stmt := top 64
abbrev s_Lseen : Stmt := top 65
abbrev s_law : Stmt := top 66
def d_wall : He.DefD := ⟨("_wall", none), "_wall", "_wall", defArgs s_wall, defBody s_wall, defScope s_wall, [], []⟩
def d_NoRoom_init : He.DefD := ⟨("NoRoom", some "__init__"), "__init__", "NoRoom.__init__", defArgs s_NoRoom_init, defBody s_NoRoom_init, defScope s_NoRoom_init, [], []⟩
def d_is_number : He.DefD := ⟨("is_number", none), "is_number", "is_number", defArgs s_is_number, defBody s_is_number, defScope s_is_number, [], []⟩
def d_is_row : He.DefD := ⟨("is_row", none), "is_row", "is_row", defArgs s_is_row, defBody s_is_row, defScope s_is_row, [], []⟩
def d_is_picture : He.DefD := ⟨("is_picture", none), "is_picture", "is_picture", defArgs s_is_picture, defBody s_is_picture, defScope s_is_picture, [], []⟩
def d_need_picture : He.DefD := ⟨("need_picture", none), "need_picture", "need_picture", defArgs s_need_picture, defBody s_need_picture, defScope s_need_picture, [], []⟩
def d_swapped : He.DefD := ⟨("swapped", none), "swapped", "swapped", defArgs s_swapped, defBody s_swapped, defScope s_swapped, [], []⟩
def d_need_manner : He.DefD := ⟨("need_manner", none), "need_manner", "need_manner", defArgs s_need_manner, defBody s_need_manner, defScope s_need_manner, [], []⟩
def d_near : He.DefD := ⟨("near", none), "near", "near", defArgs s_near, defBody s_near, defScope s_near, [], []⟩
def d_worth_at : He.DefD := ⟨("worth_at", none), "worth_at", "worth_at", defArgs s_worth_at, defBody s_worth_at, defScope s_worth_at, [], []⟩
def d_join_at : He.DefD := ⟨("join_at", none), "join_at", "join_at", defArgs s_join_at, defBody s_join_at, defScope s_join_at, [], []⟩
def d_step_cost : He.DefD := ⟨("step_cost", none), "step_cost", "step_cost", defArgs s_step_cost, defBody s_step_cost, defScope s_step_cost, [], []⟩
def d_free_marks : He.DefD := ⟨("free_marks", none), "free_marks", "free_marks", defArgs s_free_marks, defBody s_free_marks, defScope s_free_marks, [], []⟩
def d_next_ones : He.DefD := ⟨("next_ones", none), "next_ones", "next_ones", defArgs s_next_ones, defBody s_next_ones, defScope s_next_ones, [], []⟩
def d_add : He.DefD := ⟨("add", none), "add", "add", defArgs s_add, defBody s_add, defScope s_add, [], []⟩
def d_downs : He.DefD := ⟨("downs", none), "downs", "downs", defArgs s_downs, defBody s_downs, defScope s_downs, [], []⟩
def d_starts : He.DefD := ⟨("starts", none), "starts", "starts", defArgs s_starts, defBody s_starts, defScope s_starts, [], []⟩
def d_best_way : He.DefD := ⟨("best_way", none), "best_way", "best_way", defArgs s_best_way, defBody s_best_way, defScope s_best_way, [], []⟩
def d_without : He.DefD := ⟨("without", none), "without", "without", defArgs s_without, defBody s_without, defScope s_without, [], []⟩
def d_put_in : He.DefD := ⟨("put_in", none), "put_in", "put_in", defArgs s_put_in, defBody s_put_in, defScope s_put_in, [], []⟩
def d_means : He.DefD := ⟨("means", none), "means", "means", defArgs s_means, defBody s_means, defScope s_means, [], []⟩
def d_near_next : He.DefD := ⟨("near_next", none), "near_next", "near_next", defArgs s_near_next, defBody s_near_next, defScope s_near_next, [], []⟩
def d_Stand_init : He.DefD := ⟨("Stand", some "__init__"), "__init__", "Stand.__init__", defArgs s_Stand_init, defBody s_Stand_init, defScope s_Stand_init, [], []⟩
def d_Desk_init : He.DefD := ⟨("Desk", some "__init__"), "__init__", "Desk.__init__", defArgs s_Desk_init, defBody s_Desk_init, defScope s_Desk_init, [], [("manner", .str "worth")]⟩
def d_Desk_len : He.DefD := ⟨("Desk", some "__len__"), "__len__", "Desk.__len__", defArgs s_Desk_len, defBody s_Desk_len, defScope s_Desk_len, [], []⟩
def d_Desk_eq : He.DefD := ⟨("Desk", some "__eq__"), "__eq__", "Desk.__eq__", defArgs s_Desk_eq, defBody s_Desk_eq, defScope s_Desk_eq, [], []⟩
def d_Desk_str : He.DefD := ⟨("Desk", some "__str__"), "__str__", "Desk.__str__", defArgs s_Desk_str, defBody s_Desk_str, defScope s_Desk_str, [], []⟩
def d_Desk_turn_to : He.DefD := ⟨("Desk", some "turn_to"), "turn_to", "Desk.turn_to", defArgs s_Desk_turn_to, defBody s_Desk_turn_to, defScope s_Desk_turn_to, [], []⟩
def d_Desk_size : He.DefD := ⟨("Desk", some "size"), "size", "Desk.size", defArgs s_Desk_size, defBody s_Desk_size, defScope s_Desk_size, [], []⟩
def d_Desk_picture : He.DefD := ⟨("Desk", some "picture"), "picture", "Desk.picture", defArgs s_Desk_picture, defBody s_Desk_picture, defScope s_Desk_picture, [], []⟩
def d_Desk_marks : He.DefD := ⟨("Desk", some "marks"), "marks", "Desk.marks", defArgs s_Desk_marks, defBody s_Desk_marks, defScope s_Desk_marks, [], []⟩
def d_Desk_mark : He.DefD := ⟨("Desk", some "mark"), "mark", "Desk.mark", defArgs s_Desk_mark, defBody s_Desk_mark, defScope s_Desk_mark, [], []⟩
def d_Desk_keep : He.DefD := ⟨("Desk", some "keep"), "keep", "Desk.keep", defArgs s_Desk_keep, defBody s_Desk_keep, defScope s_Desk_keep, [], [("wide", .int 1), ("high", .int 1)]⟩
def d_Desk_drop : He.DefD := ⟨("Desk", some "drop"), "drop", "Desk.drop", defArgs s_Desk_drop, defBody s_Desk_drop, defScope s_Desk_drop, [], [("wide", .int 1), ("high", .int 1)]⟩
def d_Desk_free : He.DefD := ⟨("Desk", some "free"), "free", "Desk.free", defArgs s_Desk_free, defBody s_Desk_free, defScope s_Desk_free, [], [("wide", .int 1), ("high", .int 1)]⟩
def d_Desk_seam_of : He.DefD := ⟨("Desk", some "seam_of"), "seam_of", "Desk.seam_of", defArgs s_Desk_seam_of, defBody s_Desk_seam_of, defScope s_Desk_seam_of, [], []⟩
def d_Desk_narrow : He.DefD := ⟨("Desk", some "narrow"), "narrow", "Desk.narrow", defArgs s_Desk_narrow, defBody s_Desk_narrow, defScope s_Desk_narrow, [], []⟩
def d_Desk_flatten : He.DefD := ⟨("Desk", some "flatten"), "flatten", "Desk.flatten", defArgs s_Desk_flatten, defBody s_Desk_flatten, defScope s_Desk_flatten, [], []⟩
def d_Desk_widen : He.DefD := ⟨("Desk", some "widen"), "widen", "Desk.widen", defArgs s_Desk_widen, defBody s_Desk_widen, defScope s_Desk_widen, [], []⟩
def d_Desk_steps : He.DefD := ⟨("Desk", some "steps"), "steps", "Desk.steps", defArgs s_Desk_steps, defBody s_Desk_steps, defScope s_Desk_steps, [], []⟩
def d_Desk_log : He.DefD := ⟨("Desk", some "log"), "log", "Desk.log", defArgs s_Desk_log, defBody s_Desk_log, defScope s_Desk_log, [], []⟩
def d_Desk_back : He.DefD := ⟨("Desk", some "back"), "back", "Desk.back", defArgs s_Desk_back, defBody s_Desk_back, defScope s_Desk_back, [], []⟩
def d_Desk_forth : He.DefD := ⟨("Desk", some "forth"), "forth", "Desk.forth", defArgs s_Desk_forth, defBody s_Desk_forth, defScope s_Desk_forth, [], []⟩
def d_Desk_counts : He.DefD := ⟨("Desk", some "counts"), "counts", "Desk.counts", defArgs s_Desk_counts, defBody s_Desk_counts, defScope s_Desk_counts, [], []⟩
def d_Desk_twin : He.DefD := ⟨("Desk", some "twin"), "twin", "Desk.twin", defArgs s_Desk_twin, defBody s_Desk_twin, defScope s_Desk_twin, [], []⟩
def d_is_deed : He.DefD := ⟨("is_deed", none), "is_deed", "is_deed", defArgs s_is_deed, defBody s_is_deed, defScope s_is_deed, [], []⟩
def d_do : He.DefD := ⟨("do", none), "do", "do", defArgs s_do, defBody s_do, defScope s_do, [], []⟩
def d_replayed : He.DefD := ⟨("replayed", none), "replayed", "replayed", defArgs s_replayed, defBody s_replayed, defScope s_replayed, [], [("manner", .str "worth")]⟩
def d_step_back : He.DefD := ⟨("step_back", none), "step_back", "step_back", defArgs s_step_back, defBody s_step_back, defScope s_step_back, [], []⟩
def d_origin_of : He.DefD := ⟨("origin_of", none), "origin_of", "origin_of", defArgs s_origin_of, defBody s_origin_of, defScope s_origin_of, [], []⟩
def d_number_of : He.DefD := ⟨("number_of", none), "number_of", "number_of", defArgs s_number_of, defBody s_number_of, defScope s_number_of, [], []⟩
def d_is_plain_deed : He.DefD := ⟨("is_plain_deed", none), "is_plain_deed", "is_plain_deed", defArgs s_is_plain_deed, defBody s_is_plain_deed, defScope s_is_plain_deed, [], []⟩
def d_log_text : He.DefD := ⟨("log_text", none), "log_text", "log_text", defArgs s_log_text, defBody s_log_text, defScope s_log_text, [], []⟩
def d_deed_in : He.DefD := ⟨("deed_in", none), "deed_in", "deed_in", defArgs s_deed_in, defBody s_deed_in, defScope s_deed_in, [], []⟩
def d_read_log : He.DefD := ⟨("read_log", none), "read_log", "read_log", defArgs s_read_log, defBody s_read_log, defScope s_read_log, [], []⟩
def d_Ldrawn : He.DefD := ⟨("_law_drawn", none), "_law_drawn", "_law_drawn", defArgs s_Ldrawn, defBody s_Ldrawn, defScope s_Ldrawn, [], []⟩
def d_Lpicture : He.DefD := ⟨("_law_picture", none), "_law_picture", "_law_picture", defArgs s_Lpicture, defBody s_Lpicture, defScope s_Lpicture, [], []⟩
def d_Lsome : He.DefD := ⟨("_law_some", none), "_law_some", "_law_some", defArgs s_Lsome, defBody s_Lsome, defScope s_Lsome, [], []⟩
def d_Lmanner : He.DefD := ⟨("_law_manner", none), "_law_manner", "_law_manner", defArgs s_Lmanner, defBody s_Lmanner, defScope s_Lmanner, [], []⟩
def d_Ldone : He.DefD := ⟨("_law_done", none), "_law_done", "_law_done", defArgs s_Ldone, defBody s_Ldone, defScope s_Ldone, [], []⟩
def d_Ldeed : He.DefD := ⟨("_law_deed", none), "_law_deed", "_law_deed", defArgs s_Ldeed, defBody s_Ldeed, defScope s_Ldeed, [], []⟩
def d_Lseen : He.DefD := ⟨("_law_seen", none), "_law_seen", "_law_seen", defArgs s_Lseen, defBody s_Lseen, defScope s_Lseen, [], []⟩
def d_law : He.DefD := ⟨("law", none), "law", "law", defArgs s_law, defBody s_law, defScope s_law, [], []⟩
def fn1 : List He.DefD := [d_NoRoom_init, d_is_number, d_is_row, d_is_picture, d_need_picture, d_swapped, d_need_manner, d_near, d_worth_at, d_join_at, d_step_cost, d_free_marks, d_next_ones, d_add, d_downs, d_starts, d_best_way, d_without, d_put_in, d_means, d_near_next, d_Stand_init, d_Desk_init, d_Desk_len, d_Desk_eq, d_Desk_str, d_Desk_turn_to, d_Desk_size, d_Desk_picture, d_Desk_marks]
def fn2 : List He.DefD := [d_Desk_mark, d_Desk_keep, d_Desk_drop, d_Desk_free, d_Desk_seam_of, d_Desk_narrow, d_Desk_flatten, d_Desk_widen, d_Desk_steps, d_Desk_log, d_Desk_back, d_is_deed, d_do, d_replayed, d_step_back, d_origin_of, d_number_of, d_is_plain_deed, d_log_text, d_deed_in, d_read_log, d_Ldrawn, d_Lpicture, d_Lsome, d_Lmanner, d_Ldone, d_Ldeed, d_Lseen, d_law]
def fn : List He.DefD := fn1 ++ fn2
def loose0 : List Str := ["_wall", "__name__", "SeamError", "NoPicture", "NoManner", "NoWay", "NoBox", "NoRoom", "NoBack", "NoDeeds"]
def loose1 : List Str := ["NoText", "MOST_CELL", "MOST_SIDE", "is_number", "is_row", "is_picture", "need_picture", "swapped", "MANNERS", "need_manner"]
def loose2 : List Str := ["near", "worth_at", "join_at", "step_cost", "FREE", "KEPT", "GONE", "free_marks", "next_ones", "add"]
def loose3 : List Str := ["downs", "starts", "best_way", "without", "put_in", "means", "near_next", "Stand", "Desk", "BOXES"]
def loose4 : List Str := ["PLAIN", "is_deed", "do", "replayed", "step_back", "origin_of", "FIGURES", "number_of", "is_plain_deed", "log_text"]
def loose5 : List Str := ["deed_in", "read_log", "_law_drawn", "_law_picture", "_law_some", "_law_manner", "_law_done", "_law_deed", "_law_seen"]
def loose : List Str := loose0 ++ (loose1 ++ (loose2 ++ (loose3 ++ (loose4 ++ (loose5)))))
end SH

/-! ## SHA -/
set_option Elab.async false
set_option linter.all false
set_option maxRecDepth 100000
set_option maxHeartbeats 2000000
/-! the own layer: data by value, known slots, what an expression gives -/
namespace SH
open PySem PySem.Spec PyProof.Rows L2

abbrev St : Type := L2.St
/-! ### data stays -/
theorem sqt_mono {K : PySem.W.Frag} {H H' : Hp} (e : Same H H') {a : Addr} {xs : List V} (h : SqT K H a xs) : SqT K H' a xs := by
  rcases h with (h | ⟨o, h⟩) | h
  · exact .inl (.inl (e _ _ h))
  · exact .inl (.inr ⟨o, e _ _ h⟩)
  · exact .inr h
mutual
theorem dp_mono {K : PySem.W.Frag} {H H' : Hp} (e : Same H H') : ∀ (d : PyData) (v : V), Dp K H v d → Dp K H' v d
  | .none, _, h => by cases h; exact .non
  | .bool b, _, h => by cases h; exact .bl b
  | .int i, _, h => by cases h; exact .int i
  | .str x, _, h => by cases h; exact .str x
  | .list ds, _, h => by
    cases h with
    | lst hs ha => exact .lst (e.seq hs) (dpa_mono e ds _ ha)
  | .tuple ds, _, h => by
    cases h with
    | tup hs ha => exact .tup (sqt_mono e hs) (dpa_mono e ds _ ha)
  | .dict _, _, h => by cases h
theorem dpa_mono {K : PySem.W.Frag} {H H' : Hp} (e : Same H H') : ∀ (ds : List PyData) (vs : List V), DpAll K H vs ds → DpAll K H' vs ds
  | [], _, h => by cases h; exact .nil
  | d :: ds, _, h => by
    cases h with
    | cons h1 h2 => exact .cons (dp_mono e d _ h1) (dpa_mono e ds _ h2)
end
theorem dpa_len {K : PySem.W.Frag} {H : Hp} : ∀ {vs : List V} {ds : List PyData}, DpAll K H vs ds → vs.length = ds.length
  | _, _, .nil => rfl
  | _, _, .cons _ t => congrArg Nat.succ (dpa_len t)
theorem dpa_get {K : PySem.W.Frag} {H : Hp} : ∀ {vs : List V} {ds : List PyData} {i : Nat} {d : PyData}, DpAll K H vs ds → ds[i]? = some d → ∃ v, vs[i]? = some v ∧ Dp K H v d
  | _, _, _, _, .nil, e => by simp at e
  | _, _, 0, _, .cons (v := v) h _, e => by
    have : _ = _ := Option.some.inj e
    subst this
    exact ⟨v, rfl, h⟩
  | _, _, i + 1, d, .cons _ t, e => by
    obtain ⟨v, h1, h2⟩ := dpa_get (i := i) t (by simpa using e)
    exact ⟨v, by simpa using h1, h2⟩
theorem dpa_get' {K : PySem.W.Frag} {H : Hp} : ∀ {vs : List V} {ds : List PyData} {i : Nat} {v : V}, DpAll K H vs ds → vs[i]? = some v → ∃ d, ds[i]? = some d ∧ Dp K H v d
  | _, _, _, _, .nil, e => by simp at e
  | _, _, 0, _, .cons (d := d) h _, e => by
    have : _ = _ := Option.some.inj e
    subst this
    exact ⟨d, rfl, h⟩
  | _, _, i + 1, v, .cons _ t, e => by
    obtain ⟨d, h1, h2⟩ := dpa_get' (i := i) t (by simpa using e)
    exact ⟨d, by simpa using h1, h2⟩
theorem dpa_app {K : PySem.W.Frag} {H : Hp} : ∀ {vs ws : List V} {ds es : List PyData}, DpAll K H vs ds → DpAll K H ws es → DpAll K H (vs ++ ws) (ds ++ es)
  | _, _, _, _, .nil, s => s
  | _, _, _, _, .cons r t, s => .cons r (dpa_app t s)
theorem dpa_take {K : PySem.W.Frag} {H : Hp} : ∀ {vs : List V} {ds : List PyData} (n : Nat), DpAll K H vs ds → DpAll K H (vs.take n) (ds.take n)
  | _, _, 0, _ => .nil
  | _, _, _ + 1, .nil => .nil
  | _, _, n + 1, .cons r t => .cons r (dpa_take n t)
theorem dpa_drop {K : PySem.W.Frag} {H : Hp} : ∀ {vs : List V} {ds : List PyData} (n : Nat), DpAll K H vs ds → DpAll K H (vs.drop n) (ds.drop n)
  | _, _, 0, r => r
  | _, _, _ + 1, .nil => .nil
  | _, _, n + 1, .cons _ t => dpa_drop n t
theorem dpa_ints {K : PySem.W.Frag} {H : Hp} : ∀ {ns : List Int} {vs : List V}, DpAll K H vs (ns.map .int) → vs = ns.map V.int
  | [], _, h => by cases h; rfl
  | n :: ns, _, h => by
    cases h with
    | cons h1 h2 =>
      cases h1
      rw [dpa_ints h2]
      rfl
theorem dpa_of_ints {K : PySem.W.Frag} {H : Hp} : ∀ (ns : List Int), DpAll K H (ns.map V.int) (ns.map .int)
  | [] => .nil
  | n :: ns => .cons (.int n) (dpa_of_ints ns)
theorem dpa_bools {K : PySem.W.Frag} {H : Hp} : ∀ {ns : List Bool} {vs : List V}, DpAll K H vs (ns.map .bool) → vs = ns.map V.bl
  | [], _, h => by cases h; rfl
  | n :: ns, _, h => by
    cases h with
    | cons h1 h2 =>
      cases h1
      rw [dpa_bools h2]
      rfl
theorem dpa_strs {K : PySem.W.Frag} {H : Hp} : ∀ {ns : List Str} {vs : List V}, DpAll K H vs (ns.map .str) → vs = ns.map V.str
  | [], _, h => by cases h; rfl
  | n :: ns, _, h => by
    cases h with
    | cons h1 h2 =>
      cases h1
      rw [dpa_strs h2]
      rfl
theorem dpa_of_strs {K : PySem.W.Frag} {H : Hp} : ∀ (ns : List Str), DpAll K H (ns.map V.str) (ns.map .str)
  | [] => .nil
  | n :: ns => .cons (.str n) (dpa_of_strs ns)
theorem dp_tup {K : PySem.W.Frag} {H : Hp} {v : V} {ds : List PyData} (h : Dp K H v (.tuple ds)) : ∃ a xs, v = .ref a ∧ SqT K H a xs ∧ DpAll K H xs ds := by
  cases h with
  | tup h1 h2 => exact ⟨_, _, rfl, h1, h2⟩
theorem dp_lst {K : PySem.W.Frag} {H : Hp} {v : V} {ds : List PyData} (h : Dp K H v (.list ds)) : ∃ a xs, v = .ref a ∧ SqL K H a xs ∧ DpAll K H xs ds := by
  cases h with
  | lst h1 h2 => exact ⟨_, _, rfl, h1, h2⟩

/-! ### data without lists stays, whatever else is written -/
mutual
def noL : PyData → Bool
  | .list _ => false
  | .dict _ => false
  | .tuple ds => noLs ds
  | .none => true
  | .bool _ => true
  | .int _ => true
  | .str _ => true
def noLs : List PyData → Bool
  | [] => true
  | d :: ds => noL d && noLs ds
end
theorem noLs_all : ∀ {ds : List PyData}, (∀ d ∈ ds, noL d = true) → noLs ds = true
  | [], _ => by simp [noLs]
  | d :: ds, h => by
    simp only [noLs, h d List.mem_cons_self, Bool.true_and]
    exact noLs_all fun x hx => h x (List.mem_cons_of_mem _ hx)
theorem noLs_map {α : Type} {f : α → PyData} {xs : List α} (h : ∀ x ∈ xs, noL (f x) = true) : noLs (xs.map f) = true := noLs_all fun d hd => by
  obtain ⟨x, hx, rfl⟩ := List.mem_map.mp hd
  exact h x hx
theorem noL_tup {ds : List PyData} (h : ∀ d ∈ ds, noL d = true) : noL (.tuple ds) = true := by
  simp only [noL]
  exact noLs_all h
theorem noL_tmap {α : Type} {f : α → PyData} {xs : List α} (h : ∀ x ∈ xs, noL (f x) = true) : noL (.tuple (xs.map f)) = true := by
  simp only [noL]
  exact noLs_map h
/-- tuples (and what is locked) stay -/
def Tsm (H H' : Hp) : Prop := ∀ a, (∀ xs, H a = some (.tup xs) → H' a = some (.tup xs)) ∧ ∀ o u, H a = some (.frz o u) → H' a = some (.frz o u)
theorem Tsm.refl (H : Hp) : Tsm H H := fun _ => ⟨fun _ h => h, fun _ _ h => h⟩
theorem Tsm.trans {H H1 H2 : Hp} (a : Tsm H H1) (b : Tsm H1 H2) : Tsm H H2 := fun x => ⟨fun xs h => (b x).1 xs ((a x).1 xs h), fun o u h => (b x).2 o u ((a x).2 o u h)⟩
theorem Tsm.of {H H' : Hp} (e : Same H H') : Tsm H H' := fun _ => ⟨fun _ h => e _ _ h, fun _ _ h => e _ _ h⟩
theorem tsm_upd {H : Hp} {p : Addr} {o : HO} (h : ∀ u, H p = some u → (∀ xs, u ≠ .tup xs) ∧ ∀ ob u', u ≠ .frz ob u') : Tsm H (upd H p o) := fun a => ⟨fun xs e => by
  rw [upd_ne (fun z => by subst z; exact (h _ e).1 xs rfl)]
  exact e, fun ob u e => by
  rw [upd_ne (fun z => by subst z; exact (h _ e).2 ob u rfl)]
  exact e⟩
theorem tsm_lst {H : Hp} {p : Addr} {L : List V} {o : HO} (h : H p = some (.lst L)) : Tsm H (upd H p o) := tsm_upd fun u e => by
  rw [h] at e
  cases e
  exact ⟨fun _ z => (nomatch z), fun _ _ z => (nomatch z)⟩
theorem tsm_ins {H : Hp} {p C dx : Addr} {fs : List (Str × V)} {o : HO} (h : H p = some (.ins C dx fs)) : Tsm H (upd H p o) := tsm_upd fun u e => by
  rw [h] at e
  cases e
  exact ⟨fun _ z => (nomatch z), fun _ _ z => (nomatch z)⟩
theorem tsm_new {H : Hp} {p : Addr} {o : HO} (h : H p = none) : Tsm H (upd H p o) := tsm_upd fun u e => by
  rw [h] at e
  cases e
theorem sqt_t {K : PySem.W.Frag} {H H' : Hp} (e : Tsm H H') {a : Addr} {xs : List V} (h : SqT K H a xs) : SqT K H' a xs := by
  rcases h with (h | ⟨o, h⟩) | h
  · exact .inl (.inl ((e a).1 _ h))
  · exact .inl (.inr ⟨o, (e a).2 _ _ h⟩)
  · exact .inr h
mutual
theorem dp_t {K : PySem.W.Frag} {H H' : Hp} (e : Tsm H H') : ∀ (d : PyData) (v : V), noL d = true → Dp K H v d → Dp K H' v d
  | .none, _, _, h => by cases h; exact .non
  | .bool b, _, _, h => by cases h; exact .bl b
  | .int i, _, _, h => by cases h; exact .int i
  | .str x, _, _, h => by cases h; exact .str x
  | .list ds, _, n, _ => by simp [noL] at n
  | .tuple ds, _, n, h => by
    cases h with
    | tup hs ha => exact .tup (sqt_t e hs) (dpa_t e ds _ (by simpa [noL] using n) ha)
  | .dict _, _, _, h => by cases h
theorem dpa_t {K : PySem.W.Frag} {H H' : Hp} (e : Tsm H H') : ∀ (ds : List PyData) (vs : List V), noLs ds = true → DpAll K H vs ds → DpAll K H' vs ds
  | [], _, _, h => by cases h; exact .nil
  | d :: ds, _, n, h => by
    have n : noL d = true ∧ noLs ds = true := by simpa [noLs] using n
    cases h with
    | cons h1 h2 => exact .cons (dp_t e d _ n.1 h1) (dpa_t e ds _ n.2 h2)
end

/-! ### the semantic readings -/
def sE (X : Cx) (e : Expr) : TE := fun σ H Q => ∀ (pins : List (Addr × Obj)) (s : Shared), Inv X pins σ H s → wpAny (model X.prog X.w) X.A (eval e X.env) (EP X pins σ Q) X.xe s
def sT (X : Cx) (e : Expr) : TT := fun σ H Q => ∀ (pins : List (Addr × Obj)) (s : Shared), Inv X pins σ H s → wpAny (model X.prog X.w) X.A (isTrue e X.env (eval e X.env)) (TP X pins σ Q) X.xe s
def sW (X : Cx) (e : Expr) : TT := fun σ H Q => ∀ (whole : Sem Value) (pins : List (Addr × Obj)) (s : Shared), Inv X pins σ H s → wpAny (model X.prog X.w) X.A (isTrue e X.env whole) (TP X pins σ Q) X.xe s
def sA (X : Cx) (es : List Expr) : TA := fun σ H Q => ∀ (pos : Pos) (pins : List (Addr × Obj)) (s : Shared), Inv X pins σ H s → wpAny (model X.prog X.w) X.A (spliced (backTo pos (starEach es X.env))) (AP X pins σ Q) X.xe s
def sG (X : Cx) (tg : Expr) : TG := fun v σ H Q => ∀ (pins : List (Addr × Obj)) (s : Shared) (u : Value), Inv X pins σ H s → RelV v u → wpAny (model X.prog X.w) X.A (assign tg X.env u) (fun _ s' => ∃ σ' H', Inv X pins σ' H' s' ∧ Q σ' H') X.xe s
def sTs (X : Cx) (ifs : List Expr) : TT := fun σ H Q => ∀ (pins : List (Addr × Obj)) (s : Shared), Inv X pins σ H s →
    wpAny (model X.prog X.w) X.A (forIn ifs true fun c r => if r = true then do let ok ← isTrue c X.env (eval c X.env); pure (ForInStep.yield ok) else pure (ForInStep.yield r)) (TP X pins σ Q) X.xe s
def sS (X : Cx) (st : Stmt) : TS := fun D σ H => ∀ (pins : List (Addr × Obj)) (s : Shared), Inv X pins σ H s → wpAny (model X.prog X.w) X.A (exec st X.env) (SP X pins D) X.xe s
def sB (X : Cx) (sts : List Stmt) : TS := fun D σ H => ∀ (pins : List (Addr × Obj)) (s : Shared), Inv X pins σ H s → wpAny (model X.prog X.w) X.A (execs sts X.env) (SP X pins D) X.xe s
section
variable {X : Cx} {e : Expr} {es : List Expr} {st : Stmt} {sts : List Stmt} {tg : Expr}
theorem pe_s : PE X e (sE X e) := ⟨fun pins s _ _ _ I h => h pins s I⟩
theorem pt_s : PT X e (sT X e) := ⟨fun pins s _ _ _ I h => h pins s I⟩
theorem pw_s : PW X e (sW X e) := ⟨fun wh pins s _ _ _ I h => h wh pins s I⟩
theorem pa_s : PA X es (sA X es) := ⟨fun pos pins s _ _ _ I h => h pos pins s I⟩
theorem pg_s : PG X tg (sG X tg) := ⟨fun pins s _ _ _ u _ I r h => h pins s u I r⟩
theorem pts_s : PTs X es (sTs X es) := ⟨fun pins s _ _ _ I h => h pins s I⟩
theorem ps_s : PS X st (sS X st) := ⟨fun pins s _ _ _ I h => h pins s I⟩
theorem pss_s : PSs X sts (sB X sts) := ⟨fun pins s _ _ _ I h => h pins s I⟩
theorem sE_of {t : TE} (h : PE X e t) {σ : St} {H : Hp} {Q : VK} (q : t σ H Q) : sE X e σ H Q := fun pins s I => h.run pins s σ H Q I q
theorem sT_of {t : TT} (h : PT X e t) {σ : St} {H : Hp} {Q : Bool → Hp → Prop} (q : t σ H Q) : sT X e σ H Q := fun pins s I => h.run pins s σ H Q I q
theorem sW_of {t : TT} (h : PW X e t) {σ : St} {H : Hp} {Q : Bool → Hp → Prop} (q : t σ H Q) : sW X e σ H Q := fun wh pins s I => h.run wh pins s σ H Q I q
theorem sA_of {t : TA} (h : PA X es t) {σ : St} {H : Hp} {Q : List V → Hp → Prop} (q : t σ H Q) : sA X es σ H Q := fun pos pins s I => h.run pos pins s σ H Q I q
theorem sG_of {t : TG} (h : PG X tg t) {v : V} {σ : St} {H : Hp} {Q : St → Hp → Prop} (q : t v σ H Q) : sG X tg v σ H Q := fun pins s u I r => h.run pins s σ H v u Q I r q
theorem sTs_of {t : TT} (h : PTs X es t) {σ : St} {H : Hp} {Q : Bool → Hp → Prop} (q : t σ H Q) : sTs X es σ H Q := fun pins s I => h.run pins s σ H Q I q
theorem sS_of {t : TS} (h : PS X st t) {D : Ends} {σ : St} {H : Hp} (q : t D σ H) : sS X st D σ H := fun pins s I => h.run pins s σ H D I q
theorem sB_of {t : TS} (h : PSs X sts t) {D : Ends} {σ : St} {H : Hp} (q : t D σ H) : sB X sts D σ H := fun pins s I => h.run pins s σ H D I q
end

/-! ### what is known of the slots -/
abbrev VP := V → Hp → Prop
def Mono (P : VP) : Prop := ∀ v H H', Same H H' → P v H → P v H'
/-- the value is the data d -/
def DD (K : PySem.W.Frag) (d : PyData) : VP := fun v H => Dp K H v d
theorem mono_dd {K : PySem.W.Frag} {d : PyData} : Mono (DD K d) := fun v _ _ e h => dp_mono e d v h
/-- the value is v0 -/
def Eq0 (v0 : V) : VP := fun v _ => v = v0
theorem mono_eq {v0 : V} : Mono (Eq0 v0) := fun _ _ _ _ h => h
abbrev Rho := List (Option VP)
structure EnvOk (ρ : Rho) (σ : St) (H : Hp) : Prop where
  at_ : ∀ (i : Nat) (P : VP), ρ[i]? = some (some P) → ∃ v, σ[i]? = some (some v) ∧ P v H
  mono : ∀ (i : Nat) (P : VP), ρ[i]? = some (some P) → Mono P
  len : σ.length = ρ.length
theorem EnvOk.up {ρ : Rho} {σ : St} {H H' : Hp} (h : EnvOk ρ σ H) (e : Same H H') : EnvOk ρ σ H' :=
  ⟨fun i P q => let ⟨v, a, b⟩ := h.at_ i P q; ⟨v, a, h.mono i P q v H H' e b⟩, h.mono, h.len⟩
theorem eok_nil {H : Hp} : EnvOk [] [] H := ⟨fun _ _ q => by simp at q, fun _ _ q => by simp at q, rfl⟩
theorem eok_none {ρ : Rho} {σ : St} {H : Hp} {o : Option V} (h : EnvOk ρ σ H) : EnvOk (none :: ρ) (o :: σ) H := by
  refine ⟨fun i P q => ?_, fun i P q => ?_, congrArg Nat.succ h.len⟩
  · cases i with
    | zero => simp at q
    | succ i => exact h.at_ i P (by simpa using q)
  · cases i with
    | zero => simp at q
    | succ i => exact h.mono i P (by simpa using q)
theorem eok_some {ρ : Rho} {σ : St} {H : Hp} {v : V} {P : VP} (p : P v H) (m : Mono P) (h : EnvOk ρ σ H) : EnvOk (some P :: ρ) (some v :: σ) H := by
  refine ⟨fun i P' q => ?_, fun i P' q => ?_, congrArg Nat.succ h.len⟩
  · cases i with
    | zero =>
      have : P = P' := by simpa using q
      subst this
      exact ⟨v, rfl, p⟩
    | succ i => exact h.at_ i P' (by simpa using q)
  · cases i with
    | zero =>
      have : P = P' := by simpa using q
      subst this
      exact m
    | succ i => exact h.mono i P' (by simpa using q)
theorem eok_d {K : PySem.W.Frag} {ρ : Rho} {σ : St} {H : Hp} {v : V} {d : PyData} (p : Dp K H v d) (h : EnvOk ρ σ H) : EnvOk (some (DD K d) :: ρ) (some v :: σ) H := eok_some p mono_dd h
theorem EnvOk.set {ρ : Rho} {σ : St} {H : Hp} {v : V} {P : VP} (h : EnvOk ρ σ H) (i : Nat) (p : P v H) (m : Mono P) : EnvOk (ρ.set i (some P)) (σ.set i (some v)) H := by
  refine ⟨fun j P' q => ?_, fun j P' q => ?_, by rw [List.length_set, List.length_set]; exact h.len⟩
  · by_cases hij : i = j
    · subst hij
      by_cases hi : i < ρ.length
      · rw [List.getElem?_set_self hi] at q
        have : P = P' := by simpa using q
        subst this
        exact ⟨v, by rw [List.getElem?_set_self (by rw [h.len]; exact hi)], p⟩
      · rw [List.getElem?_eq_none (by rw [List.length_set]; omega)] at q
        cases q
    · rw [List.getElem?_set_ne hij] at q
      obtain ⟨w, a, b⟩ := h.at_ j P' q
      exact ⟨w, by rw [List.getElem?_set_ne hij]; exact a, b⟩
  · by_cases hij : i = j
    · subst hij
      by_cases hi : i < ρ.length
      · rw [List.getElem?_set_self hi] at q
        have : P = P' := by simpa using q
        subst this
        exact m
      · rw [List.getElem?_eq_none (by rw [List.length_set]; omega)] at q
        cases q
    · rw [List.getElem?_set_ne hij] at q
      exact h.mono j P' q
/-- slots forgotten -/
def wipeR (ρ : Rho) : List Nat → Rho
  | [] => ρ
  | v :: vs => (wipeR ρ vs).set v none
theorem EnvOk.drop {ρ : Rho} {σ : St} {H : Hp} {o : Option V} (h : EnvOk ρ σ H) (i : Nat) : EnvOk (ρ.set i none) (σ.set i o) H := by
  refine ⟨fun j P' q => ?_, fun j P' q => ?_, by rw [List.length_set, List.length_set]; exact h.len⟩
  · by_cases hij : i = j
    · subst hij
      by_cases hi : i < ρ.length
      · rw [List.getElem?_set_self hi] at q
        simp at q
      · rw [List.getElem?_eq_none (by rw [List.length_set]; omega)] at q
        cases q
    · rw [List.getElem?_set_ne hij] at q
      obtain ⟨w, a, b⟩ := h.at_ j P' q
      exact ⟨w, by rw [List.getElem?_set_ne hij]; exact a, b⟩
  · by_cases hij : i = j
    · subst hij
      by_cases hi : i < ρ.length
      · rw [List.getElem?_set_self hi] at q
        simp at q
      · rw [List.getElem?_eq_none (by rw [List.length_set]; omega)] at q
        cases q
    · rw [List.getElem?_set_ne hij] at q
      exact h.mono j P' q
theorem EnvOk.wipe {ρ : Rho} {σ : St} {H : Hp} (h : EnvOk ρ σ H) : ∀ vs : List Nat, EnvOk (wipeR ρ vs) (wipe σ vs) H
  | [] => h
  | v :: vs => (EnvOk.wipe h vs).drop v

/-! ### what an expression gives -/
structure EvR (X : Cx) (e : Expr) (ρ : Rho) (P : VP) : Prop where
  mono : Mono P
  run : ∀ (σ : St) (H : Hp), EnvOk ρ σ H → ∀ Q : VK, (∀ v H', Same H H' → P v H' → Q v H') → sE X e σ H Q
structure EvT (X : Cx) (e : Expr) (ρ : Rho) (b : Bool) : Prop where
  run : ∀ (σ : St) (H : Hp), EnvOk ρ σ H → ∀ Q : Bool → Hp → Prop, (∀ H', Same H H' → Q b H') → sT X e σ H Q
structure EvW (X : Cx) (e : Expr) (ρ : Rho) (b : Bool) : Prop where
  run : ∀ (σ : St) (H : Hp), EnvOk ρ σ H → ∀ Q : Bool → Hp → Prop, (∀ H', Same H H' → Q b H') → sW X e σ H Q
structure EvTs (X : Cx) (es : List Expr) (ρ : Rho) (b : Bool) : Prop where
  run : ∀ (σ : St) (H : Hp), EnvOk ρ σ H → ∀ Q : Bool → Hp → Prop, (∀ H', Same H H' → Q b H') → sTs X es σ H Q
structure EvA (X : Cx) (es : List Expr) (ρ : Rho) (ds : List PyData) : Prop where
  run : ∀ (σ : St) (H : Hp), EnvOk ρ σ H → ∀ Q : List V → Hp → Prop, (∀ vs H', Same H H' → DpAll X.K H' vs ds → Q vs H') → sA X es σ H Q
section
variable {X : Cx} {ρ : Rho} {a b c e : Expr} {es : List Expr} {P Pa Pb : VP} {pos : Pos}
/-- an expression that gives the data d -/
abbrev EvD (X : Cx) (e : Expr) (ρ : Rho) (d : PyData) : Prop := EvR X e ρ (DD X.K d)
theorem ev_of {t : TE} (h : PE X e t) (m : Mono P) (ht : ∀ (σ : St) (H : Hp), EnvOk ρ σ H → ∀ Q : VK, (∀ v H', Same H H' → P v H' → Q v H') → t σ H Q) : EvR X e ρ P := ⟨m, fun σ H eo Q k => sE_of h (ht σ H eo Q k)⟩
theorem ed_of {t : TE} {d : PyData} (h : PE X e t) (ht : ∀ (σ : St) (H : Hp), EnvOk ρ σ H → ∀ Q : VK, (∀ v H', Same H H' → Dp X.K H' v d → Q v H') → t σ H Q) : EvD X e ρ d := ev_of h mono_dd ht
theorem EvD.is {d d' : PyData} (h : EvD X e ρ d) (q : d = d') : EvD X e ρ d' := q ▸ h
theorem EvT.is {b b' : Bool} (h : EvT X e ρ b) (q : b = b') : EvT X e ρ b' := q ▸ h
theorem e_int {i j} : EvD X (.Constant (.int i) j pos) ρ (.int i) := ed_of pe_int fun σ H _ Q k => k _ H (Same.refl H) (.int i)
theorem e_bl {b j} : EvD X (.Constant (.bool b) j pos) ρ (.bool b) := ed_of pe_bl fun σ H _ Q k => k _ H (Same.refl H) (.bl b)
theorem e_non {j} : EvD X (.Constant .none j pos) ρ .none := ed_of pe_non fun σ H _ Q k => k _ H (Same.refl H) .non
theorem e_str {x j} : EvD X (.Constant (.str x) j pos) ρ (.str x) := ed_of pe_str fun σ H _ Q k => k _ H (Same.refl H) (.str x)
/-- a name in slot i -/
theorem e_nP (i : Nat) {x : Str} (hρ : ρ[i]? = some (some P)) (m : Mono P) (hN : X.N[i]? = some x := by rfl) (hv : Vis X.env.scope x := by first | exact Or.inl rfl | exact Or.inr (Or.inl rfl) | exact Or.inr (Or.inr rfl)) (hd : (x == ("__debug__" : Str)) = false := by decide)
    (hcd : (x == ("__classdict__" : Str)) = false := by decide) : EvR X (.Name x pos) ρ P :=
  ev_of (pe_var hN hv hd hcd) m fun σ H eo Q k => let ⟨v, h1, h2⟩ := eo.at_ i P hρ; ⟨v, h1, k v H (Same.refl H) h2⟩
theorem e_n (i : Nat) {x : Str} {d : PyData} (hρ : ρ[i]? = some (some (DD X.K d))) (hN : X.N[i]? = some x := by rfl) (hv : Vis X.env.scope x := by first | exact Or.inl rfl | exact Or.inr (Or.inl rfl) | exact Or.inr (Or.inr rfl)) (hd : (x == ("__debug__" : Str)) = false := by decide)
    (hcd : (x == ("__classdict__" : Str)) = false := by decide) : EvD X (.Name x pos) ρ d := e_nP i hρ mono_dd hN hv hd hcd
/-- a module's int, text, tuple -/
theorem e_gi {x : Str} {i : Int} (h : ∃ t, X.mg x = some (.int i t)) (hg : Gl X x := by rfl) (hd : (x == ("__debug__" : Str)) = false := by decide) : EvD X (.Name x pos) ρ (.int i) := by
  obtain ⟨t, hm⟩ := h
  exact ed_of (pe_glob (v := V.int i) hg hm ⟨t, rfl⟩ hd) fun σ H _ Q k => k _ H (Same.refl H) (.int i)
theorem e_gs {x z : Str} (h : ∃ t, X.mg x = some (.str z t)) (hg : Gl X x := by rfl) (hd : (x == ("__debug__" : Str)) = false := by decide) : EvD X (.Name x pos) ρ (.str z) := by
  obtain ⟨t, hm⟩ := h
  exact ed_of (pe_glob (v := V.str z) hg hm ⟨t, rfl⟩ hd) fun σ H _ Q k => k _ H (Same.refl H) (.str z)
theorem e_gt {x : Str} {a : Addr} {ds : List PyData} {xs : List V} (h : X.mg x = some (.ref a)) (hs : ∀ H, SqT X.K H a xs) (hd : ∀ H, DpAll X.K H xs ds) (hg : Gl X x := by rfl) (hdb : (x == ("__debug__" : Str)) = false := by decide) : EvD X (.Name x pos) ρ (.tuple ds) :=
  ed_of (pe_glob (v := V.ref a) hg h rfl hdb) fun σ H _ Q k => k _ H (Same.refl H) (.tup (hs H) (hd H))

/-! ### operators -/
/-- an operation upon values of which Pa, Pb are known gives what P says -/
def Ok2 (r : R2) (Pa Pb P : VP) : Prop := ∀ x y H, Pa x H → Pb y H → ∀ Q : VK, (∀ z H', Same H H' → P z H' → Q z H') → r x y H Q
theorem e_bin {op : Operator} {r : R2} (ho : OpR X (binaryOp op) r) (m : Mono P) (hr : Ok2 r Pa Pb P) (ha : EvR X a ρ Pa) (hb : EvR X b ρ Pb) : EvR X (.BinOp a op b pos) ρ P :=
  ev_of (pe_op ho pe_s pe_s) m fun σ H eo Q k => ha.run σ H eo _ fun x H1 e1 px => hb.run σ H1 (eo.up e1) _ fun y H2 e2 py =>
    hr x y H2 (ha.mono x _ _ e2 px) py Q fun z H3 e3 pz => k z H3 ((e1.trans e2).trans e3) pz
theorem ok2_I0 {g : Int → Int → V} {K : PySem.W.Frag} {i j : Int} {d : PyData} (h : ∀ H, Dp K H (g i j) d) : Ok2 (rI0 g) (DD K (.int i)) (DD K (.int j)) (DD K d) := fun x y H px py Q k => by
  cases px
  cases py
  exact ⟨i, j, rfl, rfl, k _ H (Same.refl H) (h H)⟩
theorem ok2_I {C : Int → Int → Prop} {g : Int → Int → V} {K : PySem.W.Frag} {i j : Int} {d : PyData} (hc : C i j) (h : ∀ H, Dp K H (g i j) d) : Ok2 (rI C g) (DD K (.int i)) (DD K (.int j)) (DD K d) := fun x y H px py Q k => by
  cases px
  cases py
  exact ⟨i, j, rfl, rfl, hc, k _ H (Same.refl H) (h H)⟩
theorem e_add {i j : Int} (ha : EvD X a ρ (.int i)) (hb : EvD X b ρ (.int j)) : EvD X (.BinOp a .Add b pos) ρ (.int (i + j)) := e_bin op_add mono_dd (ok2_I0 fun _ => .int _) ha hb
theorem e_sub {i j : Int} (ha : EvD X a ρ (.int i)) (hb : EvD X b ρ (.int j)) : EvD X (.BinOp a .Sub b pos) ρ (.int (i - j)) := e_bin op_sub mono_dd (ok2_I0 fun _ => .int _) ha hb
theorem e_mul {i j : Int} (ha : EvD X a ρ (.int i)) (hb : EvD X b ρ (.int j)) (hc : CMul i j) : EvD X (.BinOp a .Mult b pos) ρ (.int (i * j)) := e_bin op_mul mono_dd (ok2_I hc fun _ => .int _) ha hb
theorem e_mod {i j : Int} (ha : EvD X a ρ (.int i)) (hb : EvD X b ρ (.int j)) (hc : 0 < j) : EvD X (.BinOp a .Mod b pos) ρ (.int (i % j)) := e_bin op_mod mono_dd (ok2_I hc fun _ => .int _) ha hb
theorem e_fdiv {i j : Int} (ha : EvD X a ρ (.int i)) (hb : EvD X b ρ (.int j)) (hc : CDiv i j) : EvD X (.BinOp a .FloorDiv b pos) ρ (.int (i / j)) := e_bin op_fdiv mono_dd (ok2_I hc fun _ => .int _) ha hb
theorem e_pow {i j : Int} (ha : EvD X a ρ (.int i)) (hb : EvD X b ρ (.int j)) (hc : CPow i j) : EvD X (.BinOp a .Pow b pos) ρ (.int (i ^ j.toNat)) := e_bin op_pow mono_dd (ok2_I hc fun _ => .int _) ha hb
theorem e_addS {x y : Str} (ha : EvD X a ρ (.str x)) (hb : EvD X b ρ (.str y)) (hl : x.length + y.length ≤ sizeLine) : EvD X (.BinOp a .Add b pos) ρ (.str (x ++ y)) :=
  e_bin op_add_str mono_dd (fun u v H px py Q k => by
    cases px
    cases py
    exact ⟨x, y, rfl, rfl, hl, k _ H (Same.refl H) (.str _)⟩) ha hb
theorem same_new {H : Hp} {p : Addr} {o : HO} (h : H p = none) : Same H (upd H p o) := fun b u e => by
  rw [upd_ne (ne_of_none e h)]
  exact e
/-- t + u of tuples -/
theorem e_cat {xs ys : List PyData} (ha : EvD X a ρ (.tuple xs)) (hb : EvD X b ρ (.tuple ys)) (hl : xs.length + ys.length ≤ sizeLine) : EvD X (.BinOp a .Add b pos) ρ (.tuple (xs ++ ys)) :=
  e_bin op_catA mono_dd (fun u v H px py Q k => by
    obtain ⟨p, us, rfl, hp, hu⟩ := dp_tup px
    obtain ⟨q, vs, rfl, hq, hv⟩ := dp_tup py
    have l1 := dpa_len hu
    have l2 := dpa_len hv
    refine ⟨p, q, us, vs, rfl, rfl, hp, hq, by omega, fun e => ?_, fun _ e => ?_, fun _ _ r hr => ?_⟩
    · subst e
      cases hu
      exact k _ H (Same.refl H) py
    · subst e
      cases hv
      rw [List.append_nil] at k
      exact k _ H (Same.refl H) px
    · exact k _ _ (same_new hr) (.tup (.of upd_same) (dpa_mono (same_new hr) _ _ (dpa_app hu hv)))) ha hb
theorem e_neg {i : Int} (ha : EvD X a ρ (.int i)) : EvD X (.UnaryOp .USub a pos) ρ (.int (-i)) :=
  ed_of (pe_un un_neg pe_s) fun σ H eo Q k => ha.run σ H eo _ fun x H1 e1 px => by
    cases px
    exact ⟨i, rfl, k _ H1 e1 (.int _)⟩
end
end SH

/-! ## SHB -/
set_option Elab.async false
set_option linter.all false
set_option maxRecDepth 100000
set_option maxHeartbeats 2000000
namespace SH
open PySem PySem.Spec PyProof.Rows L2
/-! ### shapes for == -/
structure Shp (n : Nat) (d : PyData) : Prop where
  lay : d.canLay0 = true
  dep : d.depth ≤ n
theorem Shp.up {n m : Nat} {d : PyData} (h : Shp n d) (hn : n ≤ m) : Shp m d := ⟨h.lay, Nat.le_trans h.dep hn⟩
theorem Shp.ok {n : Nat} {d : PyData} (h : Shp n d) (hn : n ≤ 64 := by decide) : SeqAt.shaped d = true := by
  unfold SeqAt.shaped
  rw [h.lay, Bool.true_and]
  exact decide_eq_true (Nat.le_trans h.dep hn)
theorem shp_int {n : Nat} {i : Int} : Shp n (.int i) := ⟨by simp [PyData.canLay0], by simp [PyData.depth]⟩
theorem shp_bool {n : Nat} {i : Bool} : Shp n (.bool i) := ⟨by simp [PyData.canLay0], by simp [PyData.depth]⟩
theorem shp_none {n : Nat} : Shp n .none := ⟨by simp [PyData.canLay0], by simp [PyData.depth]⟩
theorem shp_str {n : Nat} {x : Str} (h : PyData.strOk x = true) : Shp n (.str x) := ⟨by simpa [PyData.canLay0] using h, by simp [PyData.depth]⟩
theorem shp_all {n : Nat} : ∀ {ds : List PyData}, (∀ d ∈ ds, Shp n d) → PyData.canLayAll0 ds = true ∧ PyData.depthAll ds ≤ n
  | [], _ => ⟨by simp [PyData.canLayAll0], by simp [PyData.depthAll]⟩
  | d :: ds, h => by
    obtain ⟨a, b⟩ := shp_all (ds := ds) fun x hx => h x (List.mem_cons_of_mem _ hx)
    have c := h d List.mem_cons_self
    refine ⟨by simp [PyData.canLayAll0, c.lay, a], ?_⟩
    have z := c.dep
    simp only [PyData.depthAll]
    omega
theorem shp_tup {n : Nat} {ds : List PyData} (h : ∀ d ∈ ds, Shp n d) : Shp (n + 1) (.tuple ds) := by
  obtain ⟨a, b⟩ := shp_all h
  exact ⟨by simpa [PyData.canLay0] using a, by simp only [PyData.depth]; omega⟩
theorem shp_lst {n : Nat} {ds : List PyData} (h : ∀ d ∈ ds, Shp n d) : Shp (n + 1) (.list ds) := by
  obtain ⟨a, b⟩ := shp_all h
  exact ⟨by simpa [PyData.canLay0] using a, by simp only [PyData.depth]; omega⟩

section
variable {X : Cx} {ρ : Rho} {a b c e : Expr} {es : List Expr} {P Pa Pb Pc : VP} {pos p p2 : Pos}
/-! ### comparisons -/
structure CmpOk (X : Cx) (op : CmpOp) (Pa Pb : VP) (k : Bool) : Prop where
  ex : ∃ r : R2, OpR X (compareOp op) r ∧ ∀ x y H, Pa x H → Pb y H → ∀ Q : VK, (∀ H', Same H H' → Q (.bl k) H') → r x y H Q
theorem e_cmp {op : CmpOp} {k : Bool} (h : CmpOk X op Pa Pb k) (ha : EvR X a ρ Pa) (hb : EvR X b ρ Pb) (hm : behindInMarks op b = false := by first | exact nomark _ | rfl) : EvD X (.Compare a [op] [b] pos) ρ (.bool k) := by
  obtain ⟨r, ho, hr⟩ := h.ex
  exact ed_of (pe_cmpR ho pe_s pe_s hm) fun σ H eo Q q => ha.run σ H eo _ fun x H1 e1 px => hb.run σ H1 (eo.up e1) _ fun y H2 e2 py =>
    hr x y H2 (ha.mono x _ _ e2 px) py _ fun H3 e3 => q _ H3 ((e1.trans e2).trans e3) (.bl k)
theorem t_cmp {op : CmpOp} {k : Bool} (h : CmpOk X op Pa Pb k) (ha : EvR X a ρ Pa) (hb : EvR X b ρ Pb) (hm : behindInMarks op b = false := by first | exact nomark _ | rfl) : EvT X (.Compare a [op] [b] pos) ρ k := by
  obtain ⟨r, ho, hr⟩ := h.ex
  exact ⟨fun σ H eo Q q => sT_of (pt_cmpR ho pe_s pe_s hm) (ha.run σ H eo _ fun x H1 e1 px => hb.run σ H1 (eo.up e1) _ fun y H2 e2 py =>
    hr x y H2 (ha.mono x _ _ e2 px) py _ fun H3 e3 => ⟨k, rfl, q H3 ((e1.trans e2).trans e3)⟩)⟩
theorem e_chain {op op' : CmpOp} {k k' : Bool} (h : CmpOk X op Pa Pb k) (h' : CmpOk X op' Pb Pc k') (ha : EvR X a ρ Pa) (hb : EvR X b ρ Pb) (hc : EvR X c ρ Pc) (hm : lastMarks [op, op'] [b, c] = false := by with_unfolding_all rfl) : EvD X (.Compare a [op, op'] [b, c] pos) ρ (.bool (k && k')) := by
  obtain ⟨r, ho, hr⟩ := h.ex
  obtain ⟨r', ho', hr'⟩ := h'.ex
  exact ed_of (pe_chain ho ho' pe_s pe_s pe_s hm) fun σ H eo Q q => ha.run σ H eo _ fun x H1 e1 px => hb.run σ H1 (eo.up e1) _ fun y H2 e2 py =>
    hr x y H2 (ha.mono x _ _ e2 px) py _ fun H3 e3 => ⟨k, rfl, by
      cases k with
      | true =>
        show sE X c σ H3 _
        exact hc.run σ H3 (eo.up ((e1.trans e2).trans e3)) _ fun z H4 e4 pz => hr' y z H4 (hb.mono y _ _ (e3.trans e4) py) pz _ fun H5 e5 => q _ H5 ((((e1.trans e2).trans e3).trans e4).trans e5) (.bl _)
      | false => exact q _ H3 ((e1.trans e2).trans e3) (.bl _)⟩
theorem t_chain {op op' : CmpOp} {k k' : Bool} (h : CmpOk X op Pa Pb k) (h' : CmpOk X op' Pb Pc k') (ha : EvR X a ρ Pa) (hb : EvR X b ρ Pb) (hc : EvR X c ρ Pc) (hm : lastMarks [op, op'] [b, c] = false := by with_unfolding_all rfl) : EvT X (.Compare a [op, op'] [b, c] pos) ρ (k && k') := by
  obtain ⟨r, ho, hr⟩ := h.ex
  obtain ⟨r', ho', hr'⟩ := h'.ex
  exact ⟨fun σ H eo Q q => sT_of (pt_chain ho ho' pe_s pe_s pe_s hm) (ha.run σ H eo _ fun x H1 e1 px => hb.run σ H1 (eo.up e1) _ fun y H2 e2 py =>
    hr x y H2 (ha.mono x _ _ e2 px) py _ fun H3 e3 => ⟨k, rfl, by
      cases k with
      | true =>
        show sE X c σ H3 _
        exact hc.run σ H3 (eo.up ((e1.trans e2).trans e3)) _ fun z H4 e4 pz => hr' y z H4 (hb.mono y _ _ (e3.trans e4) py) pz _ fun H5 e5 => ⟨k', rfl, q H5 ((((e1.trans e2).trans e3).trans e4).trans e5)⟩
      | false => exact ⟨false, rfl, q H3 ((e1.trans e2).trans e3)⟩⟩)⟩
theorem cmp_I0 {op : CmpOp} {g : Int → Int → Bool} {i j : Int} (ho : OpR X (compareOp op) (rI0 fun i j => .bl (g i j))) : CmpOk X op (DD X.K (.int i)) (DD X.K (.int j)) (g i j) :=
  ⟨_, ho, fun x y H px py Q q => by
    cases px
    cases py
    exact ⟨i, j, rfl, rfl, q H (Same.refl H)⟩⟩
theorem c_lt {i j : Int} : CmpOk X .Lt (DD X.K (.int i)) (DD X.K (.int j)) (decide (i < j)) := cmp_I0 op_lt
theorem c_le {i j : Int} : CmpOk X .LtE (DD X.K (.int i)) (DD X.K (.int j)) (decide (i ≤ j)) := cmp_I0 op_le
theorem c_gt {i j : Int} : CmpOk X .Gt (DD X.K (.int i)) (DD X.K (.int j)) (decide (j < i)) := cmp_I0 op_gt
theorem c_ge {i j : Int} : CmpOk X .GtE (DD X.K (.int i)) (DD X.K (.int j)) (decide (j ≤ i)) := cmp_I0 op_ge
theorem c_eqI {i j : Int} : CmpOk X .Eq (DD X.K (.int i)) (DD X.K (.int j)) (decide (i = j)) := ⟨_, op_eq, fun x y H px py Q q => by
  cases px
  cases py
  have z : decide (V.int i = V.int j) = decide (i = j) := by rw [dec_int, Bool.beq_eq_decide_eq]
  exact ⟨rfl, by rw [z]; exact q H (Same.refl H)⟩⟩
theorem c_neI {i j : Int} : CmpOk X .NotEq (DD X.K (.int i)) (DD X.K (.int j)) (!decide (i = j)) := ⟨_, op_ne, fun x y H px py Q q => by
  cases px
  cases py
  have z : decide (V.int i = V.int j) = decide (i = j) := by rw [dec_int, Bool.beq_eq_decide_eq]
  exact ⟨rfl, by rw [z]; exact q H (Same.refl H)⟩⟩
theorem c_eqS {i j : Str} : CmpOk X .Eq (DD X.K (.str i)) (DD X.K (.str j)) (decide (i = j)) := ⟨_, op_eq, fun x y H px py Q q => by
  cases px
  cases py
  have z : decide (V.str i = V.str j) = decide (i = j) := by rw [dec_str, Bool.beq_eq_decide_eq]
  exact ⟨rfl, by rw [z]; exact q H (Same.refl H)⟩⟩
theorem c_neS {i j : Str} : CmpOk X .NotEq (DD X.K (.str i)) (DD X.K (.str j)) (!decide (i = j)) := ⟨_, op_ne, fun x y H px py Q q => by
  cases px
  cases py
  have z : decide (V.str i = V.str j) = decide (i = j) := by rw [dec_str, Bool.beq_eq_decide_eq]
  exact ⟨rfl, by rw [z]; exact q H (Same.refl H)⟩⟩
theorem c_eqD {d d' : PyData} (hu : X.A.units + 64 < cLine) (h : SeqAt.shaped d = true) (h' : SeqAt.shaped d' = true) : CmpOk X .Eq (DD X.K d) (DD X.K d') (PyData.eqv d d') :=
  ⟨_, op_eqD hu, fun x y H px py Q q => ⟨d, d', px, py, h, h', q H (Same.refl H)⟩⟩
theorem c_neD {d d' : PyData} (hu : X.A.units + 64 < cLine) (h : SeqAt.shaped d = true) (h' : SeqAt.shaped d' = true) : CmpOk X .NotEq (DD X.K d) (DD X.K d') (!PyData.eqv d d') :=
  ⟨_, op_neD hu, fun x y H px py Q q => ⟨d, d', px, py, h, h', q H (Same.refl H)⟩⟩
def isNone : PyData → Bool
  | .none => true
  | _ => false
theorem dp_none {K : PySem.W.Frag} {H : Hp} {v : V} {d : PyData} (h : Dp K H v d) : decide (v = .non) = isNone d := by
  cases h <;> rfl
theorem c_is {d : PyData} : CmpOk X .Is (DD X.K d) (DD X.K .none) (isNone d) := ⟨_, op_isN, fun x y H px py Q q => by
  cases py
  exact ⟨rfl, by rw [dp_none px]; exact q H (Same.refl H)⟩⟩
theorem c_isnot {d : PyData} : CmpOk X .IsNot (DD X.K d) (DD X.K .none) (!isNone d) := ⟨_, op_notN, fun x y H px py Q q => by
  cases py
  exact ⟨rfl, by rw [dp_none px]; exact q H (Same.refl H)⟩⟩
theorem c_ltT {ns ms : List Int} (hu : X.A.units < cLine) : CmpOk X .Lt (DD X.K (.tuple (ns.map .int))) (DD X.K (.tuple (ms.map .int))) (HT.lexLt ns ms) := ⟨_, op_ltT hu, fun x y H px py Q q => by
  obtain ⟨p1, us, rfl, h1, d1⟩ := dp_tup px
  obtain ⟨p2, vs, rfl, h2, d2⟩ := dp_tup py
  rw [dpa_ints d1] at h1
  rw [dpa_ints d2] at h2
  exact ⟨p1, p2, ns, ms, rfl, rfl, h1, h2, q H (Same.refl H)⟩⟩
theorem flat_strs : ∀ ys : List Str, (ys.map V.str).all flatV = true
  | [] => rfl
  | y :: ys => by
    show (true && (ys.map V.str).all flatV) = true
    rw [flat_strs ys]
    rfl
theorem inV_strs (x : Str) : ∀ ys : List Str, inV (.str x) (ys.map V.str) = decide (x ∈ ys)
  | [] => rfl
  | y :: ys => by
    show ((y == x) || inV (.str x) (ys.map V.str)) = _
    rw [inV_strs x ys]
    by_cases h : y = x
    · subst h; simp
    · have h2 : ¬ x = y := fun z => h z.symm
      simp [h, h2]
theorem c_inS {x : Str} {ys : List Str} : CmpOk X .In (DD X.K (.str x)) (DD X.K (.tuple (ys.map .str))) (decide (x ∈ ys)) := ⟨_, op_in_seq, fun v y H px py Q q => by
  cases px
  obtain ⟨p, vs, rfl, h1, d1⟩ := dp_tup py
  rw [dpa_strs d1] at h1
  refine ⟨p, _, rfl, .inr h1, rfl, flat_strs ys, ?_⟩
  rw [inV_strs]
  exact q H (Same.refl H)⟩
theorem c_notinS {x : Str} {ys : List Str} : CmpOk X .NotIn (DD X.K (.str x)) (DD X.K (.tuple (ys.map .str))) (!decide (x ∈ ys)) := ⟨_, op_notIn_seq, fun v y H px py Q q => by
  cases px
  obtain ⟨p, vs, rfl, h1, d1⟩ := dp_tup py
  rw [dpa_strs d1] at h1
  refine ⟨p, _, rfl, .inr h1, rfl, flat_strs ys, ?_⟩
  rw [inV_strs]
  exact q H (Same.refl H)⟩
/-- one sign in a text -/
theorem c_inSign {c : Nat} {z : Str} : CmpOk X .In (DD X.K (.str ⟨#[c]⟩)) (DD X.K (.str z)) (decide (c ∈ z.cps.toList)) := ⟨_, op_in_sign, fun v y H px py Q q => by
  cases px
  cases py
  exact ⟨c, z, rfl, rfl, q H (Same.refl H)⟩⟩

/-! ### tests -/
theorem t_val {k : Bool} (h : EvD X e ρ (.bool k)) (he : ∀ whole, isTrue e X.env whole = (do let v ← whole; standAt e.pos; holding [v] (truthy v)) := by intro _; rfl) : EvT X e ρ k :=
  ⟨fun σ H eo Q q => sT_of (pt_val pe_s he) (h.run σ H eo _ fun v H1 e1 pv => by
    cases pv
    exact ⟨k, rfl, q H1 e1⟩)⟩
theorem t_not {k : Bool} (h : EvT X a ρ k) : EvT X (.UnaryOp .Not a pos) ρ (!k) := ⟨fun σ H eo Q q => sT_of (pt_not pt_s) (h.run σ H eo _ fun H1 e1 => q H1 e1)⟩
theorem w_and1 {k : Bool} (h : EvT X a ρ k) : EvW X (.BoolOp .And [a] pos) ρ k := ⟨fun σ H eo Q q => sW_of (pw_and1 pt_s) (h.run σ H eo _ q)⟩
theorem w_or1 {k : Bool} (h : EvT X a ρ k) : EvW X (.BoolOp .Or [a] pos) ρ k := ⟨fun σ H eo Q q => sW_of (pw_or1 pt_s) (h.run σ H eo _ q)⟩
theorem w_and {k k' : Bool} (h : EvT X a ρ k) (h' : k = true → EvW X (.BoolOp .And (b :: es) pos) ρ k') : EvW X (.BoolOp .And (a :: b :: es) pos) ρ (k && k') :=
  ⟨fun σ H eo Q q => sW_of (pw_and pt_s pw_s) (h.run σ H eo _ fun H1 e1 => by
    cases k with
    | true =>
      show sW X _ σ H1 _
      exact (h' rfl).run σ H1 (eo.up e1) _ fun H2 e2 => q H2 (e1.trans e2)
    | false => exact q H1 e1)⟩
theorem w_or {k k' : Bool} (h : EvT X a ρ k) (h' : k = false → EvW X (.BoolOp .Or (b :: es) pos) ρ k') : EvW X (.BoolOp .Or (a :: b :: es) pos) ρ (k || k') :=
  ⟨fun σ H eo Q q => sW_of (pw_or pt_s pw_s) (h.run σ H eo _ fun H1 e1 => by
    cases k with
    | false =>
      show sW X _ σ H1 _
      exact (h' rfl).run σ H1 (eo.up e1) _ fun H2 e2 => q H2 (e1.trans e2)
    | true => exact q H1 e1)⟩
theorem t_w {k : Bool} (h : EvW X e ρ k) : EvT X e ρ k := ⟨fun σ H eo Q q => sT_of (PW.pt pw_s) (h.run σ H eo Q q)⟩
/-! ### and, or, not as values; if -/
theorem e_one {op} {d : PyData} (h : EvD X a ρ d) : EvD X (.BoolOp op [a] pos) ρ d := ed_of (pe_one pe_s) fun σ H eo Q q => h.run σ H eo Q q
theorem e_and {k k' : Bool} (h : EvD X a ρ (.bool k)) (h' : k = true → EvD X (.BoolOp .And (b :: es) pos) ρ (.bool k')) : EvD X (.BoolOp .And (a :: b :: es) pos) ρ (.bool (k && k')) :=
  ed_of (pe_and pe_s pe_s) fun σ H eo Q q => h.run σ H eo _ fun v H1 e1 pv => by
    cases pv
    refine ⟨k, rfl, ?_⟩
    cases k with
    | true =>
      show sE X _ σ H1 _
      exact (h' rfl).run σ H1 (eo.up e1) _ fun u H2 e2 pu => q u H2 (e1.trans e2) pu
    | false => exact q _ H1 e1 (.bl _)
theorem e_not {k : Bool} (h : EvD X a ρ (.bool k)) : EvD X (.UnaryOp .Not a pos) ρ (.bool (!k)) := ed_of (pe_not pe_s) fun σ H eo Q q => h.run σ H eo _ fun v H1 e1 pv => by
  cases pv
  exact ⟨k, rfl, q _ H1 e1 (.bl _)⟩
theorem e_ifP {t : Expr} {k : Bool} (h : EvT X t ρ k) (m : Mono P) (h1 : k = true → EvR X a ρ P) (h2 : k = false → EvR X b ρ P) : EvR X (.IfExp t a b pos) ρ P := ev_of (pe_ifExp pt_s pe_s pe_s) m fun σ H eo Q q => h.run σ H eo _ fun H1 e1 => by
  cases k with
  | true =>
    show sE X _ σ H1 _
    exact (h1 rfl).run σ H1 (eo.up e1) _ fun v H2 e2 pv => q v H2 (e1.trans e2) pv
  | false =>
    show sE X _ σ H1 _
    exact (h2 rfl).run σ H1 (eo.up e1) _ fun v H2 e2 pv => q v H2 (e1.trans e2) pv
theorem e_if {t : Expr} {k : Bool} {d d' : PyData} (h : EvT X t ρ k) (h1 : k = true → EvD X a ρ d) (h2 : k = false → EvD X b ρ d') : EvD X (.IfExp t a b pos) ρ (if k = true then d else d') :=
  e_ifP h mono_dd (fun q => by rw [if_pos q]; exact h1 q) fun q => by rw [if_neg (by rw [q]; decide)]; exact h2 q

/-! ### arguments, displays, calls -/
theorem a_nil : EvA X [] ρ [] := ⟨fun σ H _ Q q => sA_of pa_nil (q [] H (Same.refl H) .nil)⟩
theorem a_cons {d : PyData} {ds : List PyData} (h : EvD X e ρ d) (hr : EvA X es ρ ds) (hs : starEach (e :: es) X.env = (false, eval e X.env) :: starEach es X.env := by rfl) : EvA X (e :: es) ρ (d :: ds) :=
  ⟨fun σ H eo Q q => sA_of (pa_cons pe_s pa_s hs) (h.run σ H eo _ fun v H1 e1 pv => hr.run σ H1 (eo.up e1) _ fun vs H2 e2 pvs => q (v :: vs) H2 (e1.trans e2) (.cons (dp_mono e2 d v pv) pvs))⟩
theorem e_tup {x1} {ds : List PyData} (h : EvA X es ρ ds) (hl : ds.length ≤ 1000 := by decide) : EvD X (.Tuple es x1 pos) ρ (.tuple ds) := ed_of (pe_tup pa_s) fun σ H eo Q q => h.run σ H eo _ fun vs H1 e1 pvs =>
  ⟨by have := dpa_len pvs; rw [sizeLine_eq]; omega, fun p hp => q _ _ (e1.trans (same_new hp)) (.tup (.of upd_same) (dpa_mono (same_new hp) _ _ pvs))⟩
theorem e_lst {ds : List PyData} (h : EvA X es ρ ds) (hl : ds.length ≤ 1000 := by decide) : EvD X (.List es pos) ρ (.list ds) := ed_of (pe_lst pa_s) fun σ H eo Q q => h.run σ H eo _ fun vs H1 e1 pvs =>
  ⟨by have := dpa_len pvs; rw [sizeLine_eq]; omega, fun p hp => q _ _ (e1.trans (same_new hp)) (.lst (.of upd_same) (dpa_mono (same_new hp) _ _ pvs))⟩
/-- what a def promises over data -/
def spD (K : PySem.W.Frag) (R : List PyData → PyData → Prop) : Sp := fun vs H Q _ => ∃ ds d, DpAll K H vs ds ∧ R ds d ∧ ∀ v H', Same H H' → Dp K H' v d → Q v H'
structure CalD (P : Program) (w : World) (K : PySem.W.Frag) (mg : Str → Option Value) (base : Heap) (k : Nat) (x : Str) (R : List PyData → PyData → Prop) : Prop where
  ex : ∃ (f : Addr) (fd : FuncData) (ps : List Str), FnOk P w K mg base CX0 k f fd ps (spD K R) ∧ mg x = some (.ref f) ∧ PySem.W.keepIn K (.ref f) = true ∧ Binds K fd ps []
theorem e_call {k j : Nat} {x : Str} {R : List PyData → PyData → Prop} {ds : List PyData} {d : PyData} (c : CalD X.prog X.w X.K X.mg X.base k x R) (hr : Room j X.A) (hk : k ≤ j) (hg : Gl X x) (ha : EvA X (e :: es) ρ ds) (h : R ds d)
    (hdb : (x == ("__debug__" : Str)) = false := by decide) (he : starEach (e :: es) X.env = (false, eval e X.env) :: starEach es X.env := by rfl) (hpl : (backTo pos (starEach es X.env)).any (·.1) = false := by rfl) :
    EvD X (.Call (.Name x p) (e :: es) [] pos) ρ d := by
  obtain ⟨f, fd, ps, F, hm, kp, b⟩ := c.ex
  refine ed_of (pe_call F (hr.mono hk) hg hm kp b .nil pass0 pa_s hdb he hpl) fun σ H eo Q q => ha.run σ H eo _ fun vs H1 e1 pvs => ?_
  rw [List.append_nil]
  exact ⟨ds, d, pvs, h, fun v H2 e2 pv => q v H2 (e1.trans e2) pv⟩
/-- a built-in by its name -/
theorem e_cb {x : Str} {id : String} {r : List V → Hp → VK → Prop} {ds : List PyData} {d : PyData} (hc : CallR X (.builtin id) r) (hg : Gl X x) (hm : X.mg x = none) (hv : bootBuiltins x = some (.builtin id)) (ha : EvA X (e :: es) ρ ds)
    (hr : ∀ vs H, DpAll X.K H vs ds → ∀ Q : VK, (∀ v H', Same H H' → Dp X.K H' v d → Q v H') → r vs H Q) (hn : x ≠ "__name__" := by decide) (hdb : (x == ("__debug__" : Str)) = false := by decide)
    (he : starEach (e :: es) X.env = (false, eval e X.env) :: starEach es X.env := by rfl) (hpl : (backTo pos (starEach es X.env)).any (·.1) = false := by rfl) : EvD X (.Call (.Name x p) (e :: es) [] pos) ρ d :=
  ed_of (pe_callB hc hg hm hv pa_s hn hdb he hpl) fun σ H eo Q q => ha.run σ H eo _ fun vs H1 e1 pvs => hr vs H1 pvs Q fun v H2 e2 pv => q v H2 (e1.trans e2) pv
theorem e_ct {x : Str} {T : String} {r : List V → Hp → VK → Prop} {ds : List PyData} {d : PyData} (hc : CallR X (.type T) r) (hg : Gl X x) (hm : X.mg x = none) (hv : bootBuiltins x = some (.type T)) (ha : EvA X (e :: es) ρ ds)
    (hr : ∀ vs H, DpAll X.K H vs ds → ∀ Q : VK, (∀ v H', Same H H' → Dp X.K H' v d → Q v H') → r vs H Q) (hn : x ≠ "__name__" := by decide) (hdb : (x == ("__debug__" : Str)) = false := by decide)
    (he : starEach (e :: es) X.env = (false, eval e X.env) :: starEach es X.env := by rfl) (hpl : (backTo pos (starEach es X.env)).any (·.1) = false := by rfl) : EvD X (.Call (.Name x p) (e :: es) [] pos) ρ d :=
  ed_of (pe_callTy hc hg hm hv pa_s hn hdb he hpl) fun σ H eo Q q => ha.run σ H eo _ fun vs H1 e1 pvs => hr vs H1 pvs Q fun v H2 e2 pv => q v H2 (e1.trans e2) pv
theorem dpa1 {K : PySem.W.Frag} {H : Hp} {vs : List V} {d : PyData} (h : DpAll K H vs [d]) : ∃ v, vs = [v] ∧ Dp K H v d := by
  cases h with
  | cons h1 h2 =>
    cases h2
    exact ⟨_, rfl, h1⟩
theorem dpa2 {K : PySem.W.Frag} {H : Hp} {vs : List V} {d d' : PyData} (h : DpAll K H vs [d, d']) : ∃ v v', vs = [v, v'] ∧ Dp K H v d ∧ Dp K H v' d' := by
  cases h with
  | cons h1 h2 =>
    obtain ⟨v', rfl, h3⟩ := dpa1 h2
    exact ⟨_, v', rfl, h1, h3⟩
theorem e_len {ds : List PyData} (hm : X.mg "len" = none) (ha : EvD X e ρ (.tuple ds)) (hg : Gl X "len" := by rfl) (hs : starEach (e :: []) X.env = (false, eval e X.env) :: starEach [] X.env := by rfl) (hpl : (backTo pos (starEach [] X.env)).any (·.1) = false := by rfl) : EvD X (.Call (.Name "len" p) [e] [] pos) ρ (.int ds.length) :=
  e_cb call_len_seq hg hm PySem.boot_len (a_cons ha a_nil hs) (fun vs H pvs Q q => by
    obtain ⟨v, rfl, pv⟩ := dpa1 pvs
    obtain ⟨a, xs, rfl, h1, h2⟩ := dp_tup pv
    refine ⟨a, xs, rfl, .inr h1, ?_⟩
    rw [dpa_len h2]
    exact q _ H (Same.refl H) (.int _)) (he := hs) (hpl := hpl)
theorem e_lenL {ds : List PyData} (hm : X.mg "len" = none) (ha : EvD X e ρ (.list ds)) (hg : Gl X "len" := by rfl) (hs : starEach (e :: []) X.env = (false, eval e X.env) :: starEach [] X.env := by rfl) (hpl : (backTo pos (starEach [] X.env)).any (·.1) = false := by rfl) : EvD X (.Call (.Name "len" p) [e] [] pos) ρ (.int ds.length) :=
  e_cb call_len_seq hg hm PySem.boot_len (a_cons ha a_nil hs) (fun vs H pvs Q q => by
    obtain ⟨v, rfl, pv⟩ := dpa1 pvs
    obtain ⟨a, xs, rfl, h1, h2⟩ := dp_lst pv
    refine ⟨a, xs, rfl, .inl h1, ?_⟩
    rw [dpa_len h2]
    exact q _ H (Same.refl H) (.int _)) (he := hs) (hpl := hpl)
theorem e_lenS {z : Str} (hm : X.mg "len" = none) (ha : EvD X e ρ (.str z)) (hz : z.length ≤ sizeLine) (hg : Gl X "len" := by rfl) (hs : starEach (e :: []) X.env = (false, eval e X.env) :: starEach [] X.env := by rfl) (hpl : (backTo pos (starEach [] X.env)).any (·.1) = false := by rfl) : EvD X (.Call (.Name "len" p) [e] [] pos) ρ (.int z.length) :=
  e_cb call_len_str hg hm PySem.boot_len (a_cons ha a_nil hs) (fun vs H pvs Q q => by
    obtain ⟨v, rfl, pv⟩ := dpa1 pvs
    cases pv
    exact ⟨z, rfl, hz, q _ H (Same.refl H) (.int _)⟩) (he := hs) (hpl := hpl)
theorem e_abs {i : Int} (hm : X.mg "abs" = none) (ha : EvD X e ρ (.int i)) (hg : Gl X "abs" := by rfl) (hs : starEach (e :: []) X.env = (false, eval e X.env) :: starEach [] X.env := by rfl) (hpl : (backTo pos (starEach [] X.env)).any (·.1) = false := by rfl) : EvD X (.Call (.Name "abs" p) [e] [] pos) ρ (.int (if i < 0 then -i else i)) :=
  e_cb call_abs hg hm (by decide +kernel) (a_cons ha a_nil hs) (fun vs H pvs Q q => by
    obtain ⟨v, rfl, pv⟩ := dpa1 pvs
    cases pv
    exact ⟨i, rfl, q _ H (Same.refl H) (.int _)⟩) (he := hs) (hpl := hpl)
theorem e_max {i j : Int} (hc : X.calm = true) (hm : X.mg "max" = none) (ha : EvD X a ρ (.int i)) (hb : EvD X b ρ (.int j)) (hg : Gl X "max" := by rfl) (hs : starEach [a, b] X.env = (false, eval a X.env) :: starEach [b] X.env := by rfl) (hs2 : starEach [b] X.env = (false, eval b X.env) :: starEach [] X.env := by rfl) (hpl : (backTo pos (starEach [b] X.env)).any (·.1) = false := by rfl) :
    EvD X (.Call (.Name "max" p) [a, b] [] pos) ρ (.int (if j > i then j else i)) :=
  e_cb (call_max2 hc) hg hm (by decide +kernel) (a_cons ha (a_cons hb a_nil hs2) hs) (fun vs H pvs Q q => by
    obtain ⟨v, v', rfl, pv, pv'⟩ := dpa2 pvs
    cases pv
    cases pv'
    exact ⟨i, j, rfl, q _ H (Same.refl H) (.int _)⟩) (he := hs) (hpl := hpl)
theorem e_min {i j : Int} (hc : X.calm = true) (hm : X.mg "min" = none) (ha : EvD X a ρ (.int i)) (hb : EvD X b ρ (.int j)) (hg : Gl X "min" := by rfl) (hs : starEach [a, b] X.env = (false, eval a X.env) :: starEach [b] X.env := by rfl) (hs2 : starEach [b] X.env = (false, eval b X.env) :: starEach [] X.env := by rfl) (hpl : (backTo pos (starEach [b] X.env)).any (·.1) = false := by rfl) :
    EvD X (.Call (.Name "min" p) [a, b] [] pos) ρ (.int (if j < i then j else i)) :=
  e_cb (call_min2 hc) hg hm (by decide +kernel) (a_cons ha (a_cons hb a_nil hs2) hs) (fun vs H pvs Q q => by
    obtain ⟨v, v', rfl, pv, pv'⟩ := dpa2 pvs
    cases pv
    cases pv'
    exact ⟨i, j, rfl, q _ H (Same.refl H) (.int _)⟩) (he := hs) (hpl := hpl)
theorem e_sum {ns : List Int} (hc : X.calm = true) (hm : X.mg "sum" = none) (ha : EvD X e ρ (.list (ns.map .int))) (hg : Gl X "sum" := by rfl) (hs : starEach (e :: []) X.env = (false, eval e X.env) :: starEach [] X.env := by rfl) (hpl : (backTo pos (starEach [] X.env)).any (·.1) = false := by rfl) : EvD X (.Call (.Name "sum" p) [e] [] pos) ρ (.int ns.sum) :=
  e_cb (cr_sum hc) hg hm (by decide +kernel) (a_cons ha a_nil hs) (fun vs H pvs Q q => by
    obtain ⟨v, rfl, pv⟩ := dpa1 pvs
    obtain ⟨a, xs, rfl, h1, h2⟩ := dp_lst pv
    rw [dpa_ints h2] at h1
    exact ⟨a, ns, rfl, h1, q _ H (Same.refl H) (.int _)⟩) (he := hs) (hpl := hpl)
theorem e_all {bs : List Bool} (hc : X.calm = true) (hm : X.mg "all" = none) (ha : EvD X e ρ (.list (bs.map .bool))) (hg : Gl X "all" := by rfl) (hs : starEach (e :: []) X.env = (false, eval e X.env) :: starEach [] X.env := by rfl) (hpl : (backTo pos (starEach [] X.env)).any (·.1) = false := by rfl) : EvD X (.Call (.Name "all" p) [e] [] pos) ρ (.bool (bs.all id)) :=
  e_cb (cr_all hc) hg hm (by decide +kernel) (a_cons ha a_nil hs) (fun vs H pvs Q q => by
    obtain ⟨v, rfl, pv⟩ := dpa1 pvs
    obtain ⟨a, xs, rfl, h1, h2⟩ := dp_lst pv
    rw [dpa_bools h2] at h1
    exact ⟨a, bs, rfl, h1, q _ H (Same.refl H) (.bl _)⟩) (he := hs) (hpl := hpl)
theorem e_intB {k : Bool} (hm : X.mg "int" = none) (ha : EvD X e ρ (.bool k)) (hg : Gl X "int" := by rfl) (hs : starEach (e :: []) X.env = (false, eval e X.env) :: starEach [] X.env := by rfl) (hpl : (backTo pos (starEach [] X.env)).any (·.1) = false := by rfl) : EvD X (.Call (.Name "int" p) [e] [] pos) ρ (.int (if k then 1 else 0)) :=
  e_ct call_int1 hg hm (by decide +kernel) (a_cons ha a_nil hs) (fun vs H pvs Q q => by
    obtain ⟨v, rfl, pv⟩ := dpa1 pvs
    cases pv
    exact .inr ⟨k, rfl, q _ H (Same.refl H) (.int _)⟩) (he := hs) (hpl := hpl)
theorem e_intS {z : Str} {n : Int} (hm : X.mg "int" = none) (ha : EvD X e ρ (.str z)) (hn : PySem.intText? z = some n) (hz : z.length ≤ 640) (hg : Gl X "int" := by rfl) (hs : starEach (e :: []) X.env = (false, eval e X.env) :: starEach [] X.env := by rfl) (hpl : (backTo pos (starEach [] X.env)).any (·.1) = false := by rfl) : EvD X (.Call (.Name "int" p) [e] [] pos) ρ (.int n) :=
  e_ct call_int_str hg hm (by decide +kernel) (a_cons ha a_nil hs) (fun vs H pvs Q q => by
    obtain ⟨v, rfl, pv⟩ := dpa1 pvs
    cases pv
    exact ⟨z, n, rfl, hn, hz, q _ H (Same.refl H) (.int _)⟩) (he := hs) (hpl := hpl)
theorem e_strI {i : Int} (hm : X.mg "str" = none) (ha : EvD X e ρ (.int i)) (hi : i.natAbs.log2 < 1920) (hg : Gl X "str" := by rfl) (hs : starEach (e :: []) X.env = (false, eval e X.env) :: starEach [] X.env := by rfl) (hpl : (backTo pos (starEach [] X.env)).any (·.1) = false := by rfl) : EvD X (.Call (.Name "str" p) [e] [] pos) ρ (.str (toString i)) :=
  e_ct call_str_int hg hm (by decide +kernel) (a_cons ha a_nil hs) (fun vs H pvs Q q => by
    obtain ⟨v, rfl, pv⟩ := dpa1 pvs
    cases pv
    exact ⟨i, rfl, hi, q _ H (Same.refl H) (.str _)⟩) (he := hs) (hpl := hpl)
theorem e_strS {z : Str} (hm : X.mg "str" = none) (ha : EvD X e ρ (.str z)) (hg : Gl X "str" := by rfl) (hs : starEach (e :: []) X.env = (false, eval e X.env) :: starEach [] X.env := by rfl) (hpl : (backTo pos (starEach [] X.env)).any (·.1) = false := by rfl) : EvD X (.Call (.Name "str" p) [e] [] pos) ρ (.str z) :=
  e_ct SkE.call_str_str hg hm (by decide +kernel) (a_cons ha a_nil hs) (fun vs H pvs Q q => by
    obtain ⟨v, rfl, pv⟩ := dpa1 pvs
    cases pv
    exact ⟨z, rfl, q _ H (Same.refl H) (.str _)⟩) (he := hs) (hpl := hpl)
/-- tuple(list), list(tuple) -/
theorem e_tuple {ds : List PyData} (hm : X.mg "tuple" = none) (ha : EvD X e ρ (.list ds)) (hg : Gl X "tuple" := by rfl) (hs : starEach (e :: []) X.env = (false, eval e X.env) :: starEach [] X.env := by rfl) (hpl : (backTo pos (starEach [] X.env)).any (·.1) = false := by rfl) : EvD X (.Call (.Name "tuple" p) [e] [] pos) ρ (.tuple ds) :=
  e_ct call_tuple_of hg hm (by decide +kernel) (a_cons ha a_nil hs) (fun vs H pvs Q q => by
    obtain ⟨v, rfl, pv⟩ := dpa1 pvs
    obtain ⟨a, xs, rfl, h1, h2⟩ := dp_lst pv
    exact ⟨a, xs, rfl, .inl ⟨h1, fun l hl => q _ _ (same_new hl) (.tup (.of upd_same) (dpa_mono (same_new hl) _ _ h2))⟩⟩) (he := hs) (hpl := hpl)
theorem e_list {ds : List PyData} (hm : X.mg "list" = none) (ha : EvD X e ρ (.tuple ds)) (hg : Gl X "list" := by rfl) (hs : starEach (e :: []) X.env = (false, eval e X.env) :: starEach [] X.env := by rfl) (hpl : (backTo pos (starEach [] X.env)).any (·.1) = false := by rfl) : EvD X (.Call (.Name "list" p) [e] [] pos) ρ (.list ds) :=
  e_ct call_list_of hg hm (by decide +kernel) (a_cons ha a_nil hs) (fun vs H pvs Q q => by
    obtain ⟨v, rfl, pv⟩ := dpa1 pvs
    obtain ⟨a, xs, rfl, h1, h2⟩ := dp_tup pv
    exact ⟨a, xs, rfl, .inr h1, fun l hl => q _ _ (same_new hl) (.lst (.of upd_same) (dpa_mono (same_new hl) _ _ h2))⟩) (he := hs) (hpl := hpl)
/-! ### isinstance of data -/
def kindOf : PyData → String
  | .none => "NoneType"
  | .bool _ => "bool"
  | .int _ => "int"
  | .str _ => "str"
  | .list _ => "list"
  | .tuple _ => "tuple"
  | .dict _ => "dict"
theorem tyx_of {K : PySem.W.Frag} {H : Hp} {v : V} {d : PyData} (h : Dp K H v d) : TyX K H v (.type (kindOf d)) := by
  cases h with
  | non => exact .base .non
  | bl b => exact .base (.bl b)
  | int i => exact .base (.int i)
  | str x => exact .base (.str x)
  | lst hs _ =>
    rcases hs with (h | ⟨o, h⟩) | ⟨o, its, n, h, hc, _⟩
    · exact .base (.lst h)
    · exact .base (.frz h)
    · exact .kList h hc
  | tup hs _ =>
    rcases hs with (h | ⟨o, h⟩) | ⟨o, its, n, h, hc, _⟩
    · exact .base (.tup h)
    · exact .fTuple h
    · exact .kTuple h hc
theorem e_isi {x : Str} {T : String} {d : PyData} {k : Bool} (hm : X.mg "isinstance" = none) (hT : X.mg x = none) (hv : bootBuiltins x = some (.type T)) (ha : EvD X e ρ d) (hk : kitB (kindOf d) T = some k) (hg : Gl X "isinstance" := by rfl) (hg2 : Gl X x := by rfl)
    (hn : x ≠ "__name__" := by decide) (hdb : (x == ("__debug__" : Str)) = false := by decide) (hs : starEach [e, .Name x p2] X.env = (false, eval e X.env) :: starEach [.Name x p2] X.env := by rfl) (hs2 : starEach [.Name x p2] X.env = (false, eval (.Name x p2) X.env) :: starEach [] X.env := by rfl)
    (hpl : (backTo pos (starEach [.Name x p2] X.env)).any (·.1) = false := by rfl) : EvD X (.Call (.Name "isinstance" p) [e, .Name x p2] [] pos) ρ (.bool k) :=
  ed_of (pe_callB call_isi hg hm (by decide +kernel) (pa_cons pe_s (pa_cons (pe_bltn (v := V.ty T) hg2 hT hv rfl hn hdb) pa_nil hs2) hs) (he := hs) (hpl := hpl)) fun σ H eo Q q => ha.run σ H eo _ fun v H1 e1 pv =>
    ⟨v, .ty T, _, _, k, rfl, .ty T, tyx_of pv, kit_ty hk, q _ H1 e1 (.bl k)⟩

/-! ### subscripts, slices -/
theorem at_dpa {K : PySem.W.Frag} {H : Hp} {xs : List V} {ds : List PyData} {i : Int} {d : PyData} (h : DpAll K H xs ds) (e : atI ds i = some d) : ∃ v, atI xs i = some v ∧ Dp K H v d := by
  unfold atI at e ⊢
  rw [dpa_len h]
  cases q : ixN ds.length i with
  | none => rw [q] at e; cases e
  | some j =>
    rw [q] at e
    exact dpa_get h e
theorem e_ix {ds : List PyData} {i : Int} {d : PyData} (ha : EvD X a ρ (.tuple ds)) (hb : EvD X b ρ (.int i)) (h : atI ds i = some d) (hs : PlainIx b := by exact fun _ _ => rfl) : EvD X (.Subscript a b pos) ρ d :=
  ed_of (pe_ix ix_tup pe_s pe_s hs) fun σ H eo Q q => ha.run σ H eo _ fun x H1 e1 px => hb.run σ H1 (eo.up e1) _ fun y H2 e2 py => by
    obtain ⟨p1, xs, rfl, h1, d1⟩ := dp_tup (dp_mono e2 _ _ px)
    cases py
    obtain ⟨v, g1, g2⟩ := at_dpa d1 h
    exact ⟨p1, xs, i, v, rfl, rfl, h1, g1, q v H2 (e1.trans e2) g2⟩
theorem e_ixL {ds : List PyData} {i : Int} {d : PyData} (ha : EvD X a ρ (.list ds)) (hb : EvD X b ρ (.int i)) (h : atI ds i = some d) (hs : PlainIx b := by exact fun _ _ => rfl) : EvD X (.Subscript a b pos) ρ d :=
  ed_of (pe_ix ix_list pe_s pe_s hs) fun σ H eo Q q => ha.run σ H eo _ fun x H1 e1 px => hb.run σ H1 (eo.up e1) _ fun y H2 e2 py => by
    obtain ⟨p1, xs, rfl, h1, d1⟩ := dp_lst (dp_mono e2 _ _ px)
    cases py
    obtain ⟨v, g1, g2⟩ := at_dpa d1 h
    exact ⟨p1, xs, i, v, rfl, rfl, h1, g1, q v H2 (e1.trans e2) g2⟩
theorem at_map {α : Type} {f : α → PyData} {xs : List α} {i : Int} {x : α} (h0 : 0 ≤ i) (h : xs[i.toNat]? = some x) : atI (xs.map f) i = some (f x) := by
  obtain ⟨n, rfl⟩ := Int.eq_ofNat_of_zero_le h0
  have h : xs[n]? = some x := h
  exact atI_nat (by rw [List.getElem?_map, h]; rfl)
structure EvO (X : Cx) (e : Option Expr) (ρ : Rho) (o : Option Int) : Prop where
  ex : ∃ t, PO X e t ∧ ∀ (σ : St) (H : Hp), EnvOk ρ σ H → ∀ Q : Option Int → Hp → Prop, (∀ H', Same H H' → Q o H') → t σ H Q
theorem o_none : EvO X none ρ none := ⟨_, po_none, fun σ H _ Q q => q H (Same.refl H)⟩
theorem o_some {i : Int} (h : EvD X e ρ (.int i)) : EvO X (some e) ρ (some i) := ⟨_, po_some pe_s, fun σ H eo Q q => h.run σ H eo _ fun v H1 e1 pv => by
  cases pv
  exact ⟨i, rfl, q H1 e1⟩⟩
def cutD {α : Type} (xs : List α) (lo hi : Option Int) : List α := (xs.drop (HT.sIx xs.length 0 lo)).take (HT.sIx xs.length xs.length hi - HT.sIx xs.length 0 lo)
theorem dpa_cut {K : PySem.W.Frag} {H : Hp} {vs : List V} {ds : List PyData} (h : DpAll K H vs ds) (lo hi : Option Int) : DpAll K H (cutV vs lo hi) (cutD ds lo hi) := by
  unfold cutV cutD
  rw [dpa_len h]
  exact dpa_take _ (dpa_drop _ h)
theorem cut_all {α : Type} (xs : List α) (lo hi : Option Int) (h : HT.sIx xs.length 0 lo = 0 ∧ HT.sIx xs.length xs.length hi = xs.length) : cutD xs lo hi = xs := by
  unfold cutD
  rw [h.1, h.2, List.drop_zero, Nat.sub_zero, List.take_length]
theorem e_sl {ds : List PyData} {lo hi : Option Expr} {ol oh : Option Int} (ha : EvD X a ρ (.tuple ds)) (hl : EvO X lo ρ ol) (hh : EvO X hi ρ oh) : EvD X (.Subscript a (.Slice lo hi none p2) pos) ρ (.tuple (cutD ds ol oh)) := by
  obtain ⟨tl, pl, hl⟩ := hl.ex
  obtain ⟨th, ph, hh⟩ := hh.ex
  refine ed_of (pe_slice sl_tupA pe_s pl ph) fun σ H eo Q q => ha.run σ H eo _ fun x H1 e1 px => hl σ H1 (eo.up e1) _ fun H2 e2 => hh σ H2 (eo.up (e1.trans e2)) _ fun H3 e3 => ?_
  obtain ⟨p1, xs, rfl, h1, d1⟩ := dp_tup (dp_mono (e2.trans e3) _ _ px)
  refine ⟨p1, xs, rfl, h1, fun w => ?_, fun _ r hr => ?_⟩
  · rw [dpa_len d1] at w
    rw [cut_all ds ol oh w] at q
    exact q _ H3 ((e1.trans e2).trans e3) (.tup h1 d1)
  · exact q _ _ (((e1.trans e2).trans e3).trans (same_new hr)) (.tup (.of upd_same) (dpa_mono (same_new hr) _ _ (dpa_cut d1 ol oh)))
/-- a slice of a list -/
theorem e_slL {ds : List PyData} {lo hi : Option Expr} {ol oh : Option Int} (ha : EvD X a ρ (.list ds)) (hl : EvO X lo ρ ol) (hh : EvO X hi ρ oh) : EvD X (.Subscript a (.Slice lo hi none p2) pos) ρ (.list (cutD ds ol oh)) := by
  obtain ⟨tl, pl, hl⟩ := hl.ex
  obtain ⟨th, ph, hh⟩ := hh.ex
  refine ed_of (pe_slice sl_list pe_s pl ph) fun σ H eo Q q => ha.run σ H eo _ fun x H1 e1 px => hl σ H1 (eo.up e1) _ fun H2 e2 => hh σ H2 (eo.up (e1.trans e2)) _ fun H3 e3 => ?_
  obtain ⟨p1, xs, rfl, h1, d1⟩ := dp_lst (dp_mono (e2.trans e3) _ _ px)
  exact ⟨p1, xs, rfl, h1, fun r hr => q _ _ (((e1.trans e2).trans e3).trans (same_new hr)) (.lst (.of upd_same) (dpa_mono (same_new hr) _ _ (dpa_cut d1 ol oh)))⟩
end
end SH

/-! ## SHC -/
set_option Elab.async false
set_option linter.all false
set_option maxRecDepth 100000
set_option maxHeartbeats 2000000
namespace SH
open PySem PySem.Spec PyProof.Rows L2
/-! ### what is walked: a sequence of data -/
/-- iterating gives these, one after another -/
structure SrcR (X : Cx) (tg iter : Expr) (ρ : Rho) (ds : List PyData) : Prop where
  ex : ∃ wi, PI X tg iter wi ∧ ∀ (σ : St) (H : Hp), EnvOk ρ σ H → ∀ R : It → Hp → Prop,
    (∀ J H1, Same H H1 → ∀ G : Hp → Prop, Walk J ds.length G (fun i Ha v Hb => Same Ha Hb ∧ ∃ d, ds[i]? = some d ∧ Dp X.K Hb v d) → G H1 → (∀ Ha Hb, Same Ha Hb → G Ha → G Hb) → R J H1) → wi σ H R
section
variable {X : Cx} {ρ : Rho} {a b c e tg : Expr} {es : List Expr} {pos p : Pos}
theorem src_list {ds : List PyData} (h : EvD X e ρ (.list ds)) : SrcR X tg e ρ ds := ⟨_, pi_list pe_s, fun σ H eo R k => h.run σ H eo _ fun v H1 e1 pv => by
  obtain ⟨q, xs, rfl, h1, d1⟩ := dp_lst pv
  refine ⟨q, rfl, ⟨xs, h1⟩, k _ H1 e1 (fun H => SqL X.K H q xs ∧ DpAll X.K H xs ds) ?_ ⟨h1, d1⟩ fun Ha Hb s g => ⟨s.seq g.1, dpa_mono s _ _ g.2⟩⟩
  have w := walk_list (K := X.K) (a := q) (xs := xs)
  rw [← dpa_len d1]
  refine w.mono (fun H g => g.1) fun i H x H' hi g y => ?_
  obtain ⟨rfl, hx⟩ := y
  obtain ⟨d, hd, pd⟩ := dpa_get' g.2 hx
  exact ⟨Same.refl _, d, hd, pd⟩⟩
theorem src_tup {ds : List PyData} (h : EvD X e ρ (.tuple ds)) : SrcR X tg e ρ ds := ⟨_, pi_tup pe_s, fun σ H eo R k => h.run σ H eo _ fun v H1 e1 pv => by
  obtain ⟨q, xs, rfl, h1, d1⟩ := dp_tup pv
  refine ⟨q, rfl, ⟨xs, h1⟩, k _ H1 e1 (fun H => SqT X.K H q xs ∧ DpAll X.K H xs ds) ?_ ⟨h1, d1⟩ fun Ha Hb s g => ⟨sqt_mono s g.1, dpa_mono s _ _ g.2⟩⟩
  have w := walk_tup (K := X.K) (a := q) (xs := xs)
  rw [← dpa_len d1]
  refine w.mono (fun H g => g.1) fun i H x H' hi g y => ?_
  obtain ⟨rfl, hx⟩ := y
  obtain ⟨d, hd, pd⟩ := dpa_get' g.2 hx
  exact ⟨Same.refl _, d, hd, pd⟩⟩
/-- lo, lo + 1, .. -/
def rangeD (lo : Int) (n : Nat) : List PyData := (List.range n).map fun (i : Nat) => PyData.int (lo + (i : Int))
theorem rangeD_len {lo : Int} {n : Nat} : (rangeD lo n).length = n := by simp [rangeD]
theorem rangeD_at {lo : Int} {n i : Nat} (h : i < n) : (rangeD lo n)[i]? = some (.int (lo + (i : Int))) := by simp [rangeD, h]
theorem src_range1 {n : Int} (hm : X.mg "range" = none) (ha : EvD X a ρ (.int n)) (hn : n < 2 ^ 62) (hn0 : -(2 ^ 62) ≤ n := by omega) (hg : Gl X "range" := by rfl) (hs : starEach [a] X.env = [(false, eval a X.env)] := by rfl) :
    SrcR X tg (.Call (.Name "range" p) [a] [] pos) ρ (rangeD 0 n.toNat) := ⟨_, pi_range1 hg hm pa_s hs, fun σ H eo R k => (a_cons ha a_nil (by rw [hs]; rfl)).run σ H eo _ fun vs H1 e1 pvs => by
  obtain ⟨v, rfl, pv⟩ := dpa1 pvs
  cases pv
  refine ⟨n, rfl, hn0, hn, k _ H1 e1 (fun _ => True) ?_ trivial fun _ _ _ _ => trivial⟩
  rw [rangeD_len]
  refine walk_range.mono (fun _ _ => trivial) fun i H x H' hi _ y => ?_
  obtain ⟨rfl, rfl⟩ := y
  exact ⟨Same.refl _, _, rangeD_at hi, .int _⟩⟩
theorem SrcR.is {iter : Expr} {ds ds' : List PyData} (h : SrcR X tg iter ρ ds) (q : ds = ds') : SrcR X tg iter ρ ds' := q ▸ h
theorem src_rangeN {n : Nat} (hm : X.mg "range" = none) (ha : EvD X a ρ (.int (n : Int))) (hn : n ≤ 1000000) (hg : Gl X "range" := by rfl) (hs : starEach [a] X.env = [(false, eval a X.env)] := by rfl) :
    SrcR X tg (.Call (.Name "range" p) [a] [] pos) ρ ((List.range n).map fun (i : Nat) => PyData.int (0 + (i : Int))) := src_range1 hm ha (by omega) (by omega) hg hs
/-- a text, sign by sign -/
theorem src_str {z : Str} (h : EvD X e ρ (.str z)) : SrcR X tg e ρ (z.cps.toList.map fun c => .str ⟨#[c]⟩) := ⟨_, pi_str pe_s, fun σ H eo R k => h.run σ H eo _ fun v H1 e1 pv => by
  cases pv
  refine ⟨z, rfl, k _ H1 e1 (fun _ => True) ?_ trivial fun _ _ _ _ => trivial⟩
  have w := walk_str (z := z)
  rw [List.length_map, Array.length_toList]
  refine w.mono (fun _ _ => trivial) fun i H x H' hi _ y => ?_
  obtain ⟨rfl, c, hc, rfl⟩ := y
  refine ⟨Same.refl _, .str ⟨#[c]⟩, ?_, .str _⟩
  rw [List.getElem?_map, Array.getElem?_toList, hc]
  rfl⟩
/-- zip of two tuples of one length -/
theorem walk_zipT {K : PySem.W.Frag} {a b : Addr} {xs ys : List V} {n : Nat} (hn : n = min xs.length ys.length) : Walk (RZ.ItzT K a b) n (fun H => SqT K H a xs ∧ SqT K H b ys) (YPair (fun i => xs[i]?) (fun i => ys[i]?)) := by
  subst hn
  refine ⟨fun i _ hi q => ?_, fun _ q => ⟨xs, ys, q.1, q.2, by omega⟩, fun i H v H' _ q y => ?_⟩
  · have h1 : i < xs.length := by omega
    have h2 : i < ys.length := by omega
    exact ⟨xs, ys, xs[i], ys[i], q.1, q.2, by simp [h1], by simp [h2]⟩
  · obtain ⟨T, x, z, h1, h2, h3, h4, h5⟩ := y
    exact ⟨T, x, z, h1, h2, h3, h4 xs q.1, h5 ys q.2⟩
def zipD (ds es : List PyData) : List PyData := (ds.zip es).map fun p => .tuple [p.1, p.2]
theorem src_zip {ds ds' : List PyData} {elts : List Expr} {kk : Nat} {tpos : Pos} (hm : X.mg "zip" = none) (ha : EvD X a ρ (.tuple ds)) (hb : EvD X b ρ (.tuple ds')) (hg : Gl X "zip" := by rfl) (hs : starEach [a, b] X.env = (false, eval a X.env) :: starEach [b] X.env := by rfl)
    (hs2 : starEach [b] X.env = (false, eval b X.env) :: starEach [] X.env := by rfl) (hpl : (backTo pos (starEach [b] X.env)).any (·.1) = false := by rfl) :
    SrcR X (.Tuple elts kk tpos) (.Call (.Name "zip" p) [a, b] [] pos) ρ (zipD ds ds') := ⟨_, RZ.pi_zipA hg hm pa_s hs hpl, fun σ H eo R k => (a_cons ha (a_cons hb a_nil hs2) hs).run σ H eo _ fun vs H1 e1 pvs => by
  obtain ⟨v, v', rfl, pv, pv'⟩ := dpa2 pvs
  obtain ⟨q, xs, rfl, h1, d1⟩ := dp_tup pv
  obtain ⟨q', ys, rfl, h2, d2⟩ := dp_tup pv'
  refine ⟨q, q', xs, ys, rfl, .inr ⟨h1, h2, k _ H1 e1 (fun H => (SqT X.K H q xs ∧ SqT X.K H q' ys) ∧ DpAll X.K H xs ds ∧ DpAll X.K H ys ds') ?_ ⟨⟨h1, h2⟩, d1, d2⟩ fun Ha Hb s g => ⟨⟨sqt_mono s g.1.1, sqt_mono s g.1.2⟩, dpa_mono s _ _ g.2.1, dpa_mono s _ _ g.2.2⟩⟩⟩
  have w := walk_zipT (K := X.K) (a := q) (b := q') (xs := xs) (ys := ys) (n := (zipD ds ds').length) (by simp [zipD, dpa_len d1, dpa_len d2])
  refine w.mono (fun H g => g.1) fun i H x H' hi g y => ?_
  obtain ⟨T, u, u', rfl, hT, rfl, hx, hy⟩ := y
  obtain ⟨d, hd, pd⟩ := dpa_get' g.2.1 hx
  obtain ⟨d', hd', pd'⟩ := dpa_get' g.2.2 hy
  refine ⟨same_new hT, .tuple [d, d'], ?_, .tup (.of upd_same) (.cons (dp_mono (same_new hT) _ _ pd) (.cons (dp_mono (same_new hT) _ _ pd') .nil))⟩
  unfold zipD
  rw [List.getElem?_map, List.getElem?_zip_eq_some (z := (d, d')) |>.mpr ⟨hd, hd'⟩]
  rfl⟩

/-! ### targets: the slots js take the parts of the item -/
def setL : St → List Nat → List V → St
  | σ, j :: js, v :: vs => setL (σ.set j (some v)) js vs
  | σ, _, _ => σ
def setR (K : PySem.W.Frag) : Rho → List Nat → List PyData → Rho
  | ρ, j :: js, d :: ds => setR K (ρ.set j (some (DD K d))) js ds
  | ρ, _, _ => ρ
theorem eok_setL {K : PySem.W.Frag} {H : Hp} : ∀ {js : List Nat} {ρ : Rho} {σ : St} {vs : List V} {ds : List PyData}, EnvOk ρ σ H → DpAll K H vs ds → EnvOk (setR K ρ js ds) (setL σ js vs) H
  | [], _, _, vs, ds, h, q => by
    cases q <;> simpa [setR, setL] using h
  | j :: js, _, _, _, _, h, q => by
    cases q with
    | nil => simpa [setR, setL] using h
    | cons h1 h2 =>
      show EnvOk (setR K _ js _) (setL _ js _) H
      exact eok_setL (h.set j h1 mono_dd) h2
structure TgR (X : Cx) (tg : Expr) (js : List Nat) (d : PyData) (ds : List PyData) : Prop where
  run : ∀ (v : V) (σ : St) (H : Hp), Dp X.K H v d → ∀ Q : St → Hp → Prop, (∀ vs, DpAll X.K H vs ds → Q (setL σ js vs) H) → sG X tg v σ H Q
theorem tg_name (i : Nat) {x : Str} {d : PyData} (hN : X.N.Nodup) (hi : X.N[i]? = some x := by rfl) (hx : Loc X.env.scope x := by first | exact Or.inl rfl | exact Or.inr rfl) (hf : X.fn x = true ∨ X.env.scope.names.lookup x = some .local := by first | exact .inl rfl | exact .inr rfl) : TgR X (.Name x pos) [i] d [d] :=
  ⟨fun v σ H pv Q q => sG_of (pg_name hN hi hx hf) (q [v] (.cons pv .nil))⟩
structure TgsR (X : Cx) (ts : List Expr) (js : List Nat) (ds : List PyData) : Prop where
  ex : ∃ t : TGs, PGs X ts t ∧ ∀ (vs : List V) (σ : St) (H : Hp), DpAll X.K H vs ds → ∀ Q : St → Hp → Prop, Q (setL σ js vs) H → t vs σ H Q
theorem tgs_nil : TgsR X [] [] [] := ⟨_, pgs_nil, fun vs σ H pvs Q q => by
  cases pvs
  exact ⟨rfl, q⟩⟩
theorem tgs_cons (i : Nat) {x : Str} {d : PyData} {ts : List Expr} {js : List Nat} {ds : List PyData} (h : TgsR X ts js ds) (hN : X.N.Nodup) (hi : X.N[i]? = some x := by rfl) (hx : Loc X.env.scope x := by first | exact Or.inl rfl | exact Or.inr rfl) (hf : X.fn x = true ∨ X.env.scope.names.lookup x = some .local := by first | exact .inl rfl | exact .inr rfl)
    (hs : (assignEach (.Name x pos :: ts) X.env).map (·.2) = assign (.Name x pos) X.env :: (assignEach ts X.env).map (·.2) := by rfl) : TgsR X (.Name x pos :: ts) (i :: js) (d :: ds) := by
  obtain ⟨t, ht, hq⟩ := h.ex
  refine ⟨_, pgs_cons (pg_name hN hi hx hf) ht hs, fun vs σ H pvs Q q => ?_⟩
  cases pvs with
  | cons h1 h2 => exact ⟨_, _, rfl, hq _ _ H h2 Q q⟩
theorem tg_tup {ts : List Expr} {k : Nat} {js : List Nat} {ds : List PyData} (hc : X.calm = true) (h : TgsR X ts js ds) (hn : (assignEach ts X.env).length = ds.length := by rfl) (hst : (assignEach ts X.env).findIdx? (·.1) = none := by rfl) : TgR X (.Tuple ts k pos) js (.tuple ds) ds := by
  obtain ⟨t, ht, hq⟩ := h.ex
  refine ⟨fun v σ H pv Q q => sG_of (pg_tup hc ht hn hst) ?_⟩
  obtain ⟨p1, xs, rfl, h1, d1⟩ := dp_tup pv
  exact ⟨p1, xs, rfl, h1, dpa_len d1, hq _ _ H d1 Q (q xs d1)⟩

/-! ### comprehensions -/
theorem wipe_get {σ : St} {i : Nat} : ∀ {vs : List Nat}, (wipe σ vs)[i]? = if i ∈ vs then (σ[i]?).map (fun _ => none) else σ[i]?
  | [] => by simp [wipe]
  | v :: vs => by
    show ((wipe σ vs).set v none)[i]? = _
    by_cases h : v = i
    · subst h
      by_cases hl : v < σ.length
      · rw [List.getElem?_set_self (by rw [wipe_length]; exact hl), if_pos List.mem_cons_self, List.getElem?_eq_getElem hl]
        rfl
      · rw [List.getElem?_eq_none (by rw [List.length_set, wipe_length]; omega), if_pos List.mem_cons_self, List.getElem?_eq_none (by omega)]
        rfl
    · rw [List.getElem?_set_ne h, wipe_get]
      have : (i ∈ v :: vs) ↔ i ∈ vs := by
        rw [List.mem_cons]
        exact ⟨fun z => z.resolve_left fun y => h y.symm, .inr⟩
      by_cases hm : i ∈ vs
      · rw [if_pos hm, if_pos (this.mpr hm)]
      · rw [if_neg hm, if_neg fun z => hm (this.mp z)]
theorem setL_get {i : Nat} : ∀ {js : List Nat} {σ : St} {vs : List V}, i ∉ js → (setL σ js vs)[i]? = σ[i]?
  | [], _, _, _ => by simp [setL]
  | j :: js, σ, [], _ => by simp [setL]
  | j :: js, σ, v :: vs, h => by
    show (setL (σ.set j (some v)) js vs)[i]? = _
    rw [setL_get (fun z => h (List.mem_cons_of_mem _ z)), List.getElem?_set_ne fun z => h (by rw [z]; exact List.mem_cons_self)]
theorem setL_length : ∀ {js : List Nat} {σ : St} {vs : List V}, (setL σ js vs).length = σ.length
  | [], _, _ => by simp [setL]
  | j :: js, σ, [] => by simp [setL]
  | j :: js, σ, v :: vs => by
    show (setL (σ.set j (some v)) js vs).length = _
    rw [setL_length, List.length_set]
theorem wipe_setL {σ : St} {js vs : List Nat} {xs : List V} (h : ∀ j ∈ js, j ∈ vs) : wipe (setL (wipe σ vs) js xs) vs = wipe σ vs := by
  refine List.ext_getElem? fun i => ?_
  by_cases hm : i ∈ vs
  · rw [wipe_get, if_pos hm, wipe_get, if_pos hm]
    by_cases hl : i < σ.length
    · have h1 : i < (setL (wipe σ vs) js xs).length := by rw [setL_length, wipe_length]; exact hl
      rw [List.getElem?_eq_getElem h1, List.getElem?_eq_getElem hl]
      rfl
    · rw [List.getElem?_eq_none (by rw [setL_length, wipe_length]; omega), List.getElem?_eq_none (by omega)]
  · rw [wipe_get, if_neg hm, setL_get fun z => hm (h i z)]
theorem ts_nil : EvTs X [] ρ true := ⟨fun σ H _ Q q => sTs_of pts_nil (q H (Same.refl H))⟩
theorem ts_one {k : Bool} (h : EvT X c ρ k) : EvTs X [c] ρ k := ⟨fun σ H eo Q q => sTs_of (pts_one pt_s) (h.run σ H eo Q q)⟩
theorem mem_at {α : Type} {xs : List α} {i : Nat} {x : α} (h : xs[i]? = some x) : x ∈ xs := List.mem_of_getElem? h
theorem take_succ_at {α : Type} {xs : List α} {i : Nat} {x : α} (h : xs[i]? = some x) : xs.take (i + 1) = xs.take i ++ [x] := by
  rw [List.take_add_one, h]
  rfl
def bkG (X : Cx) (scope : Scope) (tg : Expr) : TG := fun v σ H Q => ∀ (s : Shared) (H0 : Hp) (C : Addr) (cl : List (Str × Addr)) (fp : List Addr), sG (X.blk s H0 scope (compEnvC scope cl C X.env) fp) tg v σ H Q
def bkT (X : Cx) (scope : Scope) (ifs : List Expr) : TT := fun σ H Q => ∀ (s : Shared) (H0 : Hp) (C : Addr) (cl : List (Str × Addr)) (fp : List Addr), sTs (X.blk s H0 scope (compEnvC scope cl C X.env) fp) ifs σ H Q
def bkE (X : Cx) (scope : Scope) (elt : Expr) : TE := fun σ H Q => ∀ (s : Shared) (H0 : Hp) (C : Addr) (cl : List (Str × Addr)) (fp : List Addr), sE (X.blk s H0 scope (compEnvC scope cl C X.env) fp) elt σ H Q
/-- [elt for tg in iter if ..] -/
theorem lc_read {α : Type} {elt iter : Expr} {ifs : List Expr} {scope : Scope} {own : List (Str × Nat)} {js : List Nat} {xs : List α} {emb : α → PyData} {parts : α → List PyData} {f : α → Bool} {g : α → PyData}
    (hc : X.calm = true) (hN : X.N.Nodup) (hsrc : SrcR X tg iter ρ (xs.map emb)) (ok : BlkOk X.N X.env.scope scope own) (hj : ∀ j ∈ js, j ∈ own.map (·.2)) (hz : xs.length ≤ 100000) (hno : ∀ x ∈ xs, noL (g x) = true)
    (htg : ∀ (s : Shared) (H : Hp) (C : Addr) (cl : List (Str × Addr)) (fp : List Addr) (x : α), x ∈ xs → TgR (X.blk s H scope (compEnvC scope cl C X.env) fp) tg js (emb x) (parts x))
    (hif : ∀ (s : Shared) (H : Hp) (C : Addr) (cl : List (Str × Addr)) (fp : List Addr) (x : α), x ∈ xs → EvTs (X.blk s H scope (compEnvC scope cl C X.env) fp) ifs (setR X.K (wipeR ρ (own.map (·.2))) js (parts x)) (f x))
    (hel : ∀ (s : Shared) (H : Hp) (C : Addr) (cl : List (Str × Addr)) (fp : List Addr) (x : α), x ∈ xs → f x = true → EvD (X.blk s H scope (compEnvC scope cl C X.env) fp) elt (setR X.K (wipeR ρ (own.map (·.2))) js (parts x)) (g x)) :
    ∃ wi, PI X tg iter wi ∧ ∀ (σ : St) (H : Hp), EnvOk ρ σ H → ∀ Q : VK, (∀ v H', Same H H' → Dp X.K H' v (.list ((xs.filter f).map g)) → Q v H') → tLc wi (bkG X scope tg) (bkT X scope ifs) (bkE X scope elt) (own.map (·.2)) σ H Q := by
  obtain ⟨wi, hpi, hwi⟩ := hsrc.ex
  refine ⟨wi, hpi, fun σ H eo Q q => ?_⟩
  refine hwi σ H eo _ fun J H1 e1 G w hG gst D hD => ?_
  have wl : (xs.map emb).length = xs.length := List.length_map ..
  rw [wl] at w
  refine lc_it (g := bkG X scope tg) (tt := bkT X scope ifs) (te := bkE X scope elt) (Qd := Q (.ref D)) (vs := own.map (·.2)) (σ := σ) w (fun i H' => i ≤ xs.length ∧ Same H H' ∧ Same H1 H' ∧ ∃ acc, H' D = some (.lst acc) ∧ DpAll X.K H' acc (((xs.take i).filter f).map g)) ⟨Nat.zero_le _, e1.trans (same_new hD), same_new hD, [], upd_same, .nil⟩ (fun i H' _ p => gst _ _ p.2.2.1 hG) ?_ ?_
  · rintro i v Ha Hb hi ⟨_, hS, hS1, acc, hacc, dacc⟩ ⟨sab, d, hd, pd⟩
    have hx : xs[i]? = some xs[i] := List.getElem?_eq_getElem hi
    rw [List.getElem?_map, hx] at hd
    have hd : emb xs[i] = d := Option.some.inj hd
    subst hd
    have hmem : xs[i] ∈ xs := List.getElem_mem hi
    intro s0 H0 C cl fp
    refine (htg s0 H0 C cl fp _ hmem).run v _ Hb pd _ fun vs pvs => ⟨wipe_setL hj, ?_⟩
    have eo2 : EnvOk (setR X.K (wipeR ρ (own.map (·.2))) js (parts xs[i])) (setL (wipe σ (own.map (·.2))) js vs) Hb := eok_setL ((eo.up (hS.trans sab)).wipe _) pvs
    intro s1 H01 C1 cl1 fp1
    refine (hif s1 H01 C1 cl1 fp1 _ hmem).run _ Hb eo2 _ fun Hc sbc => ?_
    have hxi : (xs.take (i + 1)) = xs.take i ++ [xs[i]] := take_succ_at hx
    cases hf : f xs[i] with
    | false =>
      show i + 1 ≤ xs.length ∧ _
      refine ⟨hi, (hS.trans sab).trans sbc, (hS1.trans sab).trans sbc, acc, (sab.trans sbc) _ _ hacc, ?_⟩
      rw [hxi, List.filter_append, List.filter_cons_of_neg (by rw [hf]; decide), List.filter_nil, List.append_nil]
      exact dpa_mono (sab.trans sbc) _ _ dacc
    | true =>
      show ∀ (s : Shared) (H0 : Hp) (C : Addr) (cl : List (Str × Addr)) (fp : List Addr), sE _ _ _ _ _
      intro s2 H02 C2 cl2 fp2
      refine (hel s2 H02 C2 cl2 fp2 _ hmem hf).run _ Hc (eo2.up sbc) _ fun y Hd scd py => ?_
      have sad := (sab.trans sbc).trans scd
      have up1 : ∀ {Hz : Hp} (L : List V), Same H1 Hz → Same H1 (upd Hz D (.lst L)) := fun L sz b o ob => by
        rw [upd_ne (ne_of_none ob hD)]
        exact sz _ _ ob
      have hDn : H D = none := e1.free hD
      refine ⟨acc, sad _ _ hacc, ?_, hi, fun b o ob => by rw [upd_ne (ne_of_none ob hDn)]; exact (hS.trans sad) _ _ ob, up1 _ (hS1.trans sad), acc ++ [y], upd_same, ?_⟩
      · have l1 := dpa_len dacc
        have l2 := List.length_filter_le f (xs.take i)
        rw [List.length_map] at l1
        rw [List.length_take] at l2
        rw [sizeLine_eq]
        omega
      · rw [hxi, List.filter_append, List.filter_cons_of_pos hf, List.filter_nil, List.map_append]
        have tD : Tsm Hd (upd Hd D (.lst (acc ++ [y]))) := tsm_lst (sad _ _ hacc)
        refine dpa_app (dpa_t tD _ _ (noLs_map fun x hx => hno x (List.mem_of_mem_take (List.mem_filter.mp hx).1)) (dpa_mono sad _ _ dacc)) (.cons (dp_t tD _ _ (hno _ hmem) py) .nil)
  · rintro H' ⟨_, hS, hS1, acc, hacc, dacc⟩
    rw [List.take_length] at dacc
    exact q _ H' hS (.lst (.of hacc) dacc)

theorem e_lc {α : Type} {elt iter : Expr} {ifs : List Expr} {scope : Scope} {own : List (Str × Nat)} {js : List Nat} {xs : List α} {emb : α → PyData} {parts : α → List PyData} {f : α → Bool} {g : α → PyData} {lpos : Pos}
    (hc : X.calm = true) (hN : X.N.Nodup) (hsrc : SrcR X tg iter ρ (xs.map emb)) (ok : BlkOk X.N X.env.scope scope own) (hj : ∀ j ∈ js, j ∈ own.map (·.2)) (hz : xs.length ≤ 100000) (hno : ∀ x ∈ xs, noL (g x) = true)
    (htg : ∀ (s : Shared) (H : Hp) (C : Addr) (cl : List (Str × Addr)) (fp : List Addr) (x : α), x ∈ xs → TgR (X.blk s H scope (compEnvC scope cl C X.env) fp) tg js (emb x) (parts x))
    (hif : ∀ (s : Shared) (H : Hp) (C : Addr) (cl : List (Str × Addr)) (fp : List Addr) (x : α), x ∈ xs → EvTs (X.blk s H scope (compEnvC scope cl C X.env) fp) ifs (setR X.K (wipeR ρ (own.map (·.2))) js (parts x)) (f x))
    (hel : ∀ (s : Shared) (H : Hp) (C : Addr) (cl : List (Str × Addr)) (fp : List Addr) (x : α), x ∈ xs → f x = true → EvD (X.blk s H scope (compEnvC scope cl C X.env) fp) elt (setR X.K (wipeR ρ (own.map (·.2))) js (parts x)) (g x))
    (hs : ∀ x, foldedSetIterable iter X.env x = pure x := by intro _; rfl) :
    EvD X (.ListComp elt [⟨tg, iter, ifs, 0⟩] scope lpos) ρ (.list ((xs.filter f).map g)) := by
  obtain ⟨wi, hpi, h⟩ := lc_read hc hN hsrc ok hj hz hno htg hif hel
  exact ed_of (pe_lc hc hN hpi ok (fun s H C cl fp => ⟨fun pins s' σ H' v u Q I r h => h s H C cl fp pins s' u I r⟩) (fun s H C cl fp => ⟨fun pins s' σ H' Q I h => h s H C cl fp pins s' I⟩) (fun s H C cl fp => ⟨fun pins s' σ H' Q I h => h s H C cl fp pins s' I⟩) hs) h
end
end SH

/-! ## SHD -/
set_option Elab.async false
set_option linter.all false
set_option maxRecDepth 100000
set_option maxHeartbeats 2000000
namespace SH
open PySem PySem.Spec PyProof.Rows L2
/-! ### blocks without writing -/
inductive Out where
  | ret (P : VP)
  | nx (ρ : Rho)
def Out.ok (o : Out) (D : Ends) (H : Hp) : Prop := match o with
  | .ret P => ∀ v H', Same H H' → P v H' → D.rt v H'
  | .nx ρ' => ∀ (σ' : St) H', Same H H' → EnvOk ρ' σ' H' → D.nx σ' H'
theorem out_up {o : Out} {D : Ends} {H H' : Hp} (h : o.ok D H) (e : Same H H') : o.ok D H' := by
  cases o with
  | ret P => exact fun v H2 e2 p => h v H2 (e.trans e2) p
  | nx ρ => exact fun σ H2 e2 p => h σ H2 (e.trans e2) p
structure BR (X : Cx) (sts : List Stmt) (ρ : Rho) (o : Out) : Prop where
  run : ∀ (σ : St) (H : Hp), EnvOk ρ σ H → ∀ D : Ends, o.ok D H → sB X sts D σ H
section
variable {X : Cx} {ρ ρ' : Rho} {a b c e tg : Expr} {es : List Expr} {pos p : Pos} {rest sts els : List Stmt} {P : VP} {o : Out}
theorem b_nil : BR X [] ρ (.nx ρ) := ⟨fun σ H eo D k => sB_of pss_nil (k σ H (Same.refl H) eo)⟩
theorem b_ret (h : EvR X e ρ P) : BR X (.Return (some e) pos :: rest) ρ (.ret P) := ⟨fun σ H eo D k => sB_of (pss_cons (ps_ret pe_s) pss_s) (h.run σ H eo _ fun v H1 e1 pv => k v H1 e1 pv)⟩
theorem b_retd {d d' : PyData} (h : EvD X e ρ d) (q : d = d') : BR X (.Return (some e) pos :: rest) ρ (.ret (DD X.K d')) := b_ret (q ▸ h)
theorem b_set (i : Nat) {x : Str} {pos' : Pos} (h : EvR X e ρ P) (k : BR X rest (ρ.set i (some P)) o) (hN : X.N.Nodup) (hi : X.N[i]? = some x := by rfl) (hx : Loc X.env.scope x := by first | exact Or.inl rfl | exact Or.inr rfl)
    (hs : swapsWith e (some (.Name x pos')) pos.line X.env = pure false := by rfl) (hf : X.fn x = true ∨ X.env.scope.names.lookup x = some .local := by first | exact .inl rfl | exact .inr rfl) :
    BR X (.Assign [.Name x pos'] e pos :: rest) ρ o := ⟨fun σ H eo D q => sB_of (pss_cons (ps_set hN hi hx pe_s hs hf) pss_s) (h.run σ H eo _ fun v H1 e1 pv => k.run _ H1 ((eo.up e1).set i pv h.mono) D (out_up q e1))⟩
/-- any target of data -/
theorem b_tg {js : List Nat} {d : PyData} {ds : List PyData} (h : EvD X e ρ d) (ht : TgR X tg js d ds) (k : BR X rest (setR X.K ρ js ds) o) (hs : swapsWithSole [tg] e pos.line X.env = pure false := by rfl) (hw : swappedStores [tg] e X.env = pure none := by rfl)
    (h1 : (assignEach [tg] X.env).map (·.2) = [assign tg X.env] := by rfl) : BR X (.Assign [tg] e pos :: rest) ρ o := ⟨fun σ H eo D q => sB_of (pss_cons (ps_asg pe_s pg_s hs hw h1) pss_s) (h.run σ H eo _ fun v H1 e1 pv =>
      ht.run v σ H1 pv _ fun vs pvs => k.run _ H1 (eok_setL (eo.up e1) pvs) D (out_up q e1))⟩
/-- a, b = x, y, plain locals -/
theorem b_par (i j : Nat) {x y : Str} {px py pt pt2 : Pos} {kt k2} {d d' : PyData} (ha : EvD X a ρ d) (hb : EvD X b ρ d') (k : BR X rest ((ρ.set i (some (DD X.K d))).set j (some (DD X.K d'))) o) (hc : X.calm = true) (hN : X.N.Nodup) (hij : i ≠ j := by decide) (hi : X.N[i]? = some x := by rfl) (hj : X.N[j]? = some y := by rfl)
    (hx : X.env.scope.names.lookup x = some .local := by rfl) (hy : X.env.scope.names.lookup y = some .local := by rfl) (hw : swappedStores [.Tuple [.Name x px, .Name y py] kt pt] (.Tuple [a, b] k2 pt2) X.env = pure (some [x, y]) := by rfl)
    (hs : swapsWithSole [.Tuple [.Name x px, .Name y py] kt pt] (.Tuple [a, b] k2 pt2) pos.line X.env = pure false := by rfl) (hs1 : starEach [a, b] X.env = (false, eval a X.env) :: starEach [b] X.env := by rfl) (hs2 : starEach [b] X.env = (false, eval b X.env) :: starEach [] X.env := by rfl) :
    BR X (.Assign [.Tuple [.Name x px, .Name y py] kt pt] (.Tuple [a, b] k2 pt2) pos :: rest) ρ o := ⟨fun σ H eo D q => sB_of (pss_cons (ps_par hc hN hi hj hij hx hy pa_s hw hs) pss_s) ((a_cons ha (a_cons hb a_nil hs2) hs1).run σ H eo _ fun vs H1 e1 pvs => by
    obtain ⟨v, v', rfl, pv, pv'⟩ := dpa2 pvs
    exact ⟨v, v', rfl, k.run _ H1 (((eo.up e1).set i pv mono_dd).set j pv' mono_dd) D (out_up q e1)⟩)⟩
/-- if c: what returns -/
theorem b_if_r {k : Bool} (h : EvT X c ρ k) (h1 : k = true → BR X sts ρ (.ret P)) (h2 : k = false → BR X els ρ (.nx ρ')) (h3 : k = false → BR X rest ρ' (.ret P)) : BR X (.If c sts els pos :: rest) ρ (.ret P) :=
  ⟨fun σ H eo D q => sB_of (pss_cons (ps_if pt_s pss_s pss_s) pss_s) (h.run σ H eo _ fun H1 e1 => by
    cases k with
    | true =>
      show sB X sts _ σ H1
      exact (h1 rfl).run σ H1 (eo.up e1) _ fun v H2 e2 pv => q v H2 (e1.trans e2) pv
    | false =>
      show sB X els _ σ H1
      exact (h2 rfl).run σ H1 (eo.up e1) _ fun σ2 H2 e2 eo2 => (h3 rfl).run σ2 H2 eo2 D fun v H3 e3 pv => q v H3 ((e1.trans e2).trans e3) pv)⟩
/-- both ways go on -/
theorem b_if_n {k : Bool} (h : EvT X c ρ k) (h1 : k = true → BR X sts ρ (.nx ρ')) (h2 : k = false → BR X els ρ (.nx ρ')) (h3 : BR X rest ρ' o) : BR X (.If c sts els pos :: rest) ρ o :=
  ⟨fun σ H eo D q => sB_of (pss_cons (ps_if pt_s pss_s pss_s) pss_s) (h.run σ H eo _ fun H1 e1 => by
    cases k with
    | true =>
      show sB X sts _ σ H1
      exact (h1 rfl).run σ H1 (eo.up e1) _ fun σ2 H2 e2 eo2 => h3.run σ2 H2 eo2 D (out_up q (e1.trans e2))
    | false =>
      show sB X els _ σ H1
      exact (h2 rfl).run σ H1 (eo.up e1) _ fun σ2 H2 e2 eo2 => h3.run σ2 H2 eo2 D (out_up q (e1.trans e2)))⟩
/-- an if whose test is False, no else -/
theorem b_if_f (h : EvT X c ρ false) (h3 : BR X rest ρ o) : BR X (.If c sts [] pos :: rest) ρ o := b_if_n h (fun z => (nomatch z)) (fun _ => b_nil) h3
/-- name += int -/
theorem b_addI (i : Nat) {x : Str} {pos' : Pos} {n m : Int} (h : EvD X e ρ (.int m)) (k : BR X rest (ρ.set i (some (DD X.K (.int (n + m))))) o) (hN : X.N.Nodup) (hρ : ρ[i]? = some (some (DD X.K (.int n))) := by rfl) (hi : X.N[i]? = some x := by rfl) (hx : Loc X.env.scope x := by first | exact Or.inl rfl | exact Or.inr rfl)
    (hf : X.fn x = true ∨ X.env.scope.names.lookup x = some .local := by first | exact .inl rfl | exact .inr rfl) : BR X (.AugAssign (.Name x pos') .Add e pos :: rest) ρ o := ⟨fun σ H eo D q => sB_of (pss_cons (ps_aug hN hi hx pe_s ip_add hf) pss_s) (by
    obtain ⟨v, hv, pv⟩ := eo.at_ i _ hρ
    cases pv
    refine ⟨_, hv, h.run σ H eo _ fun u H1 e1 pu => ?_⟩
    cases pu
    exact ⟨n, m, rfl, rfl, k.run _ H1 ((eo.up e1).set i (.int _) mono_dd) D (out_up q e1)⟩)⟩
theorem b_expr {d : PyData} (h : EvD X e ρ d) (k : BR X rest ρ o) (hs : swapsWith e none pos.line X.env = pure false := by rfl) : BR X (.Expr e pos :: rest) ρ o :=
  ⟨fun σ H eo D q => sB_of (pss_cons (ps_expr pe_s hs) pss_s) (h.run σ H eo _ fun v H1 e1 pv => k.run σ H1 (eo.up e1) D (out_up q e1))⟩
end

/-! ### defs -/
def rho0 (K : PySem.W.Frag) (N : List Str) (ds : List PyData) : Rho := ds.map (fun d => some (DD K d)) ++ List.replicate (N.length - ds.length) none
theorem eok_reps {H : Hp} : ∀ n : Nat, EnvOk (List.replicate n none) (List.replicate n none) H
  | 0 => eok_nil
  | n + 1 => eok_none (eok_reps n)
theorem eok_app {K : PySem.W.Frag} {H : Hp} {ρ : Rho} {σ : St} (h : EnvOk ρ σ H) : ∀ {vs : List V} {ds : List PyData}, DpAll K H vs ds → EnvOk (ds.map (fun d => some (DD K d)) ++ ρ) (vs.map some ++ σ) H
  | _, _, .nil => h
  | _, _, .cons h1 h2 => eok_d h1 (eok_app h h2)
theorem eok_start {K : PySem.W.Frag} {H : Hp} {N : List Str} {vs : List V} {ds : List PyData} (h : DpAll K H vs ds) : EnvOk (rho0 K N ds) (L2.start N vs) H := by
  unfold rho0 L2.start
  rw [dpa_len h]
  exact eok_app (eok_reps _) h
/-- a def of the text, under its name -/
structure DefAt (K : PySem.W.Frag) (mg : Str → Option Value) (x : Str) (st : Stmt) (ps : List Str) : Prop where
  ex : ∃ (f : Addr) (fd : FuncData), FunD K x x (defArgs st) (defBody st) (defScope st) [] [] f fd ∧ mg x = some (.ref f) ∧ Binds K fd ps []
abbrev XX (P : Program) (w : World) (K : PySem.W.Frag) (mg : Str → Option Value) (base : Heap) (N : List Str) (q : Str) (st : Stmt) (f : Addr) (cdv : Value) (A : Around) (outer : List Env) (s : Shared) (H : Hp) (E : XK) : Cx := (cxOf CX0 P w K mg base N q (defScope st) f cdv A outer s H E).nox
section
variable {P : Program} {w : World} {K : PySem.W.Frag} {mg : Str → Option Value} {base : Heap}
theorem cal_of {x : Str} {st : Stmt} {N ps : List Str} {k : Nat} {R : List PyData → PyData → Prop} (D : DefAt K mg x st ps) (S : FnScope N ps (defScope st)) (hlen : ∀ ds d, R ds d → ds.length = ps.length)
    (body : ∀ (f : Addr) (cdv : Value) (A : Around) (outer : List Env) (s : Shared) (H : Hp) (E : XK), Room k (A.deeper (envOfC x (defScope st) s.heap.objs.size f cdv)) → ∀ ds d, R ds d → ∀ vs Q, spD K R vs H Q E → DpAll K H vs ds → (∀ v H', Same H H' → Dp K H' v d → Q v H') →
      sB (XX P w K mg base N x st f cdv A outer s H E) (defBody st) { nx := fun _ H' => Q .non H', rt := Q } (L2.start N vs) H) : CalD P w K mg base (k + 1) x R := by
  obtain ⟨f, fd, F, hm, b⟩ := D.ex
  refine ⟨f, fd, ps, F.ok S (fun vs H Q E h => ?_) (fun cdv A outer s H vs Q E hr h => ?_), hm, F.kp, b⟩
  · obtain ⟨ds, d, h1, h2, _⟩ := h
    rw [dpa_len h1]
    exact hlen ds d h2
  · obtain ⟨ds, d, h1, h2, h3⟩ := id h
    exact ⟨_, PSs.nox pss_s, body f cdv A outer s H E hr ds d h2 vs Q h h1 h3⟩
theorem cal_pure {x : Str} {st : Stmt} {N ps : List Str} {k : Nat} {R : List PyData → PyData → Prop} (D : DefAt K mg x st ps) (S : FnScope N ps (defScope st)) (hlen : ∀ ds d, R ds d → ds.length = ps.length)
    (body : ∀ (f : Addr) (cdv : Value) (A : Around) (outer : List Env) (s : Shared) (H : Hp) (E : XK), Room k (A.deeper (envOfC x (defScope st) s.heap.objs.size f cdv)) → ∀ ds d, R ds d →
      BR (XX P w K mg base N x st f cdv A outer s H E) (defBody st) (rho0 K N ds) (.ret (DD K d))) : CalD P w K mg base (k + 1) x R :=
  cal_of D S hlen fun f cdv A outer s H E hr ds d hR vs Q _ h1 h3 => (body f cdv A outer s H E hr ds d hR).run _ H (eok_start h1) _ fun v H' e p => h3 v H' e p
/-- .. that gives nothing: None behind its end -/
theorem cal_pure0 {x : Str} {st : Stmt} {N ps : List Str} {k : Nat} {R : List PyData → PyData → Prop} (D : DefAt K mg x st ps) (S : FnScope N ps (defScope st)) (hlen : ∀ ds d, R ds d → ds.length = ps.length) (hnon : ∀ ds d, R ds d → d = .none)
    (body : ∀ (f : Addr) (cdv : Value) (A : Around) (outer : List Env) (s : Shared) (H : Hp) (E : XK), Room k (A.deeper (envOfC x (defScope st) s.heap.objs.size f cdv)) → ∀ ds d, R ds d →
      ∃ ρ, BR (XX P w K mg base N x st f cdv A outer s H E) (defBody st) (rho0 K N ds) (.nx ρ)) : CalD P w K mg base (k + 1) x R :=
  cal_of D S hlen fun f cdv A outer s H E hr ds d hR vs Q _ h1 h3 => by
    obtain ⟨ρ, h⟩ := body f cdv A outer s H E hr ds d hR
    refine h.run _ H (eok_start h1) _ fun σ H' e _ => h3 .non H' e ?_
    rw [hnon ds d hR]
    exact .non
end
/-! ### isinstance, the kinds that are asked -/
theorem kt_ii : kitB "int" "int" = some true := by decide +kernel
theorem kt_ib : kitB "int" "bool" = some false := by decide +kernel
theorem kt_tt : kitB "tuple" "tuple" = some true := by decide +kernel
theorem kt_ss : kitB "str" "str" = some true := by decide +kernel
theorem kt_ll : kitB "list" "list" = some true := by decide +kernel
theorem bt_int : bootBuiltins "int" = some (.type "int") := by decide +kernel
theorem bt_bool : bootBuiltins "bool" = some (.type "bool") := by decide +kernel
theorem bt_tuple : bootBuiltins "tuple" = some (.type "tuple") := by decide +kernel
theorem bt_str : bootBuiltins "str" = some (.type "str") := by decide +kernel
theorem bt_list : bootBuiltins "list" = some (.type "list") := by decide +kernel
/-! ### the module's names -/
structure Glob (K : PySem.W.Frag) (mg : Str → Option Value) : Prop where
  len : mg "len" = none
  isi : mg "isinstance" = none
  tup : mg "tuple" = none
  int : mg "int" = none
  bool : mg "bool" = none
  all : mg "all" = none
  range : mg "range" = none
  max : mg "max" = none
  min : mg "min" = none
  abs : mg "abs" = none
  sum : mg "sum" = none
  enum : mg "enumerate" = none
  zip : mg "zip" = none
  str : mg "str" = none
  list : mg "list" = none
  cell : ∃ t, mg "MOST_CELL" = some (.int 99 t)
  side : ∃ t, mg "MOST_SIDE" = some (.int 20 t)
  free : ∃ t, mg "FREE" = some (.int 0 t)
  kept : ∃ t, mg "KEPT" = some (.int 1 t)
  gone : ∃ t, mg "GONE" = some (.int 2 t)
  fig : ∃ t, mg "FIGURES" = some (.str "0123456789" t)
  manners : ∃ a, mg "MANNERS" = some (.ref a) ∧ ∀ H, SqT K H a ((["worth", "joins"] : List Str).map V.str)
  boxes : ∃ a, mg "BOXES" = some (.ref a) ∧ ∀ H, SqT K H a ((["keep", "drop", "free"] : List Str).map V.str)
  plain : ∃ a, mg "PLAIN" = some (.ref a) ∧ ∀ H, SqT K H a ((["narrow", "flatten", "widen"] : List Str).map V.str)
end SH

/-! ## SHP1 -/
set_option Elab.async false
set_option linter.all false
set_option maxRecDepth 100000
set_option maxHeartbeats 2000000
namespace SH
open PySem PySem.Spec PyProof.Rows L2
def dI (ns : List Int) : PyData := .tuple (ns.map .int)
def dP (rows : Pic) : PyData := .tuple (rows.map dI)
theorem noL_dI (ns : List Int) : noL (dI ns) = true := noL_tmap fun _ _ => by simp [noL]
theorem noL_dP (p : Pic) : noL (dP p) = true := noL_tmap fun _ _ => noL_dI _
theorem at_int {ns : List Int} {i : Int} (h0 : 0 ≤ i) (h1 : i < ns.length) : atI (ns.map PyData.int) i = some (.int (ns.getD i.toNat 0)) := by
  refine at_map h0 ?_
  have h : i.toNat < ns.length := by omega
  rw [List.getElem?_eq_getElem h, List.getD_eq_getElem?_getD, List.getElem?_eq_getElem h]
  rfl
theorem at_row {w h : Nat} {p : Pic} (S : Shape w h p) {y : Int} (h0 : 0 ≤ y) (h1 : y < h) : atI (p.map dI) y = some (dI (rowM p y)) := by
  refine at_map h0 ?_
  have hl : y.toNat < p.length := by have := S.hgt; omega
  unfold rowM
  rw [List.getElem?_eq_getElem hl, List.getD_eq_getElem?_getD, List.getElem?_eq_getElem hl]
  rfl
theorem at_cell {w h : Nat} {p : Pic} (S : Shape w h p) {x y : Int} (h0 : 0 ≤ y) (h1 : y < h) (h2 : 0 ≤ x) (h3 : x < w) : atI ((rowM p y).map PyData.int) x = some (.int (cellM p y x)) :=
  at_int h2 (by rw [rowM_len S h0 h1]; exact h3)
section
variable {X : Cx} {ρ : Rho} {a b c e tg : Expr} {pos p : Pos}
/-- a comprehension without a test -/
theorem e_lcA {α : Type} {elt iter : Expr} {scope : Scope} {own : List (Str × Nat)} {js : List Nat} {xs : List α} {emb : α → PyData} {parts : α → List PyData} {g : α → PyData} {lpos : Pos}
    (hc : X.calm = true) (hN : X.N.Nodup) (hsrc : SrcR X tg iter ρ (xs.map emb)) (ok : BlkOk X.N X.env.scope scope own) (hj : ∀ j ∈ js, j ∈ own.map (·.2)) (hz : xs.length ≤ 100000) (hno : ∀ x ∈ xs, noL (g x) = true)
    (htg : ∀ (s : Shared) (H : Hp) (C : Addr) (cl : List (Str × Addr)) (fp : List Addr) (x : α), x ∈ xs → TgR (X.blk s H scope (compEnvC scope cl C X.env) fp) tg js (emb x) (parts x))
    (hel : ∀ (s : Shared) (H : Hp) (C : Addr) (cl : List (Str × Addr)) (fp : List Addr) (x : α), x ∈ xs → EvD (X.blk s H scope (compEnvC scope cl C X.env) fp) elt (setR X.K (wipeR ρ (own.map (·.2))) js (parts x)) (g x))
    (hs : ∀ x, foldedSetIterable iter X.env x = pure x := by intro _; rfl) :
    EvD X (.ListComp elt [⟨tg, iter, [], 0⟩] scope lpos) ρ (.list (xs.map g)) :=
  EvD.is (e_lc (f := fun _ => true) hc hN hsrc ok hj hz hno htg (fun _ _ _ _ _ _ _ => ts_nil) (fun s H C cl fp x hx _ => hel s H C cl fp x hx) hs) (by rw [List.filter_eq_self.mpr fun _ _ => rfl])
end
section
variable {P : Program} {w : World} {K : PySem.W.Frag} {mg : Str → Option Value} {base : Heap}
def R_isnum (ds : List PyData) (d : PyData) : Prop := ∃ t a b : Int, ds = [.int t, .int a, .int b] ∧ d = .bool (decide (a ≤ t) && decide (t ≤ b))
theorem sc_isnum : FnScope ["thing", "least", "most"] ["thing", "least", "most"] (defScope s_is_number) := ⟨rfl, rfl, rfl, by decide +kernel, rfl, by decide +kernel, by decide +kernel⟩
theorem ok_isnum (G : Glob K mg) (D : DefAt K mg "is_number" s_is_number ["thing", "least", "most"]) : CalD P w K mg base 1 "is_number" R_isnum := by
  refine cal_pure D sc_isnum (fun ds d h => ?_) fun f cdv A outer s H E hr ds d h => ?_
  · obtain ⟨t, a, b, rfl, _⟩ := h
    rfl
  · obtain ⟨t, a, b, rfl, rfl⟩ := h
    exact b_retd (e_and (e_isi G.isi G.int bt_int (e_n 0 rfl) kt_ii) fun _ => e_and (e_not (e_isi G.isi G.bool bt_bool (e_n 0 rfl) kt_ib)) fun _ => e_one (e_chain c_le c_le (e_n 1 rfl) (e_n 0 rfl) (e_n 2 rfl))) (by simp)
def CellsOk (ns : List Int) : Prop := ∀ c ∈ ns, 0 ≤ c ∧ c ≤ 99
def R_isrow (ds : List PyData) (d : PyData) : Prop := ∃ (ns : List Int), ns.length ≤ 1000 ∧ CellsOk ns ∧ ds = [dI ns, .int ns.length] ∧ d = .bool true
theorem sc_isrow : FnScope ["thing", "wide", "cell"] ["thing", "wide"] (defScope s_is_row) := ⟨rfl, rfl, rfl, by decide +kernel, rfl, by decide +kernel, by decide +kernel⟩
theorem ok_isrow (G : Glob K mg) (D : DefAt K mg "is_row" s_is_row ["thing", "wide"]) (c1 : CalD P w K mg base 1 "is_number" R_isnum) : CalD P w K mg base 2 "is_row" R_isrow := by
  refine cal_pure D sc_isrow (fun ds d h => ?_) fun f cdv A outer s H E hr ds d h => ?_
  · obtain ⟨ns, _, _, rfl, _⟩ := h
    rfl
  · obtain ⟨ns, hz, hc, rfl, rfl⟩ := h
    refine b_retd (e_and (e_isi G.isi G.tup bt_tuple (e_n 0 rfl) kt_tt) fun _ => e_and (e_cmp c_eqI (e_len (ds := ns.map .int) G.len (e_n 0 rfl)) (e_n 1 rfl)) fun _ => e_one (e_all (bs := ns.map fun _ => true) rfl G.all (EvD.is (e_lcA (own := [("cell", 2)]) (js := [2]) (parts := fun c => [.int c]) (g := fun c => .bool true) rfl sc_isrow.nd (src_tup (e_n 0 rfl)) (blkOk_by (own := [("cell", 2)]) (N := ["thing", "wide", "cell"]) (sc := defScope s_is_row) (by decide +kernel)) (by decide) (by omega) (fun _ _ => by simp [noL]) (fun _ _ _ _ _ _ _ => tg_name 2 sc_isrow.nd)
      (fun _ _ _ _ _ c hm => e_call c1 hr (by decide) rfl (a_cons (e_n 2 rfl) (a_cons e_int (a_cons (e_gi G.cell) a_nil))) ⟨c, 0, 99, rfl, by rw [decide_eq_true (hc c hm).1, decide_eq_true (hc c hm).2]; rfl⟩)) (by rw [List.map_map]; rfl)))) (by simp)
structure PicOk (p : Pic) : Prop where
  hgt : 1 ≤ p.length ∧ p.length ≤ 20
  wid : ∃ w : Nat, 1 ≤ w ∧ w ≤ 20 ∧ ∀ r ∈ p, r.length = w
  cel : ∀ r ∈ p, CellsOk r
def R_ispic (ds : List PyData) (d : PyData) : Prop := ∃ (p : Pic), PicOk p ∧ ds = [dP p] ∧ d = .bool true
theorem sc_ispic : FnScope ["thing", "row"] ["thing"] (defScope s_is_picture) := ⟨rfl, rfl, rfl, by decide +kernel, rfl, by decide +kernel, by decide +kernel⟩
theorem ok_ispic (G : Glob K mg) (D : DefAt K mg "is_picture" s_is_picture ["thing"]) (c1 : CalD P w K mg base 2 "is_row" R_isrow) : CalD P w K mg base 3 "is_picture" R_ispic := by
  refine cal_pure D sc_ispic (fun ds d h => ?_) fun f cdv A outer s H E hr ds d h => ?_
  · obtain ⟨p, _, rfl, _⟩ := h
    rfl
  · obtain ⟨p, hp, rfl, rfl⟩ := h
    obtain ⟨wd, w1, w2, hw⟩ := hp.wid
    have hS : Shape wd p.length p := ⟨rfl, hw⟩
    have h0 : atI (p.map dI) 0 = some (dI (rowM p 0)) := at_row hS (by omega) (by have := hp.hgt; omega)
    have hl0 : (rowM p 0).length = wd := rowM_len hS (by omega) (by have := hp.hgt; omega)
    have hg := hp.hgt
    refine b_if_f (EvT.is (t_w (w_or (t_not (t_val (e_isi G.isi G.tup bt_tuple (e_n 0 rfl) kt_tt))) fun _ => w_or (t_not (t_chain c_le c_le e_int (e_len (ds := p.map dI) G.len (e_n 0 rfl)) (e_gi G.side))) fun _ => w_or1 (t_not (t_val (e_isi G.isi G.tup bt_tuple (e_ix (ds := p.map dI) (e_n 0 rfl) e_int h0) kt_tt))))) ?_) ?_
    · rw [List.length_map, decide_eq_true (show (1 : Int) ≤ (p.length : Int) by omega), decide_eq_true (show (p.length : Int) ≤ 20 by omega)]
      rfl
    · refine b_retd (e_and (e_chain c_le c_le e_int (e_len (ds := (rowM p 0).map .int) G.len (e_ix (ds := p.map dI) (e_n 0 rfl) e_int h0)) (e_gi G.side)) fun _ => e_one (e_all (bs := p.map fun _ => true) rfl G.all (EvD.is (e_lcA (own := [("row", 1)]) (js := [1]) (parts := fun r => [dI r]) (g := fun c => .bool true) rfl sc_ispic.nd (src_tup (e_n 0 rfl)) (blkOk_by (own := [("row", 1)]) (N := ["thing", "row"]) (sc := defScope s_is_picture) (by decide +kernel)) (by decide) (by omega) (fun _ _ => by simp [noL]) (fun _ _ _ _ _ _ _ => tg_name 1 sc_ispic.nd)
        (fun _ _ _ _ _ r hm => e_call c1 hr (by decide) rfl (a_cons (e_n 1 rfl) (a_cons (e_len (ds := (rowM p 0).map .int) G.len (e_ix (ds := p.map dI) (e_n 0 rfl) e_int h0)) a_nil)) ⟨r, by have := hw r hm; omega, hp.cel r hm, by rw [List.length_map, hl0, hw r hm], rfl⟩)) (by rw [List.map_map]; rfl)))) ?_
      rw [List.length_map, hl0, decide_eq_true (show (1 : Int) ≤ (wd : Int) by omega), decide_eq_true (show (wd : Int) ≤ 20 by omega)]
      simp
def R_needpic (ds : List PyData) (d : PyData) : Prop := ∃ (p : Pic), PicOk p ∧ ds = [dP p] ∧ d = .none
theorem sc_needpic : FnScope ["picture"] ["picture"] (defScope s_need_picture) := ⟨rfl, rfl, rfl, by decide +kernel, rfl, by decide +kernel, by decide +kernel⟩
theorem ok_needpic (G : Glob K mg) (D : DefAt K mg "need_picture" s_need_picture ["picture"]) (c1 : CalD P w K mg base 3 "is_picture" R_ispic) : CalD P w K mg base 4 "need_picture" R_needpic := by
  refine cal_pure0 D sc_needpic (fun ds d h => ?_) (fun ds d h => ?_) fun f cdv A outer s H E hr ds d h => ?_
  · obtain ⟨p, _, rfl, _⟩ := h
    rfl
  · obtain ⟨p, _, _, rfl⟩ := h
    rfl
  · obtain ⟨p, hp, rfl, rfl⟩ := h
    exact ⟨_, b_if_f (t_not (k := true) (t_val (e_call c1 hr (by decide) rfl (a_cons (e_n 0 rfl) a_nil) ⟨p, hp, rfl, rfl⟩))) b_nil⟩
def R_needman (ds : List PyData) (d : PyData) : Prop := ∃ m : Str, m ∈ (["worth", "joins"] : List Str) ∧ ds = [.str m] ∧ d = .none
theorem sc_needman : FnScope ["manner"] ["manner"] (defScope s_need_manner) := ⟨rfl, rfl, rfl, by decide +kernel, rfl, by decide +kernel, by decide +kernel⟩
theorem ok_needman (G : Glob K mg) (D : DefAt K mg "need_manner" s_need_manner ["manner"]) : CalD P w K mg base 1 "need_manner" R_needman := by
  refine cal_pure0 D sc_needman (fun ds d h => ?_) (fun ds d h => ?_) fun f cdv A outer s H E hr ds d h => ?_
  · obtain ⟨p, _, rfl, _⟩ := h
    rfl
  · obtain ⟨p, _, _, rfl⟩ := h
    rfl
  · obtain ⟨m, hm, rfl, rfl⟩ := h
    obtain ⟨ma, g1, g2⟩ := G.manners
    exact ⟨_, b_if_f (EvT.is (t_w (w_or (t_not (t_val (e_isi G.isi G.str bt_str (e_n 0 rfl) kt_ss))) fun _ => w_or1 (t_cmp c_notinS (e_n 0 rfl) (e_gt g1 g2 fun H => dpa_of_strs _)))) (by rw [decide_eq_true hm]; rfl)) b_nil⟩
def R_near (ds : List PyData) (d : PyData) : Prop := ∃ (ns : List Int) (x : Int), ns ≠ [] ∧ ds = [dI ns, .int x] ∧ d = .int (nearM ns x)
theorem sc_near : FnScope ["row", "x"] ["row", "x"] (defScope s_near) := ⟨rfl, rfl, rfl, by decide +kernel, rfl, by decide +kernel, by decide +kernel⟩
theorem ok_near (G : Glob K mg) (D : DefAt K mg "near" s_near ["row", "x"]) : CalD P w K mg base 1 "near" R_near := by
  refine cal_pure D sc_near (fun ds d h => ?_) fun f cdv A outer s H E hr ds d h => ?_
  · obtain ⟨ns, x, _, rfl, _⟩ := h
    rfl
  · obtain ⟨ns, x, hne, rfl, rfl⟩ := h
    have hl : 0 < ns.length := List.length_pos_iff.mpr hne
    obtain ⟨h0, h1⟩ := nearI_ok (x := x) hl
    exact b_ret (e_ix (ds := ns.map .int) (e_n 0 rfl) (EvD.is (d' := .int (nearI ns.length x)) (e_max rfl G.max e_int (e_min rfl G.min (e_sub (EvD.is (e_len (ds := ns.map .int) G.len (e_n 0 rfl)) (by rw [List.length_map])) e_int) (e_n 1 rfl))) rfl) (at_int h0 h1))
end
end SH

/-! ## SHN -/
set_option Elab.async false
set_option linter.all false
set_option maxRecDepth 100000
set_option maxHeartbeats 2000000
/-! the mirror of the best way down -/
namespace SH
open PySem PySem.Spec PyProof.Rows L2
abbrev Pr := Int × Int
abbrev Cl := Option Pr
def dPr (q : Pr) : PyData := dI [q.1, q.2]
def dC : Cl → PyData
  | none => .none
  | some q => dPr q
def isG (v : Int) : Int := if v = 2 then 1 else 0
def lastC (mk : Pic) (y x : Int) : Cl := if cellM mk y x = 1 then none else some (-(isG (cellM mk y x)), 0)
def stepC (p mk : Pic) (wo : Bool) (y x t : Int) (b : Pr) : Pr := (b.1 + -(isG (cellM mk y x)), b.2 + costM p t (y + 1) (some x) wo)
def ltC (a b : Pr) : Bool := HT.lexLt [a.1, a.2] [b.1, b.2]
def betC (best : Cl) (here : Pr) : Cl := match best with
  | none => some here
  | some b => if ltC here b then some here else some b
def tryC (p mk : Pic) (wo : Bool) (y x : Int) (below : List Cl) (best : Cl) (t : Int) : Cl := match below.getD t.toNat none with
  | none => best
  | some b => if cellM mk y x = 1 then best else betC best (stepC p mk wo y x t b)
def bestC (p mk : Pic) (wo : Bool) (w : Nat) (y x : Int) (below : List Cl) : Cl := (nextM x w).foldl (tryC p mk wo y x below) none
def rowC (p mk : Pic) (wo : Bool) (w : Nat) (y : Int) (below : List Cl) : List Cl := (List.range w).map fun (x : Nat) => bestC p mk wo w y (0 + (x : Int)) below
def downM (p mk : Pic) (wo : Bool) (w h : Nat) : Nat → List (List Cl)
  | 0 => [(List.range w).map fun (x : Nat) => lastC mk ((h : Int) - 1) (0 + (x : Int))]
  | k + 1 => rowC p mk wo w ((h : Int) - 2 - (k : Int)) ((downM p mk wo w h k).headD []) :: downM p mk wo w h k
theorem downM_len {p mk : Pic} {wo : Bool} {w h : Nat} : ∀ k, (downM p mk wo w h k).length = k + 1
  | 0 => rfl
  | k + 1 => by
    show (downM p mk wo w h k).length + 1 = k + 1 + 1
    rw [downM_len k]
theorem downM_drop {p mk : Pic} {wo : Bool} {w h : Nat} : ∀ (j k : Nat), (downM p mk wo w h (k + j)).drop j = downM p mk wo w h k
  | 0, k => rfl
  | j + 1, k => by
    show (downM p mk wo w h (k + j)).drop j = _
    exact downM_drop j k
theorem downM_wid {p mk : Pic} {wo : Bool} {w h : Nat} : ∀ k, ∀ r ∈ downM p mk wo w h k, r.length = w
  | 0, r, hr => by
    have : r = _ := List.mem_singleton.mp hr
    rw [this, List.length_map, List.length_range]
  | k + 1, r, hr => by
    rcases List.mem_cons.mp hr with rfl | hr
    · unfold rowC
      rw [List.length_map, List.length_range]
    · exact downM_wid k r hr
def tabM (p mk : Pic) (wo : Bool) (w h : Nat) : List (List Cl) := downM p mk wo w h (h - 1)
/-- the cell of the table -/
def tabC (tb : List (List Cl)) (y x : Int) : Cl := (tb.getD y.toNat []).getD x.toNat none
theorem getD_drop {α : Type} {l : List α} {i : Nat} {d : α} : l.getD i d = (l.drop i).headD d := by
  rw [List.getD_eq_getElem?_getD, List.headD_eq_head?_getD, List.head?_drop]
theorem tab_row {p mk : Pic} {wo : Bool} {w h y : Nat} (hy : y < h) : (tabM p mk wo w h).getD y [] = (downM p mk wo w h (h - 1 - y)).headD [] := by
  rw [getD_drop]
  unfold tabM
  have : h - 1 = (h - 1 - y) + y := by omega
  rw [this, downM_drop]
  congr 2
  omega
theorem tab_step {p mk : Pic} {wo : Bool} {w h y : Nat} (hy : y + 1 < h) : (tabM p mk wo w h).getD y [] = rowC p mk wo w (y : Int) ((tabM p mk wo w h).getD (y + 1) []) := by
  rw [tab_row (by omega), tab_row (by omega)]
  have e : h - 1 - y = (h - 1 - (y + 1)) + 1 := by omega
  rw [e]
  show rowC p mk wo w _ _ = _
  congr 1
  omega
theorem tab_len {p mk : Pic} {wo : Bool} {w h : Nat} (hh : 0 < h) : (tabM p mk wo w h).length = h := by
  unfold tabM
  rw [downM_len]
  omega
theorem tab_wid {p mk : Pic} {wo : Bool} {w h y : Nat} (hy : y < h) : ((tabM p mk wo w h).getD y []).length = w := downM_wid _ _ (getD_mem (by rw [downM_len]; omega))
theorem rowC_at {p mk : Pic} {wo : Bool} {w : Nat} {y x : Int} {below : List Cl} (h0 : 0 ≤ x) (h1 : x < w) : (rowC p mk wo w y below).getD x.toNat none = bestC p mk wo w y x below := by
  unfold rowC
  have hx : x.toNat < w := by omega
  rw [List.getD_eq_getElem?_getD, List.getElem?_map, List.getElem?_range hx]
  show bestC p mk wo w y (0 + (x.toNat : Int)) below = _
  congr 1
  omega
/-! ### the first row -/
def startM (p : Pic) (wo : Bool) (row : List Cl) : List Cl := row.zipIdx.map fun q => q.1.map fun b => (b.1 + 0, b.2 + costM p (q.2 : Int) 0 none wo)
theorem startM_len {p : Pic} {wo : Bool} {row : List Cl} : (startM p wo row).length = row.length := by simp [startM]
theorem startM_at {p : Pic} {wo : Bool} {row : List Cl} {i : Nat} {v : Pr} (h : (startM p wo row)[i]? = some (some v)) : ∃ b, row[i]? = some (some b) := by
  unfold startM at h
  rw [List.getElem?_map, List.getElem?_zipIdx] at h
  cases e : row[i]? with
  | none => rw [e] at h; cases h
  | some c =>
    rw [e] at h
    cases c with
    | none => simp at h
    | some b => exact ⟨b, rfl⟩
def minP (q : Pr) (qs : List Pr) : Pr := qs.foldl (fun a y => if PySem.W.dataLt (dPr y) (dPr a) then y else a) q
theorem minP_d (q : Pr) : ∀ qs : List Pr, PySem.W.minD (dPr q) (qs.map dPr) = dPr (minP q qs) := by
  intro qs
  unfold PySem.W.minD minP
  induction qs generalizing q with
  | nil => rfl
  | cons r t ih =>
    rw [List.map_cons, List.foldl_cons, List.foldl_cons, ← ih]
    congr 1
    split <;> rfl
theorem minP_mem (q : Pr) : ∀ qs : List Pr, minP q qs ∈ q :: qs := by
  intro qs
  unfold minP
  induction qs generalizing q with
  | nil => exact List.mem_cons_self
  | cons r t ih =>
    rw [List.foldl_cons]
    have h := ih (if PySem.W.dataLt (dPr r) (dPr q) = true then r else q)
    rcases List.mem_cons.mp h with e | h
    · rw [e]
      split
      · exact List.mem_cons_of_mem _ List.mem_cons_self
      · exact List.mem_cons_self
    · exact List.mem_cons_of_mem _ (List.mem_cons_of_mem _ h)
/-! ### the trace -/
def okC (p mk : Pic) (wo : Bool) (tb : List (List Cl)) (y x t : Int) : Bool := match tabC tb (y + 1) t with
  | none => false
  | some b => decide (some (stepC p mk wo y x t b) = tabC tb y x)
def goC (p mk : Pic) (wo : Bool) (w : Nat) (tb : List (List Cl)) (y x : Int) : Int := ((nextM x w).find? (okC p mk wo tb y x)).getD 0
def traceM (p mk : Pic) (wo : Bool) (w : Nat) (tb : List (List Cl)) (x0 : Int) : Nat → List Int × Int
  | 0 => ([x0], x0)
  | k + 1 => let q := traceM p mk wo w tb x0 k; let x := goC p mk wo w tb (k : Int) q.2; (q.1 ++ [x], x)
theorem trace_last {p mk : Pic} {wo : Bool} {w : Nat} {tb : List (List Cl)} {x0 : Int} : ∀ k, ∃ l, (traceM p mk wo w tb x0 k).1 = l ++ [(traceM p mk wo w tb x0 k).2]
  | 0 => ⟨[], rfl⟩
  | _ + 1 => ⟨_, rfl⟩
theorem trace_len {p mk : Pic} {wo : Bool} {w : Nat} {tb : List (List Cl)} {x0 : Int} : ∀ k, (traceM p mk wo w tb x0 k).1.length = k + 1
  | 0 => rfl
  | k + 1 => by
    show ((traceM p mk wo w tb x0 k).1 ++ _).length = _
    rw [List.length_append, trace_len k]
    rfl
theorem fold_some {p mk : Pic} {wo : Bool} {y x : Int} {below : List Cl} : ∀ (ts : List Int) (c : Cl) (v : Pr), ts.foldl (tryC p mk wo y x below) c = some v → c = some v ∨ ∃ t ∈ ts, ∃ b, below.getD t.toNat none = some b ∧ stepC p mk wo y x t b = v
  | [], c, v, h => .inl h
  | t :: ts, c, v, h => by
    rw [List.foldl_cons] at h
    rcases fold_some ts _ v h with h | ⟨t', m, r⟩
    · unfold tryC at h
      cases e : below.getD t.toNat none with
      | none => rw [e] at h; exact .inl h
      | some b =>
        rw [e] at h
        by_cases z : cellM mk y x = 1
        · have h : (if cellM mk y x = 1 then c else _) = some v := h
          rw [if_pos z] at h
          exact .inl h
        · have h : (if cellM mk y x = 1 then c else _) = some v := h
          rw [if_neg z] at h
          unfold betC at h
          cases c with
          | none => exact .inr ⟨t, List.mem_cons_self, b, e, Option.some.inj h⟩
          | some c0 =>
            by_cases zz : ltC (stepC p mk wo y x t b) c0 = true
            · have h : (if ltC (stepC p mk wo y x t b) c0 = true then some (stepC p mk wo y x t b) else some c0) = some v := h
              rw [if_pos zz] at h
              exact .inr ⟨t, List.mem_cons_self, b, e, Option.some.inj h⟩
            · have h : (if ltC (stepC p mk wo y x t b) c0 = true then some (stepC p mk wo y x t b) else some c0) = some v := h
              rw [if_neg zz] at h
              exact .inl h
    · exact .inr ⟨t', List.mem_cons_of_mem _ m, r⟩
theorem next_mem {x : Int} {w : Nat} {t : Int} (h : t ∈ nextM x w) : 0 ≤ t ∧ t < w ∧ x - 1 ≤ t ∧ t ≤ x + 1 := by
  unfold nextM at h
  obtain ⟨h1, h2⟩ := List.mem_filter.mp h
  have h2 : 0 ≤ t ∧ t < w := by simpa using h2
  have h1 : t = x - 1 ∨ t = x ∨ t = x + 1 := by simpa using h1
  omega
/-- a next cell is found -/
theorem go_ok {p mk : Pic} {wo : Bool} {w h y : Nat} {x : Int} {v : Pr} (hy : y + 1 < h) (x0 : 0 ≤ x) (x1 : x < w) (hv : tabC (tabM p mk wo w h) (y : Int) x = some v) :
    ∃ t, (nextM x w).find? (okC p mk wo (tabM p mk wo w h) (y : Int) x) = some t ∧ goC p mk wo w (tabM p mk wo w h) (y : Int) x = t ∧ t ∈ nextM x w ∧ okC p mk wo (tabM p mk wo w h) (y : Int) x t = true ∧ ∃ b, tabC (tabM p mk wo w h) ((y + 1 : Nat) : Int) t = some b := by
  have hv2 := hv
  unfold tabC at hv2
  have e1 : ((y : Int)).toNat = y := by omega
  rw [e1, tab_step hy, rowC_at x0 x1] at hv2
  unfold bestC at hv2
  rcases fold_some _ _ _ hv2 with h | ⟨t, m, b, hb, hs⟩
  · cases h
  · have ok : okC p mk wo (tabM p mk wo w h) (y : Int) x t = true := by
      unfold okC
      have e2 : tabC (tabM p mk wo w h) ((y : Int) + 1) t = some b := by
        unfold tabC
        have : ((y : Int) + 1).toNat = y + 1 := by omega
        rw [this]
        exact hb
      rw [e2, hv]
      show decide (some (stepC p mk wo (y : Int) x t b) = some v) = true
      rw [hs]
      exact decide_eq_true rfl
    cases f : (nextM x w).find? (okC p mk wo (tabM p mk wo w h) (y : Int) x) with
    | none =>
      have := List.find?_eq_none.mp f t m
      exact absurd ok this
    | some t' =>
      have o := List.find?_some f
      refine ⟨t', rfl, by unfold goC; rw [f]; rfl, List.mem_of_find?_eq_some f, o, ?_⟩
      unfold okC at o
      have e3 : (y : Int) + 1 = ((y + 1 : Nat) : Int) := by omega
      rw [e3] at o
      cases g : tabC (tabM p mk wo w h) ((y + 1 : Nat) : Int) t' with
      | none => rw [g] at o; cases o
      | some b' => exact ⟨b', rfl⟩
theorem trace_ok {p mk : Pic} {wo : Bool} {w h : Nat} {x0 : Int} {v0 : Pr} (a0 : 0 ≤ x0) (a1 : x0 < w) (hv : tabC (tabM p mk wo w h) 0 x0 = some v0) : ∀ k, k < h → (∀ x ∈ (traceM p mk wo w (tabM p mk wo w h) x0 k).1, 0 ≤ x ∧ x < w) ∧ ∃ v, tabC (tabM p mk wo w h) (k : Int) (traceM p mk wo w (tabM p mk wo w h) x0 k).2 = some v
  | 0, _ => ⟨fun x hx => by
      have : x = x0 := List.mem_singleton.mp hx
      subst this
      exact ⟨a0, a1⟩, v0, hv⟩
  | k + 1, hk => by
    obtain ⟨ih, v, hv'⟩ := trace_ok a0 a1 hv k (by omega)
    obtain ⟨l, hl⟩ := trace_last (p := p) (mk := mk) (wo := wo) (w := w) (tb := tabM p mk wo w h) (x0 := x0) k
    have hx := ih (traceM p mk wo w (tabM p mk wo w h) x0 k).2 (by rw [hl]; simp)
    obtain ⟨t, _, hg, hm, _, b, hb⟩ := go_ok (by omega) hx.1 hx.2 hv'
    have hn := next_mem hm
    refine ⟨fun x hx => ?_, b, ?_⟩
    · rcases List.mem_append.mp hx with hx | hx
      · exact ih x hx
      · have : x = goC p mk wo w (tabM p mk wo w h) (k : Int) (traceM p mk wo w (tabM p mk wo w h) x0 k).2 := List.mem_singleton.mp hx
        rw [this, hg]
        exact ⟨hn.1, hn.2.1⟩
    · show tabC (tabM p mk wo w h) ((k + 1 : Nat) : Int) (goC p mk wo w (tabM p mk wo w h) (k : Int) (traceM p mk wo w (tabM p mk wo w h) x0 k).2) = _
      rw [hg]
      exact hb
def firstM (p mk : Pic) (wo : Bool) (w h : Nat) : List Cl := startM p wo ((tabM p mk wo w h).getD 0 [])
def idxM (p mk : Pic) (wo : Bool) (w h : Nat) (q : Pr) (qs : List Pr) : Nat := (firstM p mk wo w h).findIdx (fun c => decide (c = some (minP q qs)))
def wayOf (p mk : Pic) (wo : Bool) (w h : Nat) : Option (List Int) := match (firstM p mk wo w h).filterMap id with
  | [] => none
  | q :: qs => some (traceM p mk wo w (tabM p mk wo w h) ((idxM p mk wo w h q qs : Nat) : Int) (h - 1)).1
theorem idx_ok {p mk : Pic} {wo : Bool} {w h : Nat} {q : Pr} {qs : List Pr} (hf : (firstM p mk wo w h).filterMap id = q :: qs) : (firstM p mk wo w h)[idxM p mk wo w h q qs]? = some (some (minP q qs)) := by
  have hm := minP_mem q qs
  rw [← hf] at hm
  obtain ⟨c, hc, hc2⟩ := List.mem_filterMap.mp hm
  have hc2 : c = some (minP q qs) := hc2
  subst hc2
  have hlt : idxM p mk wo w h q qs < (firstM p mk wo w h).length := List.findIdx_lt_length_of_exists ⟨_, hc, decide_eq_true rfl⟩
  have hg := List.findIdx_getElem (xs := firstM p mk wo w h) (p := fun c => decide (c = some (minP q qs))) (w := hlt)
  rw [List.getElem?_eq_getElem hlt]
  exact congrArg some (of_decide_eq_true hg)
theorem first_len {p mk : Pic} {wo : Bool} {w h : Nat} (hh : 0 < h) : (firstM p mk wo w h).length = w := by
  unfold firstM
  rw [startM_len, tab_wid hh]
theorem x0_ok {p mk : Pic} {wo : Bool} {w h : Nat} {q : Pr} {qs : List Pr} (hh : 0 < h) (hf : (firstM p mk wo w h).filterMap id = q :: qs) : (idxM p mk wo w h q qs) < w ∧ ∃ v, tabC (tabM p mk wo w h) 0 ((idxM p mk wo w h q qs : Nat) : Int) = some v := by
  have h1 := idx_ok hf
  have h2 : idxM p mk wo w h q qs < (firstM p mk wo w h).length := (List.getElem?_eq_some_iff.mp h1).1
  rw [first_len hh] at h2
  refine ⟨h2, ?_⟩
  obtain ⟨b, hb⟩ := startM_at h1
  refine ⟨b, ?_⟩
  unfold tabC
  rw [List.getD_eq_getElem?_getD (l := List.getD _ _ _)]
  have e : ((idxM p mk wo w h q qs : Nat) : Int).toNat = idxM p mk wo w h q qs := by omega
  rw [e]
  show ((tabM p mk wo w h).getD 0 [])[_]?.getD none = _
  rw [hb]
  rfl
theorem way_ok {p mk : Pic} {wo : Bool} {w h : Nat} {s : List Int} (hh : 0 < h) (hs : wayOf p mk wo w h = some s) : s.length = h ∧ ∀ x ∈ s, 0 ≤ x ∧ x < (w : Int) := by
  unfold wayOf at hs
  cases hf : (firstM p mk wo w h).filterMap id with
  | nil => rw [hf] at hs; cases hs
  | cons q qs =>
    rw [hf] at hs
    have hs := Option.some.inj hs
    subst hs
    obtain ⟨a1, v, hv⟩ := x0_ok hh hf
    refine ⟨by rw [trace_len]; omega, (trace_ok (by omega) (by omega) hv (h - 1) (by omega)).1⟩
end SH

/-! ## SHE -/
set_option Elab.async false
set_option linter.all false
set_option maxRecDepth 100000
set_option maxHeartbeats 2000000
namespace SH
open PySem PySem.Spec PyProof.Rows L2
/-! ### one list of one's own, grown -/
def Lp (p : Addr) (H : Hp) : Prop := ∃ L, H p = some (.lst L)
def Sx (p : Addr) (H H' : Hp) : Prop := Lp p H' ∧ ∀ a o, a ≠ p → H a = some o → H' a = some o
theorem Sx.refl {p : Addr} {H : Hp} (h : Lp p H) : Sx p H H := ⟨h, fun _ _ _ e => e⟩
theorem Sx.trans {p : Addr} {H H1 H2 : Hp} (a : Sx p H H1) (b : Sx p H1 H2) : Sx p H H2 := ⟨b.1, fun x o n e => b.2 x o n (a.2 x o n e)⟩
theorem lp_up {p : Addr} {H H' : Hp} (h : Lp p H) (e : Same H H') : Lp p H' := let ⟨L, q⟩ := h; ⟨L, e _ _ q⟩
theorem sx_of {p : Addr} {H H' : Hp} (h : Lp p H) (e : Same H H') : Sx p H H' := ⟨lp_up h e, fun a o _ q => e a o q⟩
theorem sx_upd {p : Addr} {H : Hp} {L : List V} : Sx p H (upd H p (.lst L)) := ⟨⟨L, upd_same⟩, fun a o n e => by
  rw [upd_ne n]
  exact e⟩
theorem sx_same {p : Addr} {H0 H H' : Hp} (h : H0 p = none) (a : Same H0 H) (b : Sx p H H') : Same H0 H' := fun x o e => b.2 x o (fun z => by
  subst z
  rw [h] at e
  cases e) (a _ _ e)
theorem sx_tsm {p : Addr} {H H' : Hp} (h : Lp p H) (b : Sx p H H') : Tsm H H' := fun a => ⟨fun xs e => b.2 a _ (fun z => by
  subst z
  obtain ⟨L, q⟩ := h
  rw [q] at e
  cases e) e, fun o u e => b.2 a _ (fun z => by
  subst z
  obtain ⟨L, q⟩ := h
  rw [q] at e
  cases e) e⟩
/-- it holds still while p is written -/
def Keep (p : Addr) (P : VP) : Prop := ∀ v H H', Lp p H → Sx p H H' → P v H → P v H'
/-- the list at p, with these in it -/
def Own (K : PySem.W.Frag) (p : Addr) (ds : List PyData) : VP := fun v H => v = .ref p ∧ ∃ L, H p = some (.lst L) ∧ DpAll K H L ds
/-- as it was at H0 -/
def Bs (H0 : Hp) (P : VP) : VP := fun v H => P v H0 ∧ Same H0 H
theorem mono_own {K : PySem.W.Frag} {p : Addr} {ds : List PyData} : Mono (Own K p ds) := fun v H H' e h => by
  obtain ⟨rfl, L, h1, h2⟩ := h
  exact ⟨rfl, L, e _ _ h1, dpa_mono e _ _ h2⟩
theorem mono_bs {H0 : Hp} {P : VP} : Mono (Bs H0 P) := fun v H H' e h => ⟨h.1, h.2.trans e⟩
theorem keep_bs {H0 : Hp} {P : VP} {p : Addr} (h : H0 p = none) : Keep p (Bs H0 P) := fun v H H' _ s q => ⟨q.1, sx_same h q.2 s⟩
theorem keep_d {K : PySem.W.Frag} {d : PyData} {p : Addr} (h : noL d = true) : Keep p (DD K d) := fun v H H' l s q => dp_t (sx_tsm l s) d v h q
theorem own_lst {K : PySem.W.Frag} {p : Addr} {ds : List PyData} {v : V} {H : Hp} (h : Own K p ds v H) : Dp K H v (.list ds) := by
  obtain ⟨rfl, L, h1, h2⟩ := h
  exact .lst (.of h1) h2
def KA (p : Addr) (ρ : Rho) : Prop := ∀ P, some P ∈ ρ → Keep p P
theorem ka_nil {p : Addr} : KA p [] := fun P h => by simp at h
theorem ka_none {p : Addr} {ρ : Rho} (h : KA p ρ) : KA p (none :: ρ) := fun P q => h P (by simpa using q)
theorem ka_some {p : Addr} {P : VP} {ρ : Rho} (k : Keep p P) (h : KA p ρ) : KA p (some P :: ρ) := fun P' q => by
  rcases List.mem_cons.mp q with e | q
  · cases e
    exact k
  · exact h P' q
def bsR (H0 : Hp) (ρ : Rho) : Rho := ρ.map fun o => o.map (Bs H0)
theorem EnvOk.base {ρ : Rho} {σ : St} {H0 H : Hp} (h : EnvOk ρ σ H0) (e : Same H0 H) : EnvOk (bsR H0 ρ) σ H := by
  have key : ∀ (i : Nat) (P : VP), (bsR H0 ρ)[i]? = some (some P) → ∃ P0, ρ[i]? = some (some P0) ∧ P = Bs H0 P0 := fun i P q => by
    unfold bsR at q
    rw [List.getElem?_map] at q
    cases z : ρ[i]? with
    | none => rw [z] at q; cases q
    | some o =>
      rw [z] at q
      cases o with
      | none => cases q
      | some P0 =>
        have q : some (Bs H0 P0) = some P := Option.some.inj q
        exact ⟨P0, rfl, (Option.some.inj q).symm⟩
  refine ⟨fun i P q => ?_, fun i P q => ?_, by rw [h.len]; exact (List.length_map ..).symm⟩
  · obtain ⟨P0, h1, rfl⟩ := key i P q
    obtain ⟨v, a, b⟩ := h.at_ i P0 h1
    exact ⟨v, a, b, e⟩
  · obtain ⟨P0, h1, rfl⟩ := key i P q
    exact mono_bs
/-- what is known, said more weakly -/
def Imp (ρ ρ' : Rho) : Prop := ∀ (σ : St) (H : Hp), EnvOk ρ σ H → EnvOk ρ' σ H
theorem imp_nil : Imp [] [] := fun _ _ h => h
theorem eok_tail {o : Option VP} {ρ : Rho} {u : Option V} {σ : St} {H : Hp} (h : EnvOk (o :: ρ) (u :: σ) H) : EnvOk ρ σ H := ⟨fun i P q => h.at_ (i + 1) P q, fun i P q => h.mono (i + 1) P q, Nat.succ.inj h.len⟩
theorem imp_none {o : Option VP} {ρ ρ' : Rho} (h : Imp ρ ρ') : Imp (o :: ρ) (none :: ρ') := fun σ H e => by
  cases σ with
  | nil => have := e.len; simp at this
  | cons u σ => exact eok_none (h σ H (eok_tail e))
theorem imp_some {P P' : VP} {ρ ρ' : Rho} (k : ∀ v H, P v H → P' v H) (m : Mono P') (h : Imp ρ ρ') : Imp (some P :: ρ) (some P' :: ρ') := fun σ H e => by
  cases σ with
  | nil => have := e.len; simp at this
  | cons u σ =>
    obtain ⟨v, a, b⟩ := e.at_ 0 P rfl
    have : u = some v := by simpa using a
    subst this
    exact eok_some (k v H b) m (h σ H (eok_tail e))
theorem imp_id {o : Option VP} {ρ ρ' : Rho} (h : Imp ρ ρ') : Imp (o :: ρ) (o :: ρ') := fun σ H e => by
  cases σ with
  | nil => have := e.len; simp at this
  | cons u σ =>
    cases o with
    | none => exact eok_none (h σ H (eok_tail e))
    | some P =>
      obtain ⟨v, a, b⟩ := e.at_ 0 P rfl
      have : u = some v := by simpa using a
      subst this
      exact eok_some b (e.mono 0 P rfl) (h σ H (eok_tail e))
theorem imp_bs {K : PySem.W.Frag} {H0 : Hp} {d : PyData} {ρ ρ' : Rho} (h : Imp ρ ρ') : Imp (some (Bs H0 (DD K d)) :: ρ) (some (DD K d) :: ρ') := imp_some (fun v H q => dp_mono q.2 d v q.1) mono_dd h
theorem imp_own {K : PySem.W.Frag} {p : Addr} {ds : List PyData} {ρ ρ' : Rho} (h : Imp ρ ρ') : Imp (some (Own K p ds) :: ρ) (some (DD K (.list ds)) :: ρ') := imp_some (fun v H q => own_lst q) mono_dd h
theorem Imp.refl {ρ : Rho} : Imp ρ ρ := fun _ _ h => h
theorem Imp.trans {ρ ρ1 ρ2 : Rho} (a : Imp ρ ρ1) (b : Imp ρ1 ρ2) : Imp ρ ρ2 := fun σ H h => b σ H (a σ H h)

inductive OutM where
  | ret (P : VP)
  | nx (ρ : Rho)
  | bk (ρ : Rho)
def OutM.ok (o : OutM) (p : Addr) (D : Ends) (H : Hp) : Prop := match o with
  | .ret P => ∀ v H', Sx p H H' → P v H' → D.rt v H'
  | .nx ρ' => ∀ (σ' : St) H', Sx p H H' → EnvOk ρ' σ' H' → D.nx σ' H'
  | .bk ρ' => ∀ (σ' : St) H', Sx p H H' → EnvOk ρ' σ' H' → D.bk σ' H'
theorem outm_up {o : OutM} {p : Addr} {D : Ends} {H H' : Hp} (h : o.ok p D H) (e : Sx p H H') : o.ok p D H' := by
  cases o with
  | ret P => exact fun v H2 e2 q => h v H2 (e.trans e2) q
  | nx ρ => exact fun σ H2 e2 q => h σ H2 (e.trans e2) q
  | bk ρ => exact fun σ H2 e2 q => h σ H2 (e.trans e2) q
structure BM (X : Cx) (p : Addr) (sts : List Stmt) (ρ : Rho) (o : OutM) : Prop where
  run : ∀ (σ : St) (H : Hp), EnvOk ρ σ H → Lp p H → ∀ D : Ends, o.ok p D H → sB X sts D σ H
section
variable {X : Cx} {ρ ρ' : Rho} {a b c e tg : Expr} {es : List Expr} {pos pp : Pos} {rest sts els : List Stmt} {st : Stmt} {P : VP} {o : OutM} {p : Addr}
theorem e_w {P P' : VP} (h : EvR X e ρ P) (k : ∀ v H, P v H → P' v H) (m : Mono P') : EvR X e ρ P' := ⟨m, fun σ H eo Q q => h.run σ H eo Q fun v H1 e1 pv => q v H1 e1 (k v H1 pv)⟩
theorem e_bs {H0 : Hp} {d : PyData} (h : EvR X e ρ (Bs H0 (DD X.K d))) : EvD X e ρ d := e_w h (fun v H q => dp_mono q.2 d v q.1) mono_dd
theorem e_own {ds : List PyData} (h : EvR X e ρ (Own X.K p ds)) : EvD X e ρ (.list ds) := e_w h (fun v H q => own_lst q) mono_dd
/-- a name whose data is as it was at H0 -/
theorem e_nb (i : Nat) {x : Str} {d : PyData} {H0 : Hp} (hρ : ρ[i]? = some (some (Bs H0 (DD X.K d)))) (hN : X.N[i]? = some x := by rfl) (hv : Vis X.env.scope x := by first | exact Or.inl rfl | exact Or.inr (Or.inl rfl) | exact Or.inr (Or.inr rfl)) (hd : (x == ("__debug__" : Str)) = false := by decide)
    (hcd : (x == ("__classdict__" : Str)) = false := by decide) : EvD X (.Name x pos) ρ d := e_bs (e_nP i hρ mono_bs hN hv hd hcd)
theorem e_no (i : Nat) {x : Str} {ds : List PyData} {p : Addr} (hρ : ρ[i]? = some (some (Own X.K p ds))) (hN : X.N[i]? = some x := by rfl) (hv : Vis X.env.scope x := by first | exact Or.inl rfl | exact Or.inr (Or.inl rfl) | exact Or.inr (Or.inr rfl)) (hd : (x == ("__debug__" : Str)) = false := by decide)
    (hcd : (x == ("__classdict__" : Str)) = false := by decide) : EvD X (.Name x pos) ρ (.list ds) := e_own (e_nP i hρ mono_own hN hv hd hcd)
theorem bm_nil : BM X p [] ρ (.nx ρ) := ⟨fun σ H eo l D k => sB_of pss_nil (k σ H (Sx.refl l) eo)⟩
theorem bm_bk : BM X p (.Break pos :: rest) ρ (.bk ρ) := ⟨fun σ H eo l D k => sB_of (pss_cons ps_break pss_s) (k σ H (Sx.refl l) eo)⟩
theorem bm_imp (i : Imp ρ ρ') (h : BM X p sts ρ' o) : BM X p sts ρ o := ⟨fun σ H eo l D k => h.run σ H (i σ H eo) l D k⟩
/-- one statement that writes nothing to what stood -/
structure SR (X : Cx) (st : Stmt) (ρ ρ' : Rho) : Prop where
  run : ∀ (σ : St) (H : Hp), EnvOk ρ σ H → ∀ D : Ends, (∀ (σ' : St) H', Same H H' → EnvOk ρ' σ' H' → D.nx σ' H') → sS X st D σ H
theorem b_s {o : Out} (h : SR X st ρ ρ') (k : BR X rest ρ' o) : BR X (st :: rest) ρ o := ⟨fun σ H eo D q => sB_of (pss_cons ps_s pss_s) (h.run σ H eo _ fun σ1 H1 e1 eo1 => k.run σ1 H1 eo1 D (out_up q e1))⟩
theorem bm_s (h : SR X st ρ ρ') (k : BM X p rest ρ' o) : BM X p (st :: rest) ρ o := ⟨fun σ H eo l D q => sB_of (pss_cons ps_s pss_s) (h.run σ H eo _ fun σ1 H1 e1 eo1 => k.run σ1 H1 eo1 (lp_up l e1) D (outm_up q (sx_of l e1)))⟩
theorem b_imp {o : Out} (i : Imp ρ ρ') (h : BR X sts ρ' o) : BR X sts ρ o := ⟨fun σ H eo D k => h.run σ H (i σ H eo) D k⟩
theorem sr_imp (i : Imp ρ ρ') {ρ2 : Rho} (h : SR X st ρ' ρ2) : SR X st ρ ρ2 := ⟨fun σ H eo D k => h.run σ H (i σ H eo) D k⟩
theorem sr_set (i : Nat) {x : Str} {pos' : Pos} (h : EvR X e ρ P) (hN : X.N.Nodup) (hi : X.N[i]? = some x := by rfl) (hx : Loc X.env.scope x := by first | exact Or.inl rfl | exact Or.inr rfl)
    (hs : swapsWith e (some (.Name x pos')) pos.line X.env = pure false := by rfl) (hf : X.fn x = true ∨ X.env.scope.names.lookup x = some .local := by first | exact .inl rfl | exact .inr rfl) :
    SR X (.Assign [.Name x pos'] e pos) ρ (ρ.set i (some P)) := ⟨fun σ H eo D q => sS_of (ps_set hN hi hx pe_s hs hf) (h.run σ H eo _ fun v H1 e1 pv => q _ H1 e1 ((eo.up e1).set i pv h.mono))⟩
theorem sr_tg {js : List Nat} {d : PyData} {ds : List PyData} (h : EvD X e ρ d) (ht : TgR X tg js d ds) (hs : swapsWithSole [tg] e pos.line X.env = pure false := by rfl) (hw : swappedStores [tg] e X.env = pure none := by rfl)
    (h1 : (assignEach [tg] X.env).map (·.2) = [assign tg X.env] := by rfl) : SR X (.Assign [tg] e pos) ρ (setR X.K ρ js ds) := ⟨fun σ H eo D q => sS_of (ps_asg pe_s pg_s hs hw h1) (h.run σ H eo _ fun v H1 e1 pv =>
      ht.run v σ H1 pv _ fun vs pvs => q _ H1 e1 (eok_setL (eo.up e1) pvs))⟩
theorem sr_addI (i : Nat) {x : Str} {pos' : Pos} {n m : Int} (h : EvD X e ρ (.int m)) (hN : X.N.Nodup) (hρ : ρ[i]? = some (some (DD X.K (.int n))) := by rfl) (hi : X.N[i]? = some x := by rfl) (hx : Loc X.env.scope x := by first | exact Or.inl rfl | exact Or.inr rfl)
    (hf : X.fn x = true ∨ X.env.scope.names.lookup x = some .local := by first | exact .inl rfl | exact .inr rfl) : SR X (.AugAssign (.Name x pos') .Add e pos) ρ (ρ.set i (some (DD X.K (.int (n + m))))) := ⟨fun σ H eo D q => sS_of (ps_aug hN hi hx pe_s ip_add hf) (by
    obtain ⟨v, hv, pv⟩ := eo.at_ i _ hρ
    cases pv
    refine ⟨_, hv, h.run σ H eo _ fun u H1 e1 pu => ?_⟩
    cases pu
    exact ⟨n, m, rfl, rfl, q _ H1 e1 ((eo.up e1).set i (.int _) mono_dd)⟩)⟩
theorem sr_if {k : Bool} (h : EvT X c ρ k) (h1 : k = true → BR X sts ρ (.nx ρ')) (h2 : k = false → BR X els ρ (.nx ρ')) : SR X (.If c sts els pos) ρ ρ' :=
  ⟨fun σ H eo D q => sS_of (ps_if pt_s pss_s pss_s) (h.run σ H eo _ fun H1 e1 => by
    cases k with
    | true =>
      show sB X sts _ σ H1
      exact (h1 rfl).run σ H1 (eo.up e1) D fun σ2 H2 e2 eo2 => q σ2 H2 (e1.trans e2) eo2
    | false =>
      show sB X els _ σ H1
      exact (h2 rfl).run σ H1 (eo.up e1) D fun σ2 H2 e2 eo2 => q σ2 H2 (e1.trans e2) eo2)⟩
/-- a for that writes nothing to what stood -/
theorem sr_for {js : List Nat} {iter : Expr} {body : List Stmt} {α : Type} {xs : List α} {emb : α → PyData} {parts : α → List PyData} (inv : Nat → Rho) (hp : PassesOwn (model X.prog X.w) X.A X.env X.xe) (hc : X.calm = true) (hsrc : SrcR X tg iter ρ (xs.map emb)) (h0 : Imp ρ (inv 0))
    (htg : ∀ x ∈ xs, TgR X tg js (emb x) (parts x)) (hb : ∀ (i : Nat) (x : α), xs[i]? = some x → BR X body (setR X.K (inv i) js (parts x)) (.nx (inv (i + 1))))
    (hs : ∀ x, foldedSetIterable iter X.env x = pure x := by intro _; rfl) : SR X (.For tg iter body [] pos) ρ (inv xs.length) := by
  obtain ⟨wi, hpi, hwi⟩ := hsrc.ex
  refine ⟨fun σ H eo D q => sS_of (ps_for hp hc hpi pg_s pss_s hs) (hwi σ H eo _ fun J H1 e1 G w hG gst => ?_)⟩
  rw [List.length_map] at w
  refine for_it w (fun i σ' H' => Same H1 H' ∧ EnvOk (inv i) σ' H') ⟨Same.refl _, h0 _ _ (eo.up e1)⟩ (fun i σ' H' _ p => gst _ _ p.1 hG) ?_ (fun σ' H' p => q σ' H' (e1.trans p.1) p.2)
  rintro i v σ1 Ha Hb hi ⟨s1, eo1⟩ ⟨sab, d, hd, pd⟩
  have hx : xs[i]? = some xs[i] := List.getElem?_eq_getElem hi
  rw [List.getElem?_map, hx] at hd
  have hd : emb xs[i] = d := Option.some.inj hd
  subst hd
  refine (htg _ (List.getElem_mem hi)).run v σ1 Hb pd _ fun vs pvs => ?_
  exact (hb i _ hx).run _ Hb (eok_setL (eo1.up sab) pvs) _ fun σ2 H2 e2 eo2 => ⟨(s1.trans sab).trans e2, eo2⟩
theorem bm_ret (h : EvR X e ρ P) : BM X p (.Return (some e) pos :: rest) ρ (.ret P) := ⟨fun σ H eo l D k => sB_of (pss_cons (ps_ret pe_s) pss_s) (h.run σ H eo _ fun v H1 e1 pv => k v H1 (sx_of l e1) pv)⟩
/-- the rest writes nothing more -/
theorem bm_brn (h : BR X sts ρ (.nx ρ')) : BM X p sts ρ (.nx ρ') := ⟨fun σ H eo l D k => h.run σ H eo D fun σ1 H1 e1 eo1 => k σ1 H1 (sx_of l e1) eo1⟩
theorem bm_brr (h : BR X sts ρ (.ret P)) : BM X p sts ρ (.ret P) := ⟨fun σ H eo l D k => h.run σ H eo D fun v H1 e1 pv => k v H1 (sx_of l e1) pv⟩
/-- if: both ways told by the test -/
theorem bm_ift (h : EvT X c ρ true) (h1 : BM X p sts ρ (.nx ρ')) (k : BM X p rest ρ' o) : BM X p (.If c sts els pos :: rest) ρ o := ⟨fun σ H eo l D q => sB_of (pss_cons (ps_if pt_s pss_s pss_s) pss_s) (h.run σ H eo _ fun H1 e1 => by
  show sB X sts _ σ H1
  exact h1.run σ H1 (eo.up e1) (lp_up l e1) _ fun σ2 H2 e2 eo2 => k.run σ2 H2 eo2 e2.1 D (outm_up q ((sx_of l e1).trans e2)))⟩
theorem bm_iff (h : EvT X c ρ false) (h1 : BM X p els ρ (.nx ρ')) (k : BM X p rest ρ' o) : BM X p (.If c sts els pos :: rest) ρ o := ⟨fun σ H eo l D q => sB_of (pss_cons (ps_if pt_s pss_s pss_s) pss_s) (h.run σ H eo _ fun H1 e1 => by
  show sB X els _ σ H1
  exact h1.run σ H1 (eo.up e1) (lp_up l e1) _ fun σ2 H2 e2 eo2 => k.run σ2 H2 eo2 e2.1 D (outm_up q ((sx_of l e1).trans e2)))⟩
theorem bm_ifb (h : EvT X c ρ true) (h1 : BM X p sts ρ (.bk ρ')) : BM X p (.If c sts els pos :: rest) ρ (.bk ρ') := ⟨fun σ H eo l D q => sB_of (pss_cons (ps_if pt_s pss_s pss_s) pss_s) (h.run σ H eo _ fun H1 e1 => by
  show sB X sts _ σ H1
  exact h1.run σ H1 (eo.up e1) (lp_up l e1) _ fun σ2 H2 e2 eo2 => q σ2 H2 ((sx_of l e1).trans e2) eo2)⟩
theorem eok_keep {ρ : Rho} {σ : St} {H H' : Hp} (h : EnvOk ρ σ H) (l : Lp p H) (s : Sx p H H') (ka : KA p ρ) : EnvOk ρ σ H' :=
  ⟨fun i P q => let ⟨v, a, b⟩ := h.at_ i P q; ⟨v, a, ka P (List.mem_of_getElem? q) v H H' l s b⟩, h.mono, h.len⟩
theorem set_id {α : Type} {xs : List α} {i : Nat} {x : α} (h : xs[i]? = some x) : xs.set i x = xs := by
  refine List.ext_getElem? fun j => ?_
  by_cases e : i = j
  · subst e
    rw [List.getElem?_set_self (by
      have := List.getElem?_eq_some_iff.mp h
      exact this.1), h]
  · rw [List.getElem?_set_ne e]
/-- name.append(e) -/
theorem bm_app (i : Nat) {x : Str} {p1 p2 p3 : Pos} {ds : List PyData} {d : PyData} (h : EvD X e ρ d) (hn : noL d = true) (hns : noLs ds = true) (hz : ds.length ≤ 1000) (k : BM X p rest (ρ.set i (some (Own X.K p (ds ++ [d])))) o) (ka : KA p (ρ.set i none)) (hρ : ρ[i]? = some (some (Own X.K p ds)) := by rfl)
    (hN : X.N[i]? = some x := by rfl) (hv : Vis X.env.scope x := by first | exact Or.inl rfl | exact Or.inr (Or.inl rfl) | exact Or.inr (Or.inr rfl)) (hdb : (x == ("__debug__" : Str)) = false := by decide)
    (hcd : (x == ("__classdict__" : Str)) = false := by decide) (hst : starEach (e :: []) X.env = (false, eval e X.env) :: starEach [] X.env := by rfl) (hbase : attributeBase (.Name x p1) "append" X.env (eval (.Name x p1) X.env) = eval (.Name x p1) X.env := by rfl) (hline : (p2.endLine == p3.line) = true := by rfl)
    (hfew : ((backTo p3 (starEach (e :: []) X.env)).all (fun x => !x.1) && (backToKw p3 (keywordEach [] X.env)).all (fun x => x.1.isSome)
      && decide ((e :: []).length + ([] : List Keyword).length + (if ([] : List Keyword).isEmpty then 0 else 1) < 30)) = true := by rfl) (hpl : (backTo p3 (starEach [] X.env)).any (·.1) = false := by rfl)
    (hs : swapsWith (.Call (.Attribute (.Name x p1) "append" p2) [e] [] p3) none pos.line X.env = pure false := by rfl) : BM X p (.Expr (.Call (.Attribute (.Name x p1) "append" p2) [e] [] p3) pos :: rest) ρ o := by
  refine ⟨fun σ H eo l D q => sB_of (pss_cons (ps_expr (pe_bm PySem.F.plainAttrs_list PySem.F.slot_list_append PySem.F.type_list_append mt_append (pe_var hN hv hdb hcd) (pa_cons pe_s pa_nil hst) hbase hfew hline hst hpl) hs) pss_s) ?_⟩
  obtain ⟨v, hv1, rfl, L, hL, dL⟩ := eo.at_ i _ hρ
  refine ⟨_, hv1, .inl ⟨rfl, _, SqL.of hL⟩, h.run σ H eo _ fun y H1 e1 py => ?_⟩
  have hL1 := e1 _ _ hL
  have dL1 := dpa_mono e1 _ _ dL
  have eo1 := eo.up e1
  have l1 : Lp p H1 := ⟨L, hL1⟩
  have sx : Sx p H1 (upd H1 p (.lst (L ++ [y]))) := sx_upd
  have tm := sx_tsm l1 sx
  refine ⟨p, L, y, rfl, rfl, hL1, by rw [dpa_len dL, sizeLine_eq]; omega, k.run σ _ ?_ sx.1 D (outm_up q ((sx_of l e1).trans sx))⟩
  have ek := eok_keep (eo1.drop (o := some (.ref p)) i) l1 sx ka
  have eko := ek.set (v := .ref p) (P := Own X.K p (ds ++ [d])) i ⟨rfl, _, upd_same, dpa_app (dpa_t tm _ _ hns dL1) (.cons (dp_t tm _ _ hn py) .nil)⟩ mono_own
  rw [List.set_set, List.set_set, set_id hv1] at eko
  exact eko
/-- walks that go on while p is written -/
structure SrcM (X : Cx) (p : Addr) (tg iter : Expr) (ρ : Rho) (ds : List PyData) : Prop where
  ex : ∃ wi, PI X tg iter wi ∧ ∀ (σ : St) (H : Hp), EnvOk ρ σ H → Lp p H → ∀ R : It → Hp → Prop,
    (∀ J H1, Same H H1 → ∀ G : Hp → Prop, Walk J ds.length G (fun i Ha v Hb => Same Ha Hb ∧ ∃ d, ds[i]? = some d ∧ Dp X.K Hb v d) → G H1 → (∀ Ha Hb, Lp p Ha → Sx p Ha Hb → G Ha → G Hb) → R J H1) → wi σ H R
/-- a for that writes to p alone -/
theorem bm_for {js : List Nat} {iter : Expr} {body : List Stmt} {α : Type} {xs : List α} {emb : α → PyData} {parts : α → List PyData} (inv : Nat → Rho) (hp : PassesOwn (model X.prog X.w) X.A X.env X.xe) (hc : X.calm = true) (hsrc : SrcM X p tg iter ρ (xs.map emb)) (h0 : Imp ρ (inv 0))
    (htg : ∀ x ∈ xs, TgR X tg js (emb x) (parts x)) (hb : ∀ (i : Nat) (x : α), xs[i]? = some x → BM X p body (setR X.K (inv i) js (parts x)) (.nx (inv (i + 1)))) (k : BM X p rest (inv xs.length) o)
    (hs : ∀ x, foldedSetIterable iter X.env x = pure x := by intro _; rfl) : BM X p (.For tg iter body [] pos :: rest) ρ o := by
  obtain ⟨wi, hpi, hwi⟩ := hsrc.ex
  refine ⟨fun σ H eo l D q => sB_of (pss_cons (ps_for hp hc hpi pg_s pss_s hs) pss_s) (hwi σ H eo l _ fun J H1 e1 G w hG gst => ?_)⟩
  rw [List.length_map] at w
  have l1 := lp_up l e1
  refine for_it w (fun i σ' H' => Sx p H1 H' ∧ EnvOk (inv i) σ' H') ⟨Sx.refl l1, h0 _ _ (eo.up e1)⟩ (fun i σ' H' _ p' => gst _ _ l1 p'.1 hG) ?_ (fun σ' H' p' => k.run σ' H' p'.2 p'.1.1 D (outm_up q ((sx_of l e1).trans p'.1)))
  rintro i v σ1 Ha Hb hi ⟨s1, eo1⟩ ⟨sab, d, hd, pd⟩
  have hx : xs[i]? = some xs[i] := List.getElem?_eq_getElem hi
  rw [List.getElem?_map, hx] at hd
  have hd : emb xs[i] = d := Option.some.inj hd
  subst hd
  refine (htg _ (List.getElem_mem hi)).run v σ1 Hb pd _ fun vs pvs => ?_
  exact (hb i _ hx).run _ Hb (eok_setL (eo1.up sab) pvs) (lp_up s1.1 sab) _ fun σ2 H2 e2 eo2 => ⟨(s1.trans (sx_of s1.1 sab)).trans e2, eo2⟩
/-- a for that breaks at turn j, having written nothing before -/
theorem bm_forB {js : List Nat} {iter : Expr} {body : List Stmt} {α : Type} {xs : List α} {emb : α → PyData} {parts : α → List PyData} {ρ2 : Rho} (inv : Nat → Rho) (j : Nat) (hj : j < xs.length) (hp : PassesOwn (model X.prog X.w) X.A X.env X.xe) (hc : X.calm = true) (hsrc : SrcR X tg iter ρ (xs.map emb)) (h0 : Imp ρ (inv 0))
    (htg : ∀ x ∈ xs, TgR X tg js (emb x) (parts x)) (hb : ∀ (i : Nat) (x : α), i < j → xs[i]? = some x → BR X body (setR X.K (inv i) js (parts x)) (.nx (inv (i + 1)))) (hbk : ∀ (x : α), xs[j]? = some x → BM X p body (setR X.K (inv j) js (parts x)) (.bk ρ2)) (k : BM X p rest ρ2 o)
    (hs : ∀ x, foldedSetIterable iter X.env x = pure x := by intro _; rfl) : BM X p (.For tg iter body [] pos :: rest) ρ o := by
  obtain ⟨wi, hpi, hwi⟩ := hsrc.ex
  refine ⟨fun σ H eo l D q => sB_of (pss_cons (ps_for hp hc hpi pg_s pss_s hs) pss_s) (hwi σ H eo _ fun J H1 e1 G w hG gst => ?_)⟩
  rw [List.length_map] at w
  have l1 := lp_up l e1
  refine for_it w (fun i σ' H' => i ≤ j ∧ Same H1 H' ∧ EnvOk (inv i) σ' H') ⟨Nat.zero_le _, Same.refl _, h0 _ _ (eo.up e1)⟩ (fun i σ' H' _ p' => gst _ _ p'.2.1 hG) ?_ (fun σ' H' p' => by omega)
  rintro i v σ1 Ha Hb hi ⟨hij, s1, eo1⟩ ⟨sab, d, hd, pd⟩
  have hx : xs[i]? = some xs[i] := List.getElem?_eq_getElem hi
  rw [List.getElem?_map, hx] at hd
  have hd : emb xs[i] = d := Option.some.inj hd
  subst hd
  refine (htg _ (List.getElem_mem hi)).run v σ1 Hb pd _ fun vs pvs => ?_
  have eob := eok_setL (js := js) (eo1.up sab) pvs
  by_cases z : i < j
  · exact (hb i _ z hx).run _ Hb eob _ fun σ2 H2 e2 eo2 => ⟨by omega, (s1.trans sab).trans e2, eo2⟩
  · have e : i = j := by omega
    subst e
    have lb : Lp p Hb := lp_up l1 (s1.trans sab)
    exact (hbk _ hx).run _ Hb eob lb _ fun σ2 H2 e2 eo2 => k.run σ2 H2 eo2 e2.1 D (outm_up q (((sx_of l e1).trans (sx_of l1 (s1.trans sab))).trans e2))
/-- name = [] : a list of one's own from here on -/
theorem b_new (i : Nat) {x : Str} {pos' : Pos} {o : Out} {om : OutM} (k : ∀ (p : Addr) (H0 : Hp), H0 p = none → BM X p rest ((bsR H0 ρ).set i (some (Own X.K p []))) om) (ho : om = match o with | .ret P => .ret P | .nx ρ' => .nx ρ') (hN : X.N.Nodup) (hi : X.N[i]? = some x := by rfl) (hx : Loc X.env.scope x := by first | exact Or.inl rfl | exact Or.inr rfl)
    (hs : swapsWith (.List [] pp) (some (.Name x pos')) pos.line X.env = pure false := by rfl) (hf : X.fn x = true ∨ X.env.scope.names.lookup x = some .local := by first | exact .inl rfl | exact .inr rfl) :
    BR X (.Assign [.Name x pos'] (.List [] pp) pos :: rest) ρ o := ⟨fun σ H eo D q => sB_of (pss_cons (ps_set hN hi hx (pe_lst pa_nil) hs hf) pss_s) ⟨by rw [sizeLine_eq]; exact Nat.zero_le _, fun p hp => by
      have e1 : Same H (upd H p (.lst [])) := same_new hp
      refine (k p H hp).run _ _ ((eo.base e1).set i (v := .ref p) ⟨rfl, [], upd_same, .nil⟩ mono_own) ⟨[], upd_same⟩ D ?_
      subst ho
      cases o with
      | ret P => exact fun v H' s pv => q v H' (sx_same hp e1 s) pv
      | nx ρ' => exact fun σ' H' s pe => q σ' H' (sx_same hp e1 s) pe⟩⟩
end
end SH

/-! ## SHZ -/
set_option Elab.async false
set_option linter.all false
set_option maxRecDepth 100000
set_option maxHeartbeats 4000000
/-! zip of three tuples, enumerate of a tuple -/
namespace SH
open PySem PySem.Spec PyProof.Rows L2
open AutoSeq1 (wpAny_loadPart')
theorem meets_enumerate_newB1 {v : Value} {o : Obj} {H : Heap → Prop} (B : Begins v o H) :
    Meets (Builtin.«enumerate.__new__» ⟨[.type "enumerate", v], []⟩) (fun _ R s => H s.heap ∧
      R (.ok (.ret (.ref (s.heap.push o).objs.size))) { s with heap := (s.heap.push o).push { cls := .type "enumerate", data := .fields #[.none, .bool false, .ref s.heap.objs.size, rawInt 0, .none, .none] } }) :=
  .of_wp fun prog w A R s h => by
    obtain ⟨hp, g, d, tk, os⟩ := s; obtain ⟨h1, h⟩ := h
    have hsub := sub_enumerate
    have q1 : ∀ {A' : Around} {E : Value → Shared → Prop} {Q : Value → Shared → Prop}, Q (.ref hp.objs.size) ⟨hp.push o, g, d, tk, os⟩ → wpAny (model prog w) A' (pyIter v) Q E ⟨hp, g, d, tk, os⟩ :=
      fun q => B.iter prog w _ _ ⟨hp, g, d, tk, os⟩ _ h1 q
    wp_walk using q1
    refine wpAny_stack_any fun st => wpAny_pure ?_
    split
    · rename_i c _ _ _ _ _
      cases (c == Value.type "enumerate")
      · wp_walk using q1
        exact ⟨_, rfl, h⟩
      · wp_walk using q1
        exact ⟨_, rfl, h⟩
    · wp_walk using q1
      exact ⟨_, rfl, h⟩
section
variable {prog : Program} {w : World} {A : Around} {E : Value → Shared → Prop} {s : Shared}
theorem call_enumT {l : Addr} {items : Array Value} {Q : Value → Shared → Prop} (hL : s.heap.IsTuple l items)
    (h : ∀ h', IsEnum h' (s.heap.objs.size + 1) s.heap.objs.size 0 .none → h'.IsTupleIter s.heap.objs.size l 0 → h'.objs.size = s.heap.objs.size + 2 →
      (∀ b o, s.heap.get? b = some o → h'.get? b = some o) → Q (.ref (s.heap.objs.size + 1)) { s with heap := h' }) :
    wpAny (model prog w) A (call (.type "enumerate") [.ref l]) Q E s := by
  refine callType_new F.called_enumerate (by decide) (F.typeCall_enumerate_1 _) (F.newCall_enumerate_1 _) (fun obj => F.args_object_init_2 obj _) F.entry_enumerate_new
    (meets_enumerate_newB1 (begins_tuple l items)) ⟨hL, ?_⟩
  have hz : (s.heap.push { cls := .type "tuple_iterator", data := .fields #[.ref l, .int 0 0] }).objs.size = s.heap.objs.size + 1 := Heap.size_push ..
  show _ ∧ _
  rw [hz]
  have he : IsEnum ((s.heap.push { cls := .type "tuple_iterator", data := .fields #[.ref l, .int 0 0] }).push
      { cls := .type "enumerate", data := .fields #[.none, .bool false, .ref s.heap.objs.size, rawInt 0, .none, .none] }) (s.heap.objs.size + 1) s.heap.objs.size 0 .none := by
    have := Heap.get?_push_size (s.heap.push { cls := .type "tuple_iterator", data := .fields #[.ref l, .int 0 0] })
      (o := { cls := .type "enumerate", data := .fields #[.none, .bool false, .ref s.heap.objs.size, rawInt 0, .none, .none] }) rfl
    rw [hz] at this; exact this
  refine ⟨⟨_, he, rfl⟩, h _ he ⟨_, Heap.get?_push_of_some _ (Heap.get?_push_size _ rfl), rfl, rfl⟩ (by rw [Heap.size_push, hz]) fun b o x => Heap.get?_push_of_some _ (Heap.get?_push_of_some _ x)⟩
end
/-- the tuple at a, each item in a new pair behind its number -/
def IteT (K : PySem.W.Frag) (a : Addr) : It :=
  ⟨fun i H => ∃ xs x, SqT K H a xs ∧ xs[i]? = some x, fun i H v H' => ∃ T x, v = .ref T ∧ H T = none ∧ H' = upd H T (.tup [.int (i : Nat), x]) ∧ ∀ xs, SqT K H a xs → xs[i]? = some x, fun i H => ∃ xs, SqT K H a xs ∧ xs.length = i⟩
theorem turn_enumT {P : Program} {w : World} {K : PySem.W.Frag} {elts : List Expr} {kk : Nat} {tpos : Pos} (a e it : Addr) (hae : a ≠ e) (hai : a ≠ it) :
    Turn P w K (.Tuple elts kk tpos) (IteT K a) [e, it] e (fun i h => (∃ old, IsEnum h e it ((i : Nat) : Int) old) ∧ h.IsTupleIter it a i ∧ e ≠ it) where
  mem := by simp
  obj := fun i h st b hb => by
    obtain ⟨⟨old, he⟩, ⟨o, ho, hc, hd⟩, _⟩ := st
    have e' : b = e ∨ b = it := by simpa using hb
    rcases e' with z | z
    · rw [z]; exact ⟨_, he, fun v q => nomatch q⟩
    · rw [z]; exact ⟨o, ho, fun v q => by rw [hd] at q; cases q⟩
  keep := fun i h h' st k => let ⟨⟨old, he⟩, hi, hne⟩ := st; ⟨⟨old, k e (by simp) _ he⟩, hi.at fun o q => k it (by simp) o q, hne⟩
  item := by
    intro X hP hw hK hc i pins s σ H E I hf st hg
    subst hP hw hK
    obtain ⟨⟨old, he⟩, hit, hne⟩ := st
    obtain ⟨xs, x, hq, hx⟩ := hg
    obtain ⟨its, rv, p, hz⟩ := I.tuple hq
    have hl := rv.length
    have hi : i < its.toArray.size := by have := (List.getElem?_eq_some_iff.mp hx).1; simp; omega
    have hel : e < s.heap.objs.size := Heap.lt_size he
    have hil : it < s.heap.objs.size := by obtain ⟨_, q, _⟩ := hit; exact Heap.lt_size q
    have hD := Draws.tuple (prog := X.prog) (w := X.w) (A := X.A.in1) (I.ok.hd hc) it a hai its.toArray
    refine wpAny_pyNext_enum_itemD hD he ⟨hit, p⟩ hi hne (by simp [hne, Ne.symm hae]) fun u h' tk hu ho hst hT hsz hk => ?_
    obtain ⟨hit', p'⟩ := hst
    have ru : RelV x u := by
      obtain ⟨u', hu', ru⟩ := rv.get hx
      have : u' = u := by
        have z : its[i]? = some u := by simpa using hu
        rw [hu'] at z
        exact Option.some.inj z
      rw [← this]
      exact ru
    refine ⟨_, rfl, wpAny_letOwnedTupleGo_enum (s := { s with heap := h', toks := tk + 1 }) ho fun h'' he' sb => ?_⟩
    have hT2 : h''.get? s.heap.objs.size = some { cls := .type "tuple", data := .seq #[.int i tk, u] } := (sb.2 _ (Nat.ne_of_gt hel)).trans hT
    have new : ObjOk X.prog X.w (upd H s.heap.objs.size (.tup [.int (i : Nat), x])) h'' s.heap.objs.size (.tup [.int (i : Nat), x]) :=
      ⟨by show 2 ≤ sizeLine; decide, [.int i tk, u], .cons ⟨_, rfl⟩ (.cons ru .nil), ⟨_, hT2, rfl, _, rfl⟩⟩
    have I1 : Inv X pins σ (upd H s.heap.objs.size (.tup [.int (i : Nat), x])) { s with heap := h'', toks := tk + 1 } :=
      I.turnedNew (ch := [e, it]) (fun b ob hb q => (sb.2 b (fun z => hb (by simp [z]))).trans (hk b ob (fun z => hb (by simp [z])) (fun z => hb (by simp [z])) q)) hf (Nat.le_refl _) new
    refine ⟨.ref s.heap.objs.size, _, I1, rfl, ⟨_, x, rfl, I.hok.fresh (Nat.le_refl _), rfl, fun ys hy => by rw [I.tuple_inj hy hq]; exact hx⟩, ⟨⟨u, ?_⟩, hit'.at fun o q => (sb.2 it (Ne.symm hne)).trans q, hne⟩, fun b hb => ?_⟩
    · have e1 : ((i + 1 : Nat) : Int) = (i : Int) + 1 := by omega
      rw [e1]; exact he'
    · have hb' : b < s.heap.objs.size := by
        have e' : b = e ∨ b = it := by simpa using hb
        rcases e' with z | z
        · rw [z]; exact hel
        · rw [z]; exact hil
      rw [upd_ne (Nat.ne_of_lt hb')]
      exact (hf b hb).1
  done := by
    intro X hP hw hK hc i pins s σ H E I hf st hg
    subst hP hw hK
    obtain ⟨⟨old, he⟩, hit, hne⟩ := st
    obtain ⟨xs, hq, hx⟩ := hg
    obtain ⟨its, rv, p, hz⟩ := I.tuple hq
    obtain ⟨f0, f1, f2, f3, f4, f5⟩ := hf it (by simp)
    have hl := rv.length
    have hD := Draws.tuple (prog := X.prog) (w := X.w) (A := X.A.in1) (I.ok.hd hc) it a hai its.toArray
    have hs : its.toArray.size = i := by simp; omega
    rw [hs] at hD
    exact wpAny_pyNext_enum_endD hD he ⟨hit, p⟩ fun h' eb => ⟨rfl, I.turned (t' := s.toks) (fun b o hb q => eb b o hb q) f0 f1 f3 f4 f5⟩
  self := fun A i s Q E st h => let ⟨⟨_, he⟩, _⟩ := st; wpAny_pyIter_enum he h
def iEnumT (K : PySem.W.Frag) (ta : TA) : TI := fun σ H R => ta σ H fun vs H1 => ∃ a xs, vs = [.ref a] ∧ SqT K H1 a xs ∧ R (IteT K a) H1
theorem pi_enumT {X : Cx} {e : Expr} {ta : TA} {p pos tpos : Pos} {elts : List Expr} {kk : Nat} (hg : Gl X "enumerate") (hm : X.mg "enumerate" = none) (ha : PA X [e] ta) (hs : starEach [e] X.env = [(false, eval e X.env)] := by rfl) :
    PI X (.Tuple elts kk tpos) (.Call (.Name "enumerate" p) [e] [] pos) (iEnumT X.K ta) := by
  refine ⟨fun pins s σ H R I h => ?_⟩
  refine Call_ (ld_blt I hg hm boot_enumerate (PyProof.Rows.callWith_type1 (thn (ha.run pos pins s σ H _ I h) fun us s1 ⟨vs, H1, I1, r1, q1⟩ => ?_) hs rfl))
  obtain ⟨a, xs, ex, hq, q⟩ := q1
  subst ex
  cases r1 with
  | cons r rr =>
    cases rr
    cases r
    obtain ⟨its, rv, p', hz⟩ := I1.tuple hq
    have hlt : a < s1.heap.objs.size := p'.lt
    refine call_enumT p' fun h' he hit hsz hk => wpAny_pyIter_enum he ?_
    have I2 : Inv X pins σ H1 { s1 with heap := h' } := I1.kept (t' := s1.toks) hk
    refine ⟨s1.heap.objs.size + 1, [s1.heap.objs.size + 1, s1.heap.objs.size], _, _, H1, rfl, I2, turn_enumT a (s1.heap.objs.size + 1) s1.heap.objs.size (Nat.ne_of_lt (Nat.lt_succ_of_lt hlt)) (Nat.ne_of_lt hlt), ⟨⟨.none, he⟩, hit, Nat.succ_ne_self _⟩, fun b hb => ?_, q⟩
    have e' : b = s1.heap.objs.size + 1 ∨ b = s1.heap.objs.size := by simpa using hb
    have hle : s1.heap.objs.size ≤ b := by
      rcases e' with z | z
      · rw [z]; exact Nat.le_add_right _ _
      · rw [z]; exact Nat.le_refl _
    exact I1.fpOk hle (I1.hok.fresh hle)
theorem walk_enumT {K : PySem.W.Frag} {a : Addr} {xs : List V} : Walk (IteT K a) xs.length (fun H => SqT K H a xs) (YPair (fun i => some (.int (i : Nat))) (fun i => xs[i]?)) := by
  refine ⟨fun i _ hi q => ⟨xs, xs[i], q, by simp [hi]⟩, fun _ q => ⟨xs, q, rfl⟩, fun i H v H' _ q y => ?_⟩
  obtain ⟨T, x, h1, h2, h3, h4⟩ := y
  exact ⟨T, .int (i : Nat), x, h1, h2, h3, rfl, h4 xs q⟩
/-- (0, d), (1, d'), .. -/
def enumD (ds : List PyData) : List PyData := ds.zipIdx.map fun p => .tuple [.int (p.2 : Nat), p.1]
theorem enumD_at {ds : List PyData} {i : Nat} {d : PyData} (h : ds[i]? = some d) : (enumD ds)[i]? = some (.tuple [.int (i : Nat), d]) := by
  unfold enumD
  rw [List.getElem?_map, List.getElem?_zipIdx, h]
  simp
section
variable {X : Cx} {ρ : Rho} {a b c e tg : Expr} {es : List Expr} {pos p : Pos}
theorem src_enumT {ds : List PyData} {elts : List Expr} {kk : Nat} {tpos : Pos} (hm : X.mg "enumerate" = none) (ha : EvD X a ρ (.tuple ds)) (hg : Gl X "enumerate" := by rfl) (hs : starEach [a] X.env = [(false, eval a X.env)] := by rfl) :
    SrcR X (.Tuple elts kk tpos) (.Call (.Name "enumerate" p) [a] [] pos) ρ (enumD ds) := ⟨_, pi_enumT hg hm pa_s hs, fun σ H eo R k => (a_cons ha a_nil (by rw [hs]; rfl)).run σ H eo _ fun vs H1 e1 pvs => by
  obtain ⟨v, rfl, pv⟩ := dpa1 pvs
  obtain ⟨q, xs, rfl, h1, d1⟩ := dp_tup pv
  refine ⟨q, xs, rfl, h1, k _ H1 e1 (fun H => SqT X.K H q xs ∧ DpAll X.K H xs ds) ?_ ⟨h1, d1⟩ fun Ha Hb s g => ⟨sqt_mono s g.1, dpa_mono s _ _ g.2⟩⟩
  have w := walk_enumT (K := X.K) (a := q) (xs := xs)
  have hl : (enumD ds).length = xs.length := by simp [enumD, dpa_len d1]
  rw [hl]
  refine w.mono (fun H g => g.1) fun i H x H' hi g y => ?_
  obtain ⟨T, u, u', rfl, hT, rfl, hx, hy⟩ := y
  have hx : V.int (i : Nat) = u := Option.some.inj hx
  subst hx
  obtain ⟨d, hd, pd⟩ := dpa_get' g.2 hy
  exact ⟨same_new hT, _, enumD_at hd, .tup (.of upd_same) (.cons (.int _) (.cons (dp_mono (same_new hT) _ _ pd) .nil))⟩⟩
theorem src_enumL {ds : List PyData} {elts : List Expr} {kk : Nat} {tpos : Pos} (hm : X.mg "enumerate" = none) (ha : EvD X a ρ (.list ds)) (hg : Gl X "enumerate" := by rfl) (hs : starEach [a] X.env = [(false, eval a X.env)] := by rfl) :
    SrcR X (.Tuple elts kk tpos) (.Call (.Name "enumerate" p) [a] [] pos) ρ (enumD ds) := ⟨_, pi_enum hg hm pa_s hs, fun σ H eo R k => (a_cons ha a_nil (by rw [hs]; rfl)).run σ H eo _ fun vs H1 e1 pvs => by
  obtain ⟨v, rfl, pv⟩ := dpa1 pvs
  obtain ⟨q, xs, rfl, h1, d1⟩ := dp_lst pv
  refine ⟨q, xs, rfl, h1, k _ H1 e1 (fun H => SqL X.K H q xs ∧ DpAll X.K H xs ds) ?_ ⟨h1, d1⟩ fun Ha Hb s g => ⟨s.seq g.1, dpa_mono s _ _ g.2⟩⟩
  have w := walk_enum (K := X.K) (a := q) (xs := xs)
  have hl : (enumD ds).length = xs.length := by simp [enumD, dpa_len d1]
  rw [hl]
  refine w.mono (fun H g => g.1) fun i H x H' hi g y => ?_
  obtain ⟨T, u, u', rfl, hT, rfl, hx, hy⟩ := y
  have hx : V.int (i : Nat) = u := Option.some.inj hx
  subst hx
  obtain ⟨d, hd, pd⟩ := dpa_get' g.2 hy
  exact ⟨same_new hT, _, enumD_at hd, .tup (.of upd_same) (.cons (.int _) (.cons (dp_mono (same_new hT) _ _ pd) .nil))⟩⟩
end
/-! ### three tuples -/
def It3 (K : PySem.W.Frag) (a b c : Addr) : It :=
  ⟨fun i H => ∃ (xs ys zs : List V) (x y u : V), SqT K H a xs ∧ SqT K H b ys ∧ SqT K H c zs ∧ xs.length = ys.length ∧ xs.length = zs.length ∧ xs[i]? = some x ∧ ys[i]? = some y ∧ zs[i]? = some u,
    fun i H v H' => ∃ T x y u, v = .ref T ∧ H T = none ∧ H' = upd H T (.tup [x, y, u]) ∧ (∀ xs, SqT K H a xs → xs[i]? = some x) ∧ (∀ ys, SqT K H b ys → ys[i]? = some y) ∧ ∀ zs, SqT K H c zs → zs[i]? = some u,
    fun i H => ∃ xs ys zs : List V, SqT K H a xs ∧ SqT K H b ys ∧ SqT K H c zs ∧ xs.length = i ∧ ys.length = i ∧ zs.length = i⟩
theorem turn_zip3 {P : Program} {w : World} {K : PySem.W.Frag} {elts : List Expr} {kk : Nat} {tpos : Pos} {a b c z TI TO i1 i2 i3 : Addr} (S : ZipSep3 z TI TO i1 i2 i3 [i1, a] [i2, b] [i3, c]) (h1a : a ≠ i1) (h2b : b ≠ i2) (h3c : c ≠ i3) :
    Turn P w K (.Tuple elts kk tpos) (It3 K a b c) [z, TI, TO, i1, i2, i3] z (fun i h => IsZip h z TI TO .none ∧ IsTupOf3 h TI (.ref i1) (.ref i2) (.ref i3) ∧ (∃ x y u, IsTupOf3 h TO x y u) ∧ h.IsTupleIter i1 a i ∧ h.IsTupleIter i2 b i ∧ h.IsTupleIter i3 c i) where
  mem := by simp
  obj := fun i h st d hd => by
    obtain ⟨hz, hTI, ⟨x, y, u, hTO⟩, ⟨o1, e1, _, d1⟩, ⟨o2, e2, _, d2⟩, ⟨o3, e3, _, d3⟩⟩ := st
    have e' : d = z ∨ d = TI ∨ d = TO ∨ d = i1 ∨ d = i2 ∨ d = i3 := by simpa using hd
    rcases e' with q | q | q | q | q | q
    · rw [q]; exact ⟨_, hz, fun v q => nomatch q⟩
    · rw [q]; exact ⟨_, hTI, fun v q => nomatch q⟩
    · rw [q]; exact ⟨_, hTO, fun v q => nomatch q⟩
    · rw [q]; exact ⟨o1, e1, fun v q => by rw [d1] at q; cases q⟩
    · rw [q]; exact ⟨o2, e2, fun v q => by rw [d2] at q; cases q⟩
    · rw [q]; exact ⟨o3, e3, fun v q => by rw [d3] at q; cases q⟩
  keep := fun i h h' st k => by
    obtain ⟨hz, hTI, ⟨x, y, u, hTO⟩, h1, h2, h3⟩ := st
    exact ⟨k z (by simp) _ hz, k TI (by simp) _ hTI, ⟨x, y, u, k TO (by simp) _ hTO⟩, h1.at fun o q => k i1 (by simp) o q, h2.at fun o q => k i2 (by simp) o q, h3.at fun o q => k i3 (by simp) o q⟩
  item := by
    intro X hP hw hK hc i pins s σ H E I hf st hg
    subst hP hw hK
    obtain ⟨hz, hTI, ⟨x0, y0, u0, hTO⟩, h1, h2, h3⟩ := st
    obtain ⟨xs, ys, zs, x, y, u, hqx, hqy, hqz, ly, lz, hx, hy, hu⟩ := hg
    obtain ⟨its, rv, p, _⟩ := I.tuple hqx
    obtain ⟨its2, rv2, p2, _⟩ := I.tuple hqy
    obtain ⟨its3, rv3, p3, _⟩ := I.tuple hqz
    have l1 := rv.length
    have l2 := rv2.length
    have l3 := rv3.length
    have hi := (List.getElem?_eq_some_iff.mp hx).1
    have D1 := Draws.tuple (prog := X.prog) (w := X.w) (A := X.A.in1) (I.ok.hd hc) i1 a h1a its.toArray
    have D2 := Draws.tuple (prog := X.prog) (w := X.w) (A := X.A.in1) (I.ok.hd hc) i2 b h2b its2.toArray
    have D3 := Draws.tuple (prog := X.prog) (w := X.w) (A := X.A.in1) (I.ok.hd hc) i3 c h3c its3.toArray
    have same : ∀ {ws : List V} {us : List Value} {q : V} {v : Value}, Vals ws us → ws[i]? = some q → us.toArray[i]? = some v → RelV q v := fun {ws us q v} r hq hv => by
      obtain ⟨u', hu', ru⟩ := r.get hq
      have z : us[i]? = some v := by simpa using hv
      rw [hu'] at z
      rw [← Option.some.inj z]
      exact ru
    have lt : ∀ {d o}, s.heap.get? d = some o → d < s.heap.objs.size := fun e => Heap.lt_size e
    have zl := lt hz
    refine wpAny_pyNext_zipD3_item S D1 D2 D3 hz hTI hTO ⟨h1, p⟩ ⟨h2, p2⟩ ⟨h3, p3⟩ (by simp; omega) (by simp; omega) (by simp; omega) fun v1 v2 v3 h' tk y1 y2 y3 z' TO' t1 t2 t3 hT hsz hk => ?_
    have r1 := same rv hx y1
    have r2 := same rv2 hy y2
    have r3 := same rv3 hu y3
    refine ⟨_, rfl, wpAny_letOwnedTupleGo_zip (s := { s with heap := h', toks := tk }) z' fun h'' z'' sb => ?_⟩
    have hT2 : h''.get? s.heap.objs.size = some { cls := .type "tuple", data := .seq #[v1, v2, v3] } := (sb.2 _ (Nat.ne_of_gt zl)).trans hT
    have new : ObjOk X.prog X.w (upd H s.heap.objs.size (.tup [x, y, u])) h'' s.heap.objs.size (.tup [x, y, u]) :=
      ⟨by show 3 ≤ sizeLine; decide, [v1, v2, v3], .cons r1 (.cons r2 (.cons r3 .nil)), ⟨_, hT2, rfl, _, rfl⟩⟩
    have I1 : Inv X pins σ (upd H s.heap.objs.size (.tup [x, y, u])) { s with heap := h'', toks := tk } :=
      I.turnedNew (t' := tk) (ch := [z, TI, TO, i1, i2, i3]) (fun d o hb q => (sb.2 d (fun q' => hb (by simp [q']))).trans (hk d o (fun q' => hb (by simp [q'])) (fun q' => hb (by simp [q'])) (fun q' => hb (by simp [q'])) (fun q' => hb (by simp [q'])) (fun q' => hb (by simp [q'])) q)) hf (Nat.le_refl _) new
    refine ⟨.ref s.heap.objs.size, _, I1, rfl, ⟨_, x, y, u, rfl, I.hok.fresh (Nat.le_refl _), rfl, fun l hl => by rw [I.tuple_inj hl hqx]; exact hx, fun l hl => by rw [I.tuple_inj hl hqy]; exact hy, fun l hl => by rw [I.tuple_inj hl hqz]; exact hu⟩, ⟨z'', ?_, ⟨v1, v2, v3, ?_⟩, ?_, ?_, ?_⟩, fun d hdm => ?_⟩
    · exact (sb.2 _ S.TIz).trans (hk _ _ S.TIz S.TITO S.TIi1 S.TIi2 S.TIi3 hTI)
    · exact (sb.2 _ S.TOz).trans TO'
    · exact t1.1.at fun o q => (sb.2 _ S.zi1.symm).trans q
    · exact t2.1.at fun o q => (sb.2 _ S.zi2.symm).trans q
    · exact t3.1.at fun o q => (sb.2 _ S.zi3.symm).trans q
    · have hlt : d < s.heap.objs.size := by
        have e' : d = z ∨ d = TI ∨ d = TO ∨ d = i1 ∨ d = i2 ∨ d = i3 := by simpa using hdm
        rcases e' with q | q | q | q | q | q
        · rw [q]; exact zl
        · rw [q]; exact lt hTI
        · rw [q]; exact lt hTO
        · rw [q]; obtain ⟨_, e1, _⟩ := h1; exact lt e1
        · rw [q]; obtain ⟨_, e2, _⟩ := h2; exact lt e2
        · rw [q]; obtain ⟨_, e3, _⟩ := h3; exact lt e3
      rw [upd_ne (Nat.ne_of_lt hlt)]
      exact (hf d hdm).1
  done := by
    intro X hP hw hK hc i pins s σ H E I hf st hg
    subst hP hw hK
    obtain ⟨hz, hTI, ⟨x0, y0, u0, hTO⟩, h1, h2, h3⟩ := st
    obtain ⟨xs, ys, zs, hqx, hqy, hqz, e1, e2, e3⟩ := hg
    obtain ⟨its, rv, p, _⟩ := I.tuple hqx
    obtain ⟨its2, rv2, p2, _⟩ := I.tuple hqy
    obtain ⟨its3, rv3, p3, _⟩ := I.tuple hqz
    have l1 := rv.length
    have l2 := rv2.length
    have l3 := rv3.length
    have D1 := Draws.tuple (prog := X.prog) (w := X.w) (A := X.A.in1) (I.ok.hd hc) i1 a h1a its.toArray
    have D2 := Draws.tuple (prog := X.prog) (w := X.w) (A := X.A.in1) (I.ok.hd hc) i2 b h2b its2.toArray
    have D3 := Draws.tuple (prog := X.prog) (w := X.w) (A := X.A.in1) (I.ok.hd hc) i3 c h3c its3.toArray
    exact wpAny_pyNext_zipD3_end S D1 D2 D3 hz hTI hTO ⟨h1, p⟩ ⟨h2, p2⟩ ⟨h3, p3⟩ (by simp; omega) (by simp; omega) (by simp; omega) (.inl (by simp; omega)) fun h' tk hk => ⟨rfl, I.turnedL (t' := tk) (ch := [z, TI, TO, i1, i2, i3]) (fun d o hb q =>
      hk d o (fun q' => hb (by simp [q'])) (fun q' => hb (by simp [q'])) (fun q' => hb (by simp [q'])) (fun q' => hb (by simp [q'])) (fun q' => hb (by simp [q'])) q) hf⟩
  self := fun A i s Q E st h => wpAny_pyIter_zip st.1 h
def iZip3 (K : PySem.W.Frag) (ta : TA) : TI := fun σ H R => ta σ H fun vs H1 => ∃ a b c xs ys zs, vs = [.ref a, .ref b, .ref c] ∧ SqT K H1 a xs ∧ SqT K H1 b ys ∧ SqT K H1 c zs ∧ R (It3 K a b c) H1
theorem pi_zip3 {X : Cx} {e e2 e3 : Expr} {ta : TA} {p pos tpos : Pos} {elts : List Expr} {kk : Nat} (hg : Gl X "zip") (hm : X.mg "zip" = none) (ha : PA X [e, e2, e3] ta)
    (hs : starEach [e, e2, e3] X.env = (false, eval e X.env) :: starEach [e2, e3] X.env := by rfl) (hpl : (backTo pos (starEach [e2, e3] X.env)).any (·.1) = false := by rfl) :
    PI X (.Tuple elts kk tpos) (.Call (.Name "zip" p) [e, e2, e3] [] pos) (iZip3 X.K ta) := by
  refine ⟨fun pins s σ H R I h => ?_⟩
  refine Call_ (ld_blt I hg hm PyProof.Rows.boot_zip (PyProof.Rows.callWith_type1 (thn (ha.run pos pins s σ H _ I h) fun us s1 ⟨vs, H1, I1, r1, q1⟩ => ?_) hs hpl))
  obtain ⟨a, b, c, xs, ys, zs, ex, hqx, hqy, hqz, q⟩ := q1
  subst ex
  cases r1 with
  | cons r rr =>
    cases rr with
    | cons r' rr =>
      cases rr with
      | cons r'' rr =>
        cases rr
        cases r
        cases r'
        cases r''
        obtain ⟨its, rv, p1, _⟩ := I1.tuple hqx
        obtain ⟨its2, rv2, p2, _⟩ := I1.tuple hqy
        obtain ⟨its3, rv3, p3, _⟩ := I1.tuple hqz
        have la : a < s1.heap.objs.size := p1.lt
        have lb : b < s1.heap.objs.size := p2.lt
        have lc : c < s1.heap.objs.size := p3.lt
        refine zip_begins3 (begins_tuple a its.toArray) (begins_tuple b its2.toArray) (begins_tuple c its3.toArray) p1 p2 p3 fun h' hz hTI hTO g1 g2 g3 hsz hk => wpAny_pyIter_zip hz ?_
        have I2 : Inv X pins σ H1 { s1 with heap := h' } := I1.kept (t' := s1.toks) hk
        refine ⟨s1.heap.objs.size + 5, [s1.heap.objs.size + 5, s1.heap.objs.size + 3, s1.heap.objs.size + 4, s1.heap.objs.size, s1.heap.objs.size + 1, s1.heap.objs.size + 2], _, _, H1, rfl, I2, turn_zip3 (zip_sep3 (by simpa using la) (by simpa using lb) (by simpa using lc)) (Nat.ne_of_lt la) (Nat.ne_of_lt (Nat.lt_succ_of_lt lb)) (Nat.ne_of_lt (Nat.lt_succ_of_lt (Nat.lt_succ_of_lt lc))),
          ⟨hz, hTI, ⟨_, _, _, hTO⟩, ⟨_, g1, rfl, rfl⟩, ⟨_, g2, rfl, rfl⟩, ⟨_, g3, rfl, rfl⟩⟩, fun d hd => ?_, q⟩
        have e' : d = s1.heap.objs.size + 5 ∨ d = s1.heap.objs.size + 3 ∨ d = s1.heap.objs.size + 4 ∨ d = s1.heap.objs.size ∨ d = s1.heap.objs.size + 1 ∨ d = s1.heap.objs.size + 2 := by simpa using hd
        have hle : s1.heap.objs.size ≤ d := by
          rcases e' with z | z | z | z | z | z
          · rw [z]; exact Nat.le_add_right _ _
          · rw [z]; exact Nat.le_add_right _ _
          · rw [z]; exact Nat.le_add_right _ _
          · rw [z]; exact Nat.le_refl _
          · rw [z]; exact Nat.le_add_right _ _
          · rw [z]; exact Nat.le_add_right _ _
        exact I1.fpOk hle (I1.hok.fresh hle)
def Y3 (xs ys zs : Nat → Option V) : Nat → Hp → V → Hp → Prop := fun i H v H' => ∃ T x y u, v = .ref T ∧ H T = none ∧ H' = upd H T (.tup [x, y, u]) ∧ xs i = some x ∧ ys i = some y ∧ zs i = some u
theorem walk_zip3 {K : PySem.W.Frag} {a b c : Addr} {xs ys zs : List V} (hy : xs.length = ys.length) (hz : xs.length = zs.length) : Walk (It3 K a b c) xs.length (fun H => SqT K H a xs ∧ SqT K H b ys ∧ SqT K H c zs) (Y3 (fun i => xs[i]?) (fun i => ys[i]?) (fun i => zs[i]?)) := by
  refine ⟨fun i _ hi q => ?_, fun _ q => ⟨xs, ys, zs, q.1, q.2.1, q.2.2, rfl, hy.symm, hz.symm⟩, fun i H v H' _ q y => ?_⟩
  · exact ⟨xs, ys, zs, xs[i], ys[i]'(by omega), zs[i]'(by omega), q.1, q.2.1, q.2.2, hy, hz, by simp [hi], by simp [show i < ys.length by omega], by simp [show i < zs.length by omega]⟩
  · obtain ⟨T, x, y, u, h1, h2, h3, h4, h5, h6⟩ := y
    exact ⟨T, x, y, u, h1, h2, h3, h4 xs q.1, h5 ys q.2.1, h6 zs q.2.2⟩
def zip3D : List PyData → List PyData → List PyData → List PyData
  | x :: xs, y :: ys, z :: zs => .tuple [x, y, z] :: zip3D xs ys zs
  | _, _, _ => []
theorem zip3D_at : ∀ {xs ys zs : List PyData} {i : Nat} {x y z : PyData}, xs[i]? = some x → ys[i]? = some y → zs[i]? = some z → (zip3D xs ys zs)[i]? = some (.tuple [x, y, z])
  | [], _, _, _, _, _, _, h, _, _ => by simp at h
  | _ :: _, [], _, _, _, _, _, _, h, _ => by simp at h
  | _ :: _, _ :: _, [], _, _, _, _, _, _, h => by simp at h
  | a :: xs, b :: ys, c :: zs, 0, x, y, z, h1, h2, h3 => by
    simp at h1 h2 h3
    subst h1 h2 h3
    rfl
  | a :: xs, b :: ys, c :: zs, i + 1, x, y, z, h1, h2, h3 => by
    have ih := zip3D_at (xs := xs) (ys := ys) (zs := zs) (i := i) (x := x) (y := y) (z := z) (by simpa using h1) (by simpa using h2) (by simpa using h3)
    simpa [zip3D] using ih
theorem zip3D_len : ∀ {xs ys zs : List PyData}, xs.length = ys.length → xs.length = zs.length → (zip3D xs ys zs).length = xs.length
  | [], _, _, _, _ => by simp [zip3D]
  | _ :: _, [], _, h, _ => by simp at h
  | _ :: _, _ :: _, [], _, h => by simp at h
  | a :: xs, b :: ys, c :: zs, h1, h2 => by
    simp only [zip3D, List.length_cons]
    rw [zip3D_len (by simpa using h1) (by simpa using h2)]
section
variable {X : Cx} {ρ : Rho} {a b c e tg : Expr} {es : List Expr} {pos p : Pos}
theorem src_zip3 {ds ds' ds'' : List PyData} {elts : List Expr} {kk : Nat} {tpos : Pos} (hm : X.mg "zip" = none) (ha : EvD X a ρ (.tuple ds)) (hb : EvD X b ρ (.tuple ds')) (hc : EvD X c ρ (.tuple ds'')) (l1 : ds.length = ds'.length) (l2 : ds.length = ds''.length)
    (hg : Gl X "zip" := by rfl) (hs : starEach [a, b, c] X.env = (false, eval a X.env) :: starEach [b, c] X.env := by rfl) (hs2 : starEach [b, c] X.env = (false, eval b X.env) :: starEach [c] X.env := by rfl)
    (hs3 : starEach [c] X.env = (false, eval c X.env) :: starEach [] X.env := by rfl) (hpl : (backTo pos (starEach [b, c] X.env)).any (·.1) = false := by rfl) :
    SrcR X (.Tuple elts kk tpos) (.Call (.Name "zip" p) [a, b, c] [] pos) ρ (zip3D ds ds' ds'') := ⟨_, pi_zip3 hg hm pa_s hs hpl, fun σ H eo R k => (a_cons ha (a_cons hb (a_cons hc a_nil hs3) hs2) hs).run σ H eo _ fun vs H1 e1 pvs => by
  cases pvs with
  | cons pv pvs =>
    obtain ⟨v', v'', rfl, pv', pv''⟩ := dpa2 pvs
    obtain ⟨q, xs, rfl, h1, d1⟩ := dp_tup pv
    obtain ⟨q', ys, rfl, h2, d2⟩ := dp_tup pv'
    obtain ⟨q'', zs, rfl, h3, d3⟩ := dp_tup pv''
    have e1' := dpa_len d1
    have e2' := dpa_len d2
    have e3' := dpa_len d3
    refine ⟨q, q', q'', xs, ys, zs, rfl, h1, h2, h3, k _ H1 e1 (fun H => (SqT X.K H q xs ∧ SqT X.K H q' ys ∧ SqT X.K H q'' zs) ∧ DpAll X.K H xs ds ∧ DpAll X.K H ys ds' ∧ DpAll X.K H zs ds'') ?_ ⟨⟨h1, h2, h3⟩, d1, d2, d3⟩ fun Ha Hb s g => ⟨⟨sqt_mono s g.1.1, sqt_mono s g.1.2.1, sqt_mono s g.1.2.2⟩, dpa_mono s _ _ g.2.1, dpa_mono s _ _ g.2.2.1, dpa_mono s _ _ g.2.2.2⟩⟩
    have w := walk_zip3 (K := X.K) (a := q) (b := q') (c := q'') (xs := xs) (ys := ys) (zs := zs) (by omega) (by omega)
    rw [zip3D_len l1 l2, ← e1']
    refine w.mono (fun H g => g.1) fun i H x H' hi g y => ?_
    obtain ⟨T, u, u', u'', rfl, hT, rfl, hx, hy, hz⟩ := y
    obtain ⟨d, hd, pd⟩ := dpa_get' g.2.1 hx
    obtain ⟨d', hd', pd'⟩ := dpa_get' g.2.2.1 hy
    obtain ⟨d'', hd'', pd''⟩ := dpa_get' g.2.2.2 hz
    exact ⟨same_new hT, _, zip3D_at hd hd' hd'', .tup (.of upd_same) (.cons (dp_mono (same_new hT) _ _ pd) (.cons (dp_mono (same_new hT) _ _ pd') (.cons (dp_mono (same_new hT) _ _ pd'') .nil)))⟩⟩
end
end SH

/-! ## SHF -/
set_option Elab.async false
set_option linter.all false
set_option maxRecDepth 100000
set_option maxHeartbeats 2000000
namespace SH
open PySem PySem.Spec PyProof.Rows L2
section
variable {X : Cx} {ρ : Rho} {a b c e tg : Expr} {es : List Expr} {pos pp p1 p2 p3 : Pos} {p : Addr}
theorem srcm_rangeN {n : Nat} (hm : X.mg "range" = none) (ha : EvD X a ρ (.int (n : Int))) (hn : n ≤ 1000000) (hg : Gl X "range" := by rfl) (hs : starEach [a] X.env = [(false, eval a X.env)] := by rfl) :
    SrcM X p tg (.Call (.Name "range" pp) [a] [] pos) ρ ((List.range n).map fun (i : Nat) => PyData.int (0 + (i : Int))) := ⟨_, pi_range1 hg hm pa_s hs, fun σ H eo _ R k => (a_cons ha a_nil (by rw [hs]; rfl)).run σ H eo _ fun vs H1 e1 pvs => by
  obtain ⟨v, rfl, pv⟩ := dpa1 pvs
  cases pv
  refine ⟨n, rfl, by omega, by omega, k _ H1 e1 (fun _ => True) ?_ trivial fun _ _ _ _ _ => trivial⟩
  have hl : ((List.range n).map fun (i : Nat) => PyData.int (0 + (i : Int))).length = ((n : Int).toNat) := by simp
  rw [hl]
  refine walk_range.mono (fun _ _ => trivial) fun i H x H' hi _ y => ?_
  obtain ⟨rfl, rfl⟩ := y
  exact ⟨Same.refl _, _, rangeD_at (lo := 0) (n := n) (by simpa using hi), .int _⟩⟩
/-- range(n, -1, -1): n .. 0 -/
theorem src_down {i : Int} {n : Nat} (hm : X.mg "range" = none) (ha : EvD X a ρ (.int i)) (hb : EvD X b ρ (.int (-1))) (hc : EvD X c ρ (.int (-1))) (hi : (i + 1).toNat = n) (h0 : -1 ≤ i) (hn : i ≤ 1000000) (hg : Gl X "range" := by rfl)
    (hs : starEach [a, b, c] X.env = (false, eval a X.env) :: starEach [b, c] X.env := by rfl) (hs2 : starEach [b, c] X.env = (false, eval b X.env) :: starEach [c] X.env := by rfl) (hs3 : starEach [c] X.env = (false, eval c X.env) :: starEach [] X.env := by rfl)
    (hpl : (backTo pos (starEach [b, c] X.env)).any (·.1) = false := by rfl) :
    SrcR X tg (.Call (.Name "range" pp) [a, b, c] [] pos) ρ ((List.range n).map fun (k : Nat) => PyData.int (i - (k : Int))) := ⟨_, pi_range3 hg hm pa_s hs hpl, fun σ H eo R k => (a_cons ha (a_cons hb (a_cons hc a_nil hs3) hs2) hs).run σ H eo _ fun vs H1 e1 pvs => by
  cases pvs with
  | cons pv pvs =>
    obtain ⟨v', v'', rfl, pv', pv''⟩ := dpa2 pvs
    cases pv
    cases pv'
    cases pv''
    have rg := RgC.neg (i := i) (j := -1) (by omega) (by omega) (by omega) (by omega)
    have hz : (i - -1).toNat = n := by omega
    rw [hz] at rg
    refine ⟨i, -1, -1, n, rfl, rg, k _ H1 e1 (fun _ => True) ?_ trivial fun _ _ _ _ => trivial⟩
    have hl : ((List.range n).map fun (k : Nat) => PyData.int (i - (k : Int))).length = n := by simp
    rw [hl]
    refine walk_rangeC.mono (fun _ _ => trivial) fun j H x H' hj _ y => ?_
    obtain ⟨rfl, rfl⟩ := y
    refine ⟨Same.refl _, .int (i - j), by simp [hj], ?_⟩
    have : i + (j : Int) * -1 = i - j := by omega
    show Dp X.K _ (V.int (i + (j : Int) * -1)) (.int (i - j))
    rw [this]
    exact .int _⟩
theorem srcm_enumT {ds : List PyData} {elts : List Expr} {kk : Nat} {tpos : Pos} (hm : X.mg "enumerate" = none) (ha : EvD X a ρ (.tuple ds)) (hn : noLs ds = true) (hg : Gl X "enumerate" := by rfl) (hs : starEach [a] X.env = [(false, eval a X.env)] := by rfl) :
    SrcM X p (.Tuple elts kk tpos) (.Call (.Name "enumerate" pp) [a] [] pos) ρ (enumD ds) := ⟨_, pi_enumT hg hm pa_s hs, fun σ H eo _ R k => (a_cons ha a_nil (by rw [hs]; rfl)).run σ H eo _ fun vs H1 e1 pvs => by
  obtain ⟨v, rfl, pv⟩ := dpa1 pvs
  obtain ⟨q, xs, rfl, h1, d1⟩ := dp_tup pv
  refine ⟨q, xs, rfl, h1, k _ H1 e1 (fun H => SqT X.K H q xs ∧ DpAll X.K H xs ds) ?_ ⟨h1, d1⟩ fun Ha Hb l s g => ⟨sqt_t (sx_tsm l s) g.1, dpa_t (sx_tsm l s) _ _ hn g.2⟩⟩
  have w := walk_enumT (K := X.K) (a := q) (xs := xs)
  have hl : (enumD ds).length = xs.length := by simp [enumD, dpa_len d1]
  rw [hl]
  refine w.mono (fun H g => g.1) fun i H x H' hi g y => ?_
  obtain ⟨T, u, u', rfl, hT, rfl, hx, hy⟩ := y
  have hx : V.int (i : Nat) = u := Option.some.inj hx
  subst hx
  obtain ⟨d, hd, pd⟩ := dpa_get' g.2 hy
  exact ⟨same_new hT, _, enumD_at hd, .tup (.of upd_same) (.cons (.int _) (.cons (dp_mono (same_new hT) _ _ pd) .nil))⟩⟩
/-- enumerate of a list that stood before p -/
theorem srcm_enumL {ds : List PyData} {elts : List Expr} {kk : Nat} {tpos : Pos} {H0 : Hp} (h0 : H0 p = none) (hm : X.mg "enumerate" = none) (ha : EvR X a ρ (Bs H0 (DD X.K (.list ds)))) (hg : Gl X "enumerate" := by rfl) (hs : starEach (a :: []) X.env = (false, eval a X.env) :: starEach [] X.env := by rfl) :
    SrcM X p (.Tuple elts kk tpos) (.Call (.Name "enumerate" pp) [a] [] pos) ρ (enumD ds) := ⟨_, pi_enum hg hm (pa_cons pe_s pa_nil hs) (by rw [hs]; rfl), fun σ H eo _ R k => ha.run σ H eo _ fun v H1 e1 pv => by
  obtain ⟨pv, e0⟩ := pv
  obtain ⟨q, xs, rfl, h1, d1⟩ := dp_lst pv
  refine ⟨q, xs, rfl, e0.seq h1, k _ H1 e1 (fun H => Same H0 H) ?_ e0 fun Ha Hb l s g => sx_same h0 g s⟩
  have w := walk_enum (K := X.K) (a := q) (xs := xs)
  have hl : (enumD ds).length = xs.length := by simp [enumD, dpa_len d1]
  rw [hl]
  refine w.mono (fun H g => g.seq h1) fun i H x H' hi g y => ?_
  obtain ⟨T, u, u', rfl, hT, rfl, hx, hy⟩ := y
  have hx : V.int (i : Nat) = u := Option.some.inj hx
  subst hx
  obtain ⟨d, hd, pd⟩ := dpa_get' (dpa_mono g _ _ d1) hy
  exact ⟨same_new hT, _, enumD_at hd, .tup (.of upd_same) (.cons (.int _) (.cons (dp_mono (same_new hT) _ _ pd) .nil))⟩⟩
/-- an item of a list that stood at H0 -/
theorem e_ixLB {ds : List PyData} {i : Int} {d : PyData} {H0 : Hp} (ha : EvR X a ρ (Bs H0 (DD X.K (.list ds)))) (hb : EvD X b ρ (.int i)) (h : atI ds i = some d) (hs : PlainIx b := by exact fun _ _ => rfl) : EvR X (.Subscript a b pos) ρ (Bs H0 (DD X.K d)) :=
  ev_of (pe_ix ix_list pe_s pe_s hs) mono_bs fun σ H eo Q q => ha.run σ H eo _ fun x H1 e1 px => hb.run σ H1 (eo.up e1) _ fun y H2 e2 py => by
    obtain ⟨px, e0⟩ := px
    obtain ⟨p1, xs, rfl, h1, d1⟩ := dp_lst px
    cases py
    obtain ⟨v, g1, g2⟩ := at_dpa d1 h
    exact ⟨p1, xs, i, v, rfl, rfl, (e0.trans e2).seq h1, g1, q v H2 (e1.trans e2) ⟨g2, e0.trans e2⟩⟩
end
/-! ### min of alike data, index -/
theorem min_mem (x : PyData) : ∀ (xs : List PyData), PySem.W.minD x xs ∈ x :: xs := by
  intro xs
  unfold PySem.W.minD
  induction xs generalizing x with
  | nil => exact List.mem_cons_self
  | cons y ys ih =>
    rw [List.foldl_cons]
    have h := ih (if PySem.W.dataLt y x = true then y else x)
    rcases List.mem_cons.mp h with e | h
    · rw [e]
      split
      · exact List.mem_cons_of_mem _ List.mem_cons_self
      · exact List.mem_cons_self
    · exact List.mem_cons_of_mem _ (List.mem_cons_of_mem _ h)
theorem vals_rev : ∀ {xs : List V} {us : List Value} {i : Nat} {u : Value}, Vals xs us → us[i]? = some u → ∃ x, xs[i]? = some x ∧ RelV x u
  | _, _, _, _, .nil, e => by simp at e
  | _, _, 0, _, .cons r _, e => by
    have e : _ = _ := Option.some.inj e
    subst e
    exact ⟨_, rfl, r⟩
  | _, _, i + 1, _, .cons _ t, e => by
    obtain ⟨x, a, b⟩ := vals_rev (i := i) t (by simpa using e)
    exact ⟨x, by simpa using a, b⟩
theorem plain_mem : ∀ {ds : List PyData} {d : PyData}, PyData.plainAll ds = true → d ∈ ds → d.plain = true
  | e :: ds, d, h, m => by
    have h : e.plain = true ∧ PyData.plainAll ds = true := by simpa [PyData.plainAll] using h
    rcases List.mem_cons.mp m with rfl | m
    · exact h.1
    · exact plain_mem h.2 m
def rMinD (K : PySem.W.Frag) : List V → Hp → VK → Prop := fun vs H Q => ∃ (a : Addr) (xs : List V) (d : PyData) (ds : List PyData), vs = [V.ref a] ∧ SqL K H a xs ∧ DpAll K H xs (d :: ds) ∧ PySem.W.AlikeAll (d :: ds) ∧ PyData.plainAll (d :: ds) = true ∧ PyData.depthAll (d :: ds) ≤ 60 ∧ ∀ v, Dp K H v (PySem.W.minD d ds) → Q v H
theorem cr_minD {X : Cx} (hc : X.calm = true) (hu : X.A.units + 64 < cLine) : CallR X (.builtin "min") (rMinD X.K) := by
  intro pins s σ H vs us Q I r h
  obtain ⟨a, xs, d, ds, rfl, hs, hd, hal, hpl, hdep, q⟩ := h
  obtain ⟨its, rv, hl, _⟩ := I.list hs
  rw [Vals.ref1 r]
  obtain ⟨as, ra⟩ := Dp.readsAll I (d :: ds) xs its hd rv
  refine PySem.W.min_list_data (I.ok.hd hc) hl.isList (by simpa using ra) hal (by omega) fun i v h' tk bs hv hr hk => ?_
  have hv : its[i]? = some v := by simpa using hv
  obtain ⟨y, hy, ry⟩ := vals_rev rv hv
  obtain ⟨e, he, pe⟩ := dpa_get' hd hy
  have I' := I.kept (t' := tk) hk
  obtain ⟨bs', hr'⟩ := Dp.reads I' e y v pe ry
  have hp : e.plain = true := plain_mem hpl (List.mem_of_getElem? he)
  have ee := PySem.SeqAt.plain_unique e _ _ _ _ hp hr' hr
  rw [ee] at pe
  exact ⟨y, H, I', ry, q y pe⟩
end SH

/-! ## SHP2 -/
set_option Elab.async false
set_option linter.all false
set_option maxRecDepth 100000
set_option maxHeartbeats 2000000
namespace SH
open PySem PySem.Spec PyProof.Rows L2
section
variable {P : Program} {w : World} {K : PySem.W.Frag} {mg : Str → Option Value} {base : Heap}
theorem at0 {w h : Nat} {p : Pic} (S : Shape w h p) (hh : 0 < h) : atI (p.map dI) 0 = some (dI (rowM p 0)) := at_row S (by omega) (by omega)
theorem head_row {w h : Nat} {p : Pic} (S : Shape w h p) (hh : 0 < h) : (p.headD []).length = w := by
  have hp := S.hgt
  cases p with
  | nil => simp at hp; omega
  | cons r q => exact S.wid r List.mem_cons_self
def R_swapped (ds : List PyData) (d : PyData) : Prop := ∃ (p : Pic) (wd hg : Nat), Shape wd hg p ∧ 0 < hg ∧ hg ≤ 100 ∧ wd ≤ 100 ∧ ds = [dP p] ∧ d = dP (swapM p)
theorem sc_swapped : FnScope ["rows", "x", "row"] ["rows"] (defScope s_swapped) := ⟨rfl, rfl, rfl, by decide +kernel, rfl, by decide +kernel, by decide +kernel⟩
theorem ok_swapped (G : Glob K mg) (D : DefAt K mg "swapped" s_swapped ["rows"]) : CalD P w K mg base 1 "swapped" R_swapped := by
  refine cal_pure D sc_swapped (fun ds d h => ?_) fun f cdv A outer s H E hr ds d h => ?_
  · obtain ⟨p, _, _, _, _, _, _, rfl, _⟩ := h
    rfl
  · obtain ⟨p, wd, hg, S, hh, hz, hzw, rfl, rfl⟩ := h
    have hl := S.hgt
    have h0 := at0 S hh
    have r0 : (rowM p 0).length = wd := rowM_len S (by omega) (by omega)
    refine b_retd (e_tuple (ds := (List.range wd).map fun x => dI (p.map fun r => r.getD x 0)) G.tup (e_lcA (own := [("x", 1)]) (js := [1]) (xs := List.range wd) (emb := fun i => .int (0 + (i : Int))) (parts := fun i => [.int (0 + (i : Int))]) (g := fun x => dI (p.map fun r => r.getD x 0)) rfl sc_swapped.nd ?src (blkOk_by (own := [("x", 1)]) (N := ["rows", "x", "row"]) (sc := defScope s_swapped) (by decide +kernel)) (by decide) (by rw [List.length_range]; omega) (fun _ _ => noL_dI _) (fun _ _ _ _ _ _ _ => tg_name 1 sc_swapped.nd) ?el)) ?_
    case src =>
      exact src_rangeN G.range (EvD.is (e_len (ds := (rowM p 0).map .int) G.len (e_ix (ds := p.map dI) (e_n 0 rfl) e_int h0)) (by rw [List.length_map, r0])) (by omega)
    case el =>
      intro s2 H2 C cl fp x hx
      have hx : x < wd := List.mem_range.mp hx
      refine EvD.is (e_tuple (ds := (p.map fun r => r.getD x 0).map .int) G.tup (EvD.is (e_lcA (own := [("row", 2)]) (js := [2]) (xs := p) (emb := dI) (parts := fun r => [dI r]) (g := fun r => .int (r.getD x 0)) rfl sc_swapped.nd (src_tup (e_n 0 rfl)) (blkOk_by (own := [("row", 2)]) (by rfl)) (by decide) (by omega) (fun _ _ => by simp [noL]) (fun _ _ _ _ _ _ _ => tg_name 2 sc_swapped.nd) fun s3 H3 C3 cl3 fp3 r hr3 => ?_) (by rw [List.map_map]; rfl))) rfl
      have e := at_int (ns := r) (i := 0 + (x : Int)) (by omega) (by have := S.wid r hr3; omega)
      rw [show (0 + (x : Int)).toNat = x by omega] at e
      exact e_ix (ds := r.map .int) (e_n 2 rfl) (e_n 1 rfl) e
    · unfold dP swapM
      rw [head_row S hh, List.map_map]
      rfl
theorem abs_d (i : Int) : (PyData.int (if i < 0 then -i else i)) = .int (absM i) := rfl
/-- near(picture[y], x) -/
def R_worth (ds : List PyData) (d : PyData) : Prop := ∃ (p : Pic) (wd hg : Nat) (x y : Int), Shape wd hg p ∧ 0 ≤ x ∧ x < wd ∧ 0 ≤ y ∧ y < hg ∧ ds = [dP p, .int x, .int y] ∧ d = .int (worthM p x y)
theorem sc_worth : FnScope ["picture", "x", "y", "above", "below"] ["picture", "x", "y"] (defScope s_worth_at) := ⟨rfl, rfl, rfl, by decide +kernel, rfl, by decide +kernel, by decide +kernel⟩
theorem ne_of_len {ns : List Int} {n : Nat} {x : Int} (h : ns.length = n) (h0 : 0 ≤ x) (h1 : x < n) : ns ≠ [] := fun z => by
  subst z
  simp at h
  omega
theorem ok_worth (G : Glob K mg) (D : DefAt K mg "worth_at" s_worth_at ["picture", "x", "y"]) (c1 : CalD P w K mg base 1 "near" R_near) : CalD P w K mg base 2 "worth_at" R_worth := by
  refine cal_pure D sc_worth (fun ds d h => ?_) fun f cdv A outer s H E hr ds d h => ?_
  · obtain ⟨p, _, _, x, y, _, _, _, _, _, rfl, _⟩ := h
    rfl
  · obtain ⟨p, wd, hg, x, y, S, x0, x1, y0, y1, rfl, rfl⟩ := h
    have hl := S.hgt
    obtain ⟨u0, u1⟩ := upI_ok (n := hg) y0 y1
    obtain ⟨b0, b1⟩ := dnI_ok (n := hg) y0 y1
    have rl := rowM_len S y0 y1
    have hrow : ∀ {X : Cx} {ρ : Rho} {e1 e2 : Expr} {pos : Pos} (_ : EvD X e1 ρ (dP p)) (_ : EvD X e2 ρ (.int y)) (_ : PlainIx e2), EvD X (.Subscript e1 e2 pos) ρ (dI (rowM p y)) := fun h1 h2 h3 => e_ix (ds := p.map dI) h1 h2 (at_row S y0 y1) h3
    refine b_par 3 4 (e_ix (ds := p.map dI) (e_n 0 rfl) (EvD.is (d' := .int (upI y)) (e_max rfl G.max e_int (e_sub (e_n 2 rfl) e_int)) rfl) (at_row S u0 u1)) (e_ix (ds := p.map dI) (e_n 0 rfl) (EvD.is (d' := .int (dnI p.length y)) (e_min rfl G.min (e_sub (EvD.is (e_len (ds := p.map dI) G.len (e_n 0 rfl)) (by rw [List.length_map])) e_int) (e_add (e_n 2 rfl) e_int)) rfl) (by rw [hl]; exact at_row S b0 b1)) ?_ rfl sc_worth.nd
    refine b_retd (e_add (e_abs G.abs (e_sub (e_call c1 hr (by decide) rfl (a_cons (hrow (e_n 0 rfl) (e_n 2 rfl) fun _ _ => rfl) (a_cons (e_sub (e_n 1 rfl) e_int) a_nil)) ⟨_, _, ne_of_len rl x0 x1, rfl, rfl⟩) (e_call c1 hr (by decide) rfl (a_cons (hrow (e_n 0 rfl) (e_n 2 rfl) fun _ _ => rfl) (a_cons (e_add (e_n 1 rfl) e_int) a_nil)) ⟨_, _, ne_of_len rl x0 x1, rfl, rfl⟩)))
      (e_abs G.abs (e_sub (e_ix (ds := (rowM p (upI y)).map .int) (e_n 3 rfl) (e_n 1 rfl) (at_cell S u0 u1 x0 x1)) (e_ix (ds := (rowM p (dnI hg y)).map .int) (e_n 4 rfl) (e_n 1 rfl) (at_cell S b0 b1 x0 x1))))) ?_
    unfold worthM joinM absM
    rw [hl]
def R_join (ds : List PyData) (d : PyData) : Prop := ∃ (p : Pic) (wd hg : Nat) (x y : Int), Shape wd hg p ∧ 0 ≤ x ∧ x < wd ∧ 0 ≤ y ∧ y < hg ∧ ds = [dP p, .int x, .int y] ∧ d = .int (joinM p x y)
theorem sc_join : FnScope ["picture", "x", "y"] ["picture", "x", "y"] (defScope s_join_at) := ⟨rfl, rfl, rfl, by decide +kernel, rfl, by decide +kernel, by decide +kernel⟩
theorem ok_join (G : Glob K mg) (D : DefAt K mg "join_at" s_join_at ["picture", "x", "y"]) (c1 : CalD P w K mg base 1 "near" R_near) : CalD P w K mg base 2 "join_at" R_join := by
  refine cal_pure D sc_join (fun ds d h => ?_) fun f cdv A outer s H E hr ds d h => ?_
  · obtain ⟨p, _, _, x, y, _, _, _, _, _, rfl, _⟩ := h
    rfl
  · obtain ⟨p, wd, hg, x, y, S, x0, x1, y0, y1, rfl, rfl⟩ := h
    have rl := rowM_len S y0 y1
    refine b_retd (e_abs G.abs (e_sub (e_call c1 hr (by decide) rfl (a_cons (e_ix (ds := p.map dI) (e_n 0 rfl) (e_n 2 rfl) (at_row S y0 y1)) (a_cons (e_sub (e_n 1 rfl) e_int) a_nil)) ⟨_, _, ne_of_len rl x0 x1, rfl, rfl⟩) (e_call c1 hr (by decide) rfl (a_cons (e_ix (ds := p.map dI) (e_n 0 rfl) (e_n 2 rfl) (at_row S y0 y1)) (a_cons (e_add (e_n 1 rfl) e_int) a_nil)) ⟨_, _, ne_of_len rl x0 x1, rfl, rfl⟩))) ?_
    rfl
def dOi : Option Int → PyData
  | none => .none
  | some b => .int b
def isW (m : Str) : Bool := decide (m = "worth")
def R_cost (ds : List PyData) (d : PyData) : Prop := ∃ (p : Pic) (wd hg : Nat) (x y : Int) (b : Option Int) (m : Str), Shape wd hg p ∧ 0 ≤ x ∧ x < wd ∧ 0 ≤ y ∧ y < hg ∧ (∀ k, b = some k → 0 < y ∧ 0 ≤ k ∧ k < wd ∧ x - 1 ≤ k ∧ k ≤ x + 1) ∧ ds = [dP p, .int x, .int y, dOi b, .str m] ∧ d = .int (costM p x y b (isW m))
theorem sc_cost : FnScope ["picture", "x", "y", "before", "manner", "found", "beside"] ["picture", "x", "y", "before", "manner"] (defScope s_step_cost) := ⟨rfl, rfl, rfl, by decide +kernel, rfl, by decide +kernel, by decide +kernel⟩
theorem ok_cost (G : Glob K mg) (D : DefAt K mg "step_cost" s_step_cost ["picture", "x", "y", "before", "manner"]) (c1 : CalD P w K mg base 2 "worth_at" R_worth) (c2 : CalD P w K mg base 2 "join_at" R_join) : CalD P w K mg base 3 "step_cost" R_cost := by
  refine cal_pure D sc_cost (fun ds d h => ?_) fun f cdv A outer s H E hr ds d h => ?_
  · obtain ⟨p, _, _, x, y, _, _, _, _, _, _, _, _, rfl, _⟩ := h
    rfl
  · obtain ⟨p, wd, hg, x, y, b, m, S, x0, x1, y0, y1, hb, rfl, rfl⟩ := h
    refine b_if_r (ρ' := rho0 K ["picture", "x", "y", "before", "manner", "found", "beside"] [dP p, .int x, .int y, dOi b, .str m]) (t_cmp c_eqS (e_n 4 rfl) e_str) (fun hw => ?_) (fun _ => b_nil) fun hw => ?_
    · have hw : isW m = true := hw
      exact b_retd (e_call c1 hr (by decide) rfl (a_cons (e_n 0 rfl) (a_cons (e_n 1 rfl) (a_cons (e_n 2 rfl) a_nil))) ⟨p, wd, hg, x, y, S, x0, x1, y0, y1, rfl, rfl⟩) (by unfold costM; rw [if_pos hw])
    · have hw : isW m = false := hw
      refine b_set 5 (e_call c2 hr (by decide) rfl (a_cons (e_n 0 rfl) (a_cons (e_n 1 rfl) (a_cons (e_n 2 rfl) a_nil))) ⟨p, wd, hg, x, y, S, x0, x1, y0, y1, rfl, rfl⟩) ?_ sc_cost.nd
      cases b with
      | none =>
        refine b_if_f (EvT.is (b' := false) (t_w (w_and (k' := false) (t_cmp c_isnot (e_n (d := .none) 3 rfl) e_non) fun z => (nomatch z))) rfl) (b_retd (e_n (d := .int (joinM p x y)) 5 rfl) ?_)
        unfold costM
        rw [hw]
        rfl
      | some k =>
        obtain ⟨hy, k0, k1, ka, kb⟩ := hb k rfl
        have hbn : ∀ {X : Cx} {ρ : Rho} {e : Expr}, EvD X e ρ (.int k) → EvD X e ρ (dOi (some k)) := fun h => h
        by_cases hk : k = x
        · subst hk
          refine b_if_f (EvT.is (b' := false) (t_w (w_and (t_cmp c_isnot (e_n (d := .int k) 3 rfl) e_non) fun _ => w_and1 (t_cmp c_neI (e_n (d := .int k) 3 rfl) (e_n 1 rfl)))) ?_) (b_retd (e_n (d := .int (joinM p k y)) 5 rfl) ?_)
          · rw [decide_eq_true rfl]
            rfl
          · unfold costM
            rw [hw]
            show PyData.int (joinM p k y) = .int (if k = k then _ else _)
            rw [if_pos rfl]
        · have hi : 0 ≤ (if k < x then x - 1 else x + 1) ∧ (if k < x then x - 1 else x + 1) < wd := by
            split <;> omega
          refine b_if_n (ρ' := ((rho0 K ["picture", "x", "y", "before", "manner", "found", "beside"] [dP p, .int x, .int y, .int k, .str m]).set 5 (some (DD K (.int (joinM p x y + absM (cellM p (y - 1) x - cellM p y (if k < x then x - 1 else x + 1))))))).set 6 (some (DD K (.int (if k < x then x - 1 else x + 1))))) (EvT.is (b' := true) (t_w (w_and (t_cmp c_isnot (e_n (d := .int k) 3 rfl) e_non) fun _ => w_and1 (t_cmp c_neI (e_n (d := .int k) 3 rfl) (e_n 1 rfl)))) ?_) (fun _ => ?_) (fun z => (nomatch z)) (b_retd (e_n (d := .int (joinM p x y + absM (cellM p (y - 1) x - cellM p y (if k < x then x - 1 else x + 1)))) 5 rfl) ?_)
          · rw [decide_eq_false hk]
            rfl
          · refine b_set 6 (EvD.is (d' := .int (if k < x then x - 1 else x + 1)) (e_if (t_cmp c_lt (e_n (d := .int k) 3 rfl) (e_n 1 rfl)) (fun _ => e_sub (e_n 1 rfl) e_int) (fun _ => e_add (e_n 1 rfl) e_int)) (by by_cases z : k < x <;> simp [z])) ?_ sc_cost.nd
            refine b_addI 5 (n := joinM p x y) (EvD.is (d' := .int (absM (cellM p (y - 1) x - cellM p y (if k < x then x - 1 else x + 1)))) (e_abs G.abs (e_sub (e_ix (ds := (rowM p (y - 1)).map .int) (e_ix (ds := p.map dI) (e_n 0 rfl) (e_sub (e_n 2 rfl) e_int) (at_row S (by omega) (by omega))) (e_n 1 rfl) (at_cell S (by omega) (by omega) x0 x1))
              (e_ix (ds := (rowM p y).map .int) (e_ix (ds := p.map dI) (e_n 0 rfl) (e_n 2 rfl) (at_row S y0 y1)) (e_n 6 rfl) (at_cell S y0 y1 hi.1 hi.2)))) rfl) b_nil sc_cost.nd rfl
          · unfold costM
            rw [hw]
            show _ = PyData.int (if k = x then _ else _)
            rw [if_neg hk]
end
end SH

/-! ## SHP3 -/
set_option Elab.async false
set_option linter.all false
set_option maxRecDepth 100000
set_option maxHeartbeats 2000000
namespace SH
open PySem PySem.Spec PyProof.Rows L2
section
variable {P : Program} {w : World} {K : PySem.W.Frag} {mg : Str → Option Value} {base : Heap}
def R_free (ds : List PyData) (d : PyData) : Prop := ∃ (p : Pic) (wd hg : Nat), Shape wd hg p ∧ hg ≤ 100 ∧ wd ≤ 100 ∧ ds = [dP p] ∧ d = dP (freeM p)
theorem sc_free : FnScope ["picture", "row", "cell"] ["picture"] (defScope s_free_marks) := ⟨rfl, rfl, rfl, by decide +kernel, rfl, by decide +kernel, by decide +kernel⟩
theorem ok_free (G : Glob K mg) (D : DefAt K mg "free_marks" s_free_marks ["picture"]) : CalD P w K mg base 1 "free_marks" R_free := by
  refine cal_pure D sc_free (fun ds d h => ?_) fun f cdv A outer s H E hr ds d h => ?_
  · obtain ⟨p, _, _, _, _, _, rfl, _⟩ := h
    rfl
  · obtain ⟨p, wd, hg, S, hz, hzw, rfl, rfl⟩ := h
    have hl := S.hgt
    refine b_retd (e_tuple (ds := p.map fun r => dI (r.map fun _ => 0)) G.tup (e_lcA (own := [("row", 1)]) (js := [1]) (xs := p) (emb := dI) (parts := fun r => [dI r]) (g := fun r => dI (r.map fun _ => 0)) rfl sc_free.nd (src_tup (e_n 0 rfl)) (blkOk_by (own := [("row", 1)]) (by rfl)) (by decide) (by omega) (fun _ _ => noL_dI _) (fun _ _ _ _ _ _ _ => tg_name 1 sc_free.nd) fun s2 H2 C cl fp r hr2 => ?_)) ?_
    · have := S.wid r hr2
      exact EvD.is (e_tuple (ds := r.map fun _ => .int 0) G.tup (e_lcA (own := [("cell", 2)]) (js := [2]) (xs := r) (emb := .int) (parts := fun c => [.int c]) (g := fun c => .int 0) rfl sc_free.nd (src_tup (e_n 1 rfl)) (blkOk_by (own := [("cell", 2)]) (by rfl)) (by decide) (by omega) (fun _ _ => by simp [noL]) (fun _ _ _ _ _ _ _ => tg_name 2 sc_free.nd) fun _ _ _ _ _ _ _ => e_gi G.free)) (by unfold dI; rw [List.map_map]; rfl)
    · unfold dP freeM
      rw [List.map_map]
      rfl
def R_next (ds : List PyData) (d : PyData) : Prop := ∃ (x : Int) (wd : Nat), ds = [.int x, .int wd] ∧ d = .list ((nextM x wd).map .int)
theorem sc_next : FnScope ["x", "wide", "there"] ["x", "wide"] (defScope s_next_ones) := ⟨rfl, rfl, rfl, by decide +kernel, rfl, by decide +kernel, by decide +kernel⟩
theorem ok_next (G : Glob K mg) (D : DefAt K mg "next_ones" s_next_ones ["x", "wide"]) : CalD P w K mg base 1 "next_ones" R_next := by
  refine cal_pure D sc_next (fun ds d h => ?_) fun f cdv A outer s H E hr ds d h => ?_
  · obtain ⟨x, wd, rfl, _⟩ := h
    rfl
  · obtain ⟨x, wd, rfl, rfl⟩ := h
    exact b_ret (e_lc (own := [("there", 2)]) (js := [2]) (xs := [x - 1, x, x + 1]) (emb := .int) (parts := fun c => [.int c]) (f := fun t => decide (0 ≤ t) && decide (t < (wd : Int))) (g := fun t => .int t) rfl sc_next.nd (src_tup (e_tup (a_cons (e_sub (e_n 0 rfl) e_int) (a_cons (e_n 0 rfl) (a_cons (e_add (e_n 0 rfl) e_int) a_nil))) (by simp))) (blkOk_by (own := [("there", 2)]) (by rfl)) (by decide) (by simp) (fun _ _ => by simp [noL]) (fun _ _ _ _ _ _ _ => tg_name 2 sc_next.nd)
      (fun _ _ _ _ _ t _ => ts_one (t_chain c_le c_lt e_int (e_n 2 rfl) (e_n 1 rfl))) fun _ _ _ _ _ t _ _ => e_n 2 rfl)
def R_add (ds : List PyData) (d : PyData) : Prop := ∃ (a b c e : Int), ds = [dI [a, b], dI [c, e]] ∧ d = dI [a + c, b + e]
theorem sc_add : FnScope ["one", "other"] ["one", "other"] (defScope s_add) := ⟨rfl, rfl, rfl, by decide +kernel, rfl, by decide +kernel, by decide +kernel⟩
theorem ok_add (G : Glob K mg) (D : DefAt K mg "add" s_add ["one", "other"]) : CalD P w K mg base 1 "add" R_add := by
  refine cal_pure D sc_add (fun ds d h => ?_) fun f cdv A outer s H E hr ds d h => ?_
  · obtain ⟨_, _, _, _, rfl, _⟩ := h
    rfl
  · obtain ⟨a, b, c, e, rfl, rfl⟩ := h
    have at0 : ∀ (a b : Int), atI (List.map PyData.int [a, b]) 0 = some (.int a) := fun a b => rfl
    have at1 : ∀ (a b : Int), atI (List.map PyData.int [a, b]) 1 = some (.int b) := fun a b => rfl
    exact b_retd (e_tup (a_cons (e_add (e_ix (ds := [a, b].map .int) (e_n 0 rfl) e_int (at0 a b)) (e_ix (ds := [c, e].map .int) (e_n 1 rfl) e_int (at0 c e))) (a_cons (e_add (e_ix (ds := [a, b].map .int) (e_n 0 rfl) e_int (at1 a b)) (e_ix (ds := [c, e].map .int) (e_n 1 rfl) e_int (at1 c e))) a_nil)) (by simp)) rfl
def SeamOk (w : Nat) (s : List Int) : Prop := ∀ x ∈ s, 0 ≤ x ∧ x < (w : Int)
theorem six_lo {n : Nat} {x : Int} (h0 : 0 ≤ x) (h1 : x ≤ n) (d : Nat) : HT.sIx n d (some x) = x.toNat := by
  unfold HT.sIx
  simp only
  split <;> (try split) <;> omega
theorem cut_pre {α : Type} {xs : List α} {x : Int} (h0 : 0 ≤ x) (h1 : x ≤ xs.length) : cutD xs none (some x) = xs.take x.toNat := by
  unfold cutD
  rw [six_lo h0 h1]
  show (List.drop 0 xs).take (x.toNat - 0) = _
  rw [List.drop_zero, Nat.sub_zero]
theorem cut_post {α : Type} {xs : List α} {x : Int} (h0 : 0 ≤ x) (h1 : x ≤ xs.length) : cutD xs (some x) none = xs.drop x.toNat := by
  unfold cutD
  rw [six_lo h0 h1]
  show (List.drop x.toNat xs).take (xs.length - x.toNat) = _
  rw [List.take_of_length_le (by rw [List.length_drop]; exact Nat.le_refl _)]
theorem map_take' {α β : Type} (f : α → β) (xs : List α) (n : Nat) : (xs.map f).take n = (xs.take n).map f := (List.map_take ..).symm
theorem map_drop' {α β : Type} (f : α → β) (xs : List α) (n : Nat) : (xs.map f).drop n = (xs.drop n).map f := (List.map_drop ..).symm
theorem zip_emb (p : Pic) (s : List Int) : zipD (p.map dI) (s.map .int) = (p.zip s).map fun q => .tuple [dI q.1, .int q.2] := by
  unfold zipD
  rw [List.zip_map, List.map_map]
  rfl
theorem zip_mem {w h : Nat} {p : Pic} (S : Shape w h p) {s : List Int} {q : List Int × Int} (hq : q ∈ p.zip s) : q.1.length = w ∧ q.1 ∈ p ∧ q.2 ∈ s := by
  obtain ⟨h1, h2⟩ := List.of_mem_zip (a := q.1) (b := q.2) hq
  exact ⟨S.wid _ h1, h1, h2⟩
def R_without (ds : List PyData) (d : PyData) : Prop := ∃ (p : Pic) (s : List Int) (wd hg : Nat), Shape wd hg p ∧ hg ≤ 100 ∧ wd ≤ 100 ∧ SeamOk wd s ∧ ds = [dP p, dI s] ∧ d = dP (withoutM p s)
theorem sc_without : FnScope ["rows", "seam", "row", "x"] ["rows", "seam"] (defScope s_without) := ⟨rfl, rfl, rfl, by decide +kernel, rfl, by decide +kernel, by decide +kernel⟩
theorem ok_without (G : Glob K mg) (D : DefAt K mg "without" s_without ["rows", "seam"]) : CalD P w K mg base 1 "without" R_without := by
  refine cal_pure D sc_without (fun ds d h => ?_) fun f cdv A outer s H E hr ds d h => ?_
  · obtain ⟨p, _, _, _, _, _, _, _, rfl, _⟩ := h
    rfl
  · obtain ⟨p, sm, wd, hg, S, hz, hzw, hs, rfl, rfl⟩ := h
    have hl := S.hgt
    refine b_retd (e_tuple (ds := (p.zip sm).map fun q => dI (wayM q.1 q.2)) G.tup (e_lcA (own := [("row", 2), ("x", 3)]) (js := [2, 3]) (xs := p.zip sm) (emb := fun q => .tuple [dI q.1, .int q.2]) (parts := fun q => [dI q.1, .int q.2]) (g := fun q => dI (wayM q.1 q.2)) rfl sc_without.nd (SrcR.is (src_zip G.zip (e_n (d := .tuple (p.map dI)) 0 rfl) (e_n (d := .tuple (sm.map .int)) 1 rfl)) (zip_emb p sm)) (blkOk_by (own := [("row", 2), ("x", 3)]) (by rfl)) (by decide) (by rw [List.length_zip]; omega) (fun _ _ => noL_dI _)
      (fun _ _ _ _ _ _ _ => tg_tup rfl (tgs_cons 2 (tgs_cons 3 tgs_nil sc_without.nd) sc_without.nd)) fun s2 H2 C cl fp q hq => ?_)) ?_
    · obtain ⟨hw, _, hm⟩ := zip_mem S hq
      obtain ⟨x0, x1⟩ := hs _ hm
      exact EvD.is (e_cat (e_sl (ds := q.1.map .int) (e_n 2 rfl) o_none (o_some (e_n (d := .int q.2) 3 rfl))) (e_sl (ds := q.1.map .int) (e_n 2 rfl) (o_some (e_add (e_n (d := .int q.2) 3 rfl) e_int)) o_none) (by
        rw [cut_pre x0 (by rw [List.length_map]; omega), cut_post (by omega) (by rw [List.length_map]; omega), List.length_take, List.length_drop, List.length_map, sizeLine_eq]
        omega)) (by
        rw [cut_pre x0 (by rw [List.length_map]; omega), cut_post (by omega) (by rw [List.length_map]; omega), map_take', map_drop', ← List.map_append]
        rfl)
    · unfold dP withoutM
      rw [List.map_map]
      rfl
theorem zip3_put : ∀ (p : Pic) (s cs : List Int), (∃ zs : List (List Int × Int × Int), zip3D (p.map dI) (s.map .int) (cs.map .int) = zs.map (fun z => .tuple [dI z.1, .int z.2.1, .int z.2.2]) ∧ put3 p s cs = zs.map (fun z => inM z.1 z.2.1 z.2.2) ∧ zs.length ≤ p.length ∧ ∀ z ∈ zs, z.1 ∈ p ∧ z.2.1 ∈ s ∧ z.2.2 ∈ cs)
  | [], s, cs => ⟨[], by simp [zip3D], by simp [put3], by simp, by simp⟩
  | r :: p, [], cs => ⟨[], by simp [zip3D], by simp [put3], by simp, by simp⟩
  | r :: p, x :: s, [] => ⟨[], by simp [zip3D], by simp [put3], by simp, by simp⟩
  | r :: p, x :: s, c :: cs => by
    obtain ⟨zs, h1, h2, h3, h4⟩ := zip3_put p s cs
    refine ⟨(r, x, c) :: zs, by simp [zip3D, h1], by simp [put3, h2], by simpa using h3, fun z hz => ?_⟩
    rcases List.mem_cons.mp hz with rfl | hz
    · exact ⟨List.mem_cons_self, List.mem_cons_self, List.mem_cons_self⟩
    · obtain ⟨a, b, c⟩ := h4 z hz
      exact ⟨List.mem_cons_of_mem _ a, List.mem_cons_of_mem _ b, List.mem_cons_of_mem _ c⟩
def R_put (ds : List PyData) (d : PyData) : Prop := ∃ (p : Pic) (s cs : List Int) (wd hg : Nat), Shape wd hg p ∧ hg ≤ 100 ∧ wd ≤ 100 ∧ SeamOk (wd + 1) s ∧ s.length = hg ∧ cs.length = hg ∧ ds = [dP p, dI s, dI cs] ∧ d = dP (put3 p s cs)
theorem sc_put : FnScope ["rows", "seam", "cells", "row", "x", "cell"] ["rows", "seam", "cells"] (defScope s_put_in) := ⟨rfl, rfl, rfl, by decide +kernel, rfl, by decide +kernel, by decide +kernel⟩
theorem ok_put (G : Glob K mg) (D : DefAt K mg "put_in" s_put_in ["rows", "seam", "cells"]) : CalD P w K mg base 1 "put_in" R_put := by
  refine cal_pure D sc_put (fun ds d h => ?_) fun f cdv A outer s H E hr ds d h => ?_
  · obtain ⟨p, _, _, _, _, _, _, _, _, _, _, rfl, _⟩ := h
    rfl
  · obtain ⟨p, sm, cs, wd, hg, S, hz, hzw, hs, hsl, hcl, rfl, rfl⟩ := h
    have hl := S.hgt
    obtain ⟨zs, z1, z2, z3, z4⟩ := zip3_put p sm cs
    refine b_retd (e_tuple (ds := zs.map fun q => dI (inM q.1 q.2.1 q.2.2)) G.tup (e_lcA (own := [("row", 3), ("x", 4), ("cell", 5)]) (js := [3, 4, 5]) (xs := zs) (emb := fun z => .tuple [dI z.1, .int z.2.1, .int z.2.2]) (parts := fun z => [dI z.1, .int z.2.1, .int z.2.2]) (g := fun q => dI (inM q.1 q.2.1 q.2.2)) rfl sc_put.nd (SrcR.is (src_zip3 (ds := p.map dI) (ds' := sm.map .int) (ds'' := cs.map .int) G.zip (e_n 0 rfl) (e_n 1 rfl) (e_n 2 rfl) (by simp; omega) (by simp; omega)) z1) (blkOk_by (own := [("row", 3), ("x", 4), ("cell", 5)]) (by rfl)) (by decide) (by omega) (fun _ _ => noL_dI _)
      (fun _ _ _ _ _ _ _ => tg_tup rfl (tgs_cons 3 (tgs_cons 4 (tgs_cons 5 tgs_nil sc_put.nd) sc_put.nd) sc_put.nd)) fun s2 H2 C cl fp q hq => ?_)) ?_
    · obtain ⟨hm1, hm2, _⟩ := z4 q hq
      obtain ⟨x0, x1⟩ := hs _ hm2
      have hw := S.wid _ hm1
      exact EvD.is (e_cat (e_cat (e_sl (ds := q.1.map .int) (e_n 3 rfl) o_none (o_some (e_n (d := .int q.2.1) 4 rfl))) (e_tup (a_cons (e_n (d := .int q.2.2) 5 rfl) a_nil) (by simp)) (by
        rw [cut_pre x0 (by rw [List.length_map]; omega), List.length_take, List.length_map, sizeLine_eq]
        simp
        omega)) (e_sl (ds := q.1.map .int) (e_n 3 rfl) (o_some (e_n (d := .int q.2.1) 4 rfl)) o_none) (by
        rw [cut_pre x0 (by rw [List.length_map]; omega), cut_post (by omega) (by rw [List.length_map]; omega), List.length_append, List.length_take, List.length_drop, List.length_map, sizeLine_eq]
        simp
        omega)) (by
        rw [cut_pre x0 (by rw [List.length_map]; omega), cut_post (by omega) (by rw [List.length_map]; omega), map_take', map_drop']
        unfold dI inM
        rw [List.map_append, List.map_append, List.append_assoc]
        rfl)
    · unfold dP
      rw [z2, List.map_map]
      rfl
def R_nextn (ds : List PyData) (d : PyData) : Prop := ∃ (ns : List Int) (x : Int), 0 ≤ x ∧ x < ns.length ∧ ds = [dI ns, .int x] ∧ d = .int (ns.getD (nextI ns.length x).toNat 0)
theorem sc_nextn : FnScope ["row", "x"] ["row", "x"] (defScope s_near_next) := ⟨rfl, rfl, rfl, by decide +kernel, rfl, by decide +kernel, by decide +kernel⟩
theorem ok_nextn (G : Glob K mg) (D : DefAt K mg "near_next" s_near_next ["row", "x"]) : CalD P w K mg base 1 "near_next" R_nextn := by
  refine cal_pure D sc_nextn (fun ds d h => ?_) fun f cdv A outer s H E hr ds d h => ?_
  · obtain ⟨ns, x, _, _, rfl, _⟩ := h
    rfl
  · obtain ⟨ns, x, x0, x1, rfl, rfl⟩ := h
    obtain ⟨h0, h1⟩ := nextI_ok x0 x1
    exact b_ret (e_ix (ds := ns.map .int) (e_n 0 rfl) (EvD.is (d' := .int (nextI ns.length x)) (e_min rfl G.min (e_sub (EvD.is (e_len (ds := ns.map .int) G.len (e_n 0 rfl)) (by rw [List.length_map])) e_int) (e_add (e_n 1 rfl) e_int)) rfl) (at_int h0 h1))
def R_means (ds : List PyData) (d : PyData) : Prop := ∃ (p : Pic) (s : List Int) (wd hg : Nat), Shape wd hg p ∧ hg ≤ 100 ∧ wd ≤ 100 ∧ SeamOk wd s ∧ ds = [dP p, dI s] ∧ d = dI (meansM p s)
theorem sc_means : FnScope ["rows", "seam", "row", "x"] ["rows", "seam"] (defScope s_means) := ⟨rfl, rfl, rfl, by decide +kernel, rfl, by decide +kernel, by decide +kernel⟩
theorem ok_means (G : Glob K mg) (D : DefAt K mg "means" s_means ["rows", "seam"]) (c1 : CalD P w K mg base 1 "near_next" R_nextn) : CalD P w K mg base 2 "means" R_means := by
  refine cal_pure D sc_means (fun ds d h => ?_) fun f cdv A outer s H E hr ds d h => ?_
  · obtain ⟨p, _, _, _, _, _, _, _, rfl, _⟩ := h
    rfl
  · obtain ⟨p, sm, wd, hg, S, hz, hzw, hs, rfl, rfl⟩ := h
    have hl := S.hgt
    refine b_retd (e_tuple (ds := (p.zip sm).map fun q => .int (meanM q.1 q.2)) G.tup (e_lcA (own := [("row", 2), ("x", 3)]) (js := [2, 3]) (xs := p.zip sm) (emb := fun q => .tuple [dI q.1, .int q.2]) (parts := fun q => [dI q.1, .int q.2]) (g := fun q => .int (meanM q.1 q.2)) rfl sc_means.nd (SrcR.is (src_zip G.zip (e_n (d := .tuple (p.map dI)) 0 rfl) (e_n (d := .tuple (sm.map .int)) 1 rfl)) (zip_emb p sm)) (blkOk_by (own := [("row", 2), ("x", 3)]) (by rfl)) (by decide) (by rw [List.length_zip]; omega) (fun _ _ => by simp [noL])
      (fun _ _ _ _ _ _ _ => tg_tup rfl (tgs_cons 2 (tgs_cons 3 tgs_nil sc_means.nd) sc_means.nd)) fun s2 H2 C cl fp q hq => ?_)) ?_
    · obtain ⟨hw, _, hm⟩ := zip_mem S hq
      obtain ⟨x0, x1⟩ := hs _ hm
      exact e_fdiv (e_add (e_ix (ds := q.1.map .int) (e_n 2 rfl) (e_n 3 rfl) (at_int x0 (by omega))) (e_call c1 hr (by decide) rfl (a_cons (e_n (d := dI q.1) 2 rfl) (a_cons (e_n (d := .int q.2) 3 rfl) a_nil)) ⟨q.1, q.2, x0, by omega, rfl, rfl⟩)) e_int ⟨by decide, by decide⟩
    · unfold dI meansM
      rw [List.map_map]
      rfl
end
end SH

/-! ## SHG -/
set_option Elab.async false
set_option linter.all false
set_option maxRecDepth 100000
set_option maxHeartbeats 2000000
namespace SH
open PySem PySem.Spec PyProof.Rows L2
/-- a tracked list -/
def LL (K : PySem.W.Frag) (ds : List PyData) : VP := fun v H => ∃ l L, v = .ref l ∧ H l = some (.lst L) ∧ DpAll K H L ds
theorem mono_ll {K : PySem.W.Frag} {ds : List PyData} : Mono (LL K ds) := fun v H H' e h => by
  obtain ⟨l, L, rfl, h1, h2⟩ := h
  exact ⟨l, L, rfl, e _ _ h1, dpa_mono e _ _ h2⟩
theorem ll_d {K : PySem.W.Frag} {ds : List PyData} {v : V} {H : Hp} (h : LL K ds v H) : Dp K H v (.list ds) := by
  obtain ⟨l, L, rfl, h1, h2⟩ := h
  exact .lst (.of h1) h2
theorem imp_ll {K : PySem.W.Frag} {ds : List PyData} {ρ ρ' : Rho} (h : Imp ρ ρ') : Imp (some (LL K ds) :: ρ) (some (DD K (.list ds)) :: ρ') := imp_some (fun v H q => ll_d q) mono_dd h
theorem imp_bsP {H0 : Hp} {P : VP} {ρ ρ' : Rho} (m : Mono P) (h : Imp ρ ρ') : Imp (some (Bs H0 P) :: ρ) (some P :: ρ') := imp_some (fun v H q => m v _ _ q.2 q.1) m h
section
variable {X : Cx} {ρ ρ' ρ2 : Rho} {a b c e tg : Expr} {es : List Expr} {pos pp p1 p2 p3 : Pos} {p : Addr} {rest sts els : List Stmt}
theorem e_ll {ds : List PyData} (h : EvR X e ρ (LL X.K ds)) : EvD X e ρ (.list ds) := e_w h (fun v H q => ll_d q) mono_dd
theorem e_lstL {ds : List PyData} (h : EvA X es ρ ds) (hl : ds.length ≤ 1000 := by decide) : EvR X (.List es pos) ρ (LL X.K ds) := ev_of (pe_lst pa_s) mono_ll fun σ H eo Q q => h.run σ H eo _ fun vs H1 e1 pvs =>
  ⟨by have := dpa_len pvs; rw [sizeLine_eq]; omega, fun p hp => q _ _ (e1.trans (same_new hp)) ⟨p, vs, rfl, upd_same, dpa_mono (same_new hp) _ _ pvs⟩⟩
theorem e_catL {xs ys : List PyData} (ha : EvR X a ρ (LL X.K xs)) (hb : EvR X b ρ (LL X.K ys)) (hl : xs.length + ys.length ≤ 1000) : EvR X (.BinOp a .Add b pos) ρ (LL X.K (xs ++ ys)) :=
  e_bin op_cat mono_ll (fun u v H px py Q k => by
    obtain ⟨l, us, rfl, h1, d1⟩ := px
    obtain ⟨m, vs, rfl, h2, d2⟩ := py
    refine ⟨l, m, us, vs, rfl, rfl, h1, h2, by rw [dpa_len d1, dpa_len d2, sizeLine_eq]; omega, fun p hp => k _ _ (same_new hp) ⟨p, _, rfl, upd_same, dpa_mono (same_new hp) _ _ (dpa_app d1 d2)⟩⟩) ha hb
theorem b_out (h : BR X sts ρ (.nx ρ')) (i : Imp ρ' ρ2) : BR X sts ρ (.nx ρ2) := ⟨fun σ H eo D k => h.run σ H eo D fun σ1 H1 e1 eo1 => k σ1 H1 e1 (i σ1 H1 eo1)⟩
theorem bm_out (h : BM X p sts ρ (.nx ρ')) (i : Imp ρ' ρ2) : BM X p sts ρ (.nx ρ2) := ⟨fun σ H eo l D k => h.run σ H eo l D fun σ1 H1 e1 eo1 => k σ1 H1 e1 (i σ1 H1 eo1)⟩
theorem bm_outb (h : BM X p sts ρ (.bk ρ')) (i : Imp ρ' ρ2) : BM X p sts ρ (.bk ρ2) := ⟨fun σ H eo l D k => h.run σ H eo l D fun σ1 H1 e1 eo1 => k σ1 H1 e1 (i σ1 H1 eo1)⟩
theorem sr_out {st : Stmt} (h : SR X st ρ ρ') (i : Imp ρ' ρ2) : SR X st ρ ρ2 := ⟨fun σ H eo D k => h.run σ H eo D fun σ1 H1 e1 eo1 => k σ1 H1 e1 (i σ1 H1 eo1)⟩
theorem sr_forE {js : List Nat} {iter : Expr} {body : List Stmt} {α : Type} {xs : List α} {emb : α → PyData} {parts : α → List PyData} (inv : Nat → Rho) (hn : inv xs.length = ρ') (hp : PassesOwn (model X.prog X.w) X.A X.env X.xe) (hc : X.calm = true) (hsrc : SrcR X tg iter ρ (xs.map emb)) (h0 : Imp ρ (inv 0))
    (htg : ∀ x ∈ xs, TgR X tg js (emb x) (parts x)) (hb : ∀ (i : Nat) (x : α), xs[i]? = some x → BR X body (setR X.K (inv i) js (parts x)) (.nx (inv (i + 1))))
    (hs : ∀ x, foldedSetIterable iter X.env x = pure x := by intro _; rfl) : SR X (.For tg iter body [] pos) ρ ρ' := by
  rw [← hn]
  exact sr_for inv hp hc hsrc h0 htg hb hs
/-- a, b = e, [] -/
theorem b_newPar (i j : Nat) {x y : Str} {px py pt pt2 pl : Pos} {kt k2} {d : PyData} {o : Out} {om : OutM} (ha : EvD X a ρ d) (k : ∀ (p : Addr) (H0 : Hp), H0 p = none → BM X p rest ((bsR H0 (ρ.set i (some (DD X.K d)))).set j (some (Own X.K p []))) om) (ho : om = match o with | .ret P => .ret P | .nx ρ' => .nx ρ')
    (hc : X.calm = true) (hN : X.N.Nodup) (hij : i ≠ j := by decide) (hi : X.N[i]? = some x := by rfl) (hj : X.N[j]? = some y := by rfl)
    (hx : X.env.scope.names.lookup x = some .local := by rfl) (hy : X.env.scope.names.lookup y = some .local := by rfl) (hw : swappedStores [.Tuple [.Name x px, .Name y py] kt pt] (.Tuple [a, .List [] pl] k2 pt2) X.env = pure (some [x, y]) := by rfl)
    (hs : swapsWithSole [.Tuple [.Name x px, .Name y py] kt pt] (.Tuple [a, .List [] pl] k2 pt2) pos.line X.env = pure false := by rfl) (hs1 : starEach [a, .List [] pl] X.env = (false, eval a X.env) :: starEach [.List [] pl] X.env := by rfl) (hs2 : starEach [.List [] pl] X.env = (false, eval (.List [] pl) X.env) :: starEach [] X.env := by rfl) :
    BR X (.Assign [.Tuple [.Name x px, .Name y py] kt pt] (.Tuple [a, .List [] pl] k2 pt2) pos :: rest) ρ o := ⟨fun σ H eo D q => sB_of (pss_cons (ps_par hc hN hi hj hij hx hy (pa_cons pe_s (pa_cons (pe_lst pa_nil) pa_nil hs2) hs1) hw hs) pss_s) (ha.run σ H eo _ fun v H1 e1 pv => ⟨by rw [sizeLine_eq]; exact Nat.zero_le _, fun p hp => by
      have e2 : Same H1 (upd H1 p (.lst [])) := same_new hp
      refine ⟨v, .ref p, rfl, ?_⟩
      refine (k p H1 hp).run _ _ ((EnvOk.base ((eo.up e1).set i pv mono_dd) e2).set j (v := .ref p) ⟨rfl, [], upd_same, .nil⟩ mono_own) ⟨[], upd_same⟩ D ?_
      subst ho
      cases o with
      | ret P => exact fun v H' s pv => q v H' (e1.trans (sx_same hp e2 s)) pv
      | nx ρ' => exact fun σ' H' s pe => q σ' H' (e1.trans (sx_same hp e2 s)) pe⟩)⟩
theorem e_minD {d : PyData} {ds : List PyData} (hc : X.calm = true) (hu : X.A.units + 64 < cLine) (hm : X.mg "min" = none) (ha : EvD X e ρ (.list (d :: ds))) (hal : PySem.W.AlikeAll (d :: ds)) (hpl : PyData.plainAll (d :: ds) = true) (hdep : PyData.depthAll (d :: ds) ≤ 60) (hg : Gl X "min" := by rfl) (hs : starEach (e :: []) X.env = (false, eval e X.env) :: starEach [] X.env := by rfl) (hpl2 : (backTo pos (starEach [] X.env)).any (·.1) = false := by rfl) : EvD X (.Call (.Name "min" pp) [e] [] pos) ρ (PySem.W.minD d ds) :=
  e_cb (cr_minD hc hu) hg hm (by decide +kernel) (a_cons ha a_nil hs) (fun vs H pvs Q q => by
    obtain ⟨v, rfl, pv⟩ := dpa1 pvs
    obtain ⟨a, xs, rfl, h1, h2⟩ := dp_lst pv
    exact ⟨a, xs, d, ds, rfl, h1, h2, hal, hpl, hdep, fun v pv => q v H (Same.refl H) pv⟩) (he := hs) (hpl := hpl2)
/-- l.index(x) -/
theorem e_index {ds : List PyData} {d z : PyData} {j : Nat} (hu : X.A.units + 65 < cLine) (ha : EvD X a ρ (.list ds)) (hb : EvD X e ρ d) (sl : SeqAt.shaped (.list ds) = true) (sd : SeqAt.shaped d = true) (hz : ds[j]? = some z) (hzj : PyData.eqv z d = true) (hno : ∀ (m : Nat) (z' : PyData), m < j → ds[m]? = some z' → PyData.eqv z' d = false)
    (hs : starEach (e :: []) X.env = (false, eval e X.env) :: starEach [] X.env := by rfl) (hbase : attributeBase a "index" X.env (eval a X.env) = eval a X.env := by rfl) (hline : (p2.endLine == p3.line) = true := by rfl)
    (hfew : ((backTo p3 (starEach (e :: []) X.env)).all (fun x => !x.1) && (backToKw p3 (keywordEach [] X.env)).all (fun x => x.1.isSome)
      && decide ((e :: []).length + ([] : List Keyword).length + (if ([] : List Keyword).isEmpty then 0 else 1) < 30)) = true := by rfl) (hpl : (backTo p3 (starEach [] X.env)).any (·.1) = false := by rfl) :
    EvD X (.Call (.Attribute a "index" p2) [e] [] p3) ρ (.int (j : Nat)) :=
  ed_of (pe_bm PySem.F.plainAttrs_list PySem.F.slot_list_index PySem.F.type_list_index (mt_indexD hu) pe_s (pa_cons pe_s pa_nil hs) hbase hfew hline hs hpl) fun σ H eo Q q => ha.run σ H eo _ fun v H1 e1 pv => by
    obtain ⟨l, xs, rfl, h1, d1⟩ := dp_lst pv
    refine ⟨.inl ⟨rfl, _, h1⟩, hb.run σ H1 (eo.up e1) _ fun y H2 e2 py => ?_⟩
    exact ⟨l, y, d, ds, j, z, rfl, rfl, dp_mono e2 _ _ (.lst h1 d1), py, sl, sd, hz, hzj, hno, q _ H2 (e1.trans e2) (.int _)⟩
end
end SH

/-! ## SHJ -/
set_option Elab.async false
set_option linter.all false
set_option maxRecDepth 100000
set_option maxHeartbeats 2000000
/-! objects: fields, methods, stands and desks -/
namespace SH
open PySem PySem.Spec PyProof.Rows L2
section
variable {X : Cx} {ρ ρ' : Rho} {a b c e o : Expr} {es : List Expr} {P P' : VP} {pos p apos : Pos} {C : Addr} {f m : Str}
theorem e_fld (c : Cls X.K C) (n : NoAttr X.K C f) (ha : EvR X e ρ P) (mo : Mono P') (h : ∀ v H, P v H → ∃ a dx fs u, v = .ref a ∧ H a = some (.ins C dx fs) ∧ fs.lookup f = some u ∧ P' u H) (hb : attributeBase e f X.env (eval e X.env) = eval e X.env := by rfl) : EvR X (.Attribute e f pos) ρ P' :=
  ev_of (pe_fld pe_s hb) mo fun σ H eo Q k => ha.run σ H eo _ fun v H1 e1 pv => by
    obtain ⟨a, dx, fs, u, rfl, h1, h2, h3⟩ := h v H1 pv
    exact ⟨a, C, dx, fs, u, rfl, h1, c, n, h2, k u H1 e1 h3⟩
/-- a method call at slots σ: positional arguments -/
def tMethA (C : Addr) (m : Str) (sp : Sp) (E : St → XK) (ta : TE) (t : TA) : TE := fun σ H Q => ta σ H fun x H1 => ∃ a dx fs, x = .ref a ∧ H1 a = some (.ins C dx fs) ∧ fs.lookup m = none ∧
  t σ H1 fun vs H2 => sp (x :: vs) H2 Q (E σ)
theorem pe_methA {CX : CXT} {k : Nat} {g : Addr} {fd : FuncData} {ps : List Str} {sp : Sp} {E : St → XK} {ta : TE} {t : TA} {pl : Sem Bool} (he : PE X o ta) (c : Cls X.K C) (hm : Meth X.K C m g) (F : FnOk X.prog X.w X.K X.mg X.base CX k g fd ps sp) (hr : Room k X.A) (hb : Binds X.K fd ps []) (hx : ∀ σ, PassesAt CX X σ (E σ)) (ha : PA X (e :: es) t)
    (hst : starEach (e :: es) X.env = (false, eval e X.env) :: starEach es X.env := by rfl) (hpl : (backTo pos (starEach es X.env)).any (·.1) = false := by rfl)
    (ht : eval (.Call (.Attribute o m apos) (e :: es) [] pos) X.env = (do
      let ov ← eval o X.env
      standAt apos.atName
      let (f, first) ← holding [ov] (getMethod ov m pl)
      callWith pos f first (backTo pos (starEach (e :: es) X.env)) (backToKw pos (keywordEach [] X.env))) := by rfl) :
    PE X (.Call (.Attribute o m apos) (e :: es) [] pos) (tMethA C m sp E ta t) := by
  refine ⟨fun pins s σ H Q I h => ?_⟩
  refine PySem.W.methodCall_KW (pl := pl) (thn (he.run pins s σ H _ I h) fun u s1 ⟨x, H1, I1, rx, a, dx, fs, ex, ea, l, q⟩ => ?_) ht
  subst ex
  obtain rfl : u = Value.ref a := rx
  refine getmeth_ok I1 ea c hm l ?_
  refine PySem.W.callWith_K (first := [.ref a]) (h₀ := X.base) I.ok.mod.kin hm.kp (thn (ha.run pos pins s1 σ H1 _ I1 q) fun us s2 ⟨vs, H2, I2, r, q2⟩ => ⟨I2.kIn, ?_⟩) hst hpl
  exact run_fnS (us := .ref a :: us) (vs := .ref a :: vs) F hr hb (hx σ) I2 (.cons rfl r) q2
theorem pe_methA0 {CX : CXT} {k : Nat} {g : Addr} {fd : FuncData} {ps : List Str} {sp : Sp} {E : St → XK} {ta : TE} {pl : Sem Bool} (he : PE X o ta) (c : Cls X.K C) (hm : Meth X.K C m g) (F : FnOk X.prog X.w X.K X.mg X.base CX k g fd ps sp) (hr : Room k X.A) (hb : Binds X.K fd ps []) (hx : ∀ σ, PassesAt CX X σ (E σ))
    (ht : eval (.Call (.Attribute o m apos) [] [] pos) X.env = (do
      let ov ← eval o X.env
      standAt apos.atName
      let (f, first) ← holding [ov] (getMethod ov m pl)
      callWith pos f first (backTo pos (starEach [] X.env)) (backToKw pos (keywordEach [] X.env))) := by rfl) :
    PE X (.Call (.Attribute o m apos) [] [] pos) (tMethA C m sp E ta tNil) := by
  refine ⟨fun pins s σ H Q I h => ?_⟩
  refine PySem.W.methodCall_KW (pl := pl) (thn (he.run pins s σ H _ I h) fun u s1 ⟨x, H1, I1, rx, a, dx, fs, ex, ea, l, q⟩ => ?_) ht
  subst ex
  obtain rfl : u = Value.ref a := rx
  refine getmeth_ok I1 ea c hm l ?_
  exact PySem.W.callWith_K0 (first := [.ref a]) I1.kIn hm.kp (run_fnS (us := [.ref a]) (vs := [.ref a]) F hr hb (hx σ) I1 (.cons rfl .nil) q)
/-- .. with keywords -/
def tMethK (C : Addr) (m : Str) (n nk : Nat) (sp : Sp) (gV : List V → List V → List V) (E : St → XK) (ta : TE) (t tk : TA) : TE := fun σ H Q => ta σ H fun x H1 => ∃ a dx fs, x = .ref a ∧ H1 a = some (.ins C dx fs) ∧ fs.lookup m = none ∧
  t σ H1 fun vs H2 => tk σ H2 fun zs H3 => vs.length = n ∧ zs.length = nk ∧ sp (gV (x :: vs) zs) H3 Q (E σ)
theorem pe_methK {CX : CXT} {k n : Nat} {g : Addr} {fd : FuncData} {ps ks : List Str} {sp : Sp} {E : St → XK} {ta : TE} {t tk : TA} {kws : List Keyword} {gg : List Value → List Value → List Value} {gV : List V → List V → List V} {pl : Sem Bool} (he : PE X o ta) (c : Cls X.K C) (hm : Meth X.K C m g) (F : FnOk X.prog X.w X.K X.mg X.base CX k g fd ps sp) (hr : Room k X.A) (hb : KBn X.K fd ps (n + 1) ks gg gV) (hx : ∀ σ, PassesAt CX X σ (E σ)) (ha : PA X (e :: es) t) (hkw : PK X kws tk)
    (hall : (backToKw pos (keywordEach kws X.env)).all (·.1.isSome) = true := by rfl) (hks : (backToKw pos (keywordEach kws X.env)).filterMap (·.1) = ks := by rfl)
    (hst : starEach (e :: es) X.env = (false, eval e X.env) :: starEach es X.env := by rfl) (hpl : ((backTo pos (starEach (e :: es) X.env)).any (·.1) || (backToKw pos (keywordEach kws X.env)).any (·.1.isNone)) = false := by rfl)
    (ht : eval (.Call (.Attribute o m apos) (e :: es) kws pos) X.env = (do
      let ov ← eval o X.env
      standAt apos.atName
      let (f, first) ← holding [ov] (getMethod ov m pl)
      callWith pos f first (backTo pos (starEach (e :: es) X.env)) (backToKw pos (keywordEach kws X.env))) := by rfl) :
    PE X (.Call (.Attribute o m apos) (e :: es) kws pos) (tMethK C m n ks.length sp gV E ta t tk) := by
  refine ⟨fun pins s σ H Q I h => ?_⟩
  refine PySem.W.methodCall_KW (pl := pl) (thn (he.run pins s σ H _ I h) fun u s1 ⟨x, H1, I1, rx, a, dx, fs, ex, ea, l, q⟩ => ?_) ht
  subst ex
  obtain rfl : u = Value.ref a := rx
  refine getmeth_ok I1 ea c hm l ?_
  refine PySem.W.callWith_KW (first := [.ref a]) (h₀ := X.base) I.ok.mod.kin hm.kp hall (thn (ha.run pos pins s1 σ H1 _ I1 q) fun us s2 ⟨vs, H2, I2, r, q2⟩ => ?_) hpl hst
  refine thn (hkw.run pos pins s2 σ H2 _ I2 q2) fun ws s3 ⟨zs, H3, I3, rz, l1, l2, q3⟩ => ⟨I3.kIn, ?_⟩
  rw [hks]
  have r1 : Vals (V.ref a :: vs) (Value.ref a :: us) := .cons rfl r
  have r2 := hb.rel r1 rz
  have n1 : (Value.ref a :: us).length = n + 1 := by rw [List.length_cons, ← r.length, l1]
  refine wpAny_call (codeAny_mono (F.run X.A X.stack s3 H3 ⟨Value.ref a :: us, ks.zip ws⟩ (gg (Value.ref a :: us) ws) (gV (V.ref a :: vs) zs) Q (E σ) hr I3.env0 (hb.to s3 _ ws I3.kIn n1 (rz.length.symm.trans l2)) r2 q3) fun r s' hq => ?_)
  cases r with
  | error e => exact hx σ pins H3 s3 e s' I3 hq
  | ok fl =>
    cases fl with
    | ret u => exact I3.after hq
    | next => exact False.elim hq
    | brk => exact False.elim hq
    | cont => exact False.elim hq
end

/-! ### stands, desks -/
abbrev GoneM := Str × List Int × List Int
abbrev DeedM := Str × List Int
structure StandM where
  cells : Pic
  signs : Pic
  gone : List GoneM
  deeds : List DeedM
def dGone (g : GoneM) : PyData := .tuple [.str g.1, dI g.2.1, dI g.2.2]
def dDeed (e : DeedM) : PyData := .tuple (.str e.1 :: e.2.map .int)
def dGs (gs : List GoneM) : PyData := .tuple (gs.map dGone)
def dDs (es : List DeedM) : PyData := .tuple (es.map dDeed)
theorem noL_dGone (g : GoneM) : noL (dGone g) = true := noL_tup fun d hd => by
  rcases List.mem_cons.mp hd with rfl | hd
  · simp [noL]
  rcases List.mem_cons.mp hd with rfl | hd
  · exact noL_dI _
  rcases List.mem_cons.mp hd with rfl | hd
  · exact noL_dI _
  · cases hd
theorem noL_dDeed (e : DeedM) : noL (dDeed e) = true := noL_tup fun d hd => by
  rcases List.mem_cons.mp hd with rfl | hd
  · simp [noL]
  · obtain ⟨i, _, rfl⟩ := List.mem_map.mp hd
    simp [noL]
theorem noL_dGs (g : List GoneM) : noL (dGs g) = true := noL_tmap fun _ _ => noL_dGone _
theorem noL_dDs (g : List DeedM) : noL (dDs g) = true := noL_tmap fun _ _ => noL_dDeed _
def StandAt (K : PySem.W.Frag) (CS : Addr) (S : StandM) : VP := fun v H => ∃ a dx c g o d, v = .ref a ∧ H a = some (.ins CS dx [("cells", c), ("signs", g), ("gone", o), ("deeds", d)]) ∧ Dp K H c (dP S.cells) ∧ Dp K H g (dP S.signs) ∧ Dp K H o (dGs S.gone) ∧ Dp K H d (dDs S.deeds)
theorem mono_stand {K : PySem.W.Frag} {CS : Addr} {S : StandM} : Mono (StandAt K CS S) := fun v H H' e h => by
  obtain ⟨a, dx, c, g, o, d, rfl, h1, h2, h3, h4, h5⟩ := h
  exact ⟨a, dx, c, g, o, d, rfl, e _ _ h1, dp_mono e _ _ h2, dp_mono e _ _ h3, dp_mono e _ _ h4, dp_mono e _ _ h5⟩
def StL (K : PySem.W.Frag) (CS : Addr) (H : Hp) : List V → List StandM → Prop
  | [], [] => True
  | v :: vs, S :: Ss => StandAt K CS S v H ∧ StL K CS H vs Ss
  | _, _ => False
/-- tuples and stands stay -/
structure Kp (H H' : Hp) : Prop where
  t : Tsm H H'
  s : ∀ a C dx v fs, H a = some (.ins C dx (("cells", v) :: fs)) → H' a = some (.ins C dx (("cells", v) :: fs))
theorem Kp.of {H H' : Hp} (e : Same H H') : Kp H H' := ⟨Tsm.of e, fun a C dx v fs h => e _ _ h⟩
theorem Kp.refl {H : Hp} : Kp H H := Kp.of (Same.refl H)
theorem Kp.trans {H H1 H2 : Hp} (a : Kp H H1) (b : Kp H1 H2) : Kp H H2 := ⟨a.t.trans b.t, fun x C dx v fs h => b.s x C dx v fs (a.s x C dx v fs h)⟩
theorem kp_lst {H : Hp} {p : Addr} {L : List V} {o : HO} (h : H p = some (.lst L)) : Kp H (upd H p o) := ⟨tsm_lst h, fun a C dx v fs e => by
  rw [upd_ne (fun z => by subst z; rw [h] at e; cases e)]
  exact e⟩
theorem kp_ins {H : Hp} {p C dx : Addr} {v : V} {fs : List (Str × V)} {o : HO} (h : H p = some (.ins C dx (("origin", v) :: fs))) : Kp H (upd H p o) := ⟨tsm_ins h, fun a C' dx' v' fs' e => by
  rw [upd_ne (fun z => by
    subst z
    rw [h] at e
    have e := Option.some.inj e
    injection e with _ _ e
    injection e with e _
    injection e with e _
    exact absurd e (by decide))]
  exact e⟩
theorem stand_kp {K : PySem.W.Frag} {CS : Addr} {S : StandM} {v : V} {H H' : Hp} (k : Kp H H') (h : StandAt K CS S v H) : StandAt K CS S v H' := by
  obtain ⟨a, dx, c, g, o, d, rfl, h1, h2, h3, h4, h5⟩ := h
  exact ⟨a, dx, c, g, o, d, rfl, k.s _ _ _ _ _ h1, dp_t k.t _ _ (noL_dP _) h2, dp_t k.t _ _ (noL_dP _) h3, dp_t k.t _ _ (noL_dGs _) h4, dp_t k.t _ _ (noL_dDs _) h5⟩
theorem stl_kp {K : PySem.W.Frag} {CS : Addr} {H H' : Hp} (k : Kp H H') : ∀ {L : List V} {dn : List StandM}, StL K CS H L dn → StL K CS H' L dn
  | [], [], _ => trivial
  | _ :: _, _ :: _, h => ⟨stand_kp k h.1, stl_kp k h.2⟩
  | [], _ :: _, h => h.elim
  | _ :: _, [], h => h.elim
theorem stl_len {K : PySem.W.Frag} {CS : Addr} {H : Hp} : ∀ {L : List V} {dn : List StandM}, StL K CS H L dn → L.length = dn.length
  | [], [], _ => rfl
  | _ :: _, _ :: _, h => congrArg Nat.succ (stl_len h.2)
  | [], _ :: _, h => h.elim
  | _ :: _, [], h => h.elim
theorem stl_app {K : PySem.W.Frag} {CS : Addr} {H : Hp} {v : V} {S : StandM} (q : StandAt K CS S v H) : ∀ {L : List V} {dn : List StandM}, StL K CS H L dn → StL K CS H (L ++ [v]) (dn ++ [S])
  | [], [], _ => ⟨q, trivial⟩
  | _ :: _, _ :: _, h => ⟨h.1, stl_app q h.2⟩
  | [], _ :: _, h => h.elim
  | _ :: _, [], h => h.elim
theorem stl_split {K : PySem.W.Frag} {CS : Addr} {H : Hp} {S : StandM} : ∀ {L : List V} {dn : List StandM}, StL K CS H L (dn ++ [S]) → ∃ L0 v, L = L0 ++ [v] ∧ StL K CS H L0 dn ∧ StandAt K CS S v H
  | [v], [], h => ⟨[], v, rfl, trivial, h.1⟩
  | v :: _ :: _, [], h => h.2.elim
  | v :: L, d :: dn, h => by
    obtain ⟨L0, u, rfl, a, b⟩ := stl_split (L := L) (dn := dn) h.2
    exact ⟨v :: L0, u, rfl, ⟨h.1, a⟩, b⟩
  | [], [], h => h.elim
  | [], _ :: _, h => h.elim
/-- a desk's places -/
structure Ptr where
  p : Addr
  ld : Addr
  lu : Addr
def Ptr.own (q : Ptr) (a : Addr) : Prop := a = q.p ∨ a = q.ld ∨ a = q.lu
structure DeskAt (K : PySem.W.Frag) (CD CS : Addr) (q : Ptr) (og : Pic) (m : Str) (S : StandM) (dn : List StandM) (n : Nat) (H : Hp) : Prop where
  ex : ∃ dx o h L U, H q.p = some (.ins CD dx [("origin", o), ("manner", .str m), ("here", h), ("done", .ref q.ld), ("undone", .ref q.lu)]) ∧ Dp K H o (dP og) ∧ StandAt K CS S h H ∧ H q.ld = some (.lst L) ∧ StL K CS H L dn ∧ H q.lu = some (.lst U) ∧ U.length ≤ n ∧ q.ld ≠ q.lu
def DeskV (K : PySem.W.Frag) (CD CS : Addr) (q : Ptr) (og : Pic) (m : Str) (S : StandM) (dn : List StandM) (n : Nat) : VP := fun v H => v = .ref q.p ∧ DeskAt K CD CS q og m S dn n H
theorem desk_keep {K : PySem.W.Frag} {CD CS : Addr} {q : Ptr} {og : Pic} {m : Str} {S : StandM} {dn : List StandM} {n : Nat} {H H' : Hp} (k : Kp H H') (ks : ∀ a o, q.own a → H a = some o → H' a = some o) (h : DeskAt K CD CS q og m S dn n H) : DeskAt K CD CS q og m S dn n H' := by
  obtain ⟨dx, o, hh, L, U, h1, h2, h3, h4, h5, h6, h7, h8⟩ := h.ex
  exact ⟨dx, o, hh, L, U, ks _ _ (.inl rfl) h1, dp_t k.t _ _ (noL_dP _) h2, stand_kp k h3, ks _ _ (.inr (.inl rfl)) h4, stl_kp k h5, ks _ _ (.inr (.inr rfl)) h6, h7, h8⟩
theorem desk_up {K : PySem.W.Frag} {CD CS : Addr} {q : Ptr} {og : Pic} {m : Str} {S : StandM} {dn : List StandM} {n : Nat} {H H' : Hp} (e : Same H H') (h : DeskAt K CD CS q og m S dn n H) : DeskAt K CD CS q og m S dn n H' := desk_keep (Kp.of e) (fun a o _ z => e a o z) h
theorem mono_desk {K : PySem.W.Frag} {CD CS : Addr} {q : Ptr} {og : Pic} {m : Str} {S : StandM} {dn : List StandM} {n : Nat} : Mono (DeskV K CD CS q og m S dn n) := fun v H H' e h => ⟨h.1, desk_up e h.2⟩
/-- what a deed upon the desk at q may change; its places behind it -/
structure Stp (q q' : Ptr) (H H' : Hp) : Prop where
  k : Kp H H'
  st : ∀ a o, ¬ q.own a → H a = some o → H' a = some o
  pl : q'.p = q.p ∧ q'.ld = q.ld ∧ (q'.lu = q.lu ∨ H q'.lu = none)
  dm : ∀ a, H' a = none → H a = none
theorem dm_upd {H : Hp} {p : Addr} {o : HO} : ∀ a, upd H p o a = none → H a = none := fun a e => by
  by_cases z : a = p
  · subst z
    rw [upd_same] at e
    cases e
  · rw [upd_ne z] at e
    exact e
theorem Stp.of {q : Ptr} {H H' : Hp} (e : Same H H') : Stp q q H H' := ⟨Kp.of e, fun a o _ z => e a o z, ⟨rfl, rfl, .inl rfl⟩, fun a z => e.free z⟩
theorem Stp.pre {q q' : Ptr} {H H1 H2 : Hp} (e : Same H H1) (s : Stp q q' H1 H2) : Stp q q' H H2 := ⟨(Kp.of e).trans s.k, fun a o n z => s.st a o n (e a o z), ⟨s.pl.1, s.pl.2.1, s.pl.2.2.imp id fun z => e.free z⟩, fun a z => e.free (s.dm a z)⟩
theorem Stp.post {q q' : Ptr} {H H1 H2 : Hp} (s : Stp q q' H H1) (e : Same H1 H2) : Stp q q' H H2 := ⟨s.k.trans (Kp.of e), fun a o n z => e a o (s.st a o n z), s.pl, fun a z => s.dm a (e.free z)⟩
def Dis (q r : Ptr) : Prop := ∀ a, q.own a → ¬ r.own a
theorem desk_own_some {K : PySem.W.Frag} {CD CS : Addr} {q : Ptr} {og : Pic} {m : Str} {S : StandM} {dn : List StandM} {n : Nat} {H : Hp} (h : DeskAt K CD CS q og m S dn n H) {a : Addr} (ha : q.own a) : ∃ o, H a = some o := by
  obtain ⟨dx, o, hh, L, U, h1, _, _, h4, _, h6, _, _⟩ := h.ex
  rcases ha with rfl | rfl | rfl
  · exact ⟨_, h1⟩
  · exact ⟨_, h4⟩
  · exact ⟨_, h6⟩
/-- another desk stays -/
theorem desk_other {K : PySem.W.Frag} {CD CS : Addr} {q q' r : Ptr} {og : Pic} {m : Str} {S : StandM} {dn : List StandM} {n : Nat} {H H' : Hp} (s : Stp q q' H H') (d : Dis q r) (h : DeskAt K CD CS r og m S dn n H) : DeskAt K CD CS r og m S dn n H' ∧ Dis q' r := by
  refine ⟨desk_keep s.k (fun a o ra z => s.st a o (fun qa => d a qa ra) z) h, fun a qa ra => ?_⟩
  rcases qa with rfl | rfl | rfl
  · exact d _ (.inl s.pl.1) ra
  · exact d _ (.inr (.inl s.pl.2.1)) ra
  · rcases s.pl.2.2 with e | e
    · exact d _ (.inr (.inr e)) ra
    · obtain ⟨o, z⟩ := desk_own_some h ra
      rw [e] at z
      cases z
end SH

/-! ## SHO -/
set_option Elab.async false
set_option linter.all false
set_option maxRecDepth 100000
set_option maxHeartbeats 2000000
/-! the mirror of the deeds -/
namespace SH
open PySem PySem.Spec PyProof.Rows L2
structure Good (w h : Nat) (S : StandM) : Prop where
  c : Shape w h S.cells
  s : Shape w h S.signs
  w1 : 1 ≤ w ∧ w ≤ 20
  h1 : 1 ≤ h ∧ h ≤ 20
def nar (S : StandM) (s : List Int) : StandM := ⟨withoutM S.cells s, withoutM S.signs s, S.gone ++ [(("narrow" : Str), s, takenM S.cells s)], S.deeds ++ [((("narrow" : Str), ([] : List Int)) : DeedM)]⟩
def flt (S : StandM) (s : List Int) : StandM := ⟨swapM (withoutM (swapM S.cells) s), swapM (withoutM (swapM S.signs) s), S.gone ++ [(("flatten" : Str), s, takenM (swapM S.cells) s)], S.deeds ++ [((("flatten" : Str), ([] : List Int)) : DeedM)]⟩
def plus1 (s : List Int) : List Int := s.map fun x => x + 1
def wdn (S : StandM) (s : List Int) : StandM := ⟨put3 S.cells (plus1 s) (meansM S.cells s), put3 S.signs (plus1 s) (S.signs.map fun _ => (0 : Int)), S.gone ++ [(("widen" : Str), s, meansM S.cells s)], S.deeds ++ [((("widen" : Str), ([] : List Int)) : DeedM)]⟩
def markRow (v x wd : Int) (r : List Int) : List Int := r.take x.toNat ++ (List.replicate wd.toNat v ++ r.drop (x + wd).toNat)
def markP (p : Pic) (v x y wd hg : Int) : Pic := p.zipIdx.map fun q => if y ≤ (q.2 : Int) ∧ (q.2 : Int) < y + hg then markRow v x wd q.1 else q.1
def mrk (word : Str) (v : Int) (S : StandM) (x y wd hg : Int) : StandM := ⟨S.cells, markP S.signs v x y wd hg, S.gone, S.deeds ++ [(word, [x, y, wd, hg])]⟩
def wOf (p : Pic) : Nat := (p.headD []).length
def narM (wo : Bool) (S : StandM) : Option StandM := if wOf S.cells = 1 then none else (wayOf S.cells S.signs wo (wOf S.cells) S.cells.length).map (nar S)
def fltM (wo : Bool) (S : StandM) : Option StandM := if S.cells.length = 1 then none else (wayOf (swapM S.cells) (swapM S.signs) wo S.cells.length (wOf S.cells)).map (flt S)
def wdnM (wo : Bool) (S : StandM) : Option StandM := if wOf S.cells = 20 then none else (wayOf S.cells S.signs wo (wOf S.cells) S.cells.length).map (wdn S)
def boxOk (w h : Nat) (x y wd hg : Int) : Bool := decide (0 ≤ x) && decide (x ≤ (w : Int) - 1) && (decide (0 ≤ y) && decide (y ≤ (h : Int) - 1)) && (decide (1 ≤ wd) && decide (wd ≤ (w : Int) - x) && (decide (1 ≤ hg) && decide (hg ≤ (h : Int) - y)))
def mrkM (word : Str) (v : Int) (S : StandM) (x y wd hg : Int) : Option StandM := if boxOk (wOf S.cells) S.cells.length x y wd hg = true then some (mrk word v S x y wd hg) else none
theorem good_w {w h : Nat} {S : StandM} (g : Good w h S) : wOf S.cells = w := by
  have h1 := g.h1
  have hh := g.c.hgt
  unfold wOf
  cases q : S.cells with
  | nil => rw [q] at hh; simp at hh; omega
  | cons r t => exact g.c.wid r (by rw [q]; exact List.mem_cons_self)
theorem shape_swap {w h : Nat} {p : Pic} (S : Shape w h p) (hh : 0 < h) : Shape h w (swapM p) := by
  have e := S.hgt
  have hl : (p.headD []).length = w := by
    cases q : p with
    | nil => rw [q] at e; simp at e; omega
    | cons r t => exact S.wid r (by rw [q]; exact List.mem_cons_self)
  refine ⟨by unfold swapM; rw [List.length_map, List.length_range, hl], fun r hr => ?_⟩
  unfold swapM at hr
  obtain ⟨x, _, rfl⟩ := List.mem_map.mp hr
  rw [List.length_map, e]
theorem way_len {r : List Int} {x : Int} {w : Nat} (hl : r.length = w) (h0 : 0 ≤ x) (h1 : x < w) : (wayM r x).length = w - 1 := by
  unfold wayM
  rw [List.length_append, List.length_take, List.length_drop]
  omega
theorem shape_without {w h : Nat} {p : Pic} {s : List Int} (S : Shape w h p) (hs : s.length = h) (hx : ∀ x ∈ s, 0 ≤ x ∧ x < (w : Int)) : Shape (w - 1) h (withoutM p s) := by
  have e := S.hgt
  refine ⟨by unfold withoutM; rw [List.length_map, List.length_zip]; omega, fun r hr => ?_⟩
  unfold withoutM at hr
  obtain ⟨q, hq, rfl⟩ := List.mem_map.mp hr
  obtain ⟨h1, h2⟩ := List.of_mem_zip (a := q.1) (b := q.2) hq
  exact way_len (S.wid _ h1) (hx _ h2).1 (hx _ h2).2
theorem put3_shape {w : Nat} : ∀ {p : Pic} {s cs : List Int}, (∀ r ∈ p, r.length = w) → s.length = p.length → cs.length = p.length → (∀ x ∈ s, 0 ≤ x ∧ x < ((w + 1 : Nat) : Int)) → (put3 p s cs).length = p.length ∧ ∀ r ∈ put3 p s cs, r.length = w + 1
  | [], s, cs, _, _, _, _ => ⟨by simp [put3], by simp [put3]⟩
  | r :: p, [], cs, _, h, _, _ => by simp at h
  | r :: p, x :: s, [], _, _, h, _ => by simp at h
  | r :: p, x :: s, c :: cs, hw, h1, h2, hx => by
    obtain ⟨a, b⟩ := put3_shape (p := p) (s := s) (cs := cs) (fun r hr => hw r (List.mem_cons_of_mem _ hr)) (by simpa using h1) (by simpa using h2) (fun x hx' => hx x (List.mem_cons_of_mem _ hx'))
    refine ⟨by simp [put3, a], fun q hq => ?_⟩
    rcases List.mem_cons.mp (show q ∈ inM r x c :: put3 p s cs from hq) with rfl | hq
    · have l := hw r List.mem_cons_self
      have z := hx x List.mem_cons_self
      unfold inM
      rw [List.length_append, List.length_append, List.length_take, List.length_drop]
      simp
      omega
    · exact b q hq
theorem shape_put {w h : Nat} {p : Pic} {s cs : List Int} (S : Shape w h p) (hs : s.length = h) (hc : cs.length = h) (hx : ∀ x ∈ s, 0 ≤ x ∧ x < ((w + 1 : Nat) : Int)) : Shape (w + 1) h (put3 p s cs) := by
  obtain ⟨a, b⟩ := put3_shape S.wid (by rw [S.hgt]; exact hs) (by rw [S.hgt]; exact hc) hx
  exact ⟨by rw [a]; exact S.hgt, b⟩
theorem shape_mark {w h : Nat} {p : Pic} {v x y wd hg : Int} (S : Shape w h p) (b : boxOk w h x y wd hg = true) : Shape w h (markP p v x y wd hg) := by
  unfold boxOk at b
  simp only [Bool.and_eq_true, decide_eq_true_eq] at b
  refine ⟨by unfold markP; rw [List.length_map, List.length_zipIdx]; exact S.hgt, fun r hr => ?_⟩
  unfold markP at hr
  obtain ⟨q, hq, rfl⟩ := List.mem_map.mp hr
  have hm : q.1 ∈ p := by
    have := List.mem_zipIdx hq
    rw [this.2.2]
    exact List.getElem_mem _
  have hl := S.wid _ hm
  split
  · unfold markRow
    rw [List.length_append, List.length_append, List.length_take, List.length_replicate, List.length_drop]
    omega
  · exact hl
theorem plus1_ok {w : Nat} {s : List Int} (hx : ∀ x ∈ s, 0 ≤ x ∧ x < (w : Int)) : ∀ x ∈ plus1 s, 0 ≤ x ∧ x < ((w + 1 : Nat) : Int) := fun x h => by
  unfold plus1 at h
  obtain ⟨y, hy, rfl⟩ := List.mem_map.mp h
  have := hx y hy
  omega
theorem good_nar {w h : Nat} {S : StandM} {s : List Int} (g : Good w h S) (hw : w ≠ 1) (hs : s.length = h) (hx : ∀ x ∈ s, 0 ≤ x ∧ x < (w : Int)) : Good (w - 1) h (nar S s) := ⟨shape_without g.c hs hx, shape_without g.s hs hx, by have := g.w1; omega, g.h1⟩
theorem good_flt {w h : Nat} {S : StandM} {s : List Int} (g : Good w h S) (hh : h ≠ 1) (hs : s.length = w) (hx : ∀ x ∈ s, 0 ≤ x ∧ x < (h : Int)) : Good w (h - 1) (flt S s) := by
  have a := g.w1
  have b := g.h1
  exact ⟨shape_swap (shape_without (shape_swap g.c (by omega)) hs hx) (by omega), shape_swap (shape_without (shape_swap g.s (by omega)) hs hx) (by omega), a, by omega⟩
theorem means_len {w h : Nat} {p : Pic} {s : List Int} (S : Shape w h p) (hs : s.length = h) : (meansM p s).length = h := by
  unfold meansM
  rw [List.length_map, List.length_zip, S.hgt]
  omega
theorem good_wdn {w h : Nat} {S : StandM} {s : List Int} (g : Good w h S) (hw : w ≠ 20) (hs : s.length = h) (hx : ∀ x ∈ s, 0 ≤ x ∧ x < (w : Int)) : Good (w + 1) h (wdn S s) := by
  have a := g.w1
  exact ⟨shape_put g.c (by unfold plus1; rw [List.length_map]; exact hs) (means_len g.c hs) (plus1_ok hx), shape_put g.s (by unfold plus1; rw [List.length_map]; exact hs) (by rw [List.length_map]; exact g.s.hgt) (plus1_ok hx), by omega, g.h1⟩
theorem good_mrk {w h : Nat} {S : StandM} {word : Str} {v x y wd hg : Int} (g : Good w h S) (b : boxOk w h x y wd hg = true) : Good w h (mrk word v S x y wd hg) := ⟨g.c, shape_mark g.s b, g.w1, g.h1⟩
end SH

/-! ## SHQ -/
set_option Elab.async false
set_option linter.all false
set_option maxRecDepth 100000
set_option maxHeartbeats 2000000
/-! plain laws: deeds run, and the way back -/
namespace SH
open PySem PySem.Spec PyProof.Rows L2
theorem in_way {r : List Int} {x : Int} (h0 : 0 ≤ x) (h1 : x < r.length) : inM (wayM r x) x (r.getD x.toNat 0) = r := by
  have hx : x.toNat < r.length := by omega
  have e1 : (x + 1).toNat = x.toNat + 1 := by omega
  unfold inM wayM
  rw [e1]
  have l1 : (r.take x.toNat).length = x.toNat := by rw [List.length_take]; omega
  rw [List.take_append_of_le_length (by omega), List.take_of_length_le (by omega), List.drop_append_of_le_length (by omega)]
  rw [List.drop_of_length_le (l := r.take x.toNat) (by omega), List.nil_append]
  have e2 : [r.getD x.toNat 0] ++ r.drop (x.toNat + 1) = r.drop x.toNat := by
    rw [List.drop_eq_getElem_cons hx, List.getD_eq_getElem?_getD, List.getElem?_eq_getElem hx]
    rfl
  rw [e2, List.take_append_drop]
theorem way_in {r : List Int} {x c : Int} (h0 : 0 ≤ x) (h1 : x ≤ r.length) : wayM (inM r x c) x = r := by
  have e1 : (x + 1).toNat = x.toNat + 1 := by omega
  unfold inM wayM
  rw [e1]
  have l1 : (r.take x.toNat).length = x.toNat := by rw [List.length_take]; omega
  rw [List.take_append_of_le_length (by omega), List.take_of_length_le (by omega)]
  have e2 : (r.take x.toNat ++ ([c] ++ r.drop x.toNat)).drop (x.toNat + 1) = r.drop x.toNat := by
    rw [List.drop_append, List.drop_of_length_le (by omega), List.nil_append, l1]
    have : x.toNat + 1 - x.toNat = 1 := by omega
    rw [this]
    rfl
  rw [e2, List.take_append_drop]
theorem put_without {w : Nat} : ∀ {p : Pic} {s : List Int}, (∀ r ∈ p, r.length = w) → s.length = p.length → (∀ x ∈ s, 0 ≤ x ∧ x < (w : Int)) → put3 (withoutM p s) s (takenM p s) = p
  | [], [], _, _, _ => rfl
  | [], _ :: _, _, h, _ => by simp at h
  | _ :: _, [], _, h, _ => by simp at h
  | r :: p, x :: s, hw, hl, hx => by
    have ih := put_without (p := p) (s := s) (fun r hr => hw r (List.mem_cons_of_mem _ hr)) (by simpa using hl) (fun x h => hx x (List.mem_cons_of_mem _ h))
    have h1 := hw r List.mem_cons_self
    have h2 := hx x List.mem_cons_self
    show inM (wayM r x) x (r.getD x.toNat 0) :: put3 (withoutM p s) s (takenM p s) = _
    rw [ih, in_way h2.1 (by omega)]
theorem without_put {w : Nat} : ∀ {p : Pic} {s cs : List Int}, (∀ r ∈ p, r.length = w) → s.length = p.length → cs.length = p.length → (∀ x ∈ s, 0 ≤ x ∧ x < ((w + 1 : Nat) : Int)) → withoutM (put3 p s cs) s = p
  | [], [], cs, _, _, _, _ => by simp [put3, withoutM]
  | [], _ :: _, _, _, h, _, _ => by simp at h
  | _ :: _, [], _, _, h, _, _ => by simp at h
  | _ :: _, _ :: _, [], _, _, h, _ => by simp at h
  | r :: p, x :: s, c :: cs, hw, hl, hc, hx => by
    have ih := without_put (p := p) (s := s) (cs := cs) (fun r hr => hw r (List.mem_cons_of_mem _ hr)) (by simpa using hl) (by simpa using hc) (fun x h => hx x (List.mem_cons_of_mem _ h))
    have h1 := hw r List.mem_cons_self
    have h2 := hx x List.mem_cons_self
    show wayM (inM r x c) x :: withoutM (put3 p s cs) s = _
    rw [ih, way_in h2.1 (by omega)]
theorem head_len {w h : Nat} {p : Pic} (S : Shape w h p) (hh : 0 < h) : (p.headD []).length = w := by
  have e := S.hgt
  cases q : p with
  | nil => rw [q] at e; simp at e; omega
  | cons r t => exact S.wid r (by rw [q]; exact List.mem_cons_self)
theorem swapM_at {w : Nat} {p : Pic} (hd : (p.headD []).length = w) {x : Nat} (hx : x < w) : (swapM p)[x]? = some (p.map fun r => r.getD x 0) := by
  unfold swapM
  rw [List.getElem?_map, hd, List.getElem?_range hx]
  rfl
theorem swap_swap {w h : Nat} {p : Pic} (S : Shape w h p) (hw : 0 < w) (hh : 0 < h) : swapM (swapM p) = p := by
  have S1 := shape_swap S hh
  have hd1 := head_len S hh
  have hd2 := head_len S1 hw
  have S2 := shape_swap S1 hw
  refine List.ext_getElem? fun y => ?_
  by_cases hy : y < h
  · have hy2 : y < p.length := by rw [S.hgt]; exact hy
    rw [swapM_at hd2 hy, List.getElem?_eq_getElem hy2]
    refine congrArg some (List.ext_getElem? fun x => ?_)
    have hl : p[y].length = w := S.wid _ (List.getElem_mem _)
    rw [List.getElem?_map]
    by_cases hx : x < w
    · rw [swapM_at hd1 hx, List.getElem?_eq_getElem (by rw [hl]; exact hx)]
      refine congrArg some ?_
      show (p.map fun r => r.getD x 0).getD y 0 = _
      rw [List.getD_eq_getElem?_getD, List.getElem?_map, List.getElem?_eq_getElem hy2]
      show p[y].getD x 0 = _
      rw [List.getD_eq_getElem?_getD, List.getElem?_eq_getElem (by rw [hl]; exact hx)]
      rfl
    · rw [List.getElem?_eq_none (by rw [S1.hgt]; omega), List.getElem?_eq_none (by rw [hl]; omega)]
      rfl
  · rw [List.getElem?_eq_none (by rw [S2.hgt]; omega), List.getElem?_eq_none (by rw [S.hgt]; omega)]
/-! ### the way back -/
def backM (c : Pic) (g : GoneM) : Pic := if g.1 = "narrow" then put3 c g.2.1 g.2.2 else if g.1 = "flatten" then swapM (put3 (swapM c) g.2.1 g.2.2) else withoutM c (plus1 g.2.1)
/-- the step back can be walked -/
def BackOk (c : Pic) (g : GoneM) : Prop := ∃ w h : Nat, Shape w h c ∧ 0 < w ∧ 0 < h ∧ w ≤ 30 ∧ h ≤ 30 ∧
  ((g.1 = "narrow" ∧ (∀ x ∈ g.2.1, 0 ≤ x ∧ x < ((w + 1 : Nat) : Int)) ∧ g.2.1.length = h ∧ g.2.2.length = h) ∨ (g.1 = "flatten" ∧ (∀ x ∈ g.2.1, 0 ≤ x ∧ x < ((h + 1 : Nat) : Int)) ∧ g.2.1.length = w ∧ g.2.2.length = w) ∨ (g.1 = "widen" ∧ (∀ x ∈ plus1 g.2.1, 0 ≤ x ∧ x < (w : Int)) ∧ g.2.1.length ≤ 30))
/-- gone: from og to c -/
inductive GC (og : Pic) : List GoneM → Pic → Prop where
  | nil : GC og [] og
  | snoc {gs : List GoneM} {c c' : Pic} {g : GoneM} (h : GC og gs c) (ok : BackOk c' g) (e : backM c' g = c) : GC og (gs ++ [g]) c'
def DeedOk (e : DeedM) : Prop := (e.1 ∈ (["narrow", "flatten", "widen"] : List Str) ∧ e.2 = []) ∨ (e.1 ∈ (["keep", "drop", "free"] : List Str) ∧ ∃ x y wd hg : Int, e.2 = [x, y, wd, hg])
/-- .. with numbers that can be written -/
def DeedWr (e : DeedM) : Prop := DeedOk e ∧ ∀ i ∈ e.2, 0 ≤ i ∧ i ≤ 20
def doM (wo : Bool) (S : StandM) (e : DeedM) : Option StandM :=
  if e.1 = "narrow" then narM wo S else if e.1 = "flatten" then fltM wo S else if e.1 = "widen" then wdnM wo S else match e.2 with
    | [x, y, wd, hg] => if e.1 = "keep" then mrkM "keep" 1 S x y wd hg else if e.1 = "drop" then mrkM "drop" 2 S x y wd hg else mrkM "free" 0 S x y wd hg
    | _ => none
structure RunOk (og : Pic) (S : StandM) : Prop where
  good : ∃ w h, Good w h S
  gc : GC og S.gone S.cells
  gl : S.gone.length ≤ S.deeds.length
  wr : ∀ e ∈ S.deeds, DeedWr e
  cel : ∀ r ∈ S.cells, CellsOk r
theorem taken_len {w h : Nat} {p : Pic} {s : List Int} (S : Shape w h p) (hs : s.length = h) : (takenM p s).length = h := by
  unfold takenM
  rw [List.length_map, List.length_zip, S.hgt]
  omega
theorem wr_plain {w : Str} (h : w ∈ (["narrow", "flatten", "widen"] : List Str)) : DeedWr (w, []) := ⟨.inl ⟨h, rfl⟩, fun i hi => by simp at hi⟩
theorem wr_app {es : List DeedM} {e : DeedM} (h : ∀ e ∈ es, DeedWr e) (k : DeedWr e) : ∀ e' ∈ es ++ [e], DeedWr e' := fun e' h' => by
  rcases List.mem_append.mp h' with h' | h'
  · exact h e' h'
  · rw [List.mem_singleton.mp h']
    exact k
theorem len1 {α : Type} {xs : List α} {x : α} {n m : Nat} (h : xs.length ≤ m) (e : n = m + 1) : (xs ++ [x]).length ≤ n := by
  rw [List.length_append]
  simp
  omega
theorem box_wr {w h : Nat} {word : Str} {x y wd hg : Int} (hw : w ≤ 20) (hh : h ≤ 20) (hm : word ∈ (["keep", "drop", "free"] : List Str)) (b : boxOk w h x y wd hg = true) : DeedWr (word, [x, y, wd, hg]) := by
  unfold boxOk at b
  simp only [Bool.and_eq_true, decide_eq_true_eq] at b
  refine ⟨.inr ⟨hm, x, y, wd, hg, rfl⟩, fun i hi => ?_⟩
  have hi : i ∈ [x, y, wd, hg] := hi
  simp only [List.mem_cons, List.not_mem_nil, or_false] at hi
  rcases hi with rfl | rfl | rfl | rfl <;> omega
theorem mrk_ok {og : Pic} {S S' : StandM} {word : Str} {v x y wd hg : Int} (R : RunOk og S) (hm : word ∈ (["keep", "drop", "free"] : List Str)) (e : mrkM word v S x y wd hg = some S') : RunOk og S' ∧ S'.deeds = S.deeds ++ [(word, [x, y, wd, hg])] := by
  obtain ⟨w, h, g⟩ := R.good
  unfold mrkM at e
  rw [good_w g, g.c.hgt] at e
  by_cases b : boxOk w h x y wd hg = true
  · rw [if_pos b] at e
    have e := Option.some.inj e
    subst e
    refine ⟨⟨⟨w, h, good_mrk g b⟩, R.gc, ?_, wr_app R.wr (box_wr g.w1.2 g.h1.2 hm b), R.cel⟩, rfl⟩
    show S.gone.length ≤ (S.deeds ++ [_]).length
    rw [List.length_append]
    have := R.gl
    omega
  · rw [if_neg b] at e
    cases e
theorem cel_getD {r : List Int} {x : Nat} (h : CellsOk r) (hx : x < r.length) : 0 ≤ r.getD x 0 ∧ r.getD x 0 ≤ 99 := h _ (getD_mem hx)
theorem nar_ok {og : Pic} {S S' : StandM} {wo : Bool} (R : RunOk og S) (e : narM wo S = some S') : RunOk og S' ∧ S'.deeds = S.deeds ++ [((("narrow" : Str), ([] : List Int)) : DeedM)] := by
  obtain ⟨w, h, g⟩ := R.good
  have a := g.w1
  have b := g.h1
  unfold narM at e
  rw [good_w g, g.c.hgt] at e
  by_cases hw : w = 1
  · rw [if_pos hw] at e
    cases e
  · rw [if_neg hw] at e
    cases hs : wayOf S.cells S.signs wo w h with
    | none => rw [hs] at e; cases e
    | some s =>
      rw [hs] at e
      have e := Option.some.inj e
      subst e
      obtain ⟨sl, sx⟩ := way_ok (by omega) hs
      have g' := good_nar g hw sl sx
      refine ⟨⟨⟨w - 1, h, g'⟩, .snoc R.gc ⟨w - 1, h, g'.c, by omega, by omega, by omega, by omega, .inl ⟨rfl, fun x hx => ?_, sl, taken_len g.c sl⟩⟩ ?_, ?_, wr_app R.wr (wr_plain (by decide)), ?_⟩, rfl⟩
      · have := sx x hx
        omega
      · show (if (("narrow" : Str) = "narrow") then _ else _) = _
        rw [if_pos rfl]
        exact put_without g.c.wid (by rw [g.c.hgt]; exact sl) sx
      · show (S.gone ++ [_]).length ≤ (S.deeds ++ [_]).length
        rw [List.length_append, List.length_append]
        have := R.gl
        simp
        exact this
      · intro r hr
        have hr : r ∈ withoutM S.cells s := hr
        unfold withoutM at hr
        obtain ⟨q, hq, rfl⟩ := List.mem_map.mp hr
        obtain ⟨h1, _⟩ := List.of_mem_zip (a := q.1) (b := q.2) hq
        intro c hc
        unfold wayM at hc
        rcases List.mem_append.mp hc with hc | hc
        · exact R.cel _ h1 c (List.mem_of_mem_take hc)
        · exact R.cel _ h1 c (List.mem_of_mem_drop hc)
theorem cel_swap {w h : Nat} {p : Pic} (S : Shape w h p) (hh : 0 < h) (c : ∀ r ∈ p, CellsOk r) : ∀ r ∈ swapM p, CellsOk r := fun r hr i hi => by
  have hd1 : (p.headD []).length = w := by
    have e := S.hgt
    cases q : p with
    | nil => rw [q] at e; simp at e; omega
    | cons r t => exact S.wid r (by rw [q]; exact List.mem_cons_self)
  unfold swapM at hr
  rw [hd1] at hr
  obtain ⟨x, hx, rfl⟩ := List.mem_map.mp hr
  obtain ⟨q, hq, rfl⟩ := List.mem_map.mp hi
  exact cel_getD (c q hq) (by rw [S.wid q hq]; exact List.mem_range.mp hx)
theorem flt_ok {og : Pic} {S S' : StandM} {wo : Bool} (R : RunOk og S) (e : fltM wo S = some S') : RunOk og S' ∧ S'.deeds = S.deeds ++ [((("flatten" : Str), ([] : List Int)) : DeedM)] := by
  obtain ⟨w, h, g⟩ := R.good
  have a := g.w1
  have b := g.h1
  unfold fltM at e
  rw [good_w g, g.c.hgt] at e
  by_cases hh : h = 1
  · rw [if_pos hh] at e
    cases e
  · rw [if_neg hh] at e
    have gs := shape_swap g.c (by omega)
    cases hs : wayOf (swapM S.cells) (swapM S.signs) wo h w with
    | none => rw [hs] at e; cases e
    | some s =>
      rw [hs] at e
      have e := Option.some.inj e
      subst e
      obtain ⟨sl, sx⟩ := way_ok (by omega) hs
      have g' := good_flt g hh sl sx
      have S2 := shape_without gs sl sx
      refine ⟨⟨⟨w, h - 1, g'⟩, .snoc R.gc ⟨w, h - 1, g'.c, by omega, by omega, by omega, by omega, .inr (.inl ⟨rfl, fun x hx => ?_, sl, taken_len gs sl⟩)⟩ ?_, ?_, wr_app R.wr (wr_plain (by decide)), ?_⟩, rfl⟩
      · have := sx x hx
        omega
      · show (if (("flatten" : Str) = "narrow") then _ else if (("flatten" : Str) = "flatten") then _ else _) = _
        rw [if_neg (by decide), if_pos rfl]
        show swapM (put3 (swapM (swapM (withoutM (swapM S.cells) s))) s (takenM (swapM S.cells) s)) = _
        rw [swap_swap S2 (by omega) (by omega), put_without gs.wid (by rw [gs.hgt]; exact sl) sx, swap_swap g.c (by omega) (by omega)]
      · show (S.gone ++ [_]).length ≤ (S.deeds ++ [_]).length
        rw [List.length_append, List.length_append]
        have := R.gl
        simp
        exact this
      · refine cel_swap S2 (by omega) fun r hr => ?_
        unfold withoutM at hr
        obtain ⟨q, hq, rfl⟩ := List.mem_map.mp hr
        obtain ⟨h1, _⟩ := List.of_mem_zip (a := q.1) (b := q.2) hq
        have hc0 := cel_swap g.c (by omega) R.cel _ h1
        intro c hc
        unfold wayM at hc
        rcases List.mem_append.mp hc with hc | hc
        · exact hc0 c (List.mem_of_mem_take hc)
        · exact hc0 c (List.mem_of_mem_drop hc)
theorem cel_put : ∀ {p : Pic} {s cs : List Int}, (∀ r ∈ p, CellsOk r) → CellsOk cs → ∀ r ∈ put3 p s cs, CellsOk r
  | [], s, cs, _, _ => by simp [put3]
  | r :: p, [], cs, _, _ => by simp [put3]
  | r :: p, x :: s, [], _, _ => by simp [put3]
  | r :: p, x :: s, c :: cs, h, hc => fun q hq => by
    rcases List.mem_cons.mp (show q ∈ inM r x c :: put3 p s cs from hq) with rfl | hq
    · intro i hi
      unfold inM at hi
      rcases List.mem_append.mp hi with hi | hi
      · exact h r List.mem_cons_self i (List.mem_of_mem_take hi)
      rcases List.mem_append.mp hi with hi | hi
      · rw [List.mem_singleton.mp hi]
        exact hc c List.mem_cons_self
      · exact h r List.mem_cons_self i (List.mem_of_mem_drop hi)
    · exact cel_put (fun r hr => h r (List.mem_cons_of_mem _ hr)) (fun i hi => hc i (List.mem_cons_of_mem _ hi)) q hq
theorem cel_means {w h : Nat} {p : Pic} {s : List Int} (S : Shape w h p) (sx : ∀ x ∈ s, 0 ≤ x ∧ x < (w : Int)) (c : ∀ r ∈ p, CellsOk r) : CellsOk (meansM p s) := fun i hi => by
  unfold meansM at hi
  obtain ⟨q, hq, rfl⟩ := List.mem_map.mp hi
  obtain ⟨h1, h2⟩ := List.of_mem_zip (a := q.1) (b := q.2) hq
  have hl := S.wid _ h1
  have hx := sx _ h2
  have n := nextI_ok (n := q.1.length) hx.1 (by omega)
  have c1 := cel_getD (x := q.2.toNat) (c _ h1) (by omega)
  have c2 := cel_getD (x := (nextI q.1.length q.2).toNat) (c _ h1) (by omega)
  unfold meanM
  omega
theorem wdn_ok {og : Pic} {S S' : StandM} {wo : Bool} (R : RunOk og S) (e : wdnM wo S = some S') : RunOk og S' ∧ S'.deeds = S.deeds ++ [((("widen" : Str), ([] : List Int)) : DeedM)] := by
  obtain ⟨w, h, g⟩ := R.good
  have a := g.w1
  have b := g.h1
  unfold wdnM at e
  rw [good_w g, g.c.hgt] at e
  by_cases hw : w = 20
  · rw [if_pos hw] at e
    cases e
  · rw [if_neg hw] at e
    cases hs : wayOf S.cells S.signs wo w h with
    | none => rw [hs] at e; cases e
    | some s =>
      rw [hs] at e
      have e := Option.some.inj e
      subst e
      obtain ⟨sl, sx⟩ := way_ok (by omega) hs
      have g' := good_wdn g hw sl sx
      have pl : (plus1 s).length = h := by unfold plus1; rw [List.length_map]; exact sl
      refine ⟨⟨⟨w + 1, h, g'⟩, .snoc R.gc ⟨w + 1, h, g'.c, by omega, by omega, by omega, by omega, .inr (.inr ⟨rfl, plus1_ok sx, by show s.length ≤ 30; omega⟩)⟩ ?_, ?_, wr_app R.wr (wr_plain (by decide)), cel_put R.cel (cel_means g.c sx R.cel)⟩, rfl⟩
      · show (if (("widen" : Str) = "narrow") then _ else if (("widen" : Str) = "flatten") then _ else _) = _
        rw [if_neg (by decide), if_neg (by decide)]
        exact without_put g.c.wid (by rw [g.c.hgt]; exact pl) (by rw [g.c.hgt]; exact means_len g.c sl) (plus1_ok sx)
      · show (S.gone ++ [_]).length ≤ (S.deeds ++ [_]).length
        rw [List.length_append, List.length_append]
        have := R.gl
        simp
        exact this
theorem do_ok {og : Pic} {S S' : StandM} {wo : Bool} {e : DeedM} (R : RunOk og S) (k : DeedOk e) (h : doM wo S e = some S') : RunOk og S' ∧ S'.deeds = S.deeds ++ [e] := by
  obtain ⟨w, box⟩ := e
  unfold doM at h
  by_cases h1 : w = "narrow"
  · subst h1
    have kb : box = [] := k.elim (fun z => z.2) fun z => absurd (show ("narrow" : Str) ∈ (["keep", "drop", "free"] : List Str) from z.1) (by decide)
    subst kb
    rw [if_pos rfl] at h
    exact nar_ok R h
  rw [if_neg (show ¬ ((w, box).1 = "narrow") from h1)] at h
  by_cases h2 : w = "flatten"
  · subst h2
    have kb : box = [] := k.elim (fun z => z.2) fun z => absurd (show ("flatten" : Str) ∈ (["keep", "drop", "free"] : List Str) from z.1) (by decide)
    subst kb
    rw [if_pos rfl] at h
    exact flt_ok R h
  rw [if_neg (show ¬ ((w, box).1 = "flatten") from h2)] at h
  by_cases h3 : w = "widen"
  · subst h3
    have kb : box = [] := k.elim (fun z => z.2) fun z => absurd (show ("widen" : Str) ∈ (["keep", "drop", "free"] : List Str) from z.1) (by decide)
    subst kb
    rw [if_pos rfl] at h
    exact wdn_ok R h
  rw [if_neg (show ¬ ((w, box).1 = "widen") from h3)] at h
  rcases k with k | ⟨km, x, y, wd, hg, kb⟩
  · have := k.1
    simp [h1, h2, h3] at this
  · have kb : box = [x, y, wd, hg] := kb
    subst kb
    have km : w = "keep" ∨ w = "drop" ∨ w = "free" := by simpa using km
    rcases km with rfl | rfl | rfl
    · exact mrk_ok R (by decide) (show mrkM "keep" 1 S x y wd hg = _ from (by
        have h : (if ("keep" : Str) = "keep" then mrkM "keep" 1 S x y wd hg else if ("keep" : Str) = "drop" then _ else _) = some S' := h
        rw [if_pos rfl] at h
        exact h))
    · exact mrk_ok R (by decide) (show mrkM "drop" 2 S x y wd hg = _ from (by
        have h : (if ("drop" : Str) = "keep" then mrkM "keep" 1 S x y wd hg else if ("drop" : Str) = "drop" then mrkM "drop" 2 S x y wd hg else mrkM "free" 0 S x y wd hg) = some S' := h
        rw [if_neg (by decide), if_pos rfl] at h
        exact h))
    · exact mrk_ok R (by decide) (show mrkM "free" 0 S x y wd hg = _ from (by
        have h : (if ("free" : Str) = "keep" then mrkM "keep" 1 S x y wd hg else if ("free" : Str) = "drop" then mrkM "drop" 2 S x y wd hg else mrkM "free" 0 S x y wd hg) = some S' := h
        rw [if_neg (by decide), if_neg (by decide)] at h
        exact h))
/-! ### runs -/
def stepR (wo : Bool) (st : Option (List StandM × StandM)) (e : DeedM) : Option (List StandM × StandM) := st.bind fun q => (doM wo q.2 e).map fun S' => (q.1 ++ [q.2], S')
def runR (wo : Bool) (T : StandM) (es : List DeedM) : Option (List StandM × StandM) := es.foldl (stepR wo) (some ([], T))
theorem runR_snoc {wo : Bool} {T : StandM} {es : List DeedM} {e : DeedM} : runR wo T (es ++ [e]) = stepR wo (runR wo T es) e := by
  unfold runR
  rw [List.foldl_append]
  rfl
theorem runR_back {wo : Bool} {T S : StandM} {es : List DeedM} {e : DeedM} {dn : List StandM} (h : runR wo T (es ++ [e]) = some (dn, S)) : ∃ dn0 S0, runR wo T es = some (dn0, S0) ∧ doM wo S0 e = some S ∧ dn = dn0 ++ [S0] := by
  rw [runR_snoc] at h
  unfold stepR at h
  cases q : runR wo T es with
  | none => rw [q] at h; cases h
  | some st =>
    rw [q] at h
    obtain ⟨d0, s0⟩ := st
    have h : (doM wo s0 e).map (fun S' => (d0 ++ [s0], S')) = some (dn, S) := h
    cases q2 : doM wo s0 e with
    | none => rw [q2] at h; cases h
    | some S' =>
      rw [q2] at h
      have h : (d0 ++ [s0], S') = (dn, S) := Option.some.inj h
      injection h with h1 h2
      subst h1 h2
      exact ⟨d0, s0, rfl, q2, rfl⟩
theorem runR_next {wo : Bool} {T S S' : StandM} {es : List DeedM} {e : DeedM} {dn : List StandM} (h : runR wo T es = some (dn, S)) (k : doM wo S e = some S') : runR wo T (es ++ [e]) = some (dn ++ [S], S') := by
  rw [runR_snoc, h]
  unfold stepR
  show (doM wo S e).map _ = _
  rw [k]
  rfl
theorem run_ok {og : Pic} {wo : Bool} {T : StandM} (R : RunOk og T) (hT : T.deeds = []) : ∀ (n : Nat) (es : List DeedM), es.length = n → (∀ e ∈ es, DeedOk e) → ∀ dn S, runR wo T es = some (dn, S) → RunOk og S ∧ S.deeds = es ∧ dn.length = es.length
  | 0, es, hl, _, dn, S, h => by
    have : es = [] := List.eq_nil_of_length_eq_zero hl
    subst this
    have h : ([], T) = (dn, S) := Option.some.inj h
    injection h with h1 h2
    subst h1 h2
    exact ⟨R, hT, rfl⟩
  | n + 1, es, hl, hd, dn, S, h => by
    have hne : es ≠ [] := fun z => by rw [z] at hl; simp at hl
    have hcut := List.dropLast_concat_getLast hne
    rw [← hcut] at h
    obtain ⟨dn0, S0, h1, h2, h3⟩ := runR_back h
    obtain ⟨r1, r2, r3⟩ := run_ok R hT n es.dropLast (by rw [List.length_dropLast, hl]; rfl) (fun e he => hd e (List.dropLast_subset _ he)) dn0 S0 h1
    obtain ⟨r4, r5⟩ := do_ok r1 (hd _ (List.getLast_mem hne)) h2
    refine ⟨r4, ?_, ?_⟩
    · rw [r5, r2, hcut]
    · rw [h3, List.length_append, r3, List.length_dropLast, hl]
      simp
end SH

/-! ## SHK -/
set_option Elab.async false
set_option linter.all false
set_option maxRecDepth 100000
set_option maxHeartbeats 2000000
/-! the classes: facts, methods that only tell, new stands, turn_to -/
namespace SH
open PySem PySem.Spec PyProof.Rows L2
structure DF (K : PySem.W.Frag) (mg : Str → Option Value) (CD CS : Addr) : Prop where
  gD : mg "Desk" = some (.ref CD)
  gS : mg "Stand" = some (.ref CS)
  cD : Cls K CD
  cS : Cls K CS
  d1 : NoAttr K CD "origin"
  d2 : NoAttr K CD "manner"
  d3 : NoAttr K CD "here"
  d4 : NoAttr K CD "done"
  d5 : NoAttr K CD "undone"
  s1 : NoAttr K CS "cells"
  s2 : NoAttr K CS "signs"
  s3 : NoAttr K CS "gone"
  s4 : NoAttr K CS "deeds"
structure MethD (K : PySem.W.Frag) (C : Addr) (m qual : Str) (st : Stmt) (ps : List Str) (kws : List (Str × V)) : Prop where
  ex : ∃ (f : Addr) (fd : FuncData), FunD K m qual (defArgs st) (defBody st) (defScope st) [] kws f fd ∧ Meth K C m f ∧ (kws = [] → Binds K fd ps [])
structure CalM (P : Program) (w : World) (K : PySem.W.Frag) (mg : Str → Option Value) (base : Heap) (CX : CXT) (k : Nat) (C : Addr) (m : Str) (ps : List Str) (sp : Sp) : Prop where
  ex : ∃ (f : Addr) (fd : FuncData), FnOk P w K mg base CX k f fd ps sp ∧ Meth K C m f ∧ Binds K fd ps []
abbrev XG (CX : CXT) (P : Program) (w : World) (K : PySem.W.Frag) (mg : Str → Option Value) (base : Heap) (N : List Str) (q : Str) (st : Stmt) (f : Addr) (cdv : Value) (A : Around) (outer : List Env) (s : Shared) (H : Hp) (E : XK) : Cx := cxOf CX P w K mg base N q (defScope st) f cdv A outer s H E
section
variable {P : Program} {w : World} {K : PySem.W.Frag} {mg : Str → Option Value} {base : Heap} {CD CS : Addr}
/-- a method's promise by its body -/
theorem meth_of {CX : CXT} {C : Addr} {m qual : Str} {st : Stmt} {N ps : List Str} {k : Nat} {sp : Sp} (D : MethD K C m qual st ps []) (S : FnScope N ps (defScope st)) (hlen : ∀ vs H Q E, sp vs H Q E → vs.length = ps.length)
    (body : ∀ (f : Addr) (cdv : Value) (A : Around) (outer : List Env) (s : Shared) (H : Hp) (vs : List V) (Q : VK) (E : XK), Room k (A.deeper (envOfC qual (defScope st) s.heap.objs.size f cdv)) → sp vs H Q E →
      sB (XG CX P w K mg base N qual st f cdv A outer s H E) (defBody st) { nx := fun _ H' => Q .non H', rt := Q } (L2.start N vs) H) : CalM P w K mg base CX (k + 1) C m ps sp := by
  obtain ⟨f, fd, F, hm, b⟩ := D.ex
  exact ⟨f, fd, F.ok S hlen (fun cdv A outer s H vs Q E hr h => ⟨_, pss_s, body f cdv A outer s H vs Q E hr h⟩), hm, b rfl⟩
/-- .. that lets nothing out -/
theorem meth_of0 {CX : CXT} {C : Addr} {m qual : Str} {st : Stmt} {N ps : List Str} {k : Nat} {sp : Sp} (D : MethD K C m qual st ps []) (S : FnScope N ps (defScope st)) (hlen : ∀ vs H Q E, sp vs H Q E → vs.length = ps.length)
    (body : ∀ (f : Addr) (cdv : Value) (A : Around) (outer : List Env) (s : Shared) (H : Hp) (vs : List V) (Q : VK) (E : XK), Room k (A.deeper (envOfC qual (defScope st) s.heap.objs.size f cdv)) → sp vs H Q E →
      sB ((XG CX P w K mg base N qual st f cdv A outer s H E).nox) (defBody st) { nx := fun _ H' => Q .non H', rt := Q } (L2.start N vs) H) : CalM P w K mg base CX (k + 1) C m ps sp := by
  obtain ⟨f, fd, F, hm, b⟩ := D.ex
  exact ⟨f, fd, F.ok S hlen (fun cdv A outer s H vs Q E hr h => ⟨_, PSs.nox pss_s, body f cdv A outer s H vs Q E hr h⟩), hm, b rfl⟩
/-- a method that only tells: of self alone -/
def spS (R : VP → VP → Prop) : Sp := fun vs H Q _ => ∃ v P P', vs = [v] ∧ R P P' ∧ Mono P ∧ P v H ∧ ∀ u H', Same H H' → P' u H' → Q u H'
theorem meth_tell {C : Addr} {m qual : Str} {st : Stmt} {N : List Str} {k : Nat} {R : VP → VP → Prop} (D : MethD K C m qual st ["self"] []) (S : FnScope N ["self"] (defScope st))
    (body : ∀ (f : Addr) (cdv : Value) (A : Around) (outer : List Env) (s : Shared) (H : Hp) (E : XK), Room k (A.deeper (envOfC qual (defScope st) s.heap.objs.size f cdv)) → ∀ P0 P', R P0 P' →
      BR ((XG CX0 P w K mg base N qual st f cdv A outer s H E).nox) (defBody st) (some P0 :: List.replicate (N.length - 1) none) (.ret P')) : CalM P w K mg base CX0 (k + 1) C m ["self"] (spS R) :=
  meth_of0 D S (fun vs H Q E h => by
    obtain ⟨v, _, _, rfl, _⟩ := h
    rfl) fun f cdv A outer s H vs Q E hr h => by
    obtain ⟨v, P0, P', rfl, hR, mo, pv, q⟩ := h
    exact (body f cdv A outer s H E hr P0 P' hR).run _ H (eok_some pv mo (eok_reps _)) _ fun u H' e pu => q u H' e pu
theorem passAt0 {X : Cx} {σ : St} {E : XK} : PassesAt CX0 X σ E := fun _ _ _ _ _ _ h => h.elim
section
variable {X : Cx} {ρ ρ' : Rho} {a b c e o : Expr} {es : List Expr} {P0 P' : VP} {pos p apos : Pos} {C : Addr} {f m : Str}
theorem e_tell {k : Nat} {ps : List Str} {R : VP → VP → Prop} {pl : Sem Bool} (cl : Cls X.K C) (c : CalM X.prog X.w X.K X.mg X.base CX0 k C m ps (spS R)) {j : Nat} (hr : Room j X.A) (hk : k ≤ j) (ha : EvR X o ρ P0) (mo : Mono P') (hR : R P0 P') (h : ∀ v H, P0 v H → ∃ a dx fs, v = .ref a ∧ H a = some (.ins C dx fs) ∧ fs.lookup m = none)
    (ht : eval (.Call (.Attribute o m apos) [] [] pos) X.env = (do
      let ov ← eval o X.env
      standAt apos.atName
      let (f, first) ← holding [ov] (getMethod ov m pl)
      callWith pos f first (backTo pos (starEach [] X.env)) (backToKw pos (keywordEach [] X.env))) := by rfl) : EvR X (.Call (.Attribute o m apos) [] [] pos) ρ P' := by
  obtain ⟨g, fd, F, hm, b⟩ := c.ex
  refine ev_of (pe_methA0 (E := fun _ _ _ _ => False) pe_s cl hm F (hr.mono hk) b (fun σ => passAt0) ht) mo fun σ H eo Q q => ha.run σ H eo _ fun v H1 e1 pv => ?_
  obtain ⟨a, dx, fs, rfl, h1, h2⟩ := h v H1 pv
  exact ⟨a, dx, fs, rfl, h1, h2, _, P0, P', rfl, hR, ha.mono, pv, fun u H' e2 pu => q u H' (e1.trans e2) pu⟩
end
/-! ### stands -/
def spInitS (CS : Addr) : Sp := fun vs H Q _ => ∃ a dx c g o d, vs = [.ref a, c, g, o, d] ∧ H a = some (.ins CS dx []) ∧ Q .non (upd H a (.ins CS dx [("cells", c), ("signs", g), ("gone", o), ("deeds", d)]))
theorem upd_upd {H : Hp} {a : Addr} {x y : HO} : upd (upd H a x) a y = upd H a y := by
  funext b
  by_cases h : b = a
  · subst h
    rw [upd_same, upd_same]
  · rw [upd_ne h, upd_ne h, upd_ne h]
theorem sc_initS : FnScope ["self", "cells", "signs", "gone", "deeds"] ["self", "cells", "signs", "gone", "deeds"] (defScope s_Stand_init) := ⟨rfl, rfl, rfl, by decide +kernel, rfl, by decide +kernel, by decide +kernel⟩
theorem ok_initS (F : DF K mg CD CS) (D : MethD K CS "__init__" "Stand.__init__" s_Stand_init ["self", "cells", "signs", "gone", "deeds"] []) : CalM P w K mg base CX0 1 CS "__init__" ["self", "cells", "signs", "gone", "deeds"] (spInitS CS) :=
  meth_of0 D sc_initS (fun vs H Q E h => by
    obtain ⟨a, dx, c, g, o, d, rfl, _⟩ := h
    rfl) fun f cdv A outer s H vs Q E hr h => by
    obtain ⟨a, dx, c, g, o, d, rfl, ha, q⟩ := h
    have v (i : Nat) {x : Str} {p : Pos} (hN : (XG CX0 P w K mg base ["self", "cells", "signs", "gone", "deeds"] "Stand.__init__" s_Stand_init f cdv A outer s H E).nox.N[i]? = some x) (hx : Vis (defScope s_Stand_init) x) (h1 : (x == ("__debug__" : Str)) = false) (h2 : (x == ("__classdict__" : Str)) = false) := pe_var (X := (XG CX0 P w K mg base ["self", "cells", "signs", "gone", "deeds"] "Stand.__init__" s_Stand_init f cdv A outer s H E).nox) (pos := p) hN hx h1 h2
    refine sB_of (pss_cons (ps_fld (v 0 rfl (.inl rfl) (by decide) (by decide)) (v 1 rfl (.inl rfl) (by decide) (by decide)) rfl) (pss_cons (ps_fld (v 0 rfl (.inl rfl) (by decide) (by decide)) (v 2 rfl (.inl rfl) (by decide) (by decide)) rfl) (pss_cons (ps_fld (v 0 rfl (.inl rfl) (by decide) (by decide)) (v 3 rfl (.inl rfl) (by decide) (by decide)) rfl) (pss_cons (ps_fld (v 0 rfl (.inl rfl) (by decide) (by decide)) (v 4 rfl (.inl rfl) (by decide) (by decide)) rfl) pss_nil)))) ?_
    refine ⟨c, rfl, _, rfl, a, CS, dx, _, rfl, ha, F.cS, F.s1, (by show (0:Nat) < 1000; decide), ?_⟩
    refine ⟨g, rfl, _, rfl, a, CS, dx, _, rfl, upd_same, F.cS, F.s2, (by show (1:Nat) < 1000; decide), ?_⟩
    refine ⟨o, rfl, _, rfl, a, CS, dx, _, rfl, upd_same, F.cS, F.s3, (by show (2:Nat) < 1000; decide), ?_⟩
    refine ⟨d, rfl, _, rfl, a, CS, dx, _, rfl, upd_same, F.cS, F.s4, (by show (3:Nat) < 1000; decide), ?_⟩
    rw [upd_upd, upd_upd, upd_upd]
    exact q
/-- C can be made by its __init__ -/
structure MkC (P : Program) (w : World) (K : PySem.W.Frag) (mg : Str → Option Value) (base : Heap) (CX : CXT) (k : Nat) (C : Addr) (ps : List Str) (sp : Sp) : Prop where
  ex : ∃ (f : Addr) (fd : FuncData), Mk K C f ∧ FnOk P w K mg base CX k f fd ps sp ∧ Binds K fd ps []
theorem e_stand {X : Cx} {ρ : Rho} {e : Expr} {es : List Expr} {S : StandM} {p pos : Pos} {j : Nat} (F : DF X.K X.mg CD CS) (c : MkC X.prog X.w X.K X.mg X.base CX0 1 CS ["self", "cells", "signs", "gone", "deeds"] (spInitS CS)) (hr : Room j X.A) (hj : 2 ≤ j) (ha : EvA X (e :: es) ρ [dP S.cells, dP S.signs, dGs S.gone, dDs S.deeds]) (hg : Gl X "Stand" := by rfl)
    (he : starEach (e :: es) X.env = (false, eval e X.env) :: starEach es X.env := by rfl) (hpl : (backTo pos (starEach es X.env)).any (·.1) = false := by rfl) : EvR X (.Call (.Name "Stand" p) (e :: es) [] pos) ρ (StandAt X.K CS S) := by
  obtain ⟨f, fd, M, Fn, b⟩ := c.ex
  refine ev_of (pe_make (dvs := []) (ds := []) (E := fun _ _ _ => False) M Fn (hr.mono hj) hg F.gS b .nil (fun _ _ _ _ _ _ _ h => h.elim) pa_s (he := he) (hpl := hpl)) mono_stand fun σ H eo Q q => ha.run σ H eo _ fun vs H1 e1 pvs => ?_
  intro x dx hx hdx hne
  cases pvs with
  | cons p1 pvs =>
  cases pvs with
  | cons p2 pvs =>
  cases pvs with
  | cons p3 pvs =>
  cases pvs with
  | cons p4 pvs =>
  cases pvs
  rename_i c g o d
  refine ⟨x, dx, c, g, o, d, rfl, upd_same, rfl, ?_⟩
  have h2 : (upd H1 dx (.own x)) x = none := by
    rw [upd_ne (fun z => hne z.symm)]
    exact hx
  have e2 : Same H1 (upd (upd (upd H1 dx (.own x)) x (.ins CS dx [])) x (.ins CS dx [("cells", c), ("signs", g), ("gone", o), ("deeds", d)])) := by
    rw [upd_upd]
    exact (same_new hdx).trans (same_new h2)
  exact q _ _ (e1.trans e2) ⟨x, dx, c, g, o, d, rfl, upd_same, dp_mono e2 _ _ p1, dp_mono e2 _ _ p2, dp_mono e2 _ _ p3, dp_mono e2 _ _ p4⟩
/-! ### reading a desk -/
section
variable {X : Cx} {ρ : Rho} {e : Expr} {pos : Pos} {q : Ptr} {og : Pic} {m : Str} {S : StandM} {dn : List StandM} {n : Nat}
theorem e_here (F : DF X.K X.mg CD CS) (h : EvR X e ρ (DeskV X.K CD CS q og m S dn n)) (hb : attributeBase e "here" X.env (eval e X.env) = eval e X.env := by rfl) : EvR X (.Attribute e "here" pos) ρ (StandAt X.K CS S) := e_fld F.cD F.d3 h mono_stand (fun v H pv => by
  obtain ⟨rfl, d⟩ := pv
  obtain ⟨dx, o, hh, L, U, h1, h2, h3, _⟩ := d.ex
  exact ⟨q.p, dx, _, hh, rfl, h1, rfl, h3⟩) hb
theorem e_origin (F : DF X.K X.mg CD CS) (h : EvR X e ρ (DeskV X.K CD CS q og m S dn n)) (hb : attributeBase e "origin" X.env (eval e X.env) = eval e X.env := by rfl) : EvD X (.Attribute e "origin" pos) ρ (dP og) := e_fld F.cD F.d1 h mono_dd (fun v H pv => by
  obtain ⟨rfl, d⟩ := pv
  obtain ⟨dx, o, hh, L, U, h1, h2, h3, _⟩ := d.ex
  exact ⟨q.p, dx, _, o, rfl, h1, rfl, h2⟩) hb
theorem e_manner (F : DF X.K X.mg CD CS) (h : EvR X e ρ (DeskV X.K CD CS q og m S dn n)) (hb : attributeBase e "manner" X.env (eval e X.env) = eval e X.env := by rfl) : EvD X (.Attribute e "manner" pos) ρ (.str m) := e_fld F.cD F.d2 h mono_dd (fun v H pv => by
  obtain ⟨rfl, d⟩ := pv
  obtain ⟨dx, o, hh, L, U, h1, h2, h3, _⟩ := d.ex
  exact ⟨q.p, dx, _, .str m, rfl, h1, rfl, .str m⟩) hb
theorem e_done (F : DF X.K X.mg CD CS) (h : EvR X e ρ (DeskV X.K CD CS q og m S dn n)) (hb : attributeBase e "done" X.env (eval e X.env) = eval e X.env := by rfl) : EvR X (.Attribute e "done" pos) ρ (Eq0 (.ref q.ld)) := e_fld F.cD F.d4 h mono_eq (fun v H pv => by
  obtain ⟨rfl, d⟩ := pv
  obtain ⟨dx, o, hh, L, U, h1, h2, h3, _⟩ := d.ex
  exact ⟨q.p, dx, _, .ref q.ld, rfl, h1, rfl, rfl⟩) hb
theorem e_undone (F : DF X.K X.mg CD CS) (h : EvR X e ρ (DeskV X.K CD CS q og m S dn n)) (hb : attributeBase e "undone" X.env (eval e X.env) = eval e X.env := by rfl) : EvR X (.Attribute e "undone" pos) ρ (Eq0 (.ref q.lu)) := e_fld F.cD F.d5 h mono_eq (fun v H pv => by
  obtain ⟨rfl, d⟩ := pv
  obtain ⟨dx, o, hh, L, U, h1, h2, h3, _⟩ := d.ex
  exact ⟨q.p, dx, _, .ref q.lu, rfl, h1, rfl, rfl⟩) hb
theorem e_cells (F : DF X.K X.mg CD CS) (h : EvR X e ρ (StandAt X.K CS S)) (hb : attributeBase e "cells" X.env (eval e X.env) = eval e X.env := by rfl) : EvD X (.Attribute e "cells" pos) ρ (dP S.cells) := e_fld F.cS F.s1 h mono_dd (fun v H pv => by
  obtain ⟨a, dx, c, g, o, d, rfl, h1, h2, h3, h4, h5⟩ := pv
  exact ⟨a, dx, _, c, rfl, h1, rfl, h2⟩) hb
theorem e_signs (F : DF X.K X.mg CD CS) (h : EvR X e ρ (StandAt X.K CS S)) (hb : attributeBase e "signs" X.env (eval e X.env) = eval e X.env := by rfl) : EvD X (.Attribute e "signs" pos) ρ (dP S.signs) := e_fld F.cS F.s2 h mono_dd (fun v H pv => by
  obtain ⟨a, dx, c, g, o, d, rfl, h1, h2, h3, h4, h5⟩ := pv
  exact ⟨a, dx, _, g, rfl, h1, rfl, h3⟩) hb
theorem e_gone (F : DF X.K X.mg CD CS) (h : EvR X e ρ (StandAt X.K CS S)) (hb : attributeBase e "gone" X.env (eval e X.env) = eval e X.env := by rfl) : EvD X (.Attribute e "gone" pos) ρ (dGs S.gone) := e_fld F.cS F.s3 h mono_dd (fun v H pv => by
  obtain ⟨a, dx, c, g, o, d, rfl, h1, h2, h3, h4, h5⟩ := pv
  exact ⟨a, dx, _, o, rfl, h1, rfl, h4⟩) hb
theorem e_deeds (F : DF X.K X.mg CD CS) (h : EvR X e ρ (StandAt X.K CS S)) (hb : attributeBase e "deeds" X.env (eval e X.env) = eval e X.env := by rfl) : EvD X (.Attribute e "deeds" pos) ρ (dDs S.deeds) := e_fld F.cS F.s4 h mono_dd (fun v H pv => by
  obtain ⟨a, dx, c, g, o, d, rfl, h1, h2, h3, h4, h5⟩ := pv
  exact ⟨a, dx, _, d, rfl, h1, rfl, h5⟩) hb
end
theorem desk_ins {K : PySem.W.Frag} {q : Ptr} {og : Pic} {m : Str} {S : StandM} {dn : List StandM} {n : Nat} (meth : Str) (hm : ∀ b1 b2 b3 b4 b5 : V, List.lookup meth ([("origin", b1), ("manner", b2), ("here", b3), ("done", b4), ("undone", b5)] : List (Str × V)) = none := by intros; rfl) : ∀ v H, DeskV K CD CS q og m S dn n v H → ∃ a dx fs, v = .ref a ∧ H a = some (.ins CD dx fs) ∧ fs.lookup meth = none := fun v H pv => by
  obtain ⟨rfl, d⟩ := pv
  obtain ⟨dx, o, hh, L, U, h1, h2, h3, _⟩ := d.ex
  exact ⟨q.p, dx, _, rfl, h1, hm _ _ _ _ _⟩
end
end SH

/-! ## SHP4 -/
set_option Elab.async false
set_option linter.all false
set_option maxRecDepth 100000
set_option maxHeartbeats 4000000
namespace SH
open PySem PySem.Spec PyProof.Rows L2
theorem noL_dC : ∀ c : Cl, noL (dC c) = true
  | none => by simp [dC, noL]
  | some q => noL_dI _
theorem noL_dCs (r : List Cl) : noLs (r.map dC) = true := noLs_map fun _ _ => noL_dC _
def dT (t : List (List Cl)) : List PyData := t.map fun r => .list (r.map dC)
theorem at_cl {r : List Cl} {x : Int} {w : Nat} (hl : r.length = w) (h0 : 0 ≤ x) (h1 : x < w) : atI (r.map dC) x = some (dC (r.getD x.toNat none)) := by
  refine at_map h0 ?_
  have hx : x.toNat < r.length := by omega
  rw [List.getElem?_eq_getElem hx, List.getD_eq_getElem?_getD, List.getElem?_eq_getElem hx]
  rfl
theorem at_tb {t : List (List Cl)} {y : Int} (h0 : 0 ≤ y) (h1 : y < t.length) : atI (dT t) y = some (.list ((t.getD y.toNat []).map dC)) := by
  refine at_map h0 ?_
  have hx : y.toNat < t.length := by omega
  rw [List.getElem?_eq_getElem hx, List.getD_eq_getElem?_getD, List.getElem?_eq_getElem hx]
  rfl
theorem isNone_dC (c : Cl) : isNone (dC c) = c.isNone := by cases c <;> rfl
theorem isG_d (v : Int) : PyData.int (-(if decide (v = 2) = true then 1 else 0)) = .int (-(isG v)) := by
  unfold isG
  by_cases h : v = 2 <;> simp [h]
section
variable {P : Program} {w : World} {K : PySem.W.Frag} {mg : Str → Option Value} {base : Heap}
def R_downs (ds : List PyData) (d : PyData) : Prop := ∃ (p mk : Pic) (m : Str) (wd hg : Nat), Shape wd hg p ∧ Shape wd hg mk ∧ 0 < wd ∧ 0 < hg ∧ wd ≤ 100 ∧ hg ≤ 100 ∧ ds = [.list [dP p], .str m, dP mk] ∧ d = .list (dT (tabM p mk (isW m) wd hg))
abbrev N_downs : List Str := ["pictures", "manner", "marks", "wide", "high", "x", "found", "y", "below", "row", "best", "there", "cost", "here", "picture"]
theorem sc_downs : FnScope N_downs ["pictures", "manner", "marks"] (defScope s_downs) := ⟨rfl, rfl, rfl, by decide +kernel, rfl, by decide +kernel, by decide +kernel⟩
theorem ok_downs (G : Glob K mg) (D : DefAt K mg "downs" s_downs ["pictures", "manner", "marks"]) (c1 : CalD P w K mg base 1 "next_ones" R_next) (c2 : CalD P w K mg base 3 "step_cost" R_cost) (c3 : CalD P w K mg base 1 "add" R_add) : CalD P w K mg base 4 "downs" R_downs := by
  refine cal_pure D sc_downs (fun ds d h => ?_) fun f cdv A outer s H E hr ds d h => ?_
  · obtain ⟨p, mk, m, _, _, _, _, _, _, _, _, rfl, _⟩ := h
    rfl
  · obtain ⟨p, mk, m, wd, hg, S, M, hw, hh, hzw, hzh, rfl, rfl⟩ := h
    have hl := S.hgt
    have hml := M.hgt
    have a0 : atI [dP p] 0 = some (dP p) := rfl
    have r0 := at0 S hh
    have rl0 : (rowM p 0).length = wd := rowM_len S (by omega) (by omega)
    refine b_tg (js := [3, 4]) (d := .tuple [.int (wd : Nat), .int (hg : Nat)]) (ds := [.int (wd : Nat), .int (hg : Nat)]) (e_tup (a_cons (EvD.is (e_len (ds := (rowM p 0).map .int) G.len (e_ix (ds := p.map dI) (e_ixL (ds := [dP p]) (e_n 0 rfl) e_int a0) e_int r0)) (by rw [List.length_map, rl0])) (a_cons (EvD.is (e_len (ds := p.map dI) G.len (e_ixL (ds := [dP p]) (e_n 0 rfl) e_int a0)) (by rw [List.length_map, hl])) a_nil)) (by simp)) (tg_tup rfl (tgs_cons 3 (tgs_cons 4 tgs_nil sc_downs.nd) sc_downs.nd)) ?_
    -- the last row
    refine b_set 6 (P := LL K (dT (downM p mk (isW m) wd hg 0))) (e_lstL (ds := dT (downM p mk (isW m) wd hg 0)) (a_cons (EvD.is (d' := .list (((List.range wd).map fun (x : Nat) => lastC mk ((hg : Int) - 1) (0 + (x : Int))).map dC)) (e_lcA (own := [("x", 5)]) (js := [5]) (xs := List.range wd) (emb := fun i => .int (0 + (i : Int))) (parts := fun i => [.int (0 + (i : Int))]) (g := fun i => dC (lastC mk ((hg : Int) - 1) (0 + (i : Int)))) rfl sc_downs.nd (src_rangeN G.range (e_n (d := .int (wd : Nat)) 3 rfl) (by omega)) (blkOk_by (own := [("x", 5)]) (by rfl)) (by decide) (by rw [List.length_range]; omega) (fun _ _ => noL_dC _) (fun _ _ _ _ _ _ _ => tg_name 5 sc_downs.nd) fun s2 H2 C cl fp x hx => ?last) (by rw [List.map_map]; rfl)) a_nil) (by simp [dT, downM])) ?_ sc_downs.nd
    case last =>
      have hx : x < wd := List.mem_range.mp hx
      have hrow : ∀ {X : Cx} {ρ : Rho} {e1 e2 : Expr} {pos : Pos} (_ : EvD X e1 ρ (dP mk)) (_ : EvD X e2 ρ (.int ((hg : Int) - 1))) (_ : PlainIx e2), EvD X (.Subscript e1 e2 pos) ρ (dI (rowM mk ((hg : Int) - 1))) := fun h1 h2 h3 => e_ix (ds := mk.map dI) h1 h2 (at_row M (by omega) (by omega)) h3
      have hcell : ∀ {X : Cx} {ρ : Rho} {e1 e2 : Expr} {pos : Pos} (_ : EvD X e1 ρ (dI (rowM mk ((hg : Int) - 1)))) (_ : EvD X e2 ρ (.int (0 + (x : Int)))) (_ : PlainIx e2), EvD X (.Subscript e1 e2 pos) ρ (.int (cellM mk ((hg : Int) - 1) (0 + (x : Int)))) := fun h1 h2 h3 => e_ix (ds := (rowM mk ((hg : Int) - 1)).map .int) h1 h2 (at_cell M (by omega) (by omega) (by omega) (by omega)) h3
      refine EvD.is (e_if (d := dC none) (d' := dC (some (-(isG (cellM mk ((hg : Int) - 1) (0 + (x : Int)))), 0))) (t_cmp c_eqI (hcell (hrow (e_n 2 rfl) (e_sub (e_n 4 rfl) e_int) fun _ _ => rfl) (e_n 5 rfl) fun _ _ => rfl) (e_gi G.kept)) (fun _ => e_non) fun _ => e_tup (ds := [.int (-(isG (cellM mk ((hg : Int) - 1) (0 + (x : Int))))), .int 0]) (a_cons (EvD.is (e_neg (e_intB G.int (e_cmp c_eqI (hcell (hrow (e_n 2 rfl) (e_sub (e_n 4 rfl) e_int) fun _ _ => rfl) (e_n 5 rfl) fun _ _ => rfl) (e_gi G.gone)))) (isG_d _)) (a_cons e_int a_nil)) (by simp)) ?_
      unfold lastC
      by_cases z : cellM mk ((hg : Int) - 1) (0 + (x : Int)) = 1
      · rw [if_pos z, if_pos (decide_eq_true z)]
      · rw [if_neg z, if_neg (by rw [decide_eq_false z]; decide)]
    -- the rows above
    refine b_s (ρ' := [some (DD K (.list [dP p])), some (DD K (.str m)), some (DD K (dP mk)), some (DD K (.int (wd : Nat))), some (DD K (.int (hg : Nat))), none, some (LL K (dT (downM p mk (isW m) wd hg (hg - 1)))), none, none, none, none, none, none, none, none]) (sr_forE (js := [7]) (xs := List.range (hg - 1)) (emb := fun k => .int ((hg : Int) - 2 - (k : Int))) (parts := fun k => [.int ((hg : Int) - 2 - (k : Int))])
      (fun k => [some (DD K (.list [dP p])), some (DD K (.str m)), some (DD K (dP mk)), some (DD K (.int (wd : Nat))), some (DD K (.int (hg : Nat))), none, some (LL K (dT (downM p mk (isW m) wd hg k))), none, none, none, none, none, none, none, none])
      (by rw [List.length_range]) (PassesOwn.never) rfl (src_down G.range (e_sub (e_n (d := .int (hg : Nat)) 4 rfl) e_int) (e_neg e_int) (e_neg e_int) (by omega) (by omega) (by omega)) (by repeat (first | exact imp_nil | apply imp_id | apply imp_none | apply imp_bs | apply imp_own | (refine imp_bsP mono_ll ?_)))
      (fun _ _ => tg_name 7 sc_downs.nd) fun k x0 hk => ?body) (b_ret (e_ll (e_nP 6 rfl mono_ll)))
    case body =>
      have hk1 := (List.getElem?_eq_some_iff.mp hk)
      obtain ⟨hk2, hk3⟩ := hk1
      rw [List.length_range] at hk2
      rw [List.getElem_range] at hk3
      subst hk3
      have y0 : 0 ≤ (hg : Int) - 2 - (k : Int) := by omega
      have y1 : (hg : Int) - 2 - (k : Int) + 1 < hg := by omega
      generalize hy : (hg : Int) - 2 - (k : Int) = y at y0 y1
      have htab : downM p mk (isW m) wd hg (k + 1) = rowC p mk (isW m) wd y ((downM p mk (isW m) wd hg k).headD []) :: downM p mk (isW m) wd hg k := by
        rw [← hy]
        rfl
      have hbl : ((downM p mk (isW m) wd hg k).headD []).length = wd := by
        have := downM_len (p := p) (mk := mk) (wo := isW m) (w := wd) (h := hg) k
        cases q : downM p mk (isW m) wd hg k with
        | nil => rw [q] at this; simp at this
        | cons r t => exact downM_wid (p := p) (mk := mk) (wo := isW m) (w := wd) (h := hg) k r (by rw [q]; exact List.mem_cons_self)
      have hat : atI (dT (downM p mk (isW m) wd hg k)) 0 = some (.list (((downM p mk (isW m) wd hg k).headD []).map dC)) := by
        have := downM_len (p := p) (mk := mk) (wo := isW m) (w := wd) (h := hg) k
        rw [at_tb (by omega) (by omega)]
        cases q : downM p mk (isW m) wd hg k with
        | nil => rw [q] at this; simp at this
        | cons r t => rfl
      have hdl := downM_len (p := p) (mk := mk) (wo := isW m) (w := wd) (h := hg) k
      generalize (downM p mk (isW m) wd hg k).headD [] = below at htab hbl hat
      refine b_newPar 8 9 (e_ixL (e_ll (e_nP 6 rfl mono_ll)) e_int hat) (fun q H0 h0 => ?_) rfl rfl sc_downs.nd
      refine bm_for (js := [5]) (xs := List.range wd) (emb := fun i => .int (0 + (i : Int))) (parts := fun i => [.int (0 + (i : Int))])
        (fun i => [some (Bs H0 (DD K (.list [dP p]))), some (Bs H0 (DD K (.str m))), some (Bs H0 (DD K (dP mk))), some (Bs H0 (DD K (.int (wd : Nat)))), some (Bs H0 (DD K (.int (hg : Nat)))), none, some (Bs H0 (LL K (dT (downM p mk (isW m) wd hg k)))), some (Bs H0 (DD K (.int y))), some (Bs H0 (DD K (.list (below.map dC)))), some (Own K q (((rowC p mk (isW m) wd y below).take i).map dC)), none, none, none, none, none])
        PassesOwn.never rfl (srcm_rangeN G.range (e_nb (d := .int (wd : Nat)) 3 rfl) (by omega)) (by repeat (first | exact imp_nil | apply imp_id | apply imp_none | apply imp_bs | apply imp_own | (refine imp_bsP mono_ll ?_))) (fun _ _ => tg_name 5 sc_downs.nd) (fun i x0 hi => ?inner) ?after
      case after =>
        rw [List.length_range]
        have ht : (rowC p mk (isW m) wd y below).take wd = rowC p mk (isW m) wd y below := List.take_of_length_le (by unfold rowC; rw [List.length_map, List.length_range]; exact Nat.le_refl _)
        rw [ht]
        refine bm_out (bm_s (sr_set 6 (e_catL (e_lstL (a_cons (e_no 9 rfl) a_nil) (by simp)) (e_w (e_nP (P := Bs H0 (LL K (dT (downM p mk (isW m) wd hg k)))) 6 rfl mono_bs) (fun v H q => mono_ll v _ _ q.2 q.1) mono_ll) (by simp [dT]; omega)) sc_downs.nd) bm_nil) ?_
        rw [htab]
        exact (by repeat (first | exact imp_nil | apply imp_id | apply imp_none | apply imp_bs | apply imp_own | (refine imp_bsP mono_ll ?_)))
      case inner =>
        have hi1 := (List.getElem?_eq_some_iff.mp hi)
        obtain ⟨hi2, hi3⟩ := hi1
        rw [List.length_range] at hi2
        rw [List.getElem_range] at hi3
        subst hi3
        have x0 : 0 ≤ (0 + (i : Int)) := by omega
        have x1 : (0 + (i : Int)) < wd := by omega
        have hrow : (rowC p mk (isW m) wd y below).take (i + 1) = (rowC p mk (isW m) wd y below).take i ++ [bestC p mk (isW m) wd y (0 + (i : Int)) below] := by
          refine take_succ_at ?_
          unfold rowC
          rw [List.getElem?_map, List.getElem?_range hi2]
          rfl
        generalize (0 + (i : Int)) = x at x0 x1 hrow
        refine bm_s (sr_set 10 (EvD.is (d' := dC none) e_non rfl) sc_downs.nd) ?_
        refine bm_s (ρ' := [some (Bs H0 (DD K (.list [dP p]))), some (Bs H0 (DD K (.str m))), some (Bs H0 (DD K (dP mk))), some (Bs H0 (DD K (.int (wd : Nat)))), some (Bs H0 (DD K (.int (hg : Nat)))), some (DD K (.int x)), some (Bs H0 (LL K (dT (downM p mk (isW m) wd hg k)))), some (Bs H0 (DD K (.int y))), some (Bs H0 (DD K (.list (below.map dC)))), some (Own K q (((rowC p mk (isW m) wd y below).take i).map dC)), some (DD K (dC (bestC p mk (isW m) wd y x below))), none, none, none, none]) (sr_forE (js := [11]) (xs := nextM x wd) (emb := .int) (parts := fun t => [.int t])
            (fun j => [some (Bs H0 (DD K (.list [dP p]))), some (Bs H0 (DD K (.str m))), some (Bs H0 (DD K (dP mk))), some (Bs H0 (DD K (.int (wd : Nat)))), some (Bs H0 (DD K (.int (hg : Nat)))), some (DD K (.int x)), some (Bs H0 (LL K (dT (downM p mk (isW m) wd hg k)))), some (Bs H0 (DD K (.int y))), some (Bs H0 (DD K (.list (below.map dC)))), some (Own K q (((rowC p mk (isW m) wd y below).take i).map dC)), some (DD K (dC (((nextM x wd).take j).foldl (tryC p mk (isW m) y x below) none))), none, none, none, none])
            (by rw [List.take_length]; rfl) PassesOwn.never rfl (src_list (e_call c1 hr (by decide) rfl (a_cons (e_n (d := .int x) 5 rfl) (a_cons (e_nb (d := .int (wd : Nat)) 3 rfl) a_nil)) ⟨x, wd, rfl, rfl⟩)) (by repeat (first | exact imp_nil | apply imp_id | apply imp_none | apply imp_bs | apply imp_own | (refine imp_bsP mono_ll ?_))) (fun _ _ => tg_name 11 sc_downs.nd) fun j t hj => ?tbody) ?ap
        case ap =>
          refine bm_out (bm_app 9 (ds := ((rowC p mk (isW m) wd y below).take i).map dC) (d := dC (bestC p mk (isW m) wd y x below)) (e_n 10 rfl) (noL_dC _) (noL_dCs _) (by rw [List.length_map, List.length_take]; omega) bm_nil (by repeat (first | exact ka_nil | apply ka_none | (refine ka_some (keep_bs h0) ?_) | (refine ka_some (keep_d (by first | rfl | exact noL_dC _ | simp [noL])) ?_)))) ?_
          rw [hrow, List.map_append]
          exact (by repeat (first | exact imp_nil | apply imp_id | apply imp_none | apply imp_bs | apply imp_own | (refine imp_bsP mono_ll ?_)))
        case tbody =>
          · obtain ⟨t0, t1, ta, tb⟩ := next_mem (List.mem_of_getElem? hj)
            have hfold : ((nextM x wd).take (j + 1)).foldl (tryC p mk (isW m) y x below) none = tryC p mk (isW m) y x below (((nextM x wd).take j).foldl (tryC p mk (isW m) y x below) none) t := by
              rw [take_succ_at hj, List.foldl_append]
              rfl
            rw [hfold]
            generalize ((nextM x wd).take j).foldl (tryC p mk (isW m) y x below) none = best
            have hb := at_cl (r := below) hbl t0 t1
            have hrow : ∀ {X : Cx} {ρ : Rho} {e1 e2 : Expr} {pos : Pos} (_ : EvD X e1 ρ (dP mk)) (_ : EvD X e2 ρ (.int y)) (_ : PlainIx e2), EvD X (.Subscript e1 e2 pos) ρ (dI (rowM mk y)) := fun h1 h2 h3 => e_ix (ds := mk.map dI) h1 h2 (at_row M (by omega) (by omega)) h3
            have hcell : ∀ {X : Cx} {ρ : Rho} {e1 e2 : Expr} {pos : Pos} (_ : EvD X e1 ρ (dI (rowM mk y))) (_ : EvD X e2 ρ (.int x)) (_ : PlainIx e2), EvD X (.Subscript e1 e2 pos) ρ (.int (cellM mk y x)) := fun h1 h2 h3 => e_ix (ds := (rowM mk y).map .int) h1 h2 (at_cell M (by omega) (by omega) x0 x1) h3
            cases hbt : below.getD t.toNat none with
            | none =>
              rw [hbt] at hb
              refine b_out (b_if_f (EvT.is (b' := false) (t_w (w_and (k' := false) (t_cmp c_isnot (e_ixL (e_nb 8 rfl) (e_n 11 rfl) hb) e_non) fun z => by cases z)) rfl) b_nil) ?_
              have : tryC p mk (isW m) y x below best t = best := by
                unfold tryC
                rw [hbt]
              rw [this]
              exact (by repeat (first | exact imp_nil | apply imp_id | apply imp_none | apply imp_bs | apply imp_own | (refine imp_bsP mono_ll ?_)))
            | some bb =>
              rw [hbt] at hb
              by_cases hmk : cellM mk y x = 1
              · refine b_out (b_if_f (EvT.is (b' := false) (t_w (w_and (t_cmp c_isnot (e_ixL (e_nb 8 rfl) (e_n 11 rfl) hb) e_non) fun _ => w_and1 (t_cmp c_neI (hcell (hrow (e_nb 2 rfl) (e_nb 7 rfl) fun _ _ => rfl) (e_n 5 rfl) fun _ _ => rfl) (e_gi G.kept)))) ?_) b_nil) ?_
                · rw [decide_eq_true hmk]
                  rfl
                · have : tryC p mk (isW m) y x below best t = best := by
                    unfold tryC
                    rw [hbt]
                    exact if_pos hmk
                  rw [this]
                  exact (by repeat (first | exact imp_nil | apply imp_id | apply imp_none | apply imp_bs | apply imp_own | (refine imp_bsP mono_ll ?_)))
              · have htry : tryC p mk (isW m) y x below best t = betC best (stepC p mk (isW m) y x t bb) := by
                  unfold tryC
                  rw [hbt]
                  exact if_neg hmk
                rw [htry]
                refine b_s (ρ' := [some (Bs H0 (DD K (.list [dP p]))), some (Bs H0 (DD K (.str m))), some (Bs H0 (DD K (dP mk))), some (Bs H0 (DD K (.int (wd : Nat)))), some (Bs H0 (DD K (.int (hg : Nat)))), some (DD K (.int x)), some (Bs H0 (LL K (dT (downM p mk (isW m) wd hg k)))), some (Bs H0 (DD K (.int y))), some (Bs H0 (DD K (.list (below.map dC)))), some (Own K q (((rowC p mk (isW m) wd y below).take i).map dC)), some (DD K (dC (betC best (stepC p mk (isW m) y x t bb)))), none, none, none, none]) (sr_if (k := true) (EvT.is (t_w (w_and (t_cmp c_isnot (e_ixL (e_nb 8 rfl) (e_n 11 rfl) hb) e_non) fun _ => w_and1 (t_cmp c_neI (hcell (hrow (e_nb 2 rfl) (e_nb 7 rfl) fun _ _ => rfl) (e_n 5 rfl) fun _ _ => rfl) (e_gi G.kept)))) ?tst) (fun _ => ?thn) fun z => by cases z) b_nil
                case tst =>
                  rw [decide_eq_false hmk]
                  rfl
                case thn =>
                  refine b_out (b_set 12 (EvD.is (d' := .int (costM p t (y + 1) (some x) (isW m))) (e_sum (ns := [costM p t (y + 1) (some x) (isW m)]) rfl G.sum (e_lcA (own := [("picture", 14)]) (js := [14]) (xs := [p]) (emb := dP) (parts := fun r => [dP r]) (g := fun r => .int (costM p t (y + 1) (some x) (isW m))) rfl sc_downs.nd (src_list (e_nb 0 rfl)) (blkOk_by (own := [("picture", 14)]) (by rfl)) (by decide) (by simp) (fun _ _ => by simp [noL]) (fun _ _ _ _ _ _ _ => tg_name 14 sc_downs.nd)
                    fun s3 H3 C3 cl3 fp3 r hr3 => ?cst)) (by simp)) (b_set 13 (e_call c3 hr (by decide) rfl (a_cons (EvD.is (d' := dI [bb.1, bb.2]) (e_ixL (e_nb 8 rfl) (e_n 11 rfl) hb) rfl) (a_cons (EvD.is (d' := dI [-(isG (cellM mk y x)), costM p t (y + 1) (some x) (isW m)]) (e_tup (a_cons (EvD.is (e_neg (e_intB G.int (e_cmp c_eqI (hcell (hrow (e_nb 2 rfl) (e_nb 7 rfl) fun _ _ => rfl) (e_n 5 rfl) fun _ _ => rfl) (e_gi G.gone)))) (isG_d _)) (a_cons (e_n 12 rfl) a_nil)) (by simp)) rfl) a_nil)) ⟨_, _, _, _, rfl, rfl⟩) (b_set 10 ?bst b_nil sc_downs.nd) sc_downs.nd) sc_downs.nd) (by repeat (first | exact imp_nil | apply imp_id | apply imp_none | apply imp_bs | apply imp_own | (refine imp_bsP mono_ll ?_)))
                  case cst =>
                    have : r = p := List.mem_singleton.mp hr3
                    subst this
                    exact e_call c2 hr (by decide) rfl (a_cons (e_n 14 rfl) (a_cons (e_n 11 rfl) (a_cons (e_add (e_nb 7 rfl) e_int) (a_cons (EvD.is (d' := dOi (some x)) (e_n (d := .int x) 5 rfl) rfl) (a_cons (e_nb 1 rfl) a_nil))))) ⟨r, wd, hg, t, y + 1, some x, m, S, t0, t1, by omega, by omega, fun z hz => by cases hz; omega, rfl, rfl⟩
                  case bst =>
                    cases best with
                    | none => exact EvD.is (d' := dC (betC none (stepC p mk (isW m) y x t bb))) (e_if (k := true) (d := dC (some (stepC p mk (isW m) y x t bb))) (d' := dC none) (EvT.is (t_w (w_or (k' := true) (t_cmp c_is (e_n (d := dC none) 10 rfl) e_non) fun z => by cases z)) rfl) (fun _ => e_n (d := dI [bb.1 + -(isG (cellM mk y x)), bb.2 + costM p t (y + 1) (some x) (isW m)]) 13 rfl) fun z => by cases z) rfl
                    | some b0 =>
                      refine EvD.is (d' := dC (betC (some b0) (stepC p mk (isW m) y x t bb))) (e_if (k := ltC (stepC p mk (isW m) y x t bb) b0) (d := dC (some (stepC p mk (isW m) y x t bb))) (d' := dC (some b0)) (EvT.is (t_w (w_or (t_cmp c_is (e_n (d := dC (some b0)) 10 rfl) e_non) fun z => w_or1 (t_cmp (c_ltT (ns := [bb.1 + -(isG (cellM mk y x)), bb.2 + costM p t (y + 1) (some x) (isW m)]) (ms := [b0.1, b0.2]) hr.units0) (e_n (d := dI [bb.1 + -(isG (cellM mk y x)), bb.2 + costM p t (y + 1) (some x) (isW m)]) 13 rfl) (e_n (d := dC (some b0)) 10 rfl)))) rfl) (fun _ => e_n (d := dI [bb.1 + -(isG (cellM mk y x)), bb.2 + costM p t (y + 1) (some x) (isW m)]) 13 rfl) fun z => e_n 10 rfl) ?_
                      unfold betC
                      show _ = dC (if ltC _ b0 = true then some _ else some b0)
                      split <;> rfl
end
end SH

/-! ## SHI -/
set_option Elab.async false
set_option linter.all false
set_option maxRecDepth 100000
set_option maxHeartbeats 2000000
namespace SH
open PySem PySem.Spec PyProof.Rows L2
section
variable {X : Cx} {ρ ρ' ρ2 : Rho} {a b c e tg : Expr} {es : List Expr} {pos pp p1 p2 p3 : Pos} {p : Addr} {rest sts els : List Stmt}
/-- name = [ .. for .. ] -/
theorem sr_setLc (i : Nat) {y : Str} {py spos : Pos} {α : Type} {elt iter : Expr} {ifs : List Expr} {scope : Scope} {own : List (Str × Nat)} {js : List Nat} {xs : List α} {emb : α → PyData} {parts : α → List PyData} {f : α → Bool} {g : α → PyData} {lpos : Pos}
    (hc : X.calm = true) (hN : X.N.Nodup) (hsrc : SrcR X tg iter ρ (xs.map emb)) (ok : BlkOk X.N X.env.scope scope own) (hj : ∀ j ∈ js, j ∈ own.map (·.2)) (hz : xs.length ≤ 100000) (hno : ∀ x ∈ xs, noL (g x) = true)
    (htg : ∀ (s : Shared) (H : Hp) (C : Addr) (cl : List (Str × Addr)) (fp : List Addr) (x : α), x ∈ xs → TgR (X.blk s H scope (compEnvC scope cl C X.env) fp) tg js (emb x) (parts x))
    (hif : ∀ (s : Shared) (H : Hp) (C : Addr) (cl : List (Str × Addr)) (fp : List Addr) (x : α), x ∈ xs → EvTs (X.blk s H scope (compEnvC scope cl C X.env) fp) ifs (setR X.K (wipeR ρ (own.map (·.2))) js (parts x)) (f x))
    (hel : ∀ (s : Shared) (H : Hp) (C : Addr) (cl : List (Str × Addr)) (fp : List Addr) (x : α), x ∈ xs → f x = true → EvD (X.blk s H scope (compEnvC scope cl C X.env) fp) elt (setR X.K (wipeR ρ (own.map (·.2))) js (parts x)) (g x))
    (hy : X.N[i]? = some y := by rfl) (hyl : X.env.scope.names.lookup y = some .local := by rfl)
    (hsw : swapsWith (.ListComp elt [⟨tg, iter, ifs, 0⟩] scope lpos) (some (.Name y py)) spos.line X.env = pure true := by exact sw_true rfl rfl rfl (by decide +kernel)) (hs : ∀ x, foldedSetIterable iter X.env x = pure x := by intro _; rfl) :
    SR X (.Assign [.Name y py] (.ListComp elt [⟨tg, iter, ifs, 0⟩] scope lpos) spos) ρ (ρ.set i (some (DD X.K (.list ((xs.filter f).map g))))) := by
  obtain ⟨wi, hpi, h⟩ := lc_read hc hN hsrc ok hj hz hno htg hif hel
  exact ⟨fun σ H eo D q => sS_of (ps_setLc hc hN hy hyl hsw hpi ok (fun s H C cl fp => ⟨fun pins s' σ H' v u Q I r h => h s H C cl fp pins s' u I r⟩) (fun s H C cl fp => ⟨fun pins s' σ H' Q I h => h s H C cl fp pins s' I⟩) (fun s H C cl fp => ⟨fun pins s' σ H' Q I h => h s H C cl fp pins s' I⟩) hs) (h σ H eo _ fun v H1 e1 pv => q _ H1 e1 ((eo.up e1).set i pv mono_dd))⟩
/-- name = [e, ..]: a list of one's own from here on -/
theorem b_newL (i : Nat) {x : Str} {pos' : Pos} {ds : List PyData} {o : Out} {om : OutM} (h : EvA X es ρ ds) (hn : noLs ds = true) (hz : ds.length ≤ 1000) (k : ∀ (p : Addr) (H0 : Hp), H0 p = none → BM X p rest ((bsR H0 ρ).set i (some (Own X.K p ds))) om) (ho : om = match o with | .ret P => .ret P | .nx ρ' => .nx ρ') (hN : X.N.Nodup) (hi : X.N[i]? = some x := by rfl) (hx : Loc X.env.scope x := by first | exact Or.inl rfl | exact Or.inr rfl)
    (hs : swapsWith (.List es pp) (some (.Name x pos')) pos.line X.env = pure false := by rfl) (hf : X.fn x = true ∨ X.env.scope.names.lookup x = some .local := by first | exact .inl rfl | exact .inr rfl) :
    BR X (.Assign [.Name x pos'] (.List es pp) pos :: rest) ρ o := ⟨fun σ H eo D q => sB_of (pss_cons (ps_set hN hi hx (pe_lst pa_s) hs hf) pss_s) (h.run σ H eo _ fun vs H1 e1 pvs => ⟨by rw [sizeLine_eq, dpa_len pvs]; omega, fun p hp => by
      have e2 : Same H1 (upd H1 p (.lst vs)) := same_new hp
      refine (k p H1 hp).run _ _ ((EnvOk.base (eo.up e1) e2).set i (v := .ref p) ⟨rfl, vs, upd_same, dpa_mono e2 _ _ pvs⟩ mono_own) ⟨vs, upd_same⟩ D ?_
      subst ho
      cases o with
      | ret P => exact fun v H' s pv => q v H' (e1.trans (sx_same hp e2 s)) pv
      | nx ρ' => exact fun σ' H' s pe => q σ' H' (e1.trans (sx_same hp e2 s)) pe⟩)⟩
theorem SrcM.is {iter : Expr} {ds ds' : List PyData} (h : SrcM X p tg iter ρ ds) (q : ds = ds') : SrcM X p tg iter ρ ds' := q ▸ h
end
theorem enum_emb {α : Type} {f : α → PyData} (r : List α) : enumD (r.map f) = r.zipIdx.map fun q => .tuple [.int (q.2 : Nat), f q.1] := by
  unfold enumD
  rw [List.zipIdx_map, List.map_map]
  rfl
theorem eqv_pair (u v : Pr) : PyData.eqv (dPr u) (dPr v) = decide (u = v) := by
  obtain ⟨a, b⟩ := u
  obtain ⟨c, e⟩ := v
  simp [dPr, dI, PyData.eqv, PyData.eqvAll, Bool.beq_eq_decide_eq]
theorem eqv_dC (c : Cl) (v : Pr) : PyData.eqv (dC c) (dPr v) = decide (c = some v) := by
  cases c with
  | none =>
    simp [dC, dPr, dI, PyData.eqv]
  | some u =>
    show PyData.eqv (dPr u) (dPr v) = _
    rw [eqv_pair]
    simp
theorem shp_ints {ns : List Int} {n : Nat} : Shp (n + 1) (dI ns) := shp_tup fun d hd => by
  obtain ⟨i, _, rfl⟩ := List.mem_map.mp hd
  exact shp_int
theorem shp_dC (c : Cl) {n : Nat} : Shp (n + 1) (dC c) := by
  cases c with
  | none => exact shp_none
  | some q => exact shp_ints
end SH

/-! ## SHP5 -/
set_option Elab.async false
set_option linter.all false
set_option maxRecDepth 100000
set_option maxHeartbeats 4000000
namespace SH
open PySem PySem.Spec PyProof.Rows L2
section
variable {P : Program} {w : World} {K : PySem.W.Frag} {mg : Str → Option Value} {base : Heap}
structure TabOk (wd hg : Nat) (tb : List (List Cl)) : Prop where
  len : tb.length = hg
  wid : ∀ y, y < hg → (tb.getD y []).length = wd
def R_starts (ds : List PyData) (d : PyData) : Prop := ∃ (p : Pic) (m : Str) (wd hg : Nat) (tb : List (List Cl)), Shape wd hg p ∧ TabOk wd hg tb ∧ 0 < wd ∧ 0 < hg ∧ wd ≤ 100 ∧ hg ≤ 100 ∧ ds = [.list [dP p], .str m, .list (dT tb)] ∧ d = .list ((startM p (isW m) (tb.getD 0 [])).map dC)
abbrev N_starts : List Str := ["pictures", "manner", "table", "found", "x", "here", "cost", "picture"]
theorem sc_starts : FnScope N_starts ["pictures", "manner", "table"] (defScope s_starts) := ⟨rfl, rfl, rfl, by decide +kernel, rfl, by decide +kernel, by decide +kernel⟩
theorem ok_starts (G : Glob K mg) (D : DefAt K mg "starts" s_starts ["pictures", "manner", "table"]) (c2 : CalD P w K mg base 3 "step_cost" R_cost) (c3 : CalD P w K mg base 1 "add" R_add) : CalD P w K mg base 4 "starts" R_starts := by
  refine cal_pure D sc_starts (fun ds d h => ?_) fun f cdv A outer s H E hr ds d h => ?_
  · obtain ⟨p, m, _, _, _, _, _, _, _, _, _, rfl, _⟩ := h
    rfl
  · obtain ⟨p, m, wd, hg, tb, S, T, hw, hh, hzw, hzh, rfl, rfl⟩ := h
    have hrl := T.wid 0 hh
    have hat : atI (dT tb) 0 = some (.list ((tb.getD 0 []).map dC)) := at_tb (by omega) (by rw [T.len]; omega)
    generalize tb.getD 0 [] = row at hrl hat
    refine b_new 3 (om := .ret (DD K (.list ((startM p (isW m) row).map dC)))) (fun q H0 h0 => ?_) rfl sc_starts.nd
    refine bm_for (js := [4, 5]) (xs := row.zipIdx) (emb := fun u => .tuple [.int (u.2 : Nat), dC u.1]) (parts := fun u => [.int (u.2 : Nat), dC u.1])
      (fun i => [some (Bs H0 (DD K (.list [dP p]))), some (Bs H0 (DD K (.str m))), some (Bs H0 (DD K (.list (dT tb)))), some (Own K q (((startM p (isW m) row).take i).map dC)), none, none, none, none])
      PassesOwn.never rfl (SrcM.is (srcm_enumL h0 G.enum (e_ixLB (e_nP (P := Bs H0 (DD K (.list (dT tb)))) 2 rfl mono_bs) e_int hat)) (enum_emb row)) (by repeat (first | exact imp_nil | apply imp_id | apply imp_none | apply imp_bs | apply imp_own | (refine imp_bsP mono_ll ?_))) (fun _ _ => tg_tup rfl (tgs_cons 4 (tgs_cons 5 tgs_nil sc_starts.nd) sc_starts.nd)) (fun i u hi => ?body) ?after
    case after =>
      have ht : (startM p (isW m) row).take row.zipIdx.length = startM p (isW m) row := List.take_of_length_le (by rw [startM_len]; simp)
      rw [ht]
      exact bm_ret (e_no 3 rfl)
    case body =>
      obtain ⟨c, ix⟩ := u
      rw [List.getElem?_zipIdx] at hi
      have hi1 : row[i]? = some c ∧ ix = i := by
        cases z : row[i]? with
        | none => rw [z] at hi; cases hi
        | some c' =>
          rw [z] at hi
          have hi : (c', 0 + i) = (c, ix) := Option.some.inj hi
          have h1 := congrArg Prod.fst hi
          have h2 := congrArg Prod.snd hi
          have h1 : c' = c := h1
          have h2 : 0 + i = ix := h2
          subst h1
          exact ⟨rfl, by omega⟩
      obtain ⟨hc, rfl⟩ := hi1
      have hil : ix < wd := by
        have := (List.getElem?_eq_some_iff.mp hc).1
        omega
      have hrow : (startM p (isW m) row).take (ix + 1) = (startM p (isW m) row).take ix ++ [c.map fun b => (b.1 + 0, b.2 + costM p (ix : Int) 0 none (isW m))] := by
        refine take_succ_at ?_
        unfold startM
        rw [List.getElem?_map, List.getElem?_zipIdx, hc]
        simp
      refine bm_s (sr_set 6 (EvD.is (d' := .int (costM p (ix : Int) 0 none (isW m))) (e_sum (ns := [costM p (ix : Int) 0 none (isW m)]) rfl G.sum (e_lcA (own := [("picture", 7)]) (js := [7]) (xs := [p]) (emb := dP) (parts := fun r => [dP r]) (g := fun r => .int (costM p (ix : Int) 0 none (isW m))) rfl sc_starts.nd (src_list (e_nb 0 rfl)) (blkOk_by (own := [("picture", 7)]) (by rfl)) (by decide) (by simp) (fun _ _ => by simp [noL]) (fun _ _ _ _ _ _ _ => tg_name 7 sc_starts.nd)
                    fun s3 H3 C3 cl3 fp3 r hr3 => ?cst)) (by simp)) sc_starts.nd) ?_
      case cst =>
        have : r = p := List.mem_singleton.mp hr3
        subst this
        exact e_call c2 hr (by decide) rfl (a_cons (e_n 7 rfl) (a_cons (e_n 4 rfl) (a_cons e_int (a_cons (EvD.is (d' := dOi none) e_non rfl) (a_cons (e_nb 1 rfl) a_nil))))) ⟨r, wd, hg, (ix : Nat), 0, none, m, S, by omega, by omega, by omega, by omega, (fun z hz => by cases hz), rfl, rfl⟩
      · refine bm_out (bm_app 3 (ds := ((startM p (isW m) row).take ix).map dC) (d := dC (c.map fun b => (b.1 + 0, b.2 + costM p (ix : Int) 0 none (isW m)))) ?val (noL_dC _) (noL_dCs _) (by rw [List.length_map, List.length_take]; omega) bm_nil (by repeat (first | exact ka_nil | apply ka_none | (refine ka_some (keep_bs h0) ?_) | (refine ka_some (keep_d (by first | rfl | exact noL_dC _ | simp [noL])) ?_)))) ?wk
        case wk =>
          rw [hrow, List.map_append]
          exact (by repeat (first | exact imp_nil | apply imp_id | apply imp_none | apply imp_bs | apply imp_own | (refine imp_bsP mono_ll ?_)))
        case val =>
          cases c with
          | none => exact EvD.is (e_if (d := .none) (d' := .none) (k := true) (EvT.is (t_cmp c_is (e_n (d := dC none) 5 rfl) e_non) rfl) (fun _ => e_non) fun z => by cases z) rfl
          | some b => exact EvD.is (e_if (d := .none) (d' := dI [b.1 + 0, b.2 + costM p (ix : Int) 0 none (isW m)]) (k := false) (EvT.is (t_cmp c_is (e_n (d := dC (some b)) 5 rfl) e_non) rfl) (fun z => by cases z) fun _ => e_call c3 hr (by decide) rfl (a_cons (e_n (d := dI [b.1, b.2]) 5 rfl) (a_cons (EvD.is (d' := dI [0, costM p (ix : Int) 0 none (isW m)]) (e_tup (a_cons e_int (a_cons (e_n 6 rfl) a_nil)) (by simp)) rfl) a_nil)) ⟨_, _, _, _, rfl, rfl⟩) rfl
def dOw : Option (List Int) → PyData
  | none => .none
  | some s => dI s
def R_way (ds : List PyData) (d : PyData) : Prop := ∃ (p mk : Pic) (m : Str) (wd hg : Nat), Shape wd hg p ∧ Shape wd hg mk ∧ 0 < wd ∧ 0 < hg ∧ wd ≤ 100 ∧ hg ≤ 100 ∧ ds = [.list [dP p], .str m, dP mk] ∧ d = dOw (wayOf p mk (isW m) wd hg)
abbrev N_way : List Str := ["pictures", "manner", "marks", "table", "wide", "first", "some", "seam", "y", "x", "there", "cost", "one", "picture"]
theorem sc_way : FnScope N_way ["pictures", "manner", "marks"] (defScope s_best_way) := ⟨rfl, rfl, rfl, by decide +kernel, rfl, by decide +kernel, by decide +kernel⟩
theorem somes_d (r : List Cl) : (r.filter fun c => !c.isNone).map dC = (r.filterMap id).map dPr := by
  induction r with
  | nil => rfl
  | cons c r ih =>
    cases c with
    | none => simpa using ih
    | some q =>
      rw [List.filter_cons_of_pos (by rfl), List.map_cons, ih]
      rfl
theorem alike_pr (u v : Pr) : PySem.W.alike (dPr u) (dPr v) = true := by simp [dPr, dI, PySem.W.alike, PySem.W.alikeAll]
theorem alike_prs (qs : List Pr) : PySem.W.AlikeAll (qs.map dPr) := ⟨fun x hx y hy => by
  obtain ⟨u, _, rfl⟩ := List.mem_map.mp hx
  obtain ⟨v, _, rfl⟩ := List.mem_map.mp hy
  exact alike_pr u v, fun x hx => by
  obtain ⟨u, _, rfl⟩ := List.mem_map.mp hx
  simp [dPr, dI]⟩
theorem plain_prs (qs : List Pr) : PyData.plainAll (qs.map dPr) = true := PyData.plainAll_of_canLay0 _ (shp_all (n := 1) fun d hd => by
  obtain ⟨u, _, rfl⟩ := List.mem_map.mp hd
  exact shp_ints).1
theorem depth_prs (qs : List Pr) : PyData.depthAll (qs.map dPr) ≤ 1 := (shp_all (n := 1) fun d hd => by
  obtain ⟨u, _, rfl⟩ := List.mem_map.mp hd
  exact shp_ints).2
theorem ok_way (G : Glob K mg) (D : DefAt K mg "best_way" s_best_way ["pictures", "manner", "marks"]) (c0 : CalD P w K mg base 4 "downs" R_downs) (c9 : CalD P w K mg base 4 "starts" R_starts) (c1 : CalD P w K mg base 1 "next_ones" R_next) (c2 : CalD P w K mg base 3 "step_cost" R_cost) (c3 : CalD P w K mg base 1 "add" R_add) : CalD P w K mg base 5 "best_way" R_way := by
  refine cal_pure D sc_way (fun ds d h => ?_) fun f cdv A outer s H E hr ds d h => ?_
  · obtain ⟨p, mk, m, _, _, _, _, _, _, _, _, rfl, _⟩ := h
    rfl
  · obtain ⟨p, mk, m, wd, hg, S, M, hw, hh, hzw, hzh, rfl, rfl⟩ := h
    have hl := S.hgt
    have hml := M.hgt
    have T : TabOk wd hg (tabM p mk (isW m) wd hg) := ⟨tab_len hh, fun y hy => tab_wid hy⟩
    have hat : atI (dT (tabM p mk (isW m) wd hg)) 0 = some (.list (((tabM p mk (isW m) wd hg).getD 0 []).map dC)) := at_tb (by omega) (by rw [T.len]; omega)
    refine b_set 3 (P := DD K (.list (dT (tabM p mk (isW m) wd hg)))) (e_call c0 hr (by decide) rfl (a_cons (e_n 0 rfl) (a_cons (e_n 1 rfl) (a_cons (e_n 2 rfl) a_nil))) ⟨p, mk, m, wd, hg, S, M, hw, hh, hzw, hzh, rfl, rfl⟩) ?_ sc_way.nd
    refine b_set 4 (P := DD K (.int (wd : Nat))) (EvD.is (e_lenL G.len (e_ixL (e_n 3 rfl) e_int hat)) (by rw [List.length_map, tab_wid hh])) ?_ sc_way.nd
    refine b_set 5 (P := DD K (.list ((firstM p mk (isW m) wd hg).map dC))) (e_call c9 hr (by decide) rfl (a_cons (e_n 0 rfl) (a_cons (e_n 1 rfl) (a_cons (e_n 3 rfl) a_nil))) ⟨p, m, wd, hg, _, S, T, hw, hh, hzw, hzh, rfl, rfl⟩) ?_ sc_way.nd
    refine b_s (sr_setLc 6 (own := [("one", 12)]) (js := [12]) (xs := firstM p mk (isW m) wd hg) (emb := dC) (parts := fun c => [dC c]) (f := fun c => !c.isNone) (g := dC) rfl sc_way.nd (src_list (e_n 5 rfl)) (blkOk_by (own := [("one", 12)]) (by rfl)) (by decide) (by rw [first_len hh]; omega) (fun _ _ => noL_dC _) (fun _ _ _ _ _ _ _ => tg_name 12 sc_way.nd) (fun _ _ _ _ _ c _ => ts_one (EvT.is (t_cmp c_isnot (e_n 12 rfl) e_non) (by rw [isNone_dC]))) fun _ _ _ _ _ c _ _ => e_n 12 rfl) ?_
    rw [somes_d]
    have hwf : wayOf p mk (isW m) wd hg = match (firstM p mk (isW m) wd hg).filterMap id with | [] => none | q :: qs => some (traceM p mk (isW m) wd (tabM p mk (isW m) wd hg) ((idxM p mk (isW m) wd hg q qs : Nat) : Int) (hg - 1)).1 := rfl
    rw [hwf]
    have hsh : SeqAt.shaped (.list (((firstM p mk (isW m) wd hg).filterMap id).map dPr)) = true := Shp.ok (n := 2) (shp_lst fun d hd => by
      obtain ⟨u, _, rfl⟩ := List.mem_map.mp hd
      exact shp_ints)
    have hsf : SeqAt.shaped (.list ((firstM p mk (isW m) wd hg).map dC)) = true := Shp.ok (n := 2) (shp_lst fun d hd => by
      obtain ⟨u, _, rfl⟩ := List.mem_map.mp hd
      exact shp_dC u)
    cases hf : (firstM p mk (isW m) wd hg).filterMap id with
    | nil =>
      rw [hf] at hsh
      exact b_if_r (k := true) (ρ' := []) (EvT.is (t_cmp (c_eqD hr.units hsh (Shp.ok (n := 1) (shp_lst fun d hd => by simp at hd))) (e_n (d := .list []) 6 rfl) (e_lst a_nil)) (by simp [PyData.eqv, PyData.eqvAll])) (fun _ => b_ret e_non) (fun z => by cases z) fun z => by cases z
    | cons q0 qs =>
      rw [hf] at hsh
      have ⟨ix1, v0, hv0⟩ := x0_ok hh hf
      have hidx := idx_ok hf
      have hun : (envOfC "best_way" (defScope s_best_way) s.heap.objs.size f cdv).scope = defScope s_best_way := rfl
      refine b_if_f (EvT.is (t_cmp (c_eqD hr.units hsh (Shp.ok (n := 1) (shp_lst fun d hd => by simp at hd))) (e_n (d := .list ((q0 :: qs).map dPr)) 6 rfl) (e_lst a_nil)) (by simp [PyData.eqv, PyData.eqvAll])) ?_
      have hnof : ∀ (k : Nat) (z' : PyData), k < idxM p mk (isW m) wd hg q0 qs → ((firstM p mk (isW m) wd hg).map dC)[k]? = some z' → PyData.eqv z' (dPr (minP q0 qs)) = false := fun k z' hk hz => by
        rw [List.getElem?_map] at hz
        cases hc : (firstM p mk (isW m) wd hg)[k]? with
        | none => rw [hc] at hz; cases hz
        | some c =>
          rw [hc] at hz
          have hz : dC c = z' := Option.some.inj hz
          subst hz
          rw [eqv_dC]
          have := List.not_of_lt_findIdx hk
          have e := (List.getElem?_eq_some_iff.mp hc)
          obtain ⟨e1, e2⟩ := e
          rw [e2] at this
          simpa using this
      refine b_newL 7 (ds := [.int ((idxM p mk (isW m) wd hg q0 qs : Nat) : Int)]) (om := .ret (DD K (dI (traceM p mk (isW m) wd (tabM p mk (isW m) wd hg) ((idxM p mk (isW m) wd hg q0 qs : Nat) : Int) (hg - 1)).1))) (a_cons (e_index (d := dPr (minP q0 qs)) (z := dC (some (minP q0 qs))) (j := idxM p mk (isW m) wd hg q0 qs) (by have := hr.un; show A.units + 3 + 65 < _; have h3 : (A.deeper (envOfC "best_way" (defScope s_best_way) s.heap.objs.size f cdv)).units = A.units + 3 := rfl; omega) (e_n 5 rfl) (EvD.is (e_minD (d := dPr q0) (ds := qs.map dPr) rfl hr.units G.min (e_n 6 rfl) (alike_prs (q0 :: qs)) (plain_prs (q0 :: qs)) (Nat.le_trans (depth_prs (q0 :: qs)) (by decide))) (minP_d q0 qs)) hsf (Shp.ok (n := 1) shp_ints) (by rw [List.getElem?_map, hidx]; rfl) (by rw [eqv_dC]; exact decide_eq_true rfl) hnof) a_nil) (by simp [noLs, noL]) (by simp) (fun q H0 h0 => ?_) rfl sc_way.nd
      generalize hx0 : ((idxM p mk (isW m) wd hg q0 qs : Nat) : Int) = x0 at hv0
      have a0 : 0 ≤ x0 := by omega
      have a1 : x0 < wd := by omega
      refine bm_for (js := [8]) (xs := List.range (hg - 1)) (emb := fun i => .int (0 + (i : Int))) (parts := fun i => [.int (0 + (i : Int))])
        (fun i => [some (Bs H0 (DD K (.list [dP p]))), some (Bs H0 (DD K (.str m))), some (Bs H0 (DD K (dP mk))), some (Bs H0 (DD K (.list (dT (tabM p mk (isW m) wd hg))))), some (Bs H0 (DD K (.int (wd : Nat)))), none, none, some (Own K q ((traceM p mk (isW m) wd (tabM p mk (isW m) wd hg) x0 i).1.map .int)), none, none, none, none, none, none])
        PassesOwn.never rfl (srcm_rangeN G.range (EvD.is (e_sub (EvD.is (d' := .int (hg : Nat)) (e_lenL (ds := dT (tabM p mk (isW m) wd hg)) G.len (e_nb 3 rfl)) (by unfold dT; rw [List.length_map, T.len])) e_int) (by congr 1; omega)) (by omega)) (by repeat (first | exact imp_nil | apply imp_id | apply imp_none | apply imp_bs | apply imp_own | (refine imp_bsP mono_ll ?_))) (fun _ _ => tg_name 8 sc_way.nd) (fun i x1 hi => ?body) ?after
      case after =>
        rw [List.length_range]
        exact bm_ret (EvD.is (e_tuple G.tup (e_no 7 rfl)) rfl)
      case body =>
        have hi1 := (List.getElem?_eq_some_iff.mp hi)
        obtain ⟨hi2, hi3⟩ := hi1
        rw [List.length_range] at hi2
        rw [List.getElem_range] at hi3
        subst hi3
        obtain ⟨hall, v, hv⟩ := trace_ok (p := p) (mk := mk) (wo := isW m) a0 a1 hv0 i (by omega)
        obtain ⟨pre, hpre⟩ := trace_last (p := p) (mk := mk) (wo := isW m) (w := wd) (tb := tabM p mk (isW m) wd hg) (x0 := x0) i
        have hlen := trace_len (p := p) (mk := mk) (wo := isW m) (w := wd) (tb := tabM p mk (isW m) wd hg) (x0 := x0) i
        have hsucc : (traceM p mk (isW m) wd (tabM p mk (isW m) wd hg) x0 (i + 1)).1 = (traceM p mk (isW m) wd (tabM p mk (isW m) wd hg) x0 i).1 ++ [goC p mk (isW m) wd (tabM p mk (isW m) wd hg) (i : Int) (traceM p mk (isW m) wd (tabM p mk (isW m) wd hg) x0 i).2] := rfl
        rw [hsucc]
        generalize traceM p mk (isW m) wd (tabM p mk (isW m) wd hg) x0 i = tr at hall hv hpre hlen
        obtain ⟨tl, x⟩ := tr
        have hpre : tl = pre ++ [x] := hpre
        have hx := hall x (by show x ∈ tl; rw [hpre]; simp)
        have hv : tabC (tabM p mk (isW m) wd hg) (i : Int) x = some v := hv
        have hlen : tl.length = i + 1 := hlen
        obtain ⟨t, hfd, hgo, hmem, hok, b, hb⟩ := go_ok (by omega) hx.1 hx.2 hv
        have hgo' : goC p mk (isW m) wd (tabM p mk (isW m) wd hg) (i : Int) (tl, x).2 = t := hgo
        rw [hgo']
        obtain ⟨_, j, hj, hjt, hjb⟩ := List.find?_eq_some_iff_getElem.mp hfd
        have hlast : atI (tl.map PyData.int) (-1) = some (.int x) := by
          rw [hpre, List.map_append]
          unfold atI ixN
          rw [if_neg (by decide), if_pos (by simp; omega)]
          show (List.map PyData.int pre ++ [PyData.int x])[(-1 + ((List.map PyData.int pre ++ List.map PyData.int [x]).length : Int)).toNat]? = _
          have e : (-1 + ((List.map PyData.int pre ++ List.map PyData.int [x]).length : Int)).toNat = (List.map PyData.int pre).length := by simp; omega
          rw [e, List.getElem?_append_right (Nat.le_refl _), Nat.sub_self]
          rfl
        have hiz : (0 + (i : Int)) = (i : Int) := by omega
        rw [hiz]
        have htbI : atI (dT (tabM p mk (isW m) wd hg)) (i : Int) = some (.list (((tabM p mk (isW m) wd hg).getD i []).map dC)) := by
          have := at_tb (t := tabM p mk (isW m) wd hg) (y := (i : Int)) (by omega) (by rw [T.len]; omega)
          simpa using this
        have htbJ : atI (dT (tabM p mk (isW m) wd hg)) ((i : Int) + 1) = some (.list (((tabM p mk (isW m) wd hg).getD (i + 1) []).map dC)) := by
          have := at_tb (t := tabM p mk (isW m) wd hg) (y := (i : Int) + 1) (by omega) (by rw [T.len]; omega)
          have e : ((i : Int) + 1).toNat = i + 1 := by omega
          rw [e] at this
          exact this
        have hclI : atI (((tabM p mk (isW m) wd hg).getD i []).map dC) x = some (dC (some v)) := by
          rw [at_cl (w := wd) (T.wid i (by omega)) hx.1 hx.2]
          unfold tabC at hv
          have e : ((i : Int)).toNat = i := by omega
          rw [e] at hv
          rw [hv]
        have hclJ : ∀ t, t ∈ nextM x wd → atI (((tabM p mk (isW m) wd hg).getD (i + 1) []).map dC) t = some (dC (tabC (tabM p mk (isW m) wd hg) ((i : Int) + 1) t)) := fun t ht => by
          have hn := next_mem ht
          rw [at_cl (w := wd) (T.wid (i + 1) (by omega)) hn.1 hn.2.1]
          unfold tabC
          have e : ((i : Int) + 1).toNat = i + 1 := by omega
          rw [e]
        have hrow : ∀ {X : Cx} {ρ : Rho} {e1 e2 : Expr} {pos : Pos} (_ : EvD X e1 ρ (dP mk)) (_ : EvD X e2 ρ (.int (i : Int))) (_ : PlainIx e2), EvD X (.Subscript e1 e2 pos) ρ (dI (rowM mk (i : Int))) := fun h1 h2 h3 => e_ix (ds := mk.map dI) h1 h2 (at_row M (by omega) (by omega)) h3
        have hcell : ∀ {X : Cx} {ρ : Rho} {e1 e2 : Expr} {pos : Pos} (_ : EvD X e1 ρ (dI (rowM mk (i : Int)))) (_ : EvD X e2 ρ (.int x)) (_ : PlainIx e2), EvD X (.Subscript e1 e2 pos) ρ (.int (cellM mk (i : Int) x)) := fun h1 h2 h3 => e_ix (ds := (rowM mk (i : Int)).map .int) h1 h2 (at_cell M (by omega) (by omega) hx.1 hx.2) h3
        refine bm_s (sr_set 9 (e_ixL (e_no 7 rfl) (e_neg e_int) hlast) sc_way.nd) ?_
        refine bm_forB (js := [10]) (xs := nextM x wd) (emb := .int) (parts := fun t => [.int t]) (ρ2 := [some (Bs H0 (DD K (.list [dP p]))), some (Bs H0 (DD K (.str m))), some (Bs H0 (DD K (dP mk))), some (Bs H0 (DD K (.list (dT (tabM p mk (isW m) wd hg))))), some (Bs H0 (DD K (.int (wd : Nat)))), none, none, some (Own K q ((tl ++ [t]).map .int)), none, none, none, none, none, none])
          (fun _ => [some (Bs H0 (DD K (.list [dP p]))), some (Bs H0 (DD K (.str m))), some (Bs H0 (DD K (dP mk))), some (Bs H0 (DD K (.list (dT (tabM p mk (isW m) wd hg))))), some (Bs H0 (DD K (.int (wd : Nat)))), none, none, some (Own K q (tl.map .int)), some (DD K (.int (i : Int))), some (DD K (.int x)), none, none, none, none]) j hj
          PassesOwn.never rfl (src_list (e_call c1 hr (by decide) rfl (a_cons (e_n (d := .int x) 9 rfl) (a_cons (e_nb (d := .int (wd : Nat)) 4 rfl) a_nil)) ⟨x, wd, rfl, rfl⟩)) (by repeat (first | exact imp_nil | apply imp_id | apply imp_none | apply imp_bs | apply imp_own | (refine imp_bsP mono_ll ?_))) (fun _ _ => tg_name 10 sc_way.nd) (fun k t' hk ht' => ?before) (fun t' ht' => ?at_) bm_nil
        case before =>
          have hm' : t' ∈ nextM x wd := List.mem_of_getElem? ht'
          have hn' := next_mem hm'
          have hnot : okC p mk (isW m) (tabM p mk (isW m) wd hg) (i : Int) x t' = false := by
            have := hjb k hk
            obtain ⟨e1, e2⟩ := List.getElem?_eq_some_iff.mp ht'
            rw [e2] at this
            simpa using this
          have hcj := hclJ t' hm'
          unfold okC at hnot
          cases hb' : tabC (tabM p mk (isW m) wd hg) ((i : Int) + 1) t' with
          | none =>
            rw [hb'] at hcj
            exact b_out (b_if_f (EvT.is (b' := false) (t_cmp c_isnot (e_ixL (e_ixL (e_nb 3 rfl) (e_add (e_n (d := .int (i : Int)) 8 rfl) e_int) htbJ) (e_n 10 rfl) hcj) e_non) rfl) b_nil) (by repeat (first | exact imp_nil | apply imp_id | apply imp_none | apply imp_bs | apply imp_own | (refine imp_bsP mono_ll ?_)))
          | some bb =>
            rw [hb', hv] at hnot
            rw [hb'] at hcj
            have hnot : decide (some (stepC p mk (isW m) (i : Int) x t' bb) = some v) = false := hnot
            refine b_out (b_if_n (k := true) (EvT.is (t_cmp c_isnot (e_ixL (e_ixL (e_nb 3 rfl) (e_add (e_n (d := .int (i : Int)) 8 rfl) e_int) htbJ) (e_n 10 rfl) hcj) e_non) rfl) (fun _ => ?thn) (fun z => by cases z) b_nil) (by repeat (first | exact imp_nil | apply imp_id | apply imp_none | apply imp_bs | apply imp_own | (refine imp_bsP mono_ll ?_)))
            case thn =>
              refine b_out (b_set 11 (EvD.is (d' := .int (costM p t' ((i : Int) + 1) (some x) (isW m))) (e_sum (ns := [costM p t' ((i : Int) + 1) (some x) (isW m)]) rfl G.sum (e_lcA (own := [("picture", 13)]) (js := [13]) (xs := [p]) (emb := dP) (parts := fun r => [dP r]) (g := fun r => .int (costM p t' ((i : Int) + 1) (some x) (isW m))) rfl sc_way.nd (src_list (e_nb 0 rfl)) (blkOk_by (own := [("picture", 13)]) (by rfl)) (by decide) (by simp) (fun _ _ => by simp [noL]) (fun _ _ _ _ _ _ _ => tg_name 13 sc_way.nd)
                    fun s3 H3 C3 cl3 fp3 r hr3 => ?cst)) (by simp)) (b_if_f (EvT.is (b' := false) (t_cmp (c_eqD hr.units (Shp.ok (n := 1) shp_ints) (Shp.ok (n := 1) shp_ints)) (EvD.is (d' := dPr (stepC p mk (isW m) (i : Int) x t' bb)) (e_call c3 hr (by decide) rfl (a_cons (EvD.is (d' := dI [bb.1, bb.2]) (e_ixL (e_ixL (e_nb 3 rfl) (e_add (e_n (d := .int (i : Int)) 8 rfl) e_int) htbJ) (e_n 10 rfl) hcj) rfl) (a_cons (EvD.is (d' := dI [-(isG (cellM mk (i : Int) x)), costM p t' ((i : Int) + 1) (some x) (isW m)]) (e_tup (a_cons (EvD.is (e_neg (e_intB G.int (e_cmp c_eqI (hcell (hrow (e_nb 2 rfl) (e_n 8 rfl) fun _ _ => rfl) (e_n 9 rfl) fun _ _ => rfl) (e_gi G.gone)))) (isG_d _)) (a_cons (e_n 11 rfl) a_nil)) (by simp)) rfl) a_nil)) ⟨_, _, _, _, rfl, rfl⟩) rfl)
                    (EvD.is (d' := dPr v) (e_ixL (e_ixL (e_nb 3 rfl) (e_n (d := .int (i : Int)) 8 rfl) htbI) (e_n 9 rfl) hclI) rfl)) ?tst) b_nil) sc_way.nd) (by repeat (first | exact imp_nil | apply imp_id | apply imp_none | apply imp_bs | apply imp_own | (refine imp_bsP mono_ll ?_)))
              case cst =>
                have : r = p := List.mem_singleton.mp hr3
                subst this
                exact e_call c2 hr (by decide) rfl (a_cons (e_n 13 rfl) (a_cons (e_n 10 rfl) (a_cons (e_add (e_n 8 rfl) e_int) (a_cons (EvD.is (d' := dOi (some x)) (e_n (d := .int x) 9 rfl) rfl) (a_cons (e_nb 1 rfl) a_nil))))) ⟨r, wd, hg, t', (i : Int) + 1, some x, m, S, hn'.1, hn'.2.1, by omega, by omega, fun z hz => by cases hz; omega, rfl, rfl⟩
              case tst =>
                show PyData.eqv (dPr (stepC p mk (isW m) (i : Int) x t' bb)) (dPr v) = _
                rw [eqv_pair]
                simpa using hnot
        case at_ =>
          have ett : t' = t := by
            obtain ⟨e1, e2⟩ := List.getElem?_eq_some_iff.mp ht'
            rw [← e2, hjt]
          subst ett
          have hn' := next_mem hmem
          have hcj := hclJ t' hmem
          unfold okC at hok
          cases hb' : tabC (tabM p mk (isW m) wd hg) ((i : Int) + 1) t' with
          | none => rw [hb'] at hok; cases hok
          | some bb =>
            rw [hb', hv] at hok
            rw [hb'] at hcj
            have hok : decide (some (stepC p mk (isW m) (i : Int) x t' bb) = some v) = true := hok
            refine bm_ifb (EvT.is (b' := true) (t_cmp c_isnot (e_ixL (e_ixL (e_nb 3 rfl) (e_add (e_n (d := .int (i : Int)) 8 rfl) e_int) htbJ) (e_n 10 rfl) hcj) e_non) rfl) ?_
            refine bm_s (sr_set 11 (EvD.is (d' := .int (costM p t' ((i : Int) + 1) (some x) (isW m))) (e_sum (ns := [costM p t' ((i : Int) + 1) (some x) (isW m)]) rfl G.sum (e_lcA (own := [("picture", 13)]) (js := [13]) (xs := [p]) (emb := dP) (parts := fun r => [dP r]) (g := fun r => .int (costM p t' ((i : Int) + 1) (some x) (isW m))) rfl sc_way.nd (src_list (e_nb 0 rfl)) (blkOk_by (own := [("picture", 13)]) (by rfl)) (by decide) (by simp) (fun _ _ => by simp [noL]) (fun _ _ _ _ _ _ _ => tg_name 13 sc_way.nd)
                    fun s3 H3 C3 cl3 fp3 r hr3 => ?cst2)) (by simp)) sc_way.nd) ?_
            case cst2 =>
              have : r = p := List.mem_singleton.mp hr3
              subst this
              exact e_call c2 hr (by decide) rfl (a_cons (e_n 13 rfl) (a_cons (e_n 10 rfl) (a_cons (e_add (e_n 8 rfl) e_int) (a_cons (EvD.is (d' := dOi (some x)) (e_n (d := .int x) 9 rfl) rfl) (a_cons (e_nb 1 rfl) a_nil))))) ⟨r, wd, hg, t', (i : Int) + 1, some x, m, S, hn'.1, hn'.2.1, by omega, by omega, fun z hz => by cases hz; omega, rfl, rfl⟩
            refine bm_ifb (EvT.is (b' := true) (t_cmp (c_eqD hr.units (Shp.ok (n := 1) shp_ints) (Shp.ok (n := 1) shp_ints)) (EvD.is (d' := dPr (stepC p mk (isW m) (i : Int) x t' bb)) (e_call c3 hr (by decide) rfl (a_cons (EvD.is (d' := dI [bb.1, bb.2]) (e_ixL (e_ixL (e_nb 3 rfl) (e_add (e_n (d := .int (i : Int)) 8 rfl) e_int) htbJ) (e_n 10 rfl) hcj) rfl) (a_cons (EvD.is (d' := dI [-(isG (cellM mk (i : Int) x)), costM p t' ((i : Int) + 1) (some x) (isW m)]) (e_tup (a_cons (EvD.is (e_neg (e_intB G.int (e_cmp c_eqI (hcell (hrow (e_nb 2 rfl) (e_n 8 rfl) fun _ _ => rfl) (e_n 9 rfl) fun _ _ => rfl) (e_gi G.gone)))) (isG_d _)) (a_cons (e_n 11 rfl) a_nil)) (by simp)) rfl) a_nil)) ⟨_, _, _, _, rfl, rfl⟩) rfl)
                    (EvD.is (d' := dPr v) (e_ixL (e_ixL (e_nb 3 rfl) (e_n (d := .int (i : Int)) 8 rfl) htbI) (e_n 9 rfl) hclI) rfl)) ?tst2) ?_
            case tst2 =>
              show PyData.eqv (dPr (stepC p mk (isW m) (i : Int) x t' bb)) (dPr v) = _
              rw [eqv_pair]
              simpa using hok
            refine bm_outb (bm_app 7 (ds := tl.map .int) (d := .int t') (e_n 10 rfl) (by simp [noL]) (noLs_map fun _ _ => by simp [noL]) (by rw [List.length_map]; omega) bm_bk (by repeat (first | exact ka_nil | apply ka_none | (refine ka_some (keep_bs h0) ?_) | (refine ka_some (keep_d (by first | rfl | exact noL_dC _ | simp [noL])) ?_)))) ?_
            have e : (tl ++ [t']).map PyData.int = tl.map PyData.int ++ [PyData.int t'] := by simp
            rw [e]
            exact (by repeat (first | exact imp_nil | apply imp_id | apply imp_none | apply imp_bs | apply imp_own | (refine imp_bsP mono_ll ?_)))
end
end SH

/-! ## SHL -/
set_option Elab.async false
set_option linter.all false
set_option maxRecDepth 100000
set_option maxHeartbeats 2000000
/-! the desk's own steps -/
namespace SH
open PySem PySem.Spec PyProof.Rows L2
section
variable {P : Program} {w : World} {K : PySem.W.Frag} {mg : Str → Option Value} {base : Heap} {CD CS : Addr}
theorem ne_sort {H : Hp} {a b : Addr} {x y : HO} (ha : H a = some x) (hb : H b = some y) (h : x ≠ y) : a ≠ b := fun z => by
  subst z
  rw [ha] at hb
  exact h (Option.some.inj hb)
theorem desk_push {q : Ptr} {og : Pic} {m : Str} {S : StandM} {dn : List StandM} {n : Nat} {H : Hp} {h : V} (d : DeskAt K CD CS q og m S dn n H) (hs : StandAt K CS S h H) : ∃ L, H q.ld = some (.lst L) ∧ L.length = dn.length ∧ DeskAt K CD CS q og m S (dn ++ [S]) n (upd H q.ld (.lst (L ++ [h]))) ∧ Stp q q H (upd H q.ld (.lst (L ++ [h]))) := by
  obtain ⟨dx, o, hh, L, U, h1, h2, h3, h4, h5, h6, h7, h8⟩ := d.ex
  have k : Kp H (upd H q.ld (.lst (L ++ [h]))) := kp_lst h4
  have np : q.p ≠ q.ld := ne_sort h1 h4 (fun z => by cases z)
  refine ⟨L, h4, stl_len h5, ⟨dx, o, hh, L ++ [h], U, by rw [upd_ne np]; exact h1, dp_t k.t _ _ (noL_dP _) h2, stand_kp k h3, upd_same, stl_app (stand_kp k hs) (stl_kp k h5), by rw [upd_ne h8.symm]; exact h6, h7, h8⟩, k, fun a u na e => ?_, ⟨rfl, rfl, .inl rfl⟩, dm_upd⟩
  rw [upd_ne (fun z => na (.inr (.inl z)))]
  exact e
theorem desk_undone {q : Ptr} {og : Pic} {m : Str} {S : StandM} {dn : List StandM} {n : Nat} {H H5 : Hp} {u : Addr} (d : DeskAt K CD CS q og m S dn n H) (hu : H u = none) (e : Same (upd H u (.lst [])) H5) : ∃ dx fs, H5 q.p = some (.ins CD dx fs) ∧ fs.length < 1000 ∧ DeskAt K CD CS ⟨q.p, q.ld, u⟩ og m S dn 0 (upd H5 q.p (.ins CD dx (putF "undone" (.ref u) fs))) ∧ Stp q ⟨q.p, q.ld, u⟩ H (upd H5 q.p (.ins CD dx (putF "undone" (.ref u) fs))) := by
  obtain ⟨dx, o, hh, L, U, h1, h2, h3, h4, h5, h6, h7, h8⟩ := d.ex
  have e1 : Same H H5 := (same_new hu).trans e
  have hu5 : H5 u = some (.lst []) := e _ _ upd_same
  have k : Kp H (upd H5 q.p (.ins CD dx [("origin", o), ("manner", .str m), ("here", hh), ("done", .ref q.ld), ("undone", .ref u)])) := (Kp.of e1).trans (kp_ins (e1 _ _ h1))
  have np : q.ld ≠ q.p := ne_sort h4 h1 (fun z => by cases z)
  have nu : u ≠ q.p := fun z => by rw [z, h1] at hu; cases hu
  have nl : q.ld ≠ u := fun z => by rw [← z, h4] at hu; cases hu
  have ef : putF "undone" (.ref u) [("origin", o), ("manner", V.str m), ("here", hh), ("done", .ref q.ld), ("undone", .ref q.lu)] = ([("origin", o), ("manner", .str m), ("here", hh), ("done", .ref q.ld), ("undone", .ref u)] : List (Str × V)) := by rfl
  refine ⟨dx, _, e1 _ _ h1, by show (5 : Nat) < 1000; decide, ?_, ?_⟩
  · rw [ef]
    exact ⟨dx, o, hh, L, [], upd_same, dp_t k.t _ _ (noL_dP _) h2, stand_kp k h3, by rw [upd_ne np]; exact e1 _ _ h4, stl_kp k h5, by rw [upd_ne nu]; exact hu5, Nat.le_refl _, nl⟩
  · rw [ef]
    refine ⟨k, fun a u' na e' => ?_, ⟨rfl, rfl, .inr hu⟩, fun a z => e1.free (dm_upd a z)⟩
    rw [upd_ne (fun z => na (.inl z))]
    exact e1 _ _ e'
theorem desk_ld {q : Ptr} {og : Pic} {m : Str} {S : StandM} {dn : List StandM} {n : Nat} {H : Hp} (d : DeskAt K CD CS q og m S dn n H) : ∃ L, H q.ld = some (.lst L) := by
  obtain ⟨dx, o, hh, L, U, h1, h2, h3, h4, h5, h6, h7, h8⟩ := d.ex
  exact ⟨L, h4⟩
theorem desk_here {q : Ptr} {og : Pic} {m : Str} {S S' : StandM} {dn : List StandM} {n : Nat} {H : Hp} {h : V} (d : DeskAt K CD CS q og m S dn n H) (hs : StandAt K CS S' h H) : ∃ dx fs, H q.p = some (.ins CD dx fs) ∧ fs.length < 1000 ∧ DeskAt K CD CS q og m S' dn n (upd H q.p (.ins CD dx (putF "here" h fs))) ∧ Stp q q H (upd H q.p (.ins CD dx (putF "here" h fs))) := by
  obtain ⟨dx, o, hh, L, U, h1, h2, h3, h4, h5, h6, h7, h8⟩ := d.ex
  have k : Kp H (upd H q.p (.ins CD dx [("origin", o), ("manner", .str m), ("here", h), ("done", .ref q.ld), ("undone", .ref q.lu)])) := kp_ins h1
  have np : q.ld ≠ q.p := ne_sort h4 h1 (fun z => by cases z)
  have nu : q.lu ≠ q.p := ne_sort h6 h1 (fun z => by cases z)
  have ef : putF "here" h [("origin", o), ("manner", V.str m), ("here", hh), ("done", .ref q.ld), ("undone", .ref q.lu)] = ([("origin", o), ("manner", .str m), ("here", h), ("done", .ref q.ld), ("undone", .ref q.lu)] : List (Str × V)) := by rfl
  refine ⟨dx, _, h1, by show (5 : Nat) < 1000; decide, ?_, ?_⟩
  · rw [ef]
    exact ⟨dx, o, h, L, U, upd_same, dp_t k.t _ _ (noL_dP _) h2, stand_kp k hs, by rw [upd_ne np]; exact h4, stl_kp k h5, by rw [upd_ne nu]; exact h6, h7, h8⟩
  · rw [ef]
    refine ⟨k, fun a u' na e => ?_, ⟨rfl, rfl, .inl rfl⟩, dm_upd⟩
    rw [upd_ne (fun z => na (.inl z))]
    exact e
theorem Stp.trans {q q1 q2 : Ptr} {H H1 H2 : Hp} (a : Stp q q1 H H1) (b : Stp q1 q2 H1 H2) : Stp q q2 H H2 := by
  refine ⟨a.k.trans b.k, fun x o n e => ?_, ⟨by rw [b.pl.1, a.pl.1], by rw [b.pl.2.1, a.pl.2.1], ?_⟩, fun x z => a.dm x (b.dm x z)⟩
  · refine b.st x o (fun z => ?_) (a.st x o n e)
    rcases z with rfl | rfl | rfl
    · exact n (.inl a.pl.1)
    · exact n (.inr (.inl a.pl.2.1))
    · rcases a.pl.2.2 with y | y
      · exact n (.inr (.inr y))
      · rw [e] at y
        cases y
  · rcases b.pl.2.2 with y | y
    · rw [y]
      exact a.pl.2.2
    · exact .inr (a.dm _ y)
/-! ### turn_to -/
def spTurn (K : PySem.W.Frag) (CD CS : Addr) : Sp := fun vs H Q _ => ∃ q og m S dn n us c g o e, vs = .ref q.p :: us ∧ DeskAt K CD CS q og m S dn n H ∧ DpAll K H us [dP c, dP g, dGs o, dDeed e] ∧ dn.length ≤ 500 ∧ S.deeds.length ≤ 500 ∧
  ∀ v H' q', Stp q q' H H' → DeskAt K CD CS q' og m ⟨c, g, o, S.deeds ++ [e]⟩ (dn ++ [S]) n H' → Q v H'
theorem sc_turn : FnScope ["self", "cells", "marks", "steps", "deed"] ["self", "cells", "marks", "steps", "deed"] (defScope s_Desk_turn_to) := ⟨rfl, rfl, rfl, by decide +kernel, rfl, by decide +kernel, by decide +kernel⟩
theorem desk_more {q : Ptr} {og : Pic} {m : Str} {S : StandM} {dn : List StandM} {n n' : Nat} {H : Hp} (d : DeskAt K CD CS q og m S dn n H) (h : n ≤ n') : DeskAt K CD CS q og m S dn n' H := by
  obtain ⟨dx, o, hh, L, U, h1, h2, h3, h4, h5, h6, h7, h8⟩ := d.ex
  exact ⟨dx, o, hh, L, U, h1, h2, h3, h4, h5, h6, Nat.le_trans h7 h, h8⟩
theorem ok_turn (F : DF K mg CD CS) (D : MethD K CD "turn_to" "Desk.turn_to" s_Desk_turn_to ["self", "cells", "marks", "steps", "deed"] []) (cs : MkC P w K mg base CX0 1 CS ["self", "cells", "signs", "gone", "deeds"] (spInitS CS)) : CalM P w K mg base CX0 3 CD "turn_to" ["self", "cells", "marks", "steps", "deed"] (spTurn K CD CS) :=
  meth_of0 D sc_turn (fun vs H Q E h => by
    obtain ⟨q, og, m, S, dn, n, us, c, g, o, e, rfl, _, d, _⟩ := h
    have := dpa_len d
    simpa using this) fun f cdv A outer s H vs Q E hr h => by
    obtain ⟨q, og, m, S, dn, n, us, c, g, o, e, rfl, hd, d, hl, hl2, k⟩ := h
    cases d with
    | cons p1 d =>
    cases d with
    | cons p2 d =>
    cases d with
    | cons p3 d =>
    cases d with
    | cons p4 d =>
    cases d
    rename_i v1 v2 v3 v4
    refine sB_of (pss_cons (ps_expr (pe_bm PySem.F.plainAttrs_list PySem.F.slot_list_append PySem.F.type_list_append mt_append pe_s (pa_cons pe_s pa_nil))) (pss_cons (ps_fld pe_s (pe_lst pa_nil) rfl) (pss_cons (ps_fld pe_s pe_s rfl) pss_nil))) ?_
    have eo : EnvOk [some (DeskV K CD CS q og m S dn n), some (DD K (dP c)), some (DD K (dP g)), some (DD K (dGs o)), some (DD K (dDeed e))] (L2.start ["self", "cells", "marks", "steps", "deed"] [.ref q.p, v1, v2, v3, v4]) H := eok_some ⟨rfl, hd⟩ mono_desk (eok_d p1 (eok_d p2 (eok_d p3 (eok_d p4 eok_nil))))
    refine (e_done F (e_nP 0 rfl mono_desk)).run _ H eo _ fun v H1 e1 pv => ?_
    have pv : v = .ref q.ld := pv
    subst pv
    have d1 := desk_up e1 hd
    obtain ⟨L0, hL0⟩ := desk_ld d1
    refine ⟨.inl ⟨rfl, _, SqL.of hL0⟩, (e_here F (e_nP 0 rfl mono_desk)).run _ H1 (eo.up e1) _ fun y H2 e2 py => ?_⟩
    have d2 := desk_up e2 d1
    obtain ⟨L, hL, hll, d3, s3⟩ := desk_push d2 py
    refine ⟨q.ld, L, y, rfl, rfl, hL, by rw [hll, sizeLine_eq]; omega, ?_⟩
    -- self.undone = []
    refine ⟨by rw [sizeLine_eq]; exact Nat.zero_le _, fun u hu => ?_⟩
    have eo3 : EnvOk [some (DeskV K CD CS q og m S (dn ++ [S]) n), some (DD K (dP c)), some (DD K (dP g)), some (DD K (dGs o)), some (DD K (dDeed e))] (L2.start ["self", "cells", "marks", "steps", "deed"] [.ref q.p, v1, v2, v3, v4]) (upd H2 q.ld (.lst (L ++ [y]))) := by
      have t : ∀ {v d}, noL d = true → Dp K H v d → Dp K (upd H2 q.ld (.lst (L ++ [y]))) v d := fun n h => dp_t s3.k.t _ _ n (dp_mono e2 _ _ (dp_mono e1 _ _ h))
      exact eok_some ⟨rfl, d3⟩ mono_desk (eok_d (t (noL_dP _) p1) (eok_d (t (noL_dP _) p2) (eok_d (t (noL_dGs _) p3) (eok_d (t (noL_dDeed _) p4) eok_nil))))
    have e4 : Same (upd H2 q.ld (.lst (L ++ [y]))) (upd (upd H2 q.ld (.lst (L ++ [y]))) u (.lst [])) := same_new hu
    refine (e_nP 0 (P := DeskV K CD CS q og m S (dn ++ [S]) n) rfl mono_desk).run _ _ (eo3.up e4) _ fun v H5 e5 pv => ?_
    obtain ⟨rfl, _⟩ := pv
    obtain ⟨dx, fs, hp, hfl, d5, s5⟩ := desk_undone d3 hu e5
    refine ⟨q.p, CD, dx, fs, rfl, hp, F.cD, F.d5, hfl, ?_⟩
    have sA : Stp q ⟨q.p, q.ld, u⟩ H (upd H5 q.p (.ins CD dx (putF "undone" (.ref u) fs))) := (Stp.pre (e1.trans e2) s3).trans s5
    generalize upd H5 q.p (.ins CD dx (putF "undone" (.ref u) fs)) = H6 at d5 sA
    -- self.here = Stand(..)
    have eo6 : EnvOk [some (DeskV K CD CS ⟨q.p, q.ld, u⟩ og m S (dn ++ [S]) 0), some (DD K (dP c)), some (DD K (dP g)), some (DD K (dGs o)), some (DD K (dDeed e))] (L2.start ["self", "cells", "marks", "steps", "deed"] [.ref q.p, v1, v2, v3, v4]) H6 :=
      eok_some ⟨rfl, d5⟩ mono_desk (eok_d (dp_t sA.k.t _ _ (noL_dP _) p1) (eok_d (dp_t sA.k.t _ _ (noL_dP _) p2) (eok_d (dp_t sA.k.t _ _ (noL_dGs _) p3) (eok_d (dp_t sA.k.t _ _ (noL_dDeed _) p4) eok_nil))))
    have hds : dDs (S.deeds ++ [e]) = .tuple (S.deeds.map dDeed ++ [dDeed e]) := by
      unfold dDs
      rw [List.map_append]
      rfl
    refine (e_stand (S := ⟨c, g, o, S.deeds ++ [e]⟩) F cs hr (by decide) (a_cons (e_n 1 rfl) (a_cons (e_n 2 rfl) (a_cons (e_n 3 rfl) (a_cons (EvD.is (e_cat (e_deeds F (e_here F (e_nP 0 rfl mono_desk))) (e_tup (a_cons (e_n 4 rfl) a_nil) (by simp)) (by rw [List.length_map, sizeLine_eq]; simp; omega)) hds.symm) a_nil))))).run _ H6 eo6 _ fun y H7 e7 py => ?_
    refine (e_nP 0 (P := DeskV K CD CS ⟨q.p, q.ld, u⟩ og m S (dn ++ [S]) 0) rfl mono_desk).run _ _ (eo6.up e7) _ fun v H8 e8 pv => ?_
    obtain ⟨rfl, d8⟩ := pv
    obtain ⟨dx8, fs8, hp8, hfl8, d9, s9⟩ := desk_here d8 (mono_stand _ _ _ e8 py)
    refine ⟨q.p, CD, dx8, fs8, rfl, hp8, F.cD, F.d3, hfl8, ?_⟩
    exact k .non _ ⟨q.p, q.ld, u⟩ (sA.trans (Stp.pre (e7.trans e8) s9)) (desk_more d9 (Nat.zero_le _))
end
end SH

/-! ## SHS -/
set_option Elab.async false
set_option linter.all false
set_option maxRecDepth 100000
set_option maxHeartbeats 2000000
/-! blocks step by step; the desk's deeds -/
namespace SH
open PySem PySem.Spec PyProof.Rows L2
section
variable {X : Cx} {ρ ρ' : Rho} {a b c e o : Expr} {es : List Expr} {P0 P' : VP} {pos p apos : Pos} {C : Addr} {f m : Str} {st : Stmt} {sts rest els : List Stmt} {D : Ends} {σ : St} {H : Hp}
theorem sb_nil (h : D.nx σ H) : sB X [] D σ H := sB_of pss_nil h
theorem sb_cons (h : SR X st ρ ρ') (eo : EnvOk ρ σ H) (k : ∀ (σ' : St) H', Same H H' → EnvOk ρ' σ' H' → sB X rest D σ' H') : sB X (st :: rest) D σ H := sB_of (pss_cons ps_s pss_s) (h.run σ H eo _ k)
theorem sb_pre (h : sS X st { D with nx := sB X rest D } σ H) : sB X (st :: rest) D σ H := sB_of (pss_cons ps_s pss_s) h
theorem sb_setE (i : Nat) {x : Str} {pos' : Pos} (h : sE X e σ H (fun v H1 => sB X rest D (σ.set i (some v)) H1)) (hN : X.N.Nodup) (hi : X.N[i]? = some x := by rfl) (hx : Loc X.env.scope x := by first | exact Or.inl rfl | exact Or.inr rfl)
    (hs : swapsWith e (some (.Name x pos')) pos.line X.env = pure false := by rfl) (hf : X.fn x = true ∨ X.env.scope.names.lookup x = some .local := by first | exact .inl rfl | exact .inr rfl) : sB X (.Assign [.Name x pos'] e pos :: rest) D σ H := sB_of (pss_cons (ps_set hN hi hx pe_s hs hf) pss_s) h
theorem sb_exprE (h : sE X e σ H (fun v H1 => sB X rest D σ H1)) (hs : swapsWith e none pos.line X.env = pure false := by rfl) : sB X (.Expr e pos :: rest) D σ H := sB_of (pss_cons (ps_expr pe_s hs) pss_s) h
theorem sb_retE (h : sE X e σ H D.rt) : sB X (.Return (some e) pos :: rest) D σ H := sB_of (pss_cons (ps_ret pe_s) pss_s) h
theorem sb_ift (h : EvT X c ρ true) (eo : EnvOk ρ σ H) (k : ∀ H1, Same H H1 → sB X sts { D with nx := sB X rest D } σ H1) : sB X (.If c sts els pos :: rest) D σ H := sB_of (pss_cons (ps_if pt_s pss_s pss_s) pss_s) (h.run σ H eo _ k)
theorem sb_iff (h : EvT X c ρ false) (eo : EnvOk ρ σ H) (k : ∀ H1, Same H H1 → sB X els { D with nx := sB X rest D } σ H1) : sB X (.If c sts els pos :: rest) D σ H := sB_of (pss_cons (ps_if pt_s pss_s pss_s) pss_s) (h.run σ H eo _ k)
/-- self.m() -/
theorem m_self0 {CX : CXT} {k j : Nat} {ps : List Str} {sp : Sp} {E : St → XK} {pl : Sem Bool} {Q : VK} (cl : Cls X.K C) (cm : CalM X.prog X.w X.K X.mg X.base CX k C m ps sp) (hr : Room j X.A) (hk : k ≤ j) (hx : ∀ σ, PassesAt CX X σ (E σ)) (ha : EvR X o ρ P0) (eo : EnvOk ρ σ H) (h : ∀ v H, P0 v H → ∃ a dx fs, v = .ref a ∧ H a = some (.ins C dx fs) ∧ fs.lookup m = none)
    (kk : ∀ v H1, Same H H1 → P0 v H1 → sp [v] H1 Q (E σ)) (ht : eval (.Call (.Attribute o m apos) [] [] pos) X.env = (do
      let ov ← eval o X.env
      standAt apos.atName
      let (f, first) ← holding [ov] (getMethod ov m pl)
      callWith pos f first (backTo pos (starEach [] X.env)) (backToKw pos (keywordEach [] X.env))) := by rfl) : sE X (.Call (.Attribute o m apos) [] [] pos) σ H Q := by
  obtain ⟨g, fd, F, hm, b⟩ := cm.ex
  refine sE_of (pe_methA0 pe_s cl hm F (hr.mono hk) b hx ht) (ha.run σ H eo _ fun v H1 e1 pv => ?_)
  obtain ⟨a, dx, fs, rfl, h1, h2⟩ := h v H1 pv
  exact ⟨a, dx, fs, rfl, h1, h2, kk _ H1 e1 pv⟩
/-- self.m(e, ..) -/
theorem m_selfA {CX : CXT} {k j : Nat} {ps : List Str} {sp : Sp} {E : St → XK} {pl : Sem Bool} {Q : VK} {ds : List PyData} (cl : Cls X.K C) (cm : CalM X.prog X.w X.K X.mg X.base CX k C m ps sp) (hr : Room j X.A) (hk : k ≤ j) (hx : ∀ σ, PassesAt CX X σ (E σ)) (ha : EvR X o ρ P0) (hb : EvA X (e :: es) ρ ds) (eo : EnvOk ρ σ H) (h : ∀ v H, P0 v H → ∃ a dx fs, v = .ref a ∧ H a = some (.ins C dx fs) ∧ fs.lookup m = none)
    (kk : ∀ v vs H1, Same H H1 → P0 v H1 → DpAll X.K H1 vs ds → sp (v :: vs) H1 Q (E σ)) (hst : starEach (e :: es) X.env = (false, eval e X.env) :: starEach es X.env := by rfl) (hpl : (backTo pos (starEach es X.env)).any (·.1) = false := by rfl)
    (ht : eval (.Call (.Attribute o m apos) (e :: es) [] pos) X.env = (do
      let ov ← eval o X.env
      standAt apos.atName
      let (f, first) ← holding [ov] (getMethod ov m pl)
      callWith pos f first (backTo pos (starEach (e :: es) X.env)) (backToKw pos (keywordEach [] X.env))) := by rfl) : sE X (.Call (.Attribute o m apos) (e :: es) [] pos) σ H Q := by
  obtain ⟨g, fd, F, hm, b⟩ := cm.ex
  refine sE_of (pe_methA pe_s cl hm F (hr.mono hk) b hx pa_s hst hpl ht) (ha.run σ H eo _ fun v H1 e1 pv => ?_)
  obtain ⟨a, dx, fs, rfl, h1, h2⟩ := h v H1 pv
  refine ⟨a, dx, fs, rfl, h1, h2, hb.run σ H1 (eo.up e1) _ fun vs H2 e2 pvs => ?_⟩
  exact kk _ vs H2 (e1.trans e2) (ha.mono _ _ _ e2 pv) pvs
end
/-! ### exceptions -/
def spRoom (CR : Addr) : Sp := fun vs H Q _ => ∃ a y, vs = [.ref a, y] ∧ H a = some (exo a CR none) ∧ ∀ dx, H dx = none → dx ≠ a → Q .non (upd (upd H dx (exd dx [("now", y)])) a (exo a CR (some dx)))
structure EF (P : Program) (w : World) (K : PySem.W.Frag) (mg : Str → Option Value) (base : Heap) (CB CW CR : Addr) : Prop where
  gB : mg "NoBox" = some (.ref CB)
  gW : mg "NoWay" = some (.ref CW)
  gR : mg "NoRoom" = some (.ref CR)
  xB : PySem.W.excIn K CB He.veBase "ValueError.__new__" = true ∧ PySem.W.keepIn K (.ref CB) = true ∧ PySem.W.subIn K (.ref CB) (.type "BaseException") = some true ∧ PySem.W.typeIn K (.ref CB) = some (.type "type")
  xW : PySem.W.excIn K CW He.veBase "ValueError.__new__" = true ∧ PySem.W.keepIn K (.ref CW) = true ∧ PySem.W.subIn K (.ref CW) (.type "BaseException") = some true ∧ PySem.W.typeIn K (.ref CW) = some (.type "type")
  oR : OexC K CR
  iR : ∃ (f : Addr) (fd : FuncData), PySem.W.findIn K (.ref CR) "__init__" = some (some (.ref f)) ∧ PySem.W.typeIn K (.ref f) = some (.type "function") ∧ FnOk P w K mg base CX0 1 f fd ["self", "now"] (spRoom CR) ∧ Binds K fd ["self", "now"] []
/-- the heap's own are as they were, and the exception is one of the three -/
def Ref (CB CW CR : Addr) (H : Hp) (E : XK) : Prop := ∀ H', Same H H' → E (.ref CW) none H' ∧ E (.ref CB) none H' ∧ ∀ d v, H' d = some (.xd [("now", v)]) → E (.ref CR) (some d) H'
theorem Ref.up {CB CW CR : Addr} {H H1 : Hp} {E : XK} (h : Ref CB CW CR H E) (e : Same H H1) : Ref CB CW CR H1 E := fun H' e' => h H' (e.trans e')
section
variable {P : Program} {w : World} {K : PySem.W.Frag} {mg : Str → Option Value} {base : Heap} {CD CS CB CW CR : Addr}
theorem sc_room : FnScope ["self", "now"] ["self", "now"] (defScope s_NoRoom_init) := ⟨rfl, rfl, rfl, by decide +kernel, rfl, by decide +kernel, by decide +kernel⟩
theorem ok_room {f : Addr} {fd : FuncData} (T : OexC K CR) (no : PySem.W.findIn K (.ref CR) "now" = some none) (F : FunD K "__init__" "NoRoom.__init__" (defArgs s_NoRoom_init) (defBody s_NoRoom_init) (defScope s_NoRoom_init) [] [] f fd) : FnOk P w K mg base CX0 1 f fd ["self", "now"] (spRoom CR) :=
  F.ok sc_room (fun vs H Q E h => by
    obtain ⟨a, y, rfl, _⟩ := h
    rfl) fun cdv A outer s H vs Q E hr h => by
    obtain ⟨a, y, rfl, ha, q⟩ := h
    let X := (XG CX0 P w K mg base ["self", "now"] "NoRoom.__init__" s_NoRoom_init f cdv A outer s H E).nox
    refine ⟨_, PSs.nox (pss_cons (ps_ost (pe_var (X := X) (i := 0) rfl (.inl rfl) (by decide) (by decide)) (pe_var (X := X) (i := 1) rfl (.inl rfl) (by decide) (by decide)) rfl) pss_nil), ?_⟩
    refine ⟨y, rfl, _, rfl, a, CR, rfl, T, no, .inl ⟨ha, fun dx h1 h2 => q dx h1 h2⟩⟩
variable {X : Cx} {W : WX} {σ : St} {H : Hp} {D : Ends} {pos p1 p2 p3 : Pos} {rest : List Stmt} {j : Nat}
/-- raise NoRoom(e) -/
theorem sb_room {e : Expr} {ρ : Rho} {i : Int} (hc : X.calm = true) (tk : Takes X W) (F : EF X.prog X.w X.K X.mg X.base CB CW CR) (hr : Room j X.A) (hj : 2 ≤ j) (eo : EnvOk ρ σ H) (he : EvD X e ρ (.int i)) (h : ∀ H', Same H H' → ∀ d v, H' d = some (.xd [("now", v)]) → W (.ref CR) (some d) σ H') (hg : Gl X "NoRoom" := by rfl)
    (hst : starEach (e :: []) X.env = (false, eval e X.env) :: starEach [] X.env := by rfl) (hpl : (backTo p3 (starEach [] X.env)).any (·.1) = false := by rfl) : sB X (.Raise (some (.Call (.Name "NoRoom" p1) [e] [] p3)) none pos :: rest) D σ H := by
  obtain ⟨f, fd, iC, tI, F1, b⟩ := F.iR
  refine sB_of (pss_cons (ps_raise hc tk (pmk_oex (ds := []) (dvs := []) F.oR iC tI F1 (hr.mono hj) b .nil (fun _ _ _ _ _ _ _ h => h.elim) hg F.gR (pa_cons pe_s pa_nil hst) (he := hst) (hpl := hpl))) pss_s) ?_
  refine he.run σ H eo _ fun v H1 e1 pv => ⟨by simp, fun a ha => ?_⟩
  cases pv
  refine ⟨a, .int i, rfl, upd_same, fun dx hdx hne => ⟨rfl, dx, [("now", .int i)], upd_same, by rw [upd_ne hne]; exact upd_same, ?_, ?_⟩⟩
  · rw [upd_ne hne] at hdx
    exact hdx
  · have hdx' : H1 dx = none := by
      rw [upd_ne hne] at hdx
      exact hdx
    refine h _ (e1.trans fun b o ob => ?_) dx (.int i) upd_same
    have n1 : b ≠ dx := ne_of_none ob hdx'
    have n2 : b ≠ a := ne_of_none ob ha
    rw [upd_ne n1, del_ne n2, upd_ne n2, upd_ne n1, upd_ne n2]
    exact ob
theorem sb_way {z : Str} {k : Nat} (hc : X.calm = true) (tk : Takes X W) (F : EF X.prog X.w X.K X.mg X.base CB CW CR) (h : W (.ref CW) none σ H) (hg : Gl X "NoWay" := by rfl) : sB X (.Raise (some (.Call (.Name "NoWay" p1) [.Constant (.str z) k p2] [] p3)) none pos :: rest) D σ H :=
  sB_of (pss_cons (ps_raise hc tk (pmk_own PySem.F.excBase_ValueError F.xW.1 F.gW F.xW.2.1 (raises_own F.xW.2.2.1 F.xW.2.2.2) hg)) pss_s) h
theorem sb_box {z : Str} {k : Nat} (hc : X.calm = true) (tk : Takes X W) (F : EF X.prog X.w X.K X.mg X.base CB CW CR) (h : W (.ref CB) none σ H) (hg : Gl X "NoBox" := by rfl) : sB X (.Raise (some (.Call (.Name "NoBox" p1) [.Constant (.str z) k p2] [] p3)) none pos :: rest) D σ H :=
  sB_of (pss_cons (ps_raise hc tk (pmk_own PySem.F.excBase_ValueError F.xB.1 F.gB F.xB.2.1 (raises_own F.xB.2.2.1 F.xB.2.2.2) hg)) pss_s) h
end
end SH

/-! ## SHT -/
set_option Elab.async false
set_option linter.all false
set_option maxRecDepth 100000
set_option maxHeartbeats 4000000
/-! the desk's methods: size .. widen -/
namespace SH
open PySem PySem.Spec PyProof.Rows L2
section
variable {P : Program} {w : World} {K : PySem.W.Frag} {mg : Str → Option Value} {base : Heap} {CD CS CB CW CR : Addr}
def R_size (K : PySem.W.Frag) (CD CS : Addr) (P0 P' : VP) : Prop := ∃ q og m S dn n wd hg, P0 = DeskV K CD CS q og m S dn n ∧ Good wd hg S ∧ P' = DD K (.tuple [.int (wd : Nat), .int (hg : Nat)])
theorem e_len0 {X : Cx} {ρ : Rho} {e : Expr} {pos p2 p3 : Pos} {k : Nat} {pic : Pic} {wd hg : Nat} (G : Glob X.K X.mg) (S : Shape wd hg pic) (hh : 0 < hg) (h : EvD X e ρ (dP pic)) (hg' : Gl X "len" := by rfl) (hs : starEach ((.Subscript e (.Constant (.int 0) k p2) p3) :: []) X.env = (false, eval (.Subscript e (.Constant (.int 0) k p2) p3) X.env) :: starEach [] X.env := by rfl) (hpl : (backTo pos (starEach [] X.env)).any (·.1) = false := by rfl) {p : Pos} : EvD X (.Call (.Name "len" p) [.Subscript e (.Constant (.int 0) k p2) p3] [] pos) ρ (.int (wd : Nat)) :=
  EvD.is (e_len (ds := (rowM pic 0).map .int) G.len (e_ix (ds := pic.map dI) h e_int (at0 S hh)) hg' hs hpl) (by rw [List.length_map, rowM_len S (by omega) (by omega)])
theorem ok_size (G : Glob K mg) (F : DF K mg CD CS) (D : MethD K CD "size" "Desk.size" s_Desk_size ["self"] []) : CalM P w K mg base CX0 1 CD "size" ["self"] (spS (R_size K CD CS)) :=
  meth_tell (N := ["self"]) D ⟨rfl, rfl, rfl, by decide +kernel, rfl, by decide +kernel, by decide +kernel⟩ fun f cdv A outer s H E hr P0 P' h => by
    obtain ⟨q, og, m, S, dn, n, wd, hg, rfl, g, rfl⟩ := h
    have hh := g.h1
    exact b_ret (e_tup (a_cons (e_len0 G g.c (by omega) (e_cells F (e_here F (e_nP 0 rfl mono_desk)))) (a_cons (EvD.is (e_len (ds := S.cells.map dI) G.len (e_cells F (e_here F (e_nP 0 rfl mono_desk)))) (by rw [List.length_map, g.c.hgt])) a_nil)) (by simp))
def R_pict (K : PySem.W.Frag) (CD CS : Addr) (P0 P' : VP) : Prop := ∃ q og m S dn n, P0 = DeskV K CD CS q og m S dn n ∧ P' = DD K (dP S.cells)
theorem ok_pict (F : DF K mg CD CS) (D : MethD K CD "picture" "Desk.picture" s_Desk_picture ["self"] []) : CalM P w K mg base CX0 1 CD "picture" ["self"] (spS (R_pict K CD CS)) :=
  meth_tell (N := ["self"]) D ⟨rfl, rfl, rfl, by decide +kernel, rfl, by decide +kernel, by decide +kernel⟩ fun f cdv A outer s H E hr P0 P' h => by
    obtain ⟨q, og, m, S, dn, n, rfl, rfl⟩ := h
    exact b_ret (e_cells F (e_here F (e_nP 0 rfl mono_desk)))
def R_marks (K : PySem.W.Frag) (CD CS : Addr) (P0 P' : VP) : Prop := ∃ q og m S dn n, P0 = DeskV K CD CS q og m S dn n ∧ P' = DD K (dP S.signs)
theorem ok_marks (F : DF K mg CD CS) (D : MethD K CD "marks" "Desk.marks" s_Desk_marks ["self"] []) : CalM P w K mg base CX0 1 CD "marks" ["self"] (spS (R_marks K CD CS)) :=
  meth_tell (N := ["self"]) D ⟨rfl, rfl, rfl, by decide +kernel, rfl, by decide +kernel, by decide +kernel⟩ fun f cdv A outer s H E hr P0 P' h => by
    obtain ⟨q, og, m, S, dn, n, rfl, rfl⟩ := h
    exact b_ret (e_signs F (e_here F (e_nP 0 rfl mono_desk)))
def R_steps (K : PySem.W.Frag) (CD CS : Addr) (P0 P' : VP) : Prop := ∃ q og m S dn n, P0 = DeskV K CD CS q og m S dn n ∧ P' = DD K (.list (S.gone.map dGone))
theorem ok_steps (G : Glob K mg) (F : DF K mg CD CS) (D : MethD K CD "steps" "Desk.steps" s_Desk_steps ["self"] []) : CalM P w K mg base CX0 1 CD "steps" ["self"] (spS (R_steps K CD CS)) :=
  meth_tell (N := ["self"]) D ⟨rfl, rfl, rfl, by decide +kernel, rfl, by decide +kernel, by decide +kernel⟩ fun f cdv A outer s H E hr P0 P' h => by
    obtain ⟨q, og, m, S, dn, n, rfl, rfl⟩ := h
    exact b_ret (e_list G.list (e_gone F (e_here F (e_nP 0 rfl mono_desk))))
def R_log (K : PySem.W.Frag) (CD CS : Addr) (P0 P' : VP) : Prop := ∃ q og m S dn n, P0 = DeskV K CD CS q og m S dn n ∧ P' = DD K (.list (S.deeds.map dDeed))
theorem ok_log (G : Glob K mg) (F : DF K mg CD CS) (D : MethD K CD "log" "Desk.log" s_Desk_log ["self"] []) : CalM P w K mg base CX0 1 CD "log" ["self"] (spS (R_log K CD CS)) :=
  meth_tell (N := ["self"]) D ⟨rfl, rfl, rfl, by decide +kernel, rfl, by decide +kernel, by decide +kernel⟩ fun f cdv A outer s H E hr P0 P' h => by
    obtain ⟨q, og, m, S, dn, n, rfl, rfl⟩ := h
    exact b_ret (e_list G.list (e_deeds F (e_here F (e_nP 0 rfl mono_desk))))
/-! ### seam_of -/
def spSeam (K : PySem.W.Frag) (CD CS CW : Addr) : Sp := fun vs H Q E => ∃ q og m S dn n us p mk wd hg, vs = .ref q.p :: us ∧ DeskAt K CD CS q og m S dn n H ∧ DpAll K H us [dP p, dP mk] ∧ Shape wd hg p ∧ Shape wd hg mk ∧ 0 < wd ∧ 0 < hg ∧ wd ≤ 100 ∧ hg ≤ 100 ∧
  (∀ s, wayOf p mk (isW m) wd hg = some s → ∀ v H', Same H H' → Dp K H' v (dI s) → Q v H') ∧ (wayOf p mk (isW m) wd hg = none → ∀ H', Same H H' → E (.ref CW) none H')
abbrev N_seam : List Str := ["self", "cells", "marks", "found"]
theorem sc_seam : FnScope N_seam ["self", "cells", "marks"] (defScope s_Desk_seam_of) := ⟨rfl, rfl, rfl, by decide +kernel, rfl, by decide +kernel, by decide +kernel⟩
theorem ok_seam (F : DF K mg CD CS) (Ex : EF P w K mg base CB CW CR) (D : MethD K CD "seam_of" "Desk.seam_of" s_Desk_seam_of ["self", "cells", "marks"] []) (cw : CalD P w K mg base 5 "best_way" R_way) : CalM P w K mg base (L2.CX P w) 6 CD "seam_of" ["self", "cells", "marks"] (spSeam K CD CS CW) :=
  meth_of D sc_seam (fun vs H Q E h => by
    obtain ⟨q, og, m, S, dn, n, us, p, mk, wd, hg, rfl, _, d, _⟩ := h
    have := dpa_len d
    simpa using this) fun f cdv A outer s H vs Q E hr h => by
    obtain ⟨q, og, m, S, dn, n, us, p, mk, wd, hg, rfl, hd, d, Sp, Mk, h1, h2, h3, h4, k1, k2⟩ := h
    obtain ⟨v1, v2, rfl, p1, p2⟩ := dpa2 d
    have eo : EnvOk [some (DeskV K CD CS q og m S dn n), some (DD K (dP p)), some (DD K (dP mk)), none] (L2.start N_seam [.ref q.p, v1, v2]) H := eok_some ⟨rfl, hd⟩ mono_desk (eok_d p1 (eok_d p2 (eok_none eok_nil)))
    refine sb_cons (sr_set 3 (e_call cw hr (by decide) rfl (a_cons (e_lst (a_cons (e_n 1 rfl) a_nil) (by simp)) (a_cons (e_manner F (e_nP 0 rfl mono_desk)) (a_cons (e_n 2 rfl) a_nil))) ⟨p, mk, m, wd, hg, Sp, Mk, h1, h2, h3, h4, rfl, rfl⟩) sc_seam.nd) eo fun σ1 H1 e1 eo1 => ?_
    cases hw : wayOf p mk (isW m) wd hg with
    | none =>
      rw [hw] at eo1
      refine sb_ift (EvT.is (t_cmp c_is (e_n (d := .none) 3 rfl) e_non) rfl) eo1 fun H2 e2 => ?_
      exact sb_way rfl (takes_of rfl rfl rfl rfl) Ex (k2 hw H2 (e1.trans e2))
    | some sm =>
      rw [hw] at eo1
      refine sb_iff (EvT.is (t_cmp c_is (e_n (d := dI sm) 3 rfl) e_non) rfl) eo1 fun H2 e2 => ?_
      refine sb_nil ?_
      refine sb_retE ((e_n (d := dI sm) 3 rfl).run _ _ (eo1.up e2) _ fun v H3 e3 pv => k1 sm hw v H3 ((e1.trans e2).trans e3) pv)
/-! ### narrow -/
def spMut (K : PySem.W.Frag) (CD CS CB CW CR : Addr) (op : Bool → StandM → Option StandM) : Sp := fun vs H Q E => ∃ q og m S dn n wd hg, vs = [.ref q.p] ∧ DeskAt K CD CS q og m S dn n H ∧ Good wd hg S ∧ dn.length ≤ 500 ∧ S.deeds.length ≤ 500 ∧ S.gone.length ≤ 500 ∧
  (∀ S', op (isW m) S = some S' → ∀ v H' q', Stp q q' H H' → DeskAt K CD CS q' og m S' (dn ++ [S]) n H' → Q v H') ∧ (op (isW m) S = none → Ref CB CW CR H E)
abbrev N_nar : List Str := ["self", "cells", "marks", "seam", "steps", "row", "x"]
theorem sc_nar : FnScope N_nar ["self"] (defScope s_Desk_narrow) := ⟨rfl, rfl, rfl, by decide +kernel, rfl, by decide +kernel, by decide +kernel⟩
theorem e_taken {X : Cx} {ρ : Rho} {N : List Str} {a b : Expr} {pos pz pt p1 p2 p3 p4 p5 p6 : Pos} {kt : Nat} {scope : Scope} {ir ix wd hg : Nat} {p : Pic} {sm : List Int} (G : Glob X.K X.mg) (hc : X.calm = true) (hN : X.N.Nodup) (S : Shape wd hg p) (hz : hg ≤ 100) (hs : ∀ x ∈ sm, 0 ≤ x ∧ x < (wd : Int)) (ha : EvD X a ρ (dP p)) (hb : EvD X b ρ (dI sm))
    (ok : BlkOk X.N X.env.scope scope [("row", ir), ("x", ix)]) (hsrc : SrcR X (.Tuple [.Name "row" p1, .Name "x" p2] kt pt) (.Call (.Name "zip" pz) [a, b] [] p3) ρ (zipD (p.map dI) (sm.map .int)))
    (htg : ∀ (s : Shared) (H : Hp) (C : Addr) (cl : List (Str × Addr)) (fp : List Addr) (q : List Int × Int), q ∈ p.zip sm → TgR (X.blk s H scope (compEnvC scope cl C X.env) fp) (.Tuple [.Name "row" p1, .Name "x" p2] kt pt) [ir, ix] (.tuple [dI q.1, .int q.2]) [dI q.1, .int q.2])
    (hel : ∀ (s : Shared) (H : Hp) (C : Addr) (cl : List (Str × Addr)) (fp : List Addr) (q : List Int × Int), q ∈ p.zip sm → EvD (X.blk s H scope (compEnvC scope cl C X.env) fp) (.Subscript (.Name "row" p4) (.Name "x" p5) p6) (setR X.K (wipeR ρ [ir, ix]) [ir, ix] [dI q.1, .int q.2]) (.int (q.1.getD q.2.toNat 0))) (hfs : ∀ x, foldedSetIterable (.Call (.Name "zip" pz) [a, b] [] p3) X.env x = pure x := by intro _; rfl) :
    EvD X (.ListComp (.Subscript (.Name "row" p4) (.Name "x" p5) p6) [⟨.Tuple [.Name "row" p1, .Name "x" p2] kt pt, .Call (.Name "zip" pz) [a, b] [] p3, [], 0⟩] scope pos) ρ (.list ((takenM p sm).map .int)) :=
  EvD.is (e_lcA (own := [("row", ir), ("x", ix)]) (js := [ir, ix]) (xs := p.zip sm) (emb := fun q => .tuple [dI q.1, .int q.2]) (parts := fun q => [dI q.1, .int q.2]) (g := fun q => .int (q.1.getD q.2.toNat 0)) hc hN (SrcR.is hsrc (zip_emb p sm)) ok (by intro j hj; exact hj) (by rw [List.length_zip, S.hgt]; omega) (fun _ _ => by simp [noL]) htg hel hfs) (by unfold takenM; rw [List.map_map]; rfl)
theorem dGs_app (gs : List GoneM) (g : GoneM) : dGs (gs ++ [g]) = .tuple (gs.map dGone ++ [dGone g]) := by
  unfold dGs
  rw [List.map_append]
  rfl
theorem sr_par {X : Cx} {ρ : Rho} {a b : Expr} (i j : Nat) {x y : Str} {px py pt pt2 pos : Pos} {kt k2} {d d' : PyData} (ha : EvD X a ρ d) (hb : EvD X b ρ d') (hc : X.calm = true) (hN : X.N.Nodup) (hij : i ≠ j := by decide) (hi : X.N[i]? = some x := by rfl) (hj : X.N[j]? = some y := by rfl)
    (hx : X.env.scope.names.lookup x = some .local := by rfl) (hy : X.env.scope.names.lookup y = some .local := by rfl) (hw : swappedStores [.Tuple [.Name x px, .Name y py] kt pt] (.Tuple [a, b] k2 pt2) X.env = pure (some [x, y]) := by rfl)
    (hs : swapsWithSole [.Tuple [.Name x px, .Name y py] kt pt] (.Tuple [a, b] k2 pt2) pos.line X.env = pure false := by rfl) (hs1 : starEach [a, b] X.env = (false, eval a X.env) :: starEach [b] X.env := by rfl) (hs2 : starEach [b] X.env = (false, eval b X.env) :: starEach [] X.env := by rfl) :
    SR X (.Assign [.Tuple [.Name x px, .Name y py] kt pt] (.Tuple [a, b] k2 pt2) pos) ρ ((ρ.set i (some (DD X.K d))).set j (some (DD X.K d'))) := ⟨fun σ H eo D q => sS_of (ps_par hc hN hi hj hij hx hy pa_s hw hs) ((a_cons ha (a_cons hb a_nil hs2) hs1).run σ H eo _ fun vs H1 e1 pvs => by
    obtain ⟨v, v', rfl, pv, pv'⟩ := dpa2 pvs
    exact ⟨v, v', rfl, q _ H1 e1 (((eo.up e1).set i pv mono_dd).set j pv' mono_dd)⟩)⟩
theorem sE_slot {X : Cx} {x : Str} {pos : Pos} {σ : St} {H : Hp} {Q : VK} (i : Nat) {v : V} (h : σ[i]? = some (some v)) (q : Q v H) (hN : X.N[i]? = some x := by rfl) (hv : Vis X.env.scope x := by first | exact Or.inl rfl | exact Or.inr (Or.inl rfl) | exact Or.inr (Or.inr rfl)) (hd : (x == ("__debug__" : Str)) = false := by decide)
    (hcd : (x == ("__classdict__" : Str)) = false := by decide) : sE X (.Name x pos) σ H Q := sE_of (pe_var hN hv hd hcd) ⟨v, h, q⟩
theorem ok_nar (G : Glob K mg) (F : DF K mg CD CS) (Ex : EF P w K mg base CB CW CR) (D : MethD K CD "narrow" "Desk.narrow" s_Desk_narrow ["self"] []) (cz : CalM P w K mg base CX0 1 CD "size" ["self"] (spS (R_size K CD CS))) (cs : CalM P w K mg base (L2.CX P w) 6 CD "seam_of" ["self", "cells", "marks"] (spSeam K CD CS CW)) (ct : CalM P w K mg base CX0 3 CD "turn_to" ["self", "cells", "marks", "steps", "deed"] (spTurn K CD CS)) (c1 : CalD P w K mg base 1 "without" R_without) :
    CalM P w K mg base (L2.CX P w) 7 CD "narrow" ["self"] (spMut K CD CS CB CW CR narM) :=
  meth_of D sc_nar (fun vs H Q E h => by
    obtain ⟨q, og, m, S, dn, n, wd, hg, rfl, _⟩ := h
    rfl) fun f cdv A outer s H vs Q E hr h => by
    obtain ⟨q, og, m, S, dn, n, wd, hg, rfl, hd, g, l1, l2, l3, k1, k2⟩ := h
    have ww := g.w1
    have hh := g.h1
    have gw := good_w g
    have gh : S.cells.length = hg := g.c.hgt
    have eo : EnvOk [some (DeskV K CD CS q og m S dn n), none, none, none, none, none, none] (L2.start N_nar [.ref q.p]) H := eok_some ⟨rfl, hd⟩ mono_desk (eok_reps 6)
    have hsz : ∀ {X : Cx} {ρ : Rho} {pos apos p : Pos} (_ : EvD X (.Call (.Attribute (.Name "self" p) "size" apos) [] [] pos) ρ (.tuple [.int (wd : Nat), .int (hg : Nat)])) {k : Nat} {p2 p3 : Pos}, EvD X (.Subscript (.Call (.Attribute (.Name "self" p) "size" apos) [] [] pos) (.Constant (.int 0) k p2) p3) ρ (.int (wd : Nat)) := fun h => e_ix h e_int rfl
    by_cases hw1 : wd = 1
    · refine sb_ift (EvT.is (t_cmp c_eqI (hsz (e_tell F.cD cz hr (by decide) (e_nP 0 (P := DeskV K CD CS q og m S dn n) rfl mono_desk) mono_dd ⟨q, og, m, S, dn, n, wd, hg, rfl, g, rfl⟩ (desk_ins "size"))) e_int) (by subst hw1; rfl)) eo fun H1 e1 => ?_
      have rf := k2 (by unfold narM; rw [gw, if_pos hw1])
      exact sb_room rfl (takes_of rfl rfl rfl rfl) Ex hr (by decide) (ρ := [some (DeskV K CD CS q og m S dn n), none, none, none, none, none, none]) (eo.up e1) e_int fun H' e' d v hv => (rf H' (e1.trans e')).2.2 d v hv
    · refine sb_iff (EvT.is (t_cmp c_eqI (hsz (e_tell F.cD cz hr (by decide) (e_nP 0 (P := DeskV K CD CS q og m S dn n) rfl mono_desk) mono_dd ⟨q, og, m, S, dn, n, wd, hg, rfl, g, rfl⟩ (desk_ins "size"))) e_int) (by rw [decide_eq_false]; omega)) eo fun H1 e1 => sb_nil ?_
      refine sb_cons (sr_par 1 2 (e_cells F (e_here F (e_nP 0 (P := DeskV K CD CS q og m S dn n) rfl mono_desk))) (e_signs F (e_here F (e_nP 0 rfl mono_desk))) rfl sc_nar.nd) (eo.up e1) fun σ2 H2 e2 eo2 => ?_
      refine sb_setE 3 (m_selfA (E := fun _ cls d H => E cls d H) F.cD cs hr (by decide) (fun σ => passAt (takes_of rfl rfl rfl rfl) σ) (e_nP 0 (P := DeskV K CD CS q og m S dn n) rfl mono_desk) (a_cons (e_n (d := dP S.cells) 1 rfl) (a_cons (e_n (d := dP S.signs) 2 rfl) a_nil)) eo2 (desk_ins "seam_of") fun v vs H3 e3 pv pvs => ?_) sc_nar.nd
      have e03 := (e1.trans e2).trans e3
      refine ⟨q, og, m, S, dn, n, vs, S.cells, S.signs, wd, hg, by rw [pv.1], pv.2, pvs, g.c, g.s, by omega, by omega, by omega, by omega, fun sm hsm v4 H4 e4 pv4 => ?_, fun hno H4 e4 => ((k2 (by unfold narM; rw [gw, if_neg hw1, gh, hno]; rfl)) H4 (e03.trans e4)).1⟩
      obtain ⟨sl, sx⟩ := way_ok (by omega) hsm
      have eo4 := ((eo2.up e3).up e4).set 3 (P := DD K (dI sm)) pv4 mono_dd
      refine sb_cons (sr_set 4 (EvD.is (e_cat (e_gone F (e_here F (e_nP 0 (P := DeskV K CD CS q og m S dn n) rfl mono_desk))) (e_tup (a_cons (EvD.is (d' := dGone ("narrow", sm, takenM S.cells sm)) (e_tup (a_cons e_str (a_cons (e_n (d := dI sm) 3 rfl) (a_cons (e_tuple G.tup (e_taken (ir := 5) (ix := 6) (N := N_nar) G rfl sc_nar.nd g.c (by omega) sx (e_n (d := dP S.cells) 1 rfl) (e_n (d := dI sm) 3 rfl) (blkOk_by (own := [("row", 5), ("x", 6)]) (by rfl)) (src_zip G.zip (e_n (d := .tuple (S.cells.map dI)) 1 rfl) (e_n (d := .tuple (sm.map .int)) 3 rfl)) (fun _ _ _ _ _ _ _ => tg_tup rfl (tgs_cons 5 (tgs_cons 6 tgs_nil sc_nar.nd) sc_nar.nd)) (fun _ _ _ _ _ qq hq => by
          obtain ⟨hwq, _, hm⟩ := zip_mem g.c hq
          obtain ⟨x0, x1⟩ := sx _ hm
          exact e_ix (ds := qq.1.map .int) (e_n 5 rfl) (e_n (d := .int qq.2) 6 rfl) (at_int x0 (by omega))))) a_nil))) (by simp)) rfl) a_nil) (by simp)) (by rw [List.length_map, sizeLine_eq]; simp; omega)) (dGs_app _ _).symm) sc_nar.nd) eo4 fun σ5 H5 e5 eo5 => ?_
      refine sb_exprE (m_selfA (E := fun _ _ _ _ => False) F.cD ct hr (by decide) (fun σ => passAt0) (e_nP 0 (P := DeskV K CD CS q og m S dn n) rfl mono_desk) (a_cons (e_call c1 hr (by decide) rfl (a_cons (e_n (d := dP S.cells) 1 rfl) (a_cons (e_n (d := dI sm) 3 rfl) a_nil)) ⟨S.cells, sm, wd, hg, g.c, by omega, by omega, sx, rfl, rfl⟩) (a_cons (e_call c1 hr (by decide) rfl (a_cons (e_n (d := dP S.signs) 2 rfl) (a_cons (e_n (d := dI sm) 3 rfl) a_nil)) ⟨S.signs, sm, wd, hg, g.s, by omega, by omega, sx, rfl, rfl⟩) (a_cons (e_n (d := dGs (S.gone ++ [(("narrow" : Str), sm, takenM S.cells sm)])) 4 rfl) (a_cons (EvD.is (d' := dDeed ("narrow", [])) (e_tup (a_cons e_str a_nil) (by simp)) rfl) a_nil)))) eo5 (desk_ins "turn_to") fun v6 vs6 H6 e6 pv6 pvs6 => ?_)
      refine ⟨q, og, m, S, dn, n, vs6, withoutM S.cells sm, withoutM S.signs sm, S.gone ++ [(("narrow" : Str), sm, takenM S.cells sm)], (("narrow" : Str), []), by rw [pv6.1], pv6.2, pvs6, l1, l2, fun v7 H7 q7 s7 d7 => ?_⟩
      obtain ⟨v8, hv8, _⟩ := eo5.at_ 3 (DD K (dI sm)) rfl
      refine sb_retE (sE_slot 3 hv8 ?_)
      exact k1 (nar S sm) (by unfold narM; rw [gw, if_neg hw1, gh, hsm]; rfl) v8 H7 q7 (Stp.pre (((e03.trans e4).trans e5).trans e6) s7) d7
abbrev N_flt : List Str := ["self", "cells", "marks", "seam", "steps", "row", "x"]
theorem sc_flt : FnScope N_flt ["self"] (defScope s_Desk_flatten) := ⟨rfl, rfl, rfl, by decide +kernel, rfl, by decide +kernel, by decide +kernel⟩
theorem ok_flt (G : Glob K mg) (F : DF K mg CD CS) (Ex : EF P w K mg base CB CW CR) (D : MethD K CD "flatten" "Desk.flatten" s_Desk_flatten ["self"] []) (cz : CalM P w K mg base CX0 1 CD "size" ["self"] (spS (R_size K CD CS))) (cs : CalM P w K mg base (L2.CX P w) 6 CD "seam_of" ["self", "cells", "marks"] (spSeam K CD CS CW)) (ct : CalM P w K mg base CX0 3 CD "turn_to" ["self", "cells", "marks", "steps", "deed"] (spTurn K CD CS)) (c1 : CalD P w K mg base 1 "without" R_without) (c2 : CalD P w K mg base 1 "swapped" R_swapped) :
    CalM P w K mg base (L2.CX P w) 7 CD "flatten" ["self"] (spMut K CD CS CB CW CR fltM) :=
  meth_of D sc_flt (fun vs H Q E h => by
    obtain ⟨q, og, m, S, dn, n, wd, hg, rfl, _⟩ := h
    rfl) fun f cdv A outer s H vs Q E hr h => by
    obtain ⟨q, og, m, S, dn, n, wd, hg, rfl, hd, g, l1, l2, l3, k1, k2⟩ := h
    have ww := g.w1
    have hh := g.h1
    have gc2 := shape_swap g.c (by omega)
    have gs2 := shape_swap g.s (by omega)
    have gw := good_w g
    have gh : S.cells.length = hg := g.c.hgt
    have eo : EnvOk [some (DeskV K CD CS q og m S dn n), none, none, none, none, none, none] (L2.start N_flt [.ref q.p]) H := eok_some ⟨rfl, hd⟩ mono_desk (eok_reps 6)
    have hsz : ∀ {X : Cx} {ρ : Rho} {pos apos p : Pos} (_ : EvD X (.Call (.Attribute (.Name "self" p) "size" apos) [] [] pos) ρ (.tuple [.int (wd : Nat), .int (hg : Nat)])) {k : Nat} {p2 p3 : Pos}, EvD X (.Subscript (.Call (.Attribute (.Name "self" p) "size" apos) [] [] pos) (.Constant (.int 1) k p2) p3) ρ (.int (hg : Nat)) := fun h => e_ix h e_int rfl
    by_cases hw1 : hg = 1
    · refine sb_ift (EvT.is (t_cmp c_eqI (hsz (e_tell F.cD cz hr (by decide) (e_nP 0 (P := DeskV K CD CS q og m S dn n) rfl mono_desk) mono_dd ⟨q, og, m, S, dn, n, wd, hg, rfl, g, rfl⟩ (desk_ins "size"))) e_int) (by subst hw1; rfl)) eo fun H1 e1 => ?_
      have rf := k2 (by unfold fltM; rw [gh, if_pos hw1])
      exact sb_room rfl (takes_of rfl rfl rfl rfl) Ex hr (by decide) (ρ := [some (DeskV K CD CS q og m S dn n), none, none, none, none, none, none]) (eo.up e1) e_int fun H' e' d v hv => (rf H' (e1.trans e')).2.2 d v hv
    · refine sb_iff (EvT.is (t_cmp c_eqI (hsz (e_tell F.cD cz hr (by decide) (e_nP 0 (P := DeskV K CD CS q og m S dn n) rfl mono_desk) mono_dd ⟨q, og, m, S, dn, n, wd, hg, rfl, g, rfl⟩ (desk_ins "size"))) e_int) (by rw [decide_eq_false]; omega)) eo fun H1 e1 => sb_nil ?_
      refine sb_cons (sr_par 1 2 (d := dP (swapM S.cells)) (d' := dP (swapM S.signs)) (e_call c2 hr (by decide) rfl (a_cons (e_cells F (e_here F (e_nP 0 (P := DeskV K CD CS q og m S dn n) rfl mono_desk))) a_nil) ⟨S.cells, wd, hg, g.c, by omega, by omega, by omega, rfl, rfl⟩) (e_call c2 hr (by decide) rfl (a_cons (e_signs F (e_here F (e_nP 0 (P := DeskV K CD CS q og m S dn n) rfl mono_desk))) a_nil) ⟨S.signs, wd, hg, g.s, by omega, by omega, by omega, rfl, rfl⟩) rfl sc_flt.nd) (eo.up e1) fun σ2 H2 e2 eo2 => ?_
      refine sb_setE 3 (m_selfA (E := fun _ cls d H => E cls d H) F.cD cs hr (by decide) (fun σ => passAt (takes_of rfl rfl rfl rfl) σ) (e_nP 0 (P := DeskV K CD CS q og m S dn n) rfl mono_desk) (a_cons (e_n (d := dP (swapM S.cells)) 1 rfl) (a_cons (e_n (d := dP (swapM S.signs)) 2 rfl) a_nil)) eo2 (desk_ins "seam_of") fun v vs H3 e3 pv pvs => ?_) sc_flt.nd
      have e03 := (e1.trans e2).trans e3
      refine ⟨q, og, m, S, dn, n, vs, swapM S.cells, swapM S.signs, hg, wd, by rw [pv.1], pv.2, pvs, gc2, gs2, by omega, by omega, by omega, by omega, fun sm hsm v4 H4 e4 pv4 => ?_, fun hno H4 e4 => ((k2 (by unfold fltM; rw [gh, if_neg hw1, gw, hno]; rfl)) H4 (e03.trans e4)).1⟩
      obtain ⟨sl, sx⟩ := way_ok (by omega) hsm
      have eo4 := ((eo2.up e3).up e4).set 3 (P := DD K (dI sm)) pv4 mono_dd
      refine sb_cons (sr_set 4 (EvD.is (e_cat (e_gone F (e_here F (e_nP 0 (P := DeskV K CD CS q og m S dn n) rfl mono_desk))) (e_tup (a_cons (EvD.is (d' := dGone ("flatten", sm, takenM (swapM S.cells) sm)) (e_tup (a_cons e_str (a_cons (e_n (d := dI sm) 3 rfl) (a_cons (e_tuple G.tup (e_taken (ir := 5) (ix := 6) (N := N_flt) G rfl sc_flt.nd gc2 (by omega) sx (e_n (d := dP (swapM S.cells)) 1 rfl) (e_n (d := dI sm) 3 rfl) (blkOk_by (own := [("row", 5), ("x", 6)]) (by rfl)) (src_zip G.zip (e_n (d := .tuple ((swapM S.cells).map dI)) 1 rfl) (e_n (d := .tuple (sm.map .int)) 3 rfl)) (fun _ _ _ _ _ _ _ => tg_tup rfl (tgs_cons 5 (tgs_cons 6 tgs_nil sc_flt.nd) sc_flt.nd)) (fun _ _ _ _ _ qq hq => by
          obtain ⟨hwq, _, hm⟩ := zip_mem gc2 hq
          obtain ⟨x0, x1⟩ := sx _ hm
          exact e_ix (ds := qq.1.map .int) (e_n 5 rfl) (e_n (d := .int qq.2) 6 rfl) (at_int x0 (by omega))))) a_nil))) (by simp)) rfl) a_nil) (by simp)) (by rw [List.length_map, sizeLine_eq]; simp; omega)) (dGs_app _ _).symm) sc_flt.nd) eo4 fun σ5 H5 e5 eo5 => ?_
      refine sb_exprE (m_selfA (E := fun _ _ _ _ => False) F.cD ct hr (by decide) (fun σ => passAt0) (e_nP 0 (P := DeskV K CD CS q og m S dn n) rfl mono_desk) (a_cons (e_call c2 hr (by decide) rfl (a_cons (e_call c1 hr (by decide) rfl (a_cons (e_n (d := dP (swapM S.cells)) 1 rfl) (a_cons (e_n (d := dI sm) 3 rfl) a_nil)) ⟨swapM S.cells, sm, hg, wd, gc2, by omega, by omega, sx, rfl, rfl⟩) a_nil) ⟨withoutM (swapM S.cells) sm, hg - 1, wd, shape_without gc2 sl sx, by omega, by omega, by omega, rfl, rfl⟩) (a_cons (e_call c2 hr (by decide) rfl (a_cons (e_call c1 hr (by decide) rfl (a_cons (e_n (d := dP (swapM S.signs)) 2 rfl) (a_cons (e_n (d := dI sm) 3 rfl) a_nil)) ⟨swapM S.signs, sm, hg, wd, gs2, by omega, by omega, sx, rfl, rfl⟩) a_nil) ⟨withoutM (swapM S.signs) sm, hg - 1, wd, shape_without gs2 sl sx, by omega, by omega, by omega, rfl, rfl⟩) (a_cons (e_n (d := dGs (S.gone ++ [(("flatten" : Str), sm, takenM (swapM S.cells) sm)])) 4 rfl) (a_cons (EvD.is (d' := dDeed ("flatten", [])) (e_tup (a_cons e_str a_nil) (by simp)) rfl) a_nil)))) eo5 (desk_ins "turn_to") fun v6 vs6 H6 e6 pv6 pvs6 => ?_)
      refine ⟨q, og, m, S, dn, n, vs6, swapM (withoutM (swapM S.cells) sm), swapM (withoutM (swapM S.signs) sm), S.gone ++ [(("flatten" : Str), sm, takenM (swapM S.cells) sm)], (("flatten" : Str), []), by rw [pv6.1], pv6.2, pvs6, l1, l2, fun v7 H7 q7 s7 d7 => ?_⟩
      obtain ⟨v8, hv8, _⟩ := eo5.at_ 3 (DD K (dI sm)) rfl
      refine sb_retE (sE_slot 3 hv8 ?_)
      exact k1 (flt S sm) (by unfold fltM; rw [gh, if_neg hw1, gw, hsm]; rfl) v8 H7 q7 (Stp.pre (((e03.trans e4).trans e5).trans e6) s7) d7
abbrev N_wdn : List Str := ["self", "cells", "marks", "seam", "there", "more", "steps", "x", "row"]
theorem sc_wdn : FnScope N_wdn ["self"] (defScope s_Desk_widen) := ⟨rfl, rfl, rfl, by decide +kernel, rfl, by decide +kernel, by decide +kernel⟩
theorem ok_wdn (G : Glob K mg) (F : DF K mg CD CS) (Ex : EF P w K mg base CB CW CR) (D : MethD K CD "widen" "Desk.widen" s_Desk_widen ["self"] []) (cz : CalM P w K mg base CX0 1 CD "size" ["self"] (spS (R_size K CD CS))) (cs : CalM P w K mg base (L2.CX P w) 6 CD "seam_of" ["self", "cells", "marks"] (spSeam K CD CS CW)) (ct : CalM P w K mg base CX0 3 CD "turn_to" ["self", "cells", "marks", "steps", "deed"] (spTurn K CD CS)) (c1 : CalD P w K mg base 1 "put_in" R_put) (c2 : CalD P w K mg base 2 "means" R_means) :
    CalM P w K mg base (L2.CX P w) 7 CD "widen" ["self"] (spMut K CD CS CB CW CR wdnM) :=
  meth_of D sc_wdn (fun vs H Q E h => by
    obtain ⟨q, og, m, S, dn, n, wd, hg, rfl, _⟩ := h
    rfl) fun f cdv A outer s H vs Q E hr h => by
    obtain ⟨q, og, m, S, dn, n, wd, hg, rfl, hd, g, l1, l2, l3, k1, k2⟩ := h
    have ww := g.w1
    have hh := g.h1
    have gw := good_w g
    have gh : S.cells.length = hg := g.c.hgt
    have eo : EnvOk [some (DeskV K CD CS q og m S dn n), none, none, none, none, none, none, none, none] (L2.start N_wdn [.ref q.p]) H := eok_some ⟨rfl, hd⟩ mono_desk (eok_reps 8)
    have hsz : ∀ {X : Cx} {ρ : Rho} {pos apos p : Pos} (_ : EvD X (.Call (.Attribute (.Name "self" p) "size" apos) [] [] pos) ρ (.tuple [.int (wd : Nat), .int (hg : Nat)])) {k : Nat} {p2 p3 : Pos}, EvD X (.Subscript (.Call (.Attribute (.Name "self" p) "size" apos) [] [] pos) (.Constant (.int 0) k p2) p3) ρ (.int (wd : Nat)) := fun h => e_ix h e_int rfl
    by_cases hw1 : wd = 20
    · refine sb_ift (EvT.is (t_cmp c_eqI (hsz (e_tell F.cD cz hr (by decide) (e_nP 0 (P := DeskV K CD CS q og m S dn n) rfl mono_desk) mono_dd ⟨q, og, m, S, dn, n, wd, hg, rfl, g, rfl⟩ (desk_ins "size"))) (e_gi G.side)) (by subst hw1; rfl)) eo fun H1 e1 => ?_
      have rf := k2 (by unfold wdnM; rw [gw, if_pos hw1])
      exact sb_room rfl (takes_of rfl rfl rfl rfl) Ex hr (by decide) (ρ := [some (DeskV K CD CS q og m S dn n), none, none, none, none, none, none, none, none]) (eo.up e1) (e_gi G.side) fun H' e' d v hv => (rf H' (e1.trans e')).2.2 d v hv
    · refine sb_iff (EvT.is (t_cmp c_eqI (hsz (e_tell F.cD cz hr (by decide) (e_nP 0 (P := DeskV K CD CS q og m S dn n) rfl mono_desk) mono_dd ⟨q, og, m, S, dn, n, wd, hg, rfl, g, rfl⟩ (desk_ins "size"))) (e_gi G.side)) (by rw [decide_eq_false]; omega)) eo fun H1 e1 => sb_nil ?_
      refine sb_cons (sr_par 1 2 (e_cells F (e_here F (e_nP 0 (P := DeskV K CD CS q og m S dn n) rfl mono_desk))) (e_signs F (e_here F (e_nP 0 rfl mono_desk))) rfl sc_wdn.nd) (eo.up e1) fun σ2 H2 e2 eo2 => ?_
      refine sb_setE 3 (m_selfA (E := fun _ cls d H => E cls d H) F.cD cs hr (by decide) (fun σ => passAt (takes_of rfl rfl rfl rfl) σ) (e_nP 0 (P := DeskV K CD CS q og m S dn n) rfl mono_desk) (a_cons (e_n (d := dP S.cells) 1 rfl) (a_cons (e_n (d := dP S.signs) 2 rfl) a_nil)) eo2 (desk_ins "seam_of") fun v vs H3 e3 pv pvs => ?_) sc_wdn.nd
      have e03 := (e1.trans e2).trans e3
      refine ⟨q, og, m, S, dn, n, vs, S.cells, S.signs, wd, hg, by rw [pv.1], pv.2, pvs, g.c, g.s, by omega, by omega, by omega, by omega, fun sm hsm v4 H4 e4 pv4 => ?_, fun hno H4 e4 => ((k2 (by unfold wdnM; rw [gw, if_neg hw1, gh, hno]; rfl)) H4 (e03.trans e4)).1⟩
      obtain ⟨sl, sx⟩ := way_ok (by omega) hsm
      have eo4 := ((eo2.up e3).up e4).set 3 (P := DD K (dI sm)) pv4 mono_dd
      have pl1 := plus1_ok sx
      have pll : (plus1 sm).length = hg := by unfold plus1; rw [List.length_map]; exact sl
      have eml := means_len g.c sl
      refine sb_cons (sr_set 4 (EvD.is (d' := dI (plus1 sm)) (e_tuple G.tup (e_lcA (own := [("x", 7)]) (js := [7]) (xs := sm) (emb := .int) (parts := fun x => [.int x]) (g := fun x => .int (x + 1)) rfl sc_wdn.nd (src_tup (e_n (d := .tuple (sm.map .int)) 3 rfl)) (blkOk_by (own := [("x", 7)]) (by rfl)) (by decide) (by omega) (fun _ _ => by simp [noL]) (fun _ _ _ _ _ _ _ => tg_name 7 sc_wdn.nd) fun _ _ _ _ _ x _ => e_add (e_n (d := .int x) 7 rfl) e_int)) (by unfold dI plus1; rw [List.map_map]; rfl)) sc_wdn.nd) eo4 fun σ5 H5 e5 eo5 => ?_
      refine sb_cons (sr_set 5 (EvD.is (d' := dI (S.signs.map fun _ => (0 : Int))) (e_tuple G.tup (e_lcA (own := [("row", 8)]) (js := [8]) (xs := S.signs) (emb := dI) (parts := fun r => [dI r]) (g := fun r => .int 0) rfl sc_wdn.nd (src_tup (e_n (d := .tuple (S.signs.map dI)) 2 rfl)) (blkOk_by (own := [("row", 8)]) (by rfl)) (by decide) (by rw [g.s.hgt]; omega) (fun _ _ => by simp [noL]) (fun _ _ _ _ _ _ _ => tg_name 8 sc_wdn.nd) fun _ _ _ _ _ r _ => e_gi G.free)) (by unfold dI; rw [List.map_map]; rfl)) sc_wdn.nd) eo5 fun σ5b H5b e5b eo5b => ?_
      refine sb_cons (sr_set 6 (EvD.is (e_cat (e_gone F (e_here F (e_nP 0 (P := DeskV K CD CS q og m S dn n) rfl mono_desk))) (e_tup (a_cons (EvD.is (d' := dGone ("widen", sm, meansM S.cells sm)) (e_tup (a_cons e_str (a_cons (e_n (d := dI sm) 3 rfl) (a_cons (e_call c2 hr (by decide) rfl (a_cons (e_n (d := dP S.cells) 1 rfl) (a_cons (e_n (d := dI sm) 3 rfl) a_nil)) ⟨S.cells, sm, wd, hg, g.c, by omega, by omega, sx, rfl, rfl⟩) a_nil))) (by simp)) rfl) a_nil) (by simp)) (by rw [List.length_map, sizeLine_eq]; simp; omega)) (dGs_app _ _).symm) sc_wdn.nd) eo5b fun σ5c H5c e5c eo5c => ?_
      refine sb_exprE (m_selfA (E := fun _ _ _ _ => False) F.cD ct hr (by decide) (fun σ => passAt0) (e_nP 0 (P := DeskV K CD CS q og m S dn n) rfl mono_desk) (a_cons (e_call c1 hr (by decide) rfl (a_cons (e_n (d := dP S.cells) 1 rfl) (a_cons (e_n (d := dI (plus1 sm)) 4 rfl) (a_cons (e_call c2 hr (by decide) rfl (a_cons (e_n (d := dP S.cells) 1 rfl) (a_cons (e_n (d := dI sm) 3 rfl) a_nil)) ⟨S.cells, sm, wd, hg, g.c, by omega, by omega, sx, rfl, rfl⟩) a_nil))) ⟨S.cells, plus1 sm, meansM S.cells sm, wd, hg, g.c, by omega, by omega, pl1, pll, eml, rfl, rfl⟩) (a_cons (e_call c1 hr (by decide) rfl (a_cons (e_n (d := dP S.signs) 2 rfl) (a_cons (e_n (d := dI (plus1 sm)) 4 rfl) (a_cons (e_n (d := dI (S.signs.map fun _ => (0 : Int))) 5 rfl) a_nil))) ⟨S.signs, plus1 sm, S.signs.map fun _ => (0 : Int), wd, hg, g.s, by omega, by omega, pl1, pll, by rw [List.length_map]; exact g.s.hgt, rfl, rfl⟩) (a_cons (e_n (d := dGs (S.gone ++ [(("widen" : Str), sm, meansM S.cells sm)])) 6 rfl) (a_cons (EvD.is (d' := dDeed ("widen", [])) (e_tup (a_cons e_str a_nil) (by simp)) rfl) a_nil)))) eo5c (desk_ins "turn_to") fun v6 vs6 H6 e6 pv6 pvs6 => ?_)
      refine ⟨q, og, m, S, dn, n, vs6, put3 S.cells (plus1 sm) (meansM S.cells sm), put3 S.signs (plus1 sm) (S.signs.map fun _ => (0 : Int)), S.gone ++ [(("widen" : Str), sm, meansM S.cells sm)], (("widen" : Str), []), by rw [pv6.1], pv6.2, pvs6, l1, l2, fun v7 H7 q7 s7 d7 => ?_⟩
      obtain ⟨v8, hv8, _⟩ := eo5c.at_ 3 (DD K (dI sm)) rfl
      refine sb_retE (sE_slot 3 hv8 ?_)
      exact k1 (wdn S sm) (by unfold wdnM; rw [gw, if_neg hw1, gh, hsm]; rfl) v8 H7 q7 (Stp.pre (((((e03.trans e4).trans e5).trans e5b).trans e5c).trans e6) s7) d7
end
end SH

/-! ## SHU -/
set_option Elab.async false
set_option linter.all false
set_option maxRecDepth 100000
set_option maxHeartbeats 4000000
/-! t * 1 -/
namespace SH
open PySem PySem.Spec PyProof.Rows L2
theorem tuple_mul1 (l : Addr) (items : Array Value) (n : Nat) (dd : Option Addr) (sl : Array (Option Value)) (u : Tok) :
    Meets (Builtin.«tuple.__mul__» ⟨[.ref l, .int 1 u], []⟩) (fun _ R s => s.heap.get? l = some { cls := .type "tuple", dict := dd, data := .seq items n, slots := sl } ∧ R (.ok (.ret (.ref l))) s) :=
  .of_wp fun prog w A R s h => by
    obtain ⟨hp, g, d, tk, os⟩ := s
    obtain ⟨hl, h⟩ := h
    have f1 := AutoSeq1.idx_int
    have hT : Shared.TypeIs ⟨hp, g, d, tk, os⟩ (.ref l) "tuple" := ⟨_, hl, rfl⟩
    have c1 : (items.isEmpty || (1 : Int) == 1) = true := by rw [Bool.or_eq_true]; exact .inr rfl
    wp_walk using wpAny_loadPart' hl, wpAny_typeOf hT
    repeat (first
      | (refine wpAny_ite_false (by decide) ?_; wp_walk using wpAny_loadPart' hl, wpAny_typeOf hT)
      | (refine wpAny_ite_true c1 ?_; wp_walk using wpAny_loadPart' hl, wpAny_typeOf hT)
      | (refine wpAny_ite_true (decide_eq_true c1) ?_; wp_walk using wpAny_loadPart' hl, wpAny_typeOf hT))
    all_goals first | exact ⟨_, rfl, h⟩ | exact h
def rRep1 (K : PySem.W.Frag) : R2 := fun x y H Q => ∃ l xs, x = .ref l ∧ y = .int 1 ∧ SqT K H l xs ∧ Q (.ref l) H
theorem op_rep1 {X : Cx} : OpR X (binaryOp .Mult) (rRep1 X.K) := by
  intro pins s σ H x y v u Q I rx ry h
  obtain ⟨l, xs, rfl, rfl, hT, q⟩ := h
  cases rx
  obtain ⟨t, rfl⟩ := ry
  obtain ⟨its, r, ⟨⟨cls, dd, data, sl⟩, ho, hc, n, hd⟩, hs⟩ := I.tuple hT
  simp only at hc hd
  subst hc hd
  refine wpAny_binaryOp_repeat_ref (T := "tuple") (U := "int") (by decide) ⟨_, ho, rfl⟩ (fun s' => typeIs_int s' 1 t) noFill_tuple_mul F.fills_int_mul F.slot_int_rmul repeat_tuple F.slot_int_index.lookup
    (call_meets F.slot_int_rmul (typeIs_int s 1 t) F.entry_int_rmul (F.args_int_rmul_2 _ _) (int_rmul_tuple 1 t l its.toArray n dd sl)
      ⟨ho, rfl, ⟨_, ho, rfl⟩, call_meets F.slot_tuple_mul ⟨_, ho, rfl⟩ F.entry_tuple_mul (F.args_tuple_mul_2 _ _) (tuple_mul1 l its.toArray n dd sl t) ⟨ho, ?_⟩⟩)
  exact ⟨.ref l, H, I, rfl, q⟩
section
variable {X : Cx} {ρ ρ' : Rho} {a b c e tg : Expr} {es : List Expr} {pos pp : Pos} {rest sts els : List Stmt} {p : Addr}
/-- (v,) * k -/
theorem e_rep {d : PyData} {k : Int} (ha : EvD X a ρ (.tuple [d])) (hb : EvD X b ρ (.int k)) (h1 : 1 ≤ k) (h2 : k ≤ 1000) : EvD X (.BinOp a .Mult b pos) ρ (.tuple (List.replicate k.toNat d)) := by
  by_cases hk : k = 1
  · subst hk
    exact e_bin op_rep1 mono_dd (fun u v H px py Q q => by
      obtain ⟨l, xs, rfl, h1, d1⟩ := dp_tup px
      cases py
      exact ⟨l, xs, rfl, rfl, h1, q _ H (Same.refl H) (.tup h1 d1)⟩) ha hb
  · exact e_bin op_repT mono_dd (fun u v H px py Q q => by
      obtain ⟨l, xs, rfl, h3, d1⟩ := dp_tup px
      cases py
      have hl := dpa_len d1
      obtain ⟨y, rfl, py⟩ := dpa1 d1
      refine ⟨l, k, [y], rfl, rfl, h3, by simp, by omega, h2, by simp, fun p hp => q _ _ (same_new hp) (.tup (.of upd_same) ?_)⟩
      have key : ∀ n : Nat, DpAll X.K H (List.replicate n [y]).flatten (List.replicate n d) := fun n => by
        induction n with
        | zero => exact .nil
        | succ n ih =>
          rw [List.replicate_succ, List.replicate_succ, List.flatten_cons]
          exact .cons py ih
      exact dpa_mono (same_new hp) _ _ (key k.toNat)) ha hb
/-! ### an int, whichever -/
def IntV : VP := fun v _ => ∃ i, v = .int i
theorem mono_int : Mono IntV := fun _ _ _ _ h => h
theorem keep_int {p : Addr} : Keep p IntV := fun _ _ _ _ _ h => h
theorem e_intv {i : Int} (h : EvD X e ρ (.int i)) : EvR X e ρ IntV := e_w h (fun v H q => by
  cases q
  exact ⟨i, rfl⟩) mono_int
theorem sr_addV (i : Nat) {x : Str} {pos' : Pos} {m : Int} (h : EvD X e ρ (.int m)) (hN : X.N.Nodup) (hρ : ρ[i]? = some (some IntV) := by rfl) (hi : X.N[i]? = some x := by rfl) (hx : Loc X.env.scope x := by first | exact Or.inl rfl | exact Or.inr rfl)
    (hf : X.fn x = true ∨ X.env.scope.names.lookup x = some .local := by first | exact .inl rfl | exact .inr rfl) : SR X (.AugAssign (.Name x pos') .Add e pos) ρ (ρ.set i (some IntV)) := ⟨fun σ H eo D q => sS_of (ps_aug hN hi hx pe_s ip_add hf) (by
    obtain ⟨v, hv, n, rfl⟩ := eo.at_ i _ hρ
    refine ⟨_, hv, h.run σ H eo _ fun u H1 e1 pu => ?_⟩
    cases pu
    exact ⟨n, m, rfl, rfl, q _ H1 e1 ((eo.up e1).set i (v := .int (n + m)) ⟨n + m, rfl⟩ mono_int)⟩)⟩
/-- the for of bm_for as a statement -/
theorem sm_for {js : List Nat} {iter : Expr} {body : List Stmt} {α : Type} {xs : List α} {emb : α → PyData} {parts : α → List PyData} (inv : Nat → Rho) (hp : PassesOwn (model X.prog X.w) X.A X.env X.xe) (hc : X.calm = true) (hsrc : SrcM X p tg iter ρ (xs.map emb)) (h0 : Imp ρ (inv 0))
    (htg : ∀ x ∈ xs, TgR X tg js (emb x) (parts x)) (hb : ∀ (i : Nat) (x : α), xs[i]? = some x → BM X p body (setR X.K (inv i) js (parts x)) (.nx (inv (i + 1)))) {σ : St} {H : Hp} {D : Ends} (eo : EnvOk ρ σ H) (l : Lp p H) (k : ∀ (σ' : St) H', Sx p H H' → EnvOk (inv xs.length) σ' H' → D.nx σ' H')
    (hs : ∀ x, foldedSetIterable iter X.env x = pure x := by intro _; rfl) : sS X (.For tg iter body [] pos) D σ H := by
  obtain ⟨wi, hpi, hwi⟩ := hsrc.ex
  refine sS_of (ps_for hp hc hpi pg_s pss_s hs) (hwi σ H eo l _ fun J H1 e1 G w hG gst => ?_)
  rw [List.length_map] at w
  have l1 := lp_up l e1
  refine for_it w (fun i σ' H' => Sx p H1 H' ∧ EnvOk (inv i) σ' H') ⟨Sx.refl l1, h0 _ _ (eo.up e1)⟩ (fun i σ' H' _ p' => gst _ _ l1 p'.1 hG) ?_ (fun σ' H' p' => k σ' H' ((sx_of l e1).trans p'.1) p'.2)
  rintro i v σ1 Ha Hb hi ⟨s1, eo1⟩ ⟨sab, d, hd, pd⟩
  have hx : xs[i]? = some xs[i] := List.getElem?_eq_getElem hi
  rw [List.getElem?_map, hx] at hd
  have hd : emb xs[i] = d := Option.some.inj hd
  subst hd
  refine (htg _ (List.getElem_mem hi)).run v σ1 Hb pd _ fun vs pvs => ?_
  exact (hb i _ hx).run _ Hb (eok_setL (eo1.up sab) pvs) (lp_up s1.1 sab) _ fun σ2 H2 e2 eo2 => ⟨(s1.trans (sx_of s1.1 sab)).trans e2, eo2⟩
/-- a, b = [], i : the list one's own -/
theorem sb_newPar (i j : Nat) {x y : Str} {px py pt pt2 pl : Pos} {kt k2} {n : Int} {σ : St} {H : Hp} {D : Ends} (eo : EnvOk ρ σ H) (hb : EvD X b ρ (.int n)) (k : ∀ (p : Addr) (H0 : Hp) (σ' : St) (H' : Hp), Same H H0 → H0 p = none → Same H0 H' → Lp p H' → EnvOk (((bsR H0 ρ).set i (some (Own X.K p []))).set j (some IntV)) σ' H' → sB X rest D σ' H')
    (hc : X.calm = true) (hN : X.N.Nodup) (hij : i ≠ j := by decide) (hi : X.N[i]? = some x := by rfl) (hj : X.N[j]? = some y := by rfl)
    (hx : X.env.scope.names.lookup x = some .local := by rfl) (hy : X.env.scope.names.lookup y = some .local := by rfl) (hw : swappedStores [.Tuple [.Name x px, .Name y py] kt pt] (.Tuple [.List [] pl, b] k2 pt2) X.env = pure (some [x, y]) := by rfl)
    (hs : swapsWithSole [.Tuple [.Name x px, .Name y py] kt pt] (.Tuple [.List [] pl, b] k2 pt2) pos.line X.env = pure false := by rfl) (hs1 : starEach [.List [] pl, b] X.env = (false, eval (.List [] pl) X.env) :: starEach [b] X.env := by rfl) (hs2 : starEach [b] X.env = (false, eval b X.env) :: starEach [] X.env := by rfl) :
    sB X (.Assign [.Tuple [.Name x px, .Name y py] kt pt] (.Tuple [.List [] pl, b] k2 pt2) pos :: rest) D σ H := sB_of (pss_cons (ps_par hc hN hi hj hij hx hy (pa_cons (pe_lst pa_nil) (pa_cons pe_s pa_nil hs2) hs1) hw hs) pss_s) ⟨by rw [sizeLine_eq]; exact Nat.zero_le _, fun p hp => by
      have e2 : Same H (upd H p (.lst [])) := same_new hp
      refine hb.run σ _ (eo.up e2) _ fun v H3 e3 pv => ?_
      cases pv
      refine ⟨.ref p, .int n, rfl, ?_⟩
      have l3 : H3 p = some (.lst []) := e3 _ _ upd_same
      exact k p H _ _ (Same.refl H) hp (e2.trans e3) ⟨[], l3⟩ (((EnvOk.base eo (e2.trans e3)).set i (v := .ref p) ⟨rfl, [], l3, .nil⟩ mono_own).set j (v := .int n) ⟨n, rfl⟩ mono_int)⟩
end
end SH

/-! ## SHV -/
set_option Elab.async false
set_option linter.all false
set_option maxRecDepth 100000
set_option maxHeartbeats 4000000
/-! mark, keep, drop, free -/
namespace SH
open PySem PySem.Spec PyProof.Rows L2
theorem cut_map {α β : Type} (f : α → β) (xs : List α) (lo hi : Option Int) : cutD (xs.map f) lo hi = (cutD xs lo hi).map f := by
  unfold cutD
  rw [List.length_map, List.map_take, List.map_drop]
theorem e_nbP {X : Cx} {ρ : Rho} {P : VP} {H0 : Hp} {pos : Pos} (i : Nat) {x : Str} (mo : Mono P) (hρ : ρ[i]? = some (some (Bs H0 P))) (hN : X.N[i]? = some x := by rfl) (hv : Vis X.env.scope x := by first | exact Or.inl rfl | exact Or.inr (Or.inl rfl) | exact Or.inr (Or.inr rfl)) (hd : (x == ("__debug__" : Str)) = false := by decide)
    (hcd : (x == ("__classdict__" : Str)) = false := by decide) : EvR X (.Name x pos) ρ P := e_w (e_nP i hρ mono_bs hN hv hd hcd) (fun v H q => mo v _ _ q.2 q.1) mo
section
variable {P : Program} {w : World} {K : PySem.W.Frag} {mg : Str → Option Value} {base : Heap} {CD CS CB CW CR : Addr}
def spMark (K : PySem.W.Frag) (CD CS CB CW CR : Addr) : Sp := fun vs H Q E => ∃ q og m S dn n ww hh us word v x y wd hg, vs = .ref q.p :: us ∧ DeskAt K CD CS q og m S dn n H ∧ DpAll K H us [.str word, .int v, .tuple ([x, y, wd, hg].map .int)] ∧ Good ww hh S ∧ dn.length ≤ 500 ∧ S.deeds.length ≤ 500 ∧ S.gone.length ≤ 500 ∧
  (∀ S', mrkM word v S x y wd hg = some S' → ∀ u H' q', Stp q q' H H' → DeskAt K CD CS q' og m S' (dn ++ [S]) n H' → Q u H') ∧ (mrkM word v S x y wd hg = none → Ref CB CW CR H E)
abbrev N_mark : List Str := ["self", "word", "value", "box", "x", "y", "wide", "high", "across", "down", "found", "many", "number", "row", "one"]
theorem sc_mark : FnScope N_mark ["self", "word", "value", "box"] (defScope s_Desk_mark) := ⟨rfl, rfl, rfl, by decide +kernel, rfl, by decide +kernel, by decide +kernel⟩
theorem markP_at {p : Pic} {v x y wd hg : Int} {i : Nat} {r : List Int} (h : p[i]? = some r) : (markP p v x y wd hg)[i]? = some (if y ≤ (i : Int) ∧ (i : Int) < y + hg then markRow v x wd r else r) := by
  unfold markP
  rw [List.getElem?_map, List.getElem?_zipIdx, h]
  simp
theorem ok_mark (G : Glob K mg) (F : DF K mg CD CS) (Ex : EF P w K mg base CB CW CR) (D : MethD K CD "mark" "Desk.mark" s_Desk_mark ["self", "word", "value", "box"] []) (cz : CalM P w K mg base CX0 1 CD "size" ["self"] (spS (R_size K CD CS))) (ct : CalM P w K mg base CX0 3 CD "turn_to" ["self", "cells", "marks", "steps", "deed"] (spTurn K CD CS)) (c1 : CalD P w K mg base 1 "is_number" R_isnum) :
    CalM P w K mg base (L2.CX P w) 4 CD "mark" ["self", "word", "value", "box"] (spMark K CD CS CB CW CR) :=
  meth_of D sc_mark (fun vs H Q E h => by
    obtain ⟨q, og, m, S, dn, n, ww, hh, us, word, v, x, y, wd, hg, rfl, _, d, _⟩ := h
    have := dpa_len d
    simpa using this) fun f cdv A outer s H vs Q E hr h => by
    obtain ⟨q, og, m, S, dn, n, ww, hh, us, word, v, x, y, wd, hg, rfl, hd, d, g, l1, l2, l3, k1, k2⟩ := h
    have g1 := g.w1
    have g2 := g.h1
    have gw := good_w g
    have gh : S.cells.length = hh := g.c.hgt
    cases d with
    | cons p1 d =>
    cases d with
    | cons p2 d =>
    cases d with
    | cons p3 d =>
    cases d
    rename_i v1 v2 v3
    have eo : EnvOk [some (DeskV K CD CS q og m S dn n), some (DD K (.str word)), some (DD K (.int v)), some (DD K (.tuple ([x, y, wd, hg].map .int))), none, none, none, none, none, none, none, none, none, none, none] (L2.start N_mark [.ref q.p, v1, v2, v3]) H := eok_some ⟨rfl, hd⟩ mono_desk (eok_d p1 (eok_d p2 (eok_d p3 (eok_reps 11))))
    refine sb_cons (sr_tg (js := [4, 5, 6, 7]) (ds := [.int x, .int y, .int wd, .int hg]) (e_n (d := .tuple ([x, y, wd, hg].map .int)) 3 rfl) (tg_tup rfl (tgs_cons 4 (tgs_cons 5 (tgs_cons 6 (tgs_cons 7 tgs_nil sc_mark.nd) sc_mark.nd) sc_mark.nd) sc_mark.nd))) eo fun σ1 H1 e1 eo1 => ?_
    refine sb_cons (sr_tg (js := [8, 9]) (ds := [.int (ww : Nat), .int (hh : Nat)]) (e_tell F.cD cz hr (by decide) (e_nP 0 (P := DeskV K CD CS q og m S dn n) rfl mono_desk) mono_dd ⟨q, og, m, S, dn, n, ww, hh, rfl, g, rfl⟩ (desk_ins "size")) (tg_tup rfl (tgs_cons 8 (tgs_cons 9 tgs_nil sc_mark.nd) sc_mark.nd))) eo1 fun σ2 H2 e2 eo2 => ?_
    have hbx : mrkM word v S x y wd hg = if boxOk ww hh x y wd hg = true then some (mrk word v S x y wd hg) else none := by
      unfold mrkM
      rw [gw, gh]
    have hb0 : boxOk ww hh x y wd hg = (((decide (0 ≤ x) && decide (x ≤ (ww : Int) - 1)) && (decide (0 ≤ y) && decide (y ≤ (hh : Int) - 1))) && ((decide (1 ≤ wd) && decide (wd ≤ (ww : Int) - x)) && (decide (1 ≤ hg) && decide (hg ≤ (hh : Int) - y)))) := rfl
    cases hA : ((decide (0 ≤ x) && decide (x ≤ (ww : Int) - 1)) && (decide (0 ≤ y) && decide (y ≤ (hh : Int) - 1))) with
    | false =>
      have rf := k2 (by rw [hbx, hb0, hA]; rfl)
      refine sb_ift (EvT.is (t_w (w_or (t_not (t_val (e_call c1 hr (by decide) rfl (a_cons (e_n (d := .int x) 4 rfl) (a_cons e_int (a_cons (e_sub (e_n (d := .int (ww : Nat)) 8 rfl) e_int) a_nil))) ⟨x, 0, (ww : Int) - 1, rfl, rfl⟩))) fun _ => w_or1 (t_not (t_val (e_call c1 hr (by decide) rfl (a_cons (e_n (d := .int y) 5 rfl) (a_cons e_int (a_cons (e_sub (e_n (d := .int (hh : Nat)) 9 rfl) e_int) a_nil))) ⟨y, 0, (hh : Int) - 1, rfl, rfl⟩))))) (by rw [← Bool.not_and, hA]; rfl)) eo2 fun H3 e3 => ?_
      exact sb_box rfl (takes_of rfl rfl rfl rfl) Ex (rf H3 ((e1.trans e2).trans e3)).2.1
    | true =>
      refine sb_iff (EvT.is (t_w (w_or (t_not (t_val (e_call c1 hr (by decide) rfl (a_cons (e_n (d := .int x) 4 rfl) (a_cons e_int (a_cons (e_sub (e_n (d := .int (ww : Nat)) 8 rfl) e_int) a_nil))) ⟨x, 0, (ww : Int) - 1, rfl, rfl⟩))) fun _ => w_or1 (t_not (t_val (e_call c1 hr (by decide) rfl (a_cons (e_n (d := .int y) 5 rfl) (a_cons e_int (a_cons (e_sub (e_n (d := .int (hh : Nat)) 9 rfl) e_int) a_nil))) ⟨y, 0, (hh : Int) - 1, rfl, rfl⟩))))) (by rw [← Bool.not_and, hA]; rfl)) eo2 fun H3 e3 => sb_nil ?_
      have eo3 := eo2.up e3
      cases hB : ((decide (1 ≤ wd) && decide (wd ≤ (ww : Int) - x)) && (decide (1 ≤ hg) && decide (hg ≤ (hh : Int) - y))) with
      | false =>
        have rf := k2 (by rw [hbx, hb0, hA, hB]; rfl)
        refine sb_ift (EvT.is (t_w (w_or (t_not (t_val (e_call c1 hr (by decide) rfl (a_cons (e_n (d := .int wd) 6 rfl) (a_cons e_int (a_cons (e_sub (e_n (d := .int (ww : Nat)) 8 rfl) (e_n (d := .int x) 4 rfl)) a_nil))) ⟨wd, 1, (ww : Int) - x, rfl, rfl⟩))) fun _ => w_or1 (t_not (t_val (e_call c1 hr (by decide) rfl (a_cons (e_n (d := .int hg) 7 rfl) (a_cons e_int (a_cons (e_sub (e_n (d := .int (hh : Nat)) 9 rfl) (e_n (d := .int y) 5 rfl)) a_nil))) ⟨hg, 1, (hh : Int) - y, rfl, rfl⟩))))) (by rw [← Bool.not_and, hB]; rfl)) eo3 fun H4 e4 => ?_
        exact sb_box rfl (takes_of rfl rfl rfl rfl) Ex (rf H4 (((e1.trans e2).trans e3).trans e4)).2.1
      | true =>
        refine sb_iff (EvT.is (t_w (w_or (t_not (t_val (e_call c1 hr (by decide) rfl (a_cons (e_n (d := .int wd) 6 rfl) (a_cons e_int (a_cons (e_sub (e_n (d := .int (ww : Nat)) 8 rfl) (e_n (d := .int x) 4 rfl)) a_nil))) ⟨wd, 1, (ww : Int) - x, rfl, rfl⟩))) fun _ => w_or1 (t_not (t_val (e_call c1 hr (by decide) rfl (a_cons (e_n (d := .int hg) 7 rfl) (a_cons e_int (a_cons (e_sub (e_n (d := .int (hh : Nat)) 9 rfl) (e_n (d := .int y) 5 rfl)) a_nil))) ⟨hg, 1, (hh : Int) - y, rfl, rfl⟩))))) (by rw [← Bool.not_and, hB]; rfl)) eo3 fun H4 e4 => sb_nil ?_
        have hbt : boxOk ww hh x y wd hg = true := by rw [hb0, hA, hB]; rfl
        have hmk : mrkM word v S x y wd hg = some (mrk word v S x y wd hg) := by rw [hbx, if_pos hbt]
        simp only [Bool.and_eq_true, decide_eq_true_eq] at hA hB
        have eo4 := eo3.up e4
        have ml := (shape_mark (v := v) g.s hbt).hgt
        refine sb_newPar 10 11 eo4 e_int (fun p H0 σ5 H5 ea h0 eb lp eo5 => ?_) rfl sc_mark.nd
        have e05 : Same H H0 := (((e1.trans e2).trans e3).trans e4).trans ea
        refine sb_pre (sm_for (p := p) (js := [12, 13]) (xs := S.signs.zipIdx) (emb := fun u => .tuple [.int (u.2 : Nat), dI u.1]) (parts := fun u => [.int (u.2 : Nat), dI u.1])
          (fun i => [some (Bs H0 (DeskV K CD CS q og m S dn n)), some (Bs H0 (DD K (.str word))), some (Bs H0 (DD K (.int v))), some (Bs H0 (DD K (.tuple ([x, y, wd, hg].map .int)))), some (Bs H0 (DD K (.int x))), some (Bs H0 (DD K (.int y))), some (Bs H0 (DD K (.int wd))), some (Bs H0 (DD K (.int hg))), some (Bs H0 (DD K (.int (ww : Nat)))), some (Bs H0 (DD K (.int (hh : Nat)))), some (Own K p (((markP S.signs v x y wd hg).take i).map dI)), some IntV, none, none, none])
          (by first | exact passes_of rfl | exact PassesOwn.never) rfl (SrcM.is (srcm_enumT G.enum (e_signs F (e_here F (e_nbP 0 (P := DeskV K CD CS q og m S dn n) mono_desk rfl))) (noLs_map fun _ _ => noL_dI _)) (enum_emb S.signs)) (by repeat (first | exact imp_nil | apply imp_id | apply imp_none | apply imp_bs | apply imp_own | (refine imp_bsP mono_ll ?_))) (fun _ _ => tg_tup rfl (tgs_cons 12 (tgs_cons 13 tgs_nil sc_mark.nd) sc_mark.nd)) (fun i u hi => ?body) eo5 lp fun σ6 H6 s6 eo6 => ?after)
        case after =>
          have ht : (markP S.signs v x y wd hg).take S.signs.zipIdx.length = markP S.signs v x y wd hg := List.take_of_length_le (by rw [ml]; simp; rw [g.s.hgt]; exact Nat.le_refl _)
          rw [ht] at eo6
          have e06 : Same H0 H6 := sx_same h0 eb s6
          refine sb_exprE (m_selfA (E := fun _ _ _ _ => False) F.cD ct hr (by decide) (fun σ => passAt0) (e_nbP 0 (P := DeskV K CD CS q og m S dn n) mono_desk rfl) (a_cons (e_cells F (e_here F (e_nbP 0 (P := DeskV K CD CS q og m S dn n) mono_desk rfl))) (a_cons (EvD.is (d' := dP (markP S.signs v x y wd hg)) (e_tuple G.tup (e_no 10 rfl)) rfl) (a_cons (e_gone F (e_here F (e_nbP 0 (P := DeskV K CD CS q og m S dn n) mono_desk rfl))) (a_cons (EvD.is (d' := dDeed (word, [x, y, wd, hg])) (e_cat (e_tup (a_cons (e_nb (d := .str word) 1 rfl) a_nil) (by simp)) (e_nb (d := .tuple ([x, y, wd, hg].map .int)) 3 rfl) (by rw [sizeLine_eq]; simp)) rfl) a_nil)))) eo6 (desk_ins "turn_to") fun v7 vs7 H7 e7 pv7 pvs7 => ?_)
          refine ⟨q, og, m, S, dn, n, vs7, S.cells, markP S.signs v x y wd hg, S.gone, (word, [x, y, wd, hg]), by rw [pv7.1], pv7.2, pvs7, l1, l2, fun v8 H8 q8 s8 d8 => ?_⟩
          obtain ⟨v9, hv9, _⟩ := eo6.at_ 11 IntV rfl
          refine sb_retE (sE_slot 11 hv9 ?_)
          exact k1 _ hmk v9 H8 q8 (Stp.pre ((e05.trans e06).trans e7) s8) d8
        case body =>
          obtain ⟨r, ix⟩ := u
          rw [List.getElem?_zipIdx] at hi
          have hi1 : S.signs[i]? = some r ∧ ix = i := by
            cases z : S.signs[i]? with
            | none => rw [z] at hi; cases hi
            | some c' =>
              rw [z] at hi
              have hi : (c', 0 + i) = (r, ix) := Option.some.inj hi
              have h1 := congrArg Prod.fst hi
              have h2 := congrArg Prod.snd hi
              have h1 : c' = r := h1
              have h2 : 0 + i = ix := h2
              subst h1
              exact ⟨rfl, by omega⟩
          obtain ⟨hc, rfl⟩ := hi1
          have hrl : r.length = ww := g.s.wid r (List.mem_of_getElem? hc)
          have htk := take_succ_at (markP_at (v := v) (x := x) (y := y) (wd := wd) (hg := hg) hc)
          rw [htk]
          refine bm_s (ρ' := [some (Bs H0 (DeskV K CD CS q og m S dn n)), some (Bs H0 (DD K (.str word))), some (Bs H0 (DD K (.int v))), some (Bs H0 (DD K (.tuple ([x, y, wd, hg].map .int)))), some (Bs H0 (DD K (.int x))), some (Bs H0 (DD K (.int y))), some (Bs H0 (DD K (.int wd))), some (Bs H0 (DD K (.int hg))), some (Bs H0 (DD K (.int (ww : Nat)))), some (Bs H0 (DD K (.int (hh : Nat)))), some (Own K p (((markP S.signs v x y wd hg).take ix).map dI)), some IntV, none, some (DD K (dI (if y ≤ (ix : Int) ∧ (ix : Int) < y + hg then markRow v x wd r else r))), none]) (sr_if (t_chain c_le c_lt (e_nb (d := .int y) 5 rfl) (e_n (d := .int (ix : Nat)) 12 rfl) (e_add (e_nb (d := .int y) 5 rfl) (e_nb (d := .int hg) 7 rfl))) (fun hk => ?thn) (fun hk => ?els)) ?ap
          case els =>
            have : ¬ (y ≤ (ix : Int) ∧ (ix : Int) < y + hg) := fun z => by
              rw [decide_eq_true z.1, decide_eq_true z.2] at hk
              cases hk
            rw [if_neg this]
            exact b_out b_nil (by repeat (first | exact imp_nil | apply imp_id | apply imp_none | apply imp_bs | apply imp_own | (refine imp_bsP mono_ll ?_)))
          case thn =>
            have : (y ≤ (ix : Int) ∧ (ix : Int) < y + hg) := by
              simp only [Bool.and_eq_true, decide_eq_true_eq] at hk
              exact hk
            rw [if_pos this]
            refine b_out (b_s (sr_addV 11 (e_lenL G.len (e_lc (own := [("one", 14)]) (js := [14]) (xs := cutD r (some x) (some (x + wd))) (emb := .int) (parts := fun c => [.int c]) (f := fun c => !decide (c = v)) (g := .int) rfl sc_mark.nd (SrcR.is (src_tup (e_sl (ds := r.map .int) (e_n 13 rfl) (o_some (e_nb (d := .int x) 4 rfl)) (o_some (e_add (e_nb (d := .int x) 4 rfl) (e_nb (d := .int wd) 6 rfl))))) (cut_map _ _ _ _)) (blkOk_by (own := [("one", 14)]) (by rfl)) (by decide) (by unfold cutD; rw [List.length_take, List.length_drop]; omega) (fun _ _ => by simp [noL]) (fun _ _ _ _ _ _ _ => tg_name 14 sc_mark.nd) (fun _ _ _ _ _ c _ => ts_one (t_cmp c_neI (e_n (d := .int c) 14 rfl) (e_nb (d := .int v) 2 rfl))) fun _ _ _ _ _ c _ _ => e_n (d := .int c) 14 rfl)) sc_mark.nd)
              (b_set 13 (EvD.is (d' := dI (markRow v x wd r)) (e_cat (e_cat (e_sl (ds := r.map .int) (e_n 13 rfl) o_none (o_some (e_nb (d := .int x) 4 rfl))) (e_rep (k := wd) (e_tup (a_cons (e_nb (d := .int v) 2 rfl) a_nil) (by simp)) (e_nb (d := .int wd) 6 rfl) (by omega) (by omega)) (by
                rw [cut_pre (by omega) (by rw [List.length_map]; omega), List.length_take, List.length_map, List.length_replicate, sizeLine_eq]
                omega)) (e_sl (ds := r.map .int) (e_n 13 rfl) (o_some (e_add (e_nb (d := .int x) 4 rfl) (e_nb (d := .int wd) 6 rfl))) o_none) (by
                rw [cut_pre (by omega) (by rw [List.length_map]; omega), cut_post (by omega) (by rw [List.length_map]; omega), List.length_append, List.length_take, List.length_drop, List.length_map, List.length_replicate, sizeLine_eq]
                omega)) (by
                rw [cut_pre (by omega) (by rw [List.length_map]; omega), cut_post (by omega) (by rw [List.length_map]; omega), map_take', map_drop']
                unfold dI markRow
                rw [List.map_append, List.map_append, List.map_replicate, List.append_assoc])) b_nil sc_mark.nd)) (by repeat (first | exact imp_nil | apply imp_id | apply imp_none | apply imp_bs | apply imp_own | (refine imp_bsP mono_ll ?_)))
          case ap =>
            refine bm_out (bm_app 10 (ds := ((markP S.signs v x y wd hg).take ix).map dI) (e_n 13 rfl) (noL_dI _) (noLs_map fun _ _ => noL_dI _) (by rw [List.length_map, List.length_take, ml]; omega) bm_nil (by repeat (first | exact ka_nil | apply ka_none | (refine ka_some (keep_bs h0) ?_) | (refine ka_some keep_int ?_) | (refine ka_some (keep_d (by first | rfl | exact noL_dI _ | simp [noL])) ?_)))) ?_
            rw [List.map_append]
            exact (by repeat (first | exact imp_nil | apply imp_id | apply imp_none | apply imp_bs | apply imp_own | (refine imp_bsP mono_ll ?_)))
end
end SH

/-! ## SHW -/
set_option Elab.async false
set_option linter.all false
set_option maxRecDepth 100000
set_option maxHeartbeats 4000000
/-! keep, drop, free; back; a new desk -/
namespace SH
open PySem PySem.Spec PyProof.Rows L2
section
variable {P : Program} {w : World} {K : PySem.W.Frag} {mg : Str → Option Value} {base : Heap} {CD CS CB CW CR : Addr}
structure CalK (P : Program) (w : World) (K : PySem.W.Frag) (mg : Str → Option Value) (base : Heap) (CX : CXT) (k : Nat) (C : Addr) (m : Str) (ps : List Str) (n : Nat) (ks : List Str) (sp : Sp) : Prop where
  ex : ∃ (f : Addr) (fd : FuncData) (g : List Value → List Value → List Value), FnOk P w K mg base CX k f fd ps sp ∧ Meth K C m f ∧ KBn K fd ps n ks g (fun vs zs => vs ++ zs)
def spBox (K : PySem.W.Frag) (CD CS CB CW CR : Addr) (word : Str) (v : Int) : Sp := fun vs H Q E => ∃ q og m S dn n ww hh x y wd hg, vs = [.ref q.p, .int x, .int y, .int wd, .int hg] ∧ DeskAt K CD CS q og m S dn n H ∧ Good ww hh S ∧ dn.length ≤ 500 ∧ S.deeds.length ≤ 500 ∧ S.gone.length ≤ 500 ∧
  (∀ S', mrkM word v S x y wd hg = some S' → ∀ u H' q', Stp q q' H H' → DeskAt K CD CS q' og m S' (dn ++ [S]) n H' → Q u H') ∧ (mrkM word v S x y wd hg = none → Ref CB CW CR H E)
abbrev N_box : List Str := ["self", "x", "y", "wide", "high"]

theorem ok_box_keep (G : Glob K mg) (F : DF K mg CD CS) (D : MethD K CD "keep" "Desk.keep" s_Desk_keep N_box [("wide", .int 1), ("high", .int 1)]) (cm : CalM P w K mg base (L2.CX P w) 4 CD "mark" ["self", "word", "value", "box"] (spMark K CD CS CB CW CR)) :
    CalK P w K mg base (L2.CX P w) 5 CD "keep" N_box 3 ["wide", "high"] (spBox K CD CS CB CW CR "keep" 1) := by
  obtain ⟨f, fd, Fd, hm, _⟩ := D.ex
  have hb : ∃ g, KBn K fd N_box 3 ["wide", "high"] g (fun vs zs => vs ++ zs) := by
    obtain ⟨mv, h⟩ := Fd.kbinds0 (ps := N_box) 3 ["wide", "high"] [] (fun us mv ws => us ++ ws) (by simp) (by simp) (fun r1 r2 r3 => r1.append r3) (fun D doc pm an cdv ct us mv ws h1 h2 h3 => by
      match us, ws, h1, h3 with
      | [a, b, c], [d, e], _, _ => rfl)
    exact ⟨_, h⟩
  obtain ⟨gg, hb⟩ := hb
  refine ⟨f, fd, gg, Fd.ok (N := N_box) ⟨rfl, rfl, rfl, by decide +kernel, rfl, by decide +kernel, by decide +kernel⟩ (fun vs H Q E h => ?_) (fun cdv A outer s H vs Q E hr h => ?_), hm, hb⟩
  · obtain ⟨q, og, m, S, dn, n, ww, hh, x, y, wd, hg, rfl, _⟩ := h
    rfl
  · obtain ⟨q, og, m, S, dn, n, ww, hh, x, y, wd, hg, rfl, hd, g, l1, l2, l3, k1, k2⟩ := h
    have eo : EnvOk [some (DeskV K CD CS q og m S dn n), some (DD K (.int x)), some (DD K (.int y)), some (DD K (.int wd)), some (DD K (.int hg))] (L2.start N_box [.ref q.p, .int x, .int y, .int wd, .int hg]) H := eok_some ⟨rfl, hd⟩ mono_desk (eok_d (.int x) (eok_d (.int y) (eok_d (.int wd) (eok_d (.int hg) eok_nil))))
    refine ⟨_, pss_s (X := XG (L2.CX P w) P w K mg base N_box "Desk.keep" s_Desk_keep f cdv A outer s H E), ?_⟩
    refine sb_retE (m_selfA (E := fun _ cls d H => E cls d H) F.cD cm hr (by decide) (fun σ => passAt (takes_of rfl rfl rfl rfl) σ) (e_nP 0 (P := DeskV K CD CS q og m S dn n) rfl mono_desk) (a_cons e_str (a_cons (e_gi G.kept) (a_cons (EvD.is (d' := .tuple ([x, y, wd, hg].map .int)) (e_tup (a_cons (e_n (d := .int x) 1 rfl) (a_cons (e_n (d := .int y) 2 rfl) (a_cons (e_n (d := .int wd) 3 rfl) (a_cons (e_n (d := .int hg) 4 rfl) a_nil)))) (by simp)) rfl) a_nil))) eo (desk_ins "mark") fun v vs H1 e1 pv pvs => ?_)
    exact ⟨q, og, m, S, dn, n, ww, hh, vs, "keep", 1, x, y, wd, hg, by rw [pv.1], pv.2, pvs, g, l1, l2, l3, fun S' hS u H' q' s d => k1 S' hS u H' q' (Stp.pre e1 s) d, fun hn => (k2 hn).up e1⟩

theorem ok_box_drop (G : Glob K mg) (F : DF K mg CD CS) (D : MethD K CD "drop" "Desk.drop" s_Desk_drop N_box [("wide", .int 1), ("high", .int 1)]) (cm : CalM P w K mg base (L2.CX P w) 4 CD "mark" ["self", "word", "value", "box"] (spMark K CD CS CB CW CR)) :
    CalK P w K mg base (L2.CX P w) 5 CD "drop" N_box 3 ["wide", "high"] (spBox K CD CS CB CW CR "drop" 2) := by
  obtain ⟨f, fd, Fd, hm, _⟩ := D.ex
  have hb : ∃ g, KBn K fd N_box 3 ["wide", "high"] g (fun vs zs => vs ++ zs) := by
    obtain ⟨mv, h⟩ := Fd.kbinds0 (ps := N_box) 3 ["wide", "high"] [] (fun us mv ws => us ++ ws) (by simp) (by simp) (fun r1 r2 r3 => r1.append r3) (fun D doc pm an cdv ct us mv ws h1 h2 h3 => by
      match us, ws, h1, h3 with
      | [a, b, c], [d, e], _, _ => rfl)
    exact ⟨_, h⟩
  obtain ⟨gg, hb⟩ := hb
  refine ⟨f, fd, gg, Fd.ok (N := N_box) ⟨rfl, rfl, rfl, by decide +kernel, rfl, by decide +kernel, by decide +kernel⟩ (fun vs H Q E h => ?_) (fun cdv A outer s H vs Q E hr h => ?_), hm, hb⟩
  · obtain ⟨q, og, m, S, dn, n, ww, hh, x, y, wd, hg, rfl, _⟩ := h
    rfl
  · obtain ⟨q, og, m, S, dn, n, ww, hh, x, y, wd, hg, rfl, hd, g, l1, l2, l3, k1, k2⟩ := h
    have eo : EnvOk [some (DeskV K CD CS q og m S dn n), some (DD K (.int x)), some (DD K (.int y)), some (DD K (.int wd)), some (DD K (.int hg))] (L2.start N_box [.ref q.p, .int x, .int y, .int wd, .int hg]) H := eok_some ⟨rfl, hd⟩ mono_desk (eok_d (.int x) (eok_d (.int y) (eok_d (.int wd) (eok_d (.int hg) eok_nil))))
    refine ⟨_, pss_s (X := XG (L2.CX P w) P w K mg base N_box "Desk.drop" s_Desk_drop f cdv A outer s H E), ?_⟩
    refine sb_retE (m_selfA (E := fun _ cls d H => E cls d H) F.cD cm hr (by decide) (fun σ => passAt (takes_of rfl rfl rfl rfl) σ) (e_nP 0 (P := DeskV K CD CS q og m S dn n) rfl mono_desk) (a_cons e_str (a_cons (e_gi G.gone) (a_cons (EvD.is (d' := .tuple ([x, y, wd, hg].map .int)) (e_tup (a_cons (e_n (d := .int x) 1 rfl) (a_cons (e_n (d := .int y) 2 rfl) (a_cons (e_n (d := .int wd) 3 rfl) (a_cons (e_n (d := .int hg) 4 rfl) a_nil)))) (by simp)) rfl) a_nil))) eo (desk_ins "mark") fun v vs H1 e1 pv pvs => ?_)
    exact ⟨q, og, m, S, dn, n, ww, hh, vs, "drop", 2, x, y, wd, hg, by rw [pv.1], pv.2, pvs, g, l1, l2, l3, fun S' hS u H' q' s d => k1 S' hS u H' q' (Stp.pre e1 s) d, fun hn => (k2 hn).up e1⟩

theorem ok_box_free (G : Glob K mg) (F : DF K mg CD CS) (D : MethD K CD "free" "Desk.free" s_Desk_free N_box [("wide", .int 1), ("high", .int 1)]) (cm : CalM P w K mg base (L2.CX P w) 4 CD "mark" ["self", "word", "value", "box"] (spMark K CD CS CB CW CR)) :
    CalK P w K mg base (L2.CX P w) 5 CD "free" N_box 3 ["wide", "high"] (spBox K CD CS CB CW CR "free" 0) := by
  obtain ⟨f, fd, Fd, hm, _⟩ := D.ex
  have hb : ∃ g, KBn K fd N_box 3 ["wide", "high"] g (fun vs zs => vs ++ zs) := by
    obtain ⟨mv, h⟩ := Fd.kbinds0 (ps := N_box) 3 ["wide", "high"] [] (fun us mv ws => us ++ ws) (by simp) (by simp) (fun r1 r2 r3 => r1.append r3) (fun D doc pm an cdv ct us mv ws h1 h2 h3 => by
      match us, ws, h1, h3 with
      | [a, b, c], [d, e], _, _ => rfl)
    exact ⟨_, h⟩
  obtain ⟨gg, hb⟩ := hb
  refine ⟨f, fd, gg, Fd.ok (N := N_box) ⟨rfl, rfl, rfl, by decide +kernel, rfl, by decide +kernel, by decide +kernel⟩ (fun vs H Q E h => ?_) (fun cdv A outer s H vs Q E hr h => ?_), hm, hb⟩
  · obtain ⟨q, og, m, S, dn, n, ww, hh, x, y, wd, hg, rfl, _⟩ := h
    rfl
  · obtain ⟨q, og, m, S, dn, n, ww, hh, x, y, wd, hg, rfl, hd, g, l1, l2, l3, k1, k2⟩ := h
    have eo : EnvOk [some (DeskV K CD CS q og m S dn n), some (DD K (.int x)), some (DD K (.int y)), some (DD K (.int wd)), some (DD K (.int hg))] (L2.start N_box [.ref q.p, .int x, .int y, .int wd, .int hg]) H := eok_some ⟨rfl, hd⟩ mono_desk (eok_d (.int x) (eok_d (.int y) (eok_d (.int wd) (eok_d (.int hg) eok_nil))))
    refine ⟨_, pss_s (X := XG (L2.CX P w) P w K mg base N_box "Desk.free" s_Desk_free f cdv A outer s H E), ?_⟩
    refine sb_retE (m_selfA (E := fun _ cls d H => E cls d H) F.cD cm hr (by decide) (fun σ => passAt (takes_of rfl rfl rfl rfl) σ) (e_nP 0 (P := DeskV K CD CS q og m S dn n) rfl mono_desk) (a_cons e_str (a_cons (e_gi G.free) (a_cons (EvD.is (d' := .tuple ([x, y, wd, hg].map .int)) (e_tup (a_cons (e_n (d := .int x) 1 rfl) (a_cons (e_n (d := .int y) 2 rfl) (a_cons (e_n (d := .int wd) 3 rfl) (a_cons (e_n (d := .int hg) 4 rfl) a_nil)))) (by simp)) rfl) a_nil))) eo (desk_ins "mark") fun v vs H1 e1 pv pvs => ?_)
    exact ⟨q, og, m, S, dn, n, ww, hh, vs, "free", 0, x, y, wd, hg, by rw [pv.1], pv.2, pvs, g, l1, l2, l3, fun S' hS u H' q' s d => k1 S' hS u H' q' (Stp.pre e1 s) d, fun hn => (k2 hn).up e1⟩

/-! ### two lists of unlike lengths -/
def rEqLen : R2 := fun x y H Q => ∃ a b L M, x = .ref a ∧ y = .ref b ∧ H a = some (.lst L) ∧ H b = some (.lst M) ∧ L.length ≠ M.length ∧ Q (.bl false) H
theorem op_eqLen {X : Cx} (hu : X.A.units < cLine) : OpR X (compareOp .Eq) rEqLen := by
  intro pins s σ H x y v u Q I rx ry h
  obtain ⟨a, b, L, M, rfl, rfl, ha, hb, hl, q⟩ := h
  cases rx
  cases ry
  show wpAny (model X.prog X.w) X.A (richCompare .Eq (.ref a) (.ref b)) (EP X pins σ Q) X.xe s
  obtain ⟨z, its, n, r, hlen, e⟩ := I.lstM ha
  obtain ⟨z2, its2, n2, r2, hlen2, e2⟩ := I.lstM hb
  have hne : (its.toArray.size != its2.toArray.size) = true := by
    rw [List.size_toArray, List.size_toArray, ← hlen, ← hlen2]
    simpa using hl
  have ta : s.TypeIs (.ref a) "list" := ⟨_, e, rfl⟩
  have tb : s.TypeIs (.ref b) "list" := ⟨_, e2, rfl⟩
  exact wpAny_richCompare_same_room (op := .Eq) ta tb F.slot_list_eq (call_meets F.slot_list_eq ta F.entry_list_eq (F.args_list_eq_2 _ _) (SeqAt.list_eq_lengthsAt a b its.toArray its2.toArray n n2 none none _ _ hne)
    ⟨e, e2, show Value.bool false ≠ Value.notImplemented ∧ EP X pins σ Q (.bool false) s from ⟨(fun x => nomatch x), ⟨.bl false, H, I, rfl, q⟩⟩⟩) hu
theorem sc_back_nd : (["self", "deed"] : List Str).Nodup := by decide +kernel
/-! ### back -/
def spBack (K : PySem.W.Frag) (CD CS : Addr) : Sp := fun vs H Q _ => ∃ q og m S S0 dn n e es, vs = [.ref q.p] ∧ DeskAt K CD CS q og m S (dn ++ [S0]) n H ∧ S.deeds = es ++ [e] ∧ dn.length ≤ 500 ∧ n ≤ 500 ∧
  ∀ v H', Stp q q H H' → Dp K H' v (dDeed e) → DeskAt K CD CS q og m S0 dn (n + 1) H' → Q v H'
theorem desk_lu {q : Ptr} {og : Pic} {m : Str} {S : StandM} {dn : List StandM} {n : Nat} {H : Hp} {h : V} (d : DeskAt K CD CS q og m S dn n H) : ∃ U, H q.lu = some (.lst U) ∧ U.length ≤ n ∧ DeskAt K CD CS q og m S dn (n + 1) (upd H q.lu (.lst (U ++ [h]))) ∧ Stp q q H (upd H q.lu (.lst (U ++ [h]))) := by
  obtain ⟨dx, o, hh, L, U, h1, h2, h3, h4, h5, h6, h7, h8⟩ := d.ex
  have k : Kp H (upd H q.lu (.lst (U ++ [h]))) := kp_lst h6
  have np : q.p ≠ q.lu := ne_sort h1 h6 (fun z => by cases z)
  refine ⟨U, h6, h7, ⟨dx, o, hh, L, U ++ [h], by rw [upd_ne np]; exact h1, dp_t k.t _ _ (noL_dP _) h2, stand_kp k h3, by rw [upd_ne h8]; exact h4, stl_kp k h5, upd_same, by rw [List.length_append]; simp; omega, h8⟩, k, fun a u na e => ?_, ⟨rfl, rfl, .inl rfl⟩, dm_upd⟩
  rw [upd_ne (fun z => na (.inr (.inr z)))]
  exact e
theorem desk_pop {q : Ptr} {og : Pic} {m : Str} {S S0 : StandM} {dn : List StandM} {n : Nat} {H : Hp} (d : DeskAt K CD CS q og m S (dn ++ [S0]) n H) : ∃ L v, H q.ld = some (.lst (L ++ [v])) ∧ L.length = dn.length ∧ StandAt K CS S0 v (upd H q.ld (.lst L)) ∧ DeskAt K CD CS q og m S dn n (upd H q.ld (.lst L)) ∧ Stp q q H (upd H q.ld (.lst L)) := by
  obtain ⟨dx, o, hh, L, U, h1, h2, h3, h4, h5, h6, h7, h8⟩ := d.ex
  obtain ⟨L0, v, rfl, h5a, h5b⟩ := stl_split h5
  have k : Kp H (upd H q.ld (.lst L0)) := kp_lst h4
  have np : q.p ≠ q.ld := ne_sort h1 h4 (fun z => by cases z)
  refine ⟨L0, v, h4, stl_len h5a, stand_kp k h5b, ⟨dx, o, hh, L0, U, by rw [upd_ne np]; exact h1, dp_t k.t _ _ (noL_dP _) h2, stand_kp k h3, upd_same, stl_kp k h5a, by rw [upd_ne h8.symm]; exact h6, h7, h8⟩, k, fun a u na e => ?_, ⟨rfl, rfl, .inl rfl⟩, dm_upd⟩
  rw [upd_ne (fun z => na (.inr (.inl z)))]
  exact e
theorem ok_back (F : DF K mg CD CS) (D : MethD K CD "back" "Desk.back" s_Desk_back ["self"] []) : CalM P w K mg base CX0 1 CD "back" ["self"] (spBack K CD CS) :=
  meth_of0 (N := ["self", "deed"]) D ⟨rfl, rfl, rfl, by decide +kernel, rfl, by decide +kernel, by decide +kernel⟩ (fun vs H Q E h => by
    obtain ⟨q, og, m, S, S0, dn, n, e, es, rfl, _⟩ := h
    rfl) fun f cdv A outer s H vs Q E hr h => by
    obtain ⟨q, og, m, S, S0, dn, n, e, es, rfl, hd, hes, l1, l2, k⟩ := h
    have eo : EnvOk [some (DeskV K CD CS q og m S (dn ++ [S0]) n), none] (L2.start ["self", "deed"] [.ref q.p]) H := eok_some ⟨rfl, hd⟩ mono_desk (eok_reps 1)
    -- if self.done == []
    refine sB_of (pss_cons (ps_if (pt_cmpR (op_eqLen hr.units0) pe_s (pe_lst pa_nil) (by rfl)) pss_s pss_s) pss_s) ?_
    refine (e_done F (e_nP 0 (P := DeskV K CD CS q og m S (dn ++ [S0]) n) rfl mono_desk)).run _ H eo _ fun v H1 e1 pv => ?_
    have pv : v = .ref q.ld := pv
    subst pv
    refine ⟨by rw [sizeLine_eq]; exact Nat.zero_le _, fun p hp => ?_⟩
    have d1 := desk_up e1 hd
    obtain ⟨L, v0, hL, hl, _⟩ := desk_pop d1
    have e2 : Same H1 (upd H1 p (.lst [])) := same_new hp
    refine ⟨q.ld, p, L ++ [v0], [], rfl, rfl, e2 _ _ hL, upd_same, by simp, false, rfl, ?_⟩
    show sB _ _ _ _ _
    refine sb_nil ?_
    have eo2 := eo.up (e1.trans e2)
    have hds : dDs S.deeds = .tuple (es.map dDeed ++ [dDeed e]) := by
      rw [hes]
      unfold dDs
      rw [List.map_append]
      rfl
    refine sb_cons (sr_set 1 (e_ix (i := -1) (d := dDeed e) (EvD.is (e_deeds F (e_here F (e_nP 0 (P := DeskV K CD CS q og m S (dn ++ [S0]) n) rfl mono_desk))) hds) (e_neg e_int) (by
      unfold atI ixN
      rw [if_neg (by decide), if_pos (by simp; omega)]
      show (es.map dDeed ++ [dDeed e])[(-1 + ((es.map dDeed ++ [dDeed e]).length : Int)).toNat]? = _
      have z : (-1 + ((es.map dDeed ++ [dDeed e]).length : Int)).toNat = (es.map dDeed).length := by simp; omega
      rw [z, List.getElem?_append_right (Nat.le_refl _), Nat.sub_self]
      rfl)) (by exact sc_back_nd)) eo2 fun σ3 H3 e3 eo3 => ?_
    -- self.undone.append(self.here)
    refine sB_of (pss_cons (ps_expr (pe_bm PySem.F.plainAttrs_list PySem.F.slot_list_append PySem.F.type_list_append mt_append pe_s (pa_cons pe_s pa_nil))) (pss_cons (ps_fld pe_s (pe_bm0 PySem.F.plainAttrs_list PySem.F.slot_list_pop PySem.F.type_list_pop mt_pop pe_s) rfl) (pss_cons (ps_ret pe_s) pss_nil))) ?_
    refine (e_undone F (e_nP 0 (P := DeskV K CD CS q og m S (dn ++ [S0]) n) rfl mono_desk)).run _ H3 eo3 _ fun v H4 e4 pv => ?_
    have pv : v = .ref q.lu := pv
    subst pv
    have d4 := desk_up e4 (desk_up e3 (desk_up e2 d1))
    obtain ⟨U0, hU0, _⟩ := desk_lu (h := .non) d4
    refine ⟨.inl ⟨rfl, _, SqL.of hU0⟩, (e_here F (e_nP 0 (P := DeskV K CD CS q og m S (dn ++ [S0]) n) rfl mono_desk)).run _ H4 (eo3.up e4) _ fun y H5 e5 py => ?_⟩
    have d5 := desk_up e5 d4
    obtain ⟨U, hU, hUl, d6, s6⟩ := desk_lu (h := y) d5
    refine ⟨q.lu, U, y, rfl, rfl, hU, by rw [sizeLine_eq]; omega, ?_⟩
    -- self.here = self.done.pop()
    obtain ⟨vd, hvd, pvd⟩ := eo3.at_ 1 _ rfl
    have pvd6 : Dp K (upd H5 q.lu (.lst (U ++ [y]))) vd (dDeed e) := dp_t s6.k.t _ _ (noL_dDeed _) (dp_mono (e4.trans e5) _ _ pvd)
    have hv0 : σ3[0]? = some (some (.ref q.p)) := by
      obtain ⟨v, h1, h2⟩ := eo3.at_ 0 _ rfl
      rw [h1, h2.1]
    have eo6 : EnvOk [some (DeskV K CD CS q og m S (dn ++ [S0]) (n + 1)), some (DD K (dDeed e))] σ3 (upd H5 q.lu (.lst (U ++ [y]))) := by
      refine ⟨fun i P q' => ?_, fun i P q' => ?_, eo3.len⟩
      · match i with
        | 0 =>
          have : _ = P := Option.some.inj (Option.some.inj q')
          subst this
          exact ⟨_, hv0, rfl, d6⟩
        | 1 =>
          have : _ = P := Option.some.inj (Option.some.inj q')
          subst this
          exact ⟨vd, hvd, pvd6⟩
        | i + 2 => simp at q'
      · match i with
        | 0 =>
          have : _ = P := Option.some.inj (Option.some.inj q')
          subst this
          exact mono_desk
        | 1 =>
          have : _ = P := Option.some.inj (Option.some.inj q')
          subst this
          exact mono_dd
        | i + 2 => simp at q'
    refine (e_done F (e_nP 0 (P := DeskV K CD CS q og m S (dn ++ [S0]) (n + 1)) rfl mono_desk)).run _ _ eo6 _ fun v H7 e7 pv => ?_
    have pv : v = .ref q.ld := pv
    subst pv
    have d7 := desk_up e7 d6
    obtain ⟨L7, v7, hL7, hl7, st7, d8, s8⟩ := desk_pop d7
    refine ⟨.inl ⟨rfl, _, SqL.of hL7⟩, q.ld, L7 ++ [v7], v7, rfl, rfl, hL7, by simp, ?_⟩
    rw [List.dropLast_concat]
    have pvd8 : Dp K (upd H7 q.ld (.lst L7)) vd (dDeed e) := dp_t s8.k.t _ _ (noL_dDeed _) (dp_mono e7 _ _ pvd6)
    refine sE_slot 0 hv0 ?_
    obtain ⟨dx9, fs9, hp9, hfl9, d9, s9⟩ := desk_here d8 st7
    refine ⟨q.p, CD, dx9, fs9, rfl, hp9, F.cD, F.d3, hfl9, ?_⟩
    refine sE_slot 1 hvd ?_
    have sA : Stp q q H _ := (((Stp.pre (((e1.trans e2).trans e3).trans (e4.trans e5)) s6).post e7).trans s8).trans s9
    exact k vd _ sA (dp_t s9.k.t _ _ (noL_dDeed _) pvd8) d9
end
end SH

/-! ## SHX -/
set_option Elab.async false
set_option linter.all false
set_option maxRecDepth 100000
set_option maxHeartbeats 4000000
/-! a new desk -/
namespace SH
open PySem PySem.Spec PyProof.Rows L2
section
variable {P : Program} {w : World} {K : PySem.W.Frag} {mg : Str → Option Value} {base : Heap} {CD CS CB CW CR : Addr}
theorem sr_expr {X : Cx} {ρ : Rho} {e : Expr} {pos : Pos} {d : PyData} (h : EvD X e ρ d) (hs : swapsWith e none pos.line X.env = pure false := by rfl) : SR X (.Expr e pos) ρ ρ := ⟨fun σ H eo D q => sS_of (ps_expr pe_s hs) (h.run σ H eo _ fun v H1 e1 pv => q σ H1 e1 (eo.up e1))⟩
/-- all but a stays -/
def Sa (a : Addr) (H H' : Hp) : Prop := ∀ b o, b ≠ a → H b = some o → H' b = some o
theorem Sa.up {a : Addr} {H H1 H2 : Hp} (h : Sa a H H1) (e : Same H1 H2) : Sa a H H2 := fun b o n z => e _ _ (h b o n z)
theorem Sa.set {a : Addr} {H H1 : Hp} {o : HO} (h : Sa a H H1) : Sa a H (upd H1 a o) := fun b u n z => by
  rw [upd_ne n]
  exact h b u n z
def S0 (og : Pic) : StandM := ⟨og, freeM og, [], []⟩
def spInitD (K : PySem.W.Frag) (CD CS : Addr) : Sp := fun vs H Q _ => ∃ a dx p og m, vs = [.ref a, p, .str m] ∧ H a = some (.ins CD dx []) ∧ Dp K H p (dP og) ∧ PicOk og ∧ m ∈ (["worth", "joins"] : List Str) ∧
  ∀ H' ld lu, Sa a H H' → H ld = none → H lu = none → DeskAt K CD CS ⟨a, ld, lu⟩ og m (S0 og) [] 0 H' → Q .non H'
abbrev N_init : List Str := ["self", "picture", "manner"]
theorem sc_init : FnScope N_init N_init (defScope s_Desk_init) := ⟨rfl, rfl, rfl, by decide +kernel, rfl, by decide +kernel, by decide +kernel⟩
theorem picok_shape {p : Pic} (h : PicOk p) : ∃ wd, 1 ≤ wd ∧ wd ≤ 20 ∧ Shape wd p.length p := by
  obtain ⟨wd, w1, w2, hw⟩ := h.wid
  exact ⟨wd, w1, w2, rfl, hw⟩
def KT (P : VP) : Prop := ∀ v H H', Tsm H H' → P v H → P v H'
theorem kt_eq {v0 : V} : KT (Eq0 v0) := fun _ _ _ _ h => h
theorem kt_d {K : PySem.W.Frag} {d : PyData} (h : noL d = true) : KT (DD K d) := fun v H H' t q => dp_t t d v h q
theorem eok_tsm {ρ : Rho} {σ : St} {H H' : Hp} (eo : EnvOk ρ σ H) (t : Tsm H H') (k : ∀ P, some P ∈ ρ → KT P) : EnvOk ρ σ H' := ⟨fun i P q => let ⟨v, a, b⟩ := eo.at_ i P q; ⟨v, a, k P (List.mem_of_getElem? q) v H H' t b⟩, eo.mono, eo.len⟩
structure MkK (P : Program) (w : World) (K : PySem.W.Frag) (mg : Str → Option Value) (base : Heap) (CX : CXT) (k : Nat) (C : Addr) (ps : List Str) (n : Nat) (ks : List Str) (sp : Sp) : Prop where
  ex : ∃ (f : Addr) (fd : FuncData) (g : List Value → List Value → List Value), Mk K C f ∧ FnOk P w K mg base CX k f fd ps sp ∧ KBn K fd ps n ks g (fun vs zs => vs ++ zs)
theorem ok_init (F : DF K mg CD CS) {f : Addr} {fd : FuncData} (Fd : FunD K "__init__" "Desk.__init__" (defArgs s_Desk_init) (defBody s_Desk_init) (defScope s_Desk_init) [] [("manner", .str "worth")] f fd) (M : Mk K CD f) (c1 : CalD P w K mg base 4 "need_picture" R_needpic) (c2 : CalD P w K mg base 1 "need_manner" R_needman) (c3 : CalD P w K mg base 1 "free_marks" R_free) (cs : MkC P w K mg base CX0 1 CS ["self", "cells", "signs", "gone", "deeds"] (spInitS CS)) :
    MkK P w K mg base CX0 5 CD N_init 2 ["manner"] (spInitD K CD CS) := by
  have hb : ∃ g, KBn K fd N_init 2 ["manner"] g (fun vs zs => vs ++ zs) := by
    obtain ⟨mv, h⟩ := Fd.kbinds0 (ps := N_init) 2 ["manner"] [] (fun us mv ws => us ++ ws) (by simp) (by simp) (fun r1 r2 r3 => r1.append r3) (fun D doc pm an cdv ct us mv ws h1 h2 h3 => by
      match us, ws, h1, h3 with
      | [a, b], [d], _, _ => rfl)
    exact ⟨_, h⟩
  obtain ⟨gg, hb⟩ := hb
  refine ⟨f, fd, gg, M, Fd.ok sc_init (fun vs H Q E h => ?_) (fun cdv A outer s H vs Q E hr h => ?_), hb⟩
  · obtain ⟨a, dx, p, og, m, rfl, _⟩ := h
    rfl
  · obtain ⟨a, dx, p, og, m, rfl, ha, pd, pok, hm, k⟩ := h
    obtain ⟨wd, w1, w2, Sh⟩ := picok_shape pok
    have hg := pok.hgt
    refine ⟨_, PSs.nox (pss_s (X := (XG CX0 P w K mg base N_init "Desk.__init__" s_Desk_init f cdv A outer s H E).nox)), ?_⟩
    let ρ : Rho := [some (Eq0 (.ref a)), some (DD K (dP og)), some (DD K (.str m))]
    have mk : ∀ {H' : Hp}, Tsm H H' → EnvOk ρ (L2.start N_init [.ref a, p, .str m]) H' := fun t => eok_some rfl mono_eq (eok_d (dp_t t _ _ (noL_dP _) pd) (eok_d (.str m) eok_nil))
    refine sb_cons (sr_expr (e_call c1 hr (by decide) rfl (a_cons (e_n (d := dP og) 1 rfl) a_nil) ⟨og, pok, rfl, rfl⟩)) (mk (Tsm.refl H)) fun σ1 H1 e1 eo1 => ?_
    obtain ⟨v0, hv0, z0⟩ := eo1.at_ 0 _ rfl
    refine sb_cons (sr_expr (e_call c2 hr (by decide) rfl (a_cons (e_n (d := .str m) 2 rfl) a_nil) ⟨m, hm, rfl, rfl⟩)) eo1 fun σ2 H2 e2 eo2 => ?_
    have e02 := e1.trans e2
    -- the five fields
    refine sB_of (pss_cons (ps_fld pe_s pe_s rfl) (pss_cons (ps_fld pe_s pe_s rfl) (pss_cons (ps_fld pe_s pe_s rfl) (pss_cons (ps_fld pe_s (pe_lst pa_nil) rfl) (pss_cons (ps_fld pe_s (pe_lst pa_nil) rfl) pss_nil))))) ?_
    have self : ∀ {Hx : Hp} {Qx : VK} {pos : Pos}, EnvOk ρ σ2 Hx → (∀ H', Same Hx H' → Qx (.ref a) H') → sE (XG CX0 P w K mg base N_init "Desk.__init__" s_Desk_init f cdv A outer s H E).nox (.Name "self" pos) σ2 Hx Qx := fun eo q => (e_nP 0 (P := Eq0 (.ref a)) rfl mono_eq).run _ _ eo _ fun v H' e pv => by
      have pv : v = .ref a := pv
      subst pv
      exact q H' e
    refine (e_n (d := dP og) 1 rfl).run _ _ eo2 _ fun vp H3 e3 pvp => self (eo2.up e3) fun H4 e4 => ?_
    have e04 := e02.trans (e3.trans e4)
    refine ⟨a, CD, dx, [], rfl, e04 _ _ ha, F.cD, F.d1, by decide, ?_⟩
    have p4 := dp_mono e4 _ _ pvp
    have i5 : (upd H4 a (.ins CD dx (putF "origin" vp []))) a = some (.ins CD dx [("origin", vp)]) := upd_same
    have s5 : Sa a H (upd H4 a (.ins CD dx (putF "origin" vp []))) := Sa.set (fun b o _ z => e04 b o z)
    have t5 : Tsm H4 (upd H4 a (.ins CD dx (putF "origin" vp []))) := tsm_ins (e04 _ _ ha)
    have f5 : ∀ b, (upd H4 a (.ins CD dx (putF "origin" vp []))) b = none → H b = none := fun b z => e04.free (dm_upd b z)
    have kρ : ∀ P', some P' ∈ ρ → KT P' := fun P' q' => by
      rcases List.mem_cons.mp q' with e | q'
      · cases e
        exact kt_eq
      rcases List.mem_cons.mp q' with e | q'
      · cases e
        exact kt_d (noL_dP _)
      rcases List.mem_cons.mp q' with e | q'
      · cases e
        exact kt_d (by simp [noL])
      · cases q'
    have eo5 := eok_tsm ((eo2.up e3).up e4) t5 kρ
    have p5 := dp_t t5 _ _ (noL_dP _) p4
    generalize upd H4 a (.ins CD dx (putF "origin" vp [])) = H5 at i5 s5 f5 eo5 p5
    -- manner
    refine (e_n (d := .str m) 2 rfl).run _ _ eo5 _ fun vm H6 e6 pvm => self (eo5.up e6) fun H7 e7 => ?_
    cases pvm
    have e57 := e6.trans e7
    refine ⟨a, CD, dx, [("origin", vp)], rfl, e57 _ _ i5, F.cD, F.d2, by show (1 : Nat) < 1000; decide, ?_⟩
    have t8 : Tsm H7 (upd H7 a (.ins CD dx (putF "manner" (.str m) [("origin", vp)]))) := tsm_ins (e57 _ _ i5)
    have i8 : (upd H7 a (.ins CD dx (putF "manner" (.str m) [("origin", vp)]))) a = some (.ins CD dx [("origin", vp), ("manner", .str m)]) := upd_same
    have s8 : Sa a H (upd H7 a (.ins CD dx (putF "manner" (.str m) [("origin", vp)]))) := (s5.up e57).set
    have f8 : ∀ b, (upd H7 a (.ins CD dx (putF "manner" (.str m) [("origin", vp)]))) b = none → H b = none := fun b z => f5 b (e57.free (dm_upd b z))
    have eo8 := eok_tsm ((eo5.up e6).up e7) t8 kρ
    have p8 := dp_t t8 _ _ (noL_dP _) (dp_mono e57 _ _ p5)
    generalize upd H7 a (.ins CD dx (putF "manner" (.str m) [("origin", vp)])) = H8 at i8 s8 f8 eo8 p8
    -- here
    refine (e_stand (X := (XG CX0 P w K mg base N_init "Desk.__init__" s_Desk_init f cdv A outer s H E).nox) (S := S0 og) F cs hr (by decide) (a_cons (e_n (d := dP og) 1 rfl) (a_cons (EvD.is (d' := dP (S0 og).signs) (e_call (d := dP (freeM og)) c3 hr (by decide) rfl (a_cons (e_n (d := dP og) 1 rfl) a_nil) ⟨og, wd, og.length, Sh, by omega, by omega, rfl, rfl⟩) rfl) (a_cons (EvD.is (d' := dGs []) (e_tup a_nil) rfl) (a_cons (EvD.is (d' := dDs []) (e_tup a_nil) rfl) a_nil))))).run _ _ eo8 _ fun vh H9 e9 pvh => self (eo8.up e9) fun H10 e10 => ?_
    have e810 := e9.trans e10
    refine ⟨a, CD, dx, [("origin", vp), ("manner", .str m)], rfl, e810 _ _ i8, F.cD, F.d3, by show (2 : Nat) < 1000; decide, ?_⟩
    have k11 : Kp H10 (upd H10 a (.ins CD dx (putF "here" vh [("origin", vp), ("manner", .str m)]))) := kp_ins (e810 _ _ i8)
    have i11 : (upd H10 a (.ins CD dx (putF "here" vh [("origin", vp), ("manner", .str m)]))) a = some (.ins CD dx [("origin", vp), ("manner", .str m), ("here", vh)]) := upd_same
    have s11 : Sa a H (upd H10 a (.ins CD dx (putF "here" vh [("origin", vp), ("manner", .str m)]))) := (s8.up e810).set
    have f11 : ∀ b, (upd H10 a (.ins CD dx (putF "here" vh [("origin", vp), ("manner", .str m)]))) b = none → H b = none := fun b z => f8 b (e810.free (dm_upd b z))
    have eo11 := eok_tsm ((eo8.up e9).up e10) k11.t kρ
    have p11 := dp_t k11.t _ _ (noL_dP _) (dp_mono e810 _ _ p8)
    have h11 := stand_kp k11 (mono_stand _ _ _ e10 pvh)
    generalize upd H10 a (.ins CD dx (putF "here" vh [("origin", vp), ("manner", .str m)])) = H11 at i11 s11 f11 eo11 p11 h11
    -- done
    refine ⟨by rw [sizeLine_eq]; exact Nat.zero_le _, fun ld hld => ?_⟩
    have e12 : Same H11 (upd H11 ld (.lst [])) := same_new hld
    refine self (eo11.up e12) fun H13 e13 => ?_
    have e1113 := e12.trans e13
    have l13 : H13 ld = some (.lst []) := e13 _ _ upd_same
    refine ⟨a, CD, dx, [("origin", vp), ("manner", .str m), ("here", vh)], rfl, e1113 _ _ i11, F.cD, F.d4, by show (3 : Nat) < 1000; decide, ?_⟩
    have nla : ld ≠ a := fun z => by rw [z, i11] at hld; cases hld
    have k14 : Kp H13 (upd H13 a (.ins CD dx (putF "done" (.ref ld) [("origin", vp), ("manner", .str m), ("here", vh)]))) := kp_ins (e1113 _ _ i11)
    have i14 : (upd H13 a (.ins CD dx (putF "done" (.ref ld) [("origin", vp), ("manner", .str m), ("here", vh)]))) a = some (.ins CD dx [("origin", vp), ("manner", .str m), ("here", vh), ("done", .ref ld)]) := upd_same
    have l14 : (upd H13 a (.ins CD dx (putF "done" (.ref ld) [("origin", vp), ("manner", .str m), ("here", vh)]))) ld = some (.lst []) := by
      rw [upd_ne nla]
      exact l13
    have s14 : Sa a H (upd H13 a (.ins CD dx (putF "done" (.ref ld) [("origin", vp), ("manner", .str m), ("here", vh)]))) := (s11.up e1113).set
    have f14 : ∀ b, (upd H13 a (.ins CD dx (putF "done" (.ref ld) [("origin", vp), ("manner", .str m), ("here", vh)]))) b = none → H b = none := fun b z => f11 b (e1113.free (dm_upd b z))
    have eo14 := eok_tsm ((eo11.up e12).up e13) k14.t kρ
    have p14 := dp_t k14.t _ _ (noL_dP _) (dp_mono e1113 _ _ p11)
    have h14 := stand_kp k14 (mono_stand _ _ _ e1113 h11)
    generalize upd H13 a (.ins CD dx (putF "done" (.ref ld) [("origin", vp), ("manner", .str m), ("here", vh)])) = H14 at i14 s14 f14 eo14 p14 h14 l14
    -- undone
    refine ⟨by rw [sizeLine_eq]; exact Nat.zero_le _, fun lu hlu => ?_⟩
    have e15 : Same H14 (upd H14 lu (.lst [])) := same_new hlu
    refine self (eo14.up e15) fun H16 e16 => ?_
    have e1416 := e15.trans e16
    have l16 : H16 lu = some (.lst []) := e16 _ _ upd_same
    refine ⟨a, CD, dx, [("origin", vp), ("manner", .str m), ("here", vh), ("done", .ref ld)], rfl, e1416 _ _ i14, F.cD, F.d5, by show (4 : Nat) < 1000; decide, ?_⟩
    have nua : lu ≠ a := fun z => by rw [z, i14] at hlu; cases hlu
    have nlu : ld ≠ lu := fun z => by rw [← z, l14] at hlu; cases hlu
    have k17 : Kp H16 (upd H16 a (.ins CD dx (putF "undone" (.ref lu) [("origin", vp), ("manner", .str m), ("here", vh), ("done", .ref ld)]))) := kp_ins (e1416 _ _ i14)
    refine k _ ld lu (s14.up e1416).set (f11 ld hld) (f14 lu hlu) ⟨dx, vp, vh, [], [], upd_same, dp_t k17.t _ _ (noL_dP _) (dp_mono e1416 _ _ p14), stand_kp k17 (mono_stand _ _ _ e1416 h14), ?_, trivial, ?_, Nat.le_refl _, nlu⟩
    · rw [upd_ne nla]
      exact e1416 _ _ l14
    · rw [upd_ne nua]
      exact l16
/-- Desk(picture, manner = m) -/
theorem e_desk {X : Cx} {ρ : Rho} {e e2 : Expr} {og : Pic} {m : Str} {p pos kpos : Pos} {j : Nat} {σ : St} {H : Hp} {Q : VK} (F : DF X.K X.mg CD CS) (c : MkK X.prog X.w X.K X.mg X.base CX0 5 CD N_init 2 ["manner"] (spInitD X.K CD CS)) (hr : Room j X.A) (hj : 6 ≤ j) (pok : PicOk og) (hm : m ∈ (["worth", "joins"] : List Str)) (ha : EvD X e ρ (dP og)) (hb : EvD X e2 ρ (.str m)) (eo : EnvOk ρ σ H)
    (k : ∀ q H', Same H H' → (∀ a, q.own a → H a = none) → DeskAt X.K CD CS q og m (S0 og) [] 0 H' → Q (.ref q.p) H') (hg : Gl X "Desk" := by rfl)
    (hall : (backToKw pos (keywordEach [⟨some "manner", e2, kpos⟩] X.env)).all (·.1.isSome) = true := by rfl) (hks : (backToKw pos (keywordEach [⟨some "manner", e2, kpos⟩] X.env)).filterMap (·.1) = (["manner"] : List Str) := by rfl)
    (he : starEach (e :: []) X.env = (false, eval e X.env) :: starEach [] X.env := by rfl) (hpl : ((backTo pos (starEach (e :: []) X.env)).any (·.1) || (backToKw pos (keywordEach [⟨some "manner", e2, kpos⟩] X.env)).any (·.1.isNone)) = false := by rfl) :
    sE X (.Call (.Name "Desk" p) [e] [⟨some "manner", e2, kpos⟩] pos) σ H Q := by
  obtain ⟨f, fd, g, M, Fn, b⟩ := c.ex
  refine sE_of (pe_makeK (n := 1) (E := fun _ _ _ => False) M Fn (hr.mono hj) hg F.gD b (fun _ _ _ _ _ _ _ h => h.elim) (pa_cons pe_s pa_nil he) (pk_cons pe_s pk_nil) hall hks (by decide) he hpl) ?_
  refine ha.run σ H eo _ fun v H1 e1 pv => hb.run σ H1 (eo.up e1) _ fun v2 H2 e2' pv2 => ⟨rfl, rfl, fun x dx hx hdx hne => ?_⟩
  cases pv2
  have e12 := e1.trans e2'
  have h2 : (upd H2 dx (.own x)) x = none := by
    rw [upd_ne (fun z => hne z.symm)]
    exact hx
  have e3 : Same H2 (upd (upd H2 dx (.own x)) x (.ins CD dx [])) := (same_new hdx).trans (same_new h2)
  refine ⟨x, dx, v, og, m, rfl, upd_same, dp_mono (e2'.trans e3) _ _ pv, pok, hm, fun H' ld lu sa n1 n2 d => ⟨rfl, k ⟨x, ld, lu⟩ H' ?_ ?_ d⟩⟩
  · exact fun b o z => sa b o (fun w => by rw [w, (e12.free hx)] at z; cases z) (e3 _ _ (e12 _ _ z))
  · intro a ha'
    rcases ha' with rfl | rfl | rfl
    · exact e12.free hx
    · exact e12.free (e3.free n1)
    · exact e12.free (e3.free n2)
end
end SH

/-! ## SHY -/
set_option Elab.async false
set_option linter.all false
set_option maxRecDepth 100000
set_option maxHeartbeats 4000000
/-! len, str, ==, != of desks -/
namespace SH
open PySem PySem.Spec PyProof.Rows L2
section
variable {X : Cx} {pins : List (Addr × Obj)} {σ : St} {H : Hp} {s : Shared} {Q : VK} {us : List Value} {vs : List V} {k : Nat} {f C : Addr} {fd : FuncData} {ps : List Str} {sp : Sp}
theorem run_at {A' : Around} {E' : Value → Shared → Prop} (hfr : A'.frames = X.A.frames) (hr : Room k A') (F : FnOk X.prog X.w X.K X.mg X.base CX0 k f fd ps sp) (hb : Binds X.K fd ps []) (I : Inv X pins σ H s) (r : Vals vs us) (h : sp vs H Q (fun _ _ _ => False)) : wpAny (model X.prog X.w) A' (call (.ref f) us) (EP X pins σ Q) E' s := by
  have e0 : Env0 X.prog X.w X.K X.mg X.base A' X.stack s H := by
    have e := I.env0
    exact ⟨by rw [hfr]; exact e.frames, e.mod, e.bs, e.bsz, e.funs, e.frf, e.hok, e.bare⟩
  have hl : us.length = ps.length := by rw [← r.length]; exact F.len _ _ _ _ h
  have b := hb s us I.kIn (by rw [List.append_nil]; exact hl)
  rw [List.append_nil] at b
  refine wpAny_call (codeAny_mono (F.run A' X.stack s H ⟨us, []⟩ us vs Q _ hr e0 b r h) fun r s' hq => ?_)
  cases r with
  | error e => exact hq.elim
  | ok fl =>
    cases fl with
    | ret w => exact I.after hq
    | next => exact False.elim hq
    | brk => exact False.elim hq
    | cont => exact False.elim hq
/-- len of an instance with its own __len__ -/
def rLenI (K : PySem.W.Frag) (C : Addr) (sp : Sp) : List V → Hp → VK → Prop := fun xs H Q => ∃ a dx fs, xs = [.ref a] ∧ H a = some (.ins C dx fs) ∧ sp [.ref a] H (fun v H' => ∃ n : Nat, v = .int n ∧ n ≤ 1000000 ∧ Q v H') (fun _ _ _ => False)
theorem call_lenI {j : Nat} (F : FnOk X.prog X.w X.K X.mg X.base CX0 k f fd ps sp) (hm : Meth X.K C "__len__" f) (hb : Binds X.K fd ps []) (hr : Room j X.A) (hj : k + 1 ≤ j) : CallR X (.builtin "len") (rLenI X.K C sp) := by
  intro pins s σ H xs us Q I r h
  obtain ⟨a, dx, fs, rfl, ha, hsp⟩ := h
  rw [Vals.ref1 r]
  obtain ⟨mA, J, _⟩ := ins_get I.hok ha
  obtain ⟨od, J, _⟩ := J.look
  obtain ⟨m, hF⟩ := I.fr
  refine PySem.W.len_K hF I.ok.mod.kin J hm.at_ hm.fn (wpAny_mono (run_at rfl (Room.in1 (hr.mono hj)) F hb I (show Vals [V.ref a] [Value.ref a] from .cons rfl .nil) hsp) (fun v s' q => ?_) fun _ _ x => x)
  obtain ⟨v', H', I', rv, n, rfl, hn, q⟩ := q
  obtain ⟨t, rfl⟩ := rv
  exact ⟨⟨by omega, by omega⟩, .int n, H', I'.kept (fun b o e => e), ⟨_, rfl⟩, q⟩
/-- str of an instance with its own __str__ -/
def rStrI (K : PySem.W.Frag) (C : Addr) (sp : Sp) : List V → Hp → VK → Prop := fun xs H Q => ∃ a dx fs, xs = [.ref a] ∧ H a = some (.ins C dx fs) ∧ sp [.ref a] H (fun v H' => ∃ z : Str, v = .str z ∧ Q v H') (fun _ _ _ => False)
theorem call_strI {j : Nat} (F : FnOk X.prog X.w X.K X.mg X.base CX0 k f fd ps sp) (hm : Meth X.K C "__str__" f) (hb : Binds X.K fd ps []) (hr : Room j X.A) (hj : k + 2 ≤ j) : CallR X (.type "str") (rStrI X.K C sp) := by
  intro pins s σ H xs us Q I r h
  obtain ⟨a, dx, fs, rfl, ha, hsp⟩ := h
  rw [Vals.ref1 r]
  obtain ⟨mA, J, _⟩ := ins_get I.hok ha
  obtain ⟨od, J, _⟩ := J.look
  have hr2 : Room k X.A.in1.in1 := Room.in1 (Room.in1 (hr.mono hj))
  refine PySem.W.kso_call hr2.units0 I.kIn J hm.at_ hm.fn (wpAny_mono (run_at rfl hr2 F hb I (show Vals [V.ref a] [Value.ref a] from .cons rfl .nil) hsp) (fun v s' q => ?_) fun _ _ x => x)
  obtain ⟨v', H', I', rv, z, rfl, q⟩ := q
  obtain ⟨t, rfl⟩ := rv
  exact ⟨.str z, H', I', ⟨_, rfl⟩, q⟩
end
/-! ### != by the own == -/
def neB (K : PySem.W.Frag) (C f : Addr) : Bool := match K.lookup C with
  | some ⟨.type "type", _, .cls cd, sl⟩ => (match cd.mro, sl.toList with
    | .ref C' :: bm, [_, _, _, _, some (.builtin _), _] => C' == C && bm == [.type "object"] && !cd.hasDel && PySem.W.nsOkIn K cd.ns && PySem.W.nsIn K cd.ns "__eq__" == some (some (.ref f)) && PySem.W.nsIn K cd.ns "__ne__" == some none
    | _, _ => false)
  | _ => false
theorem ns_some {K : PySem.W.Frag} {h : Heap} {N : Addr} {mp : Str → Option Value} {n : Str} {v : Value} (X : K.In h) (G : h.Ns N mp) (e : PySem.W.nsIn K N n = some (some v)) : mp n = some v := by
  obtain ⟨o, es, ep, ho, hd, _, hf⟩ := G
  unfold PySem.W.nsIn at e
  split at e
  · rename_i c d es' n' sl q
    have w := X _ _ q
    rw [ho] at w
    cases w
    cases hd
    split at e
    · rename_i en he
      cases e
      rw [← hf]
      unfold nsFind findBy
      rw [← Array.find?_toList, he]
      rfl
    · split at e <;> cases e
  · cases e
theorem ne_of_B {K : PySem.W.Frag} {h : Heap} {C f x : Addr} {o : Obj} (X : K.In h) (q : neB K C f = true) (hf : PySem.W.isFn K (.ref f) = true) (hx : h.get? x = some o) (hc : o.cls = .ref C) : h.OwnEqNoNe x C f "object" [.type "object"] := by
  unfold neB at q
  split at q
  · rename_i dd cd sl ho
    split at q
    · rename_i C' bm k0 k1 k2 k3 n k5 hm hs
      simp only [Bool.and_eq_true, beq_iff_eq, Bool.not_eq_true'] at q
      obtain ⟨⟨⟨⟨⟨rfl, rfl⟩, hdel⟩, hok⟩, heq⟩, hne⟩ := q
      obtain ⟨nm, bs, mro, ns, qn, hd, sn, sub, ab, col, del⟩ := cd
      dsimp only at hm hdel hok heq hne
      subst hm hdel
      have hsl : sl = #[k0, k1, k2, k3, some (.builtin n), k5] := by
        obtain ⟨l⟩ := sl
        simp only at hs
        rw [hs]
      subst hsl
      have hN : h.Ns ns (h.nsMap ns) := .of_isNs (PySem.W.isNs_of_in X hok)
      have hfn : ∃ of, h.get? f = some of ∧ of.cls = .type "function" := by
        have hf : ((K.lookup f).map (·.cls) == some (Value.type "function")) = true := hf
        cases e : K.lookup f with
        | none => rw [e] at hf; cases hf
        | some of =>
          rw [e] at hf
          have hf : (some of.cls == some (Value.type "function")) = true := hf
          exact ⟨of, X _ _ e, Option.some.inj (beq_iff_eq.mp hf)⟩
      obtain ⟨of, hof, hofc⟩ := hfn
      exact ⟨o, of, nm, qn, ns, bs, hd, sn, sub, ab, col, dd, k0, k1, k2, k3, k5, n, h.nsMap ns, _, hx, hc, X _ _ ho, hN, ns_some X hN heq, hof, hofc, F.cmp_object.mro, F.cmp_object.eq.lookup, PySem.W.nsMap_none_of_in X hok hne⟩
    · cases q
  · cases q
section
variable {X : Cx} {k : Nat} {f C : Addr} {fd : FuncData} {ps : List Str} {R : Addr → Addr → Hp → Prop}
def rNeI (C : Addr) (R : Addr → Addr → Hp → Prop) : R2 := fun x y H Q => ∃ a b dx dy fs gs, x = .ref a ∧ y = .ref b ∧ H a = some (.ins C dx fs) ∧ H b = some (.ins C dy gs) ∧ R a b H ∧ ∀ H', Same H H' → Q (.bl false) H'
theorem op_neI {j : Nat} (F : FnOk X.prog X.w X.K X.mg X.base CX0 k f fd ps (spEq R)) (hf : PySem.W.isFn X.K (.ref f) = true) (hb : Binds X.K fd ps []) (hr : Room j X.A) (hj : k + 1 ≤ j) (hB : neB X.K C f = true) : OpR X (compareOp .NotEq) (rNeI C R) := by
  intro pins s σ H x y v u Q I rx ry h
  obtain ⟨a, b, dx, dy, fs, gs, rfl, rfl, ha, hb', hR, q⟩ := h
  cases rx
  cases ry
  obtain ⟨mA, J, _⟩ := ins_get I.hok ha
  obtain ⟨mB, J', _⟩ := ins_get I.hok hb'
  obtain ⟨od, J, _⟩ := J.look
  obtain ⟨od', J', _⟩ := J'.look
  have Xn := ne_of_B (x := a) I.kIn hB hf J.at_ J.cls
  have hr1 := Room.in1 (hr.mono hj)
  obtain ⟨hp, g, d, t, os⟩ := s
  refine compareOp_ne_ownEq PySem.F.cmp_object Xn J'.at_ J'.cls (by have := hr.un; omega) ?_
  refine wpAny_mono (run_at (Q := fun v H' => v = .bl true ∧ Same H H') rfl hr1 F hb I (show Vals [V.ref a, V.ref b] [Value.ref a, Value.ref b] from .cons rfl (.cons rfl .nil)) ⟨a, b, rfl, hR, fun H' e => ⟨rfl, e⟩⟩) (fun v s' qq => ?_) fun _ _ x => x
  obtain ⟨v', H', I', rv, rfl, e⟩ := qq
  cases rv
  exact ⟨true, rfl, .bl false, H', I', rfl, q H' e⟩
end
/-! ### the desk's own -/
structure IsD (K : PySem.W.Frag) (CD : Addr) : Prop where
  ha : PySem.W.findIn K (.ref CD) "__class__" = some (some (.builtin "object.__class__"))
  hn : PySem.W.specialIn K (.builtin "object.__class__") "__get__" = some (some (.builtin "getset_descriptor.__get__"))
  htk : PySem.W.takesIn K (.builtin "object.__class__") = some true
  hm : PySem.W.mroIn K CD (.type "object") = some true
  hk : PySem.W.kitOne K (.ref CD) (.ref CD) = some true
section
variable {P : Program} {w : World} {K : PySem.W.Frag} {mg : Str → Option Value} {base : Heap} {CD CS CB CW CR : Addr}
theorem e_isD {X : Cx} {ρ : Rho} {e : Expr} {pos p p2 : Pos} {CD CS : Addr} {q : Ptr} {og : Pic} {m : Str} {S : StandM} {dn : List StandM} {n : Nat} (F : DF X.K X.mg CD CS) (I : IsD X.K CD) (hm : X.mg "isinstance" = none) (ha : EvR X e ρ (DeskV X.K CD CS q og m S dn n)) (hg : Gl X "isinstance" := by rfl) (hg2 : Gl X "Desk" := by rfl)
    (hs : starEach [e, .Name "Desk" p2] X.env = (false, eval e X.env) :: starEach [.Name "Desk" p2] X.env := by rfl) (hs2 : starEach [.Name "Desk" p2] X.env = (false, eval (.Name "Desk" p2) X.env) :: starEach [] X.env := by rfl)
    (hpl : (backTo pos (starEach [.Name "Desk" p2] X.env)).any (·.1) = false := by rfl) : EvD X (.Call (.Name "isinstance" p) [e, .Name "Desk" p2] [] pos) ρ (.bool true) :=
  ed_of (pe_callB call_isi hg hm (by decide +kernel) (pa_cons pe_s (pa_cons (pe_glob (v := V.ref CD) hg2 F.gD rfl) pa_nil hs2) hs) (he := hs) (hpl := hpl)) fun σ H eo Q k => ha.run σ H eo _ fun v H1 e1 pv => by
    obtain ⟨rfl, dd⟩ := pv
    obtain ⟨dx, o, hh, L, U, h1, _⟩ := dd.ex
    exact ⟨.ref q.p, .ref CD, .ref CD, .ref CD, true, rfl, .own CD, .base (.ins h1 F.cD I.ha I.hn I.htk I.hm), I.hk, k _ _ e1 (.bl true)⟩
def R_len (K : PySem.W.Frag) (CD CS : Addr) (P0 P' : VP) : Prop := ∃ q og m S dn n, P0 = DeskV K CD CS q og m S dn n ∧ P' = DD K (.int (S.deeds.length : Nat))
theorem ok_len (G : Glob K mg) (F : DF K mg CD CS) (D : MethD K CD "__len__" "Desk.__len__" s_Desk_len ["self"] []) : CalM P w K mg base CX0 1 CD "__len__" ["self"] (spS (R_len K CD CS)) :=
  meth_tell (N := ["self"]) D ⟨rfl, rfl, rfl, by decide +kernel, rfl, by decide +kernel, by decide +kernel⟩ fun f cdv A outer s H E hr P0 P' h => by
    obtain ⟨q, og, m, S, dn, n, rfl, rfl⟩ := h
    exact b_retd (e_len (ds := S.deeds.map dDeed) G.len (e_deeds F (e_here F (e_nP 0 rfl mono_desk)))) (by rw [List.length_map])
def sizeText (wd hg : Nat) : Str := (toString (wd : Int) : Str) ++ ("x" : Str) ++ (toString (hg : Int) : Str)
def R_str (K : PySem.W.Frag) (CD CS : Addr) (P0 P' : VP) : Prop := ∃ q og m S dn n wd hg, P0 = DeskV K CD CS q og m S dn n ∧ Good wd hg S ∧ P' = DD K (.str (sizeText wd hg))
theorem str20 {n : Nat} (h : n ≤ 20) : (toString (n : Int) : Str).length ≤ 2 := by
  have : n = 0 ∨ n = 1 ∨ n = 2 ∨ n = 3 ∨ n = 4 ∨ n = 5 ∨ n = 6 ∨ n = 7 ∨ n = 8 ∨ n = 9 ∨ n = 10 ∨ n = 11 ∨ n = 12 ∨ n = 13 ∨ n = 14 ∨ n = 15 ∨ n = 16 ∨ n = 17 ∨ n = 18 ∨ n = 19 ∨ n = 20 := by omega
  rcases this with h | h | h | h | h | h | h | h | h | h | h | h | h | h | h | h | h | h | h | h | h <;> (subst h; decide +kernel)
theorem lenApp (a b : Str) : (a ++ b).length = a.length + b.length := by
  show (a.cps ++ b.cps).size = a.cps.size + b.cps.size
  rw [Array.size_append]
theorem log20 {n : Nat} (h : n ≤ 20) : ((n : Int)).natAbs.log2 < 1920 := by
  have : (n : Int).natAbs = n := by omega
  rw [this]
  exact Nat.lt_of_le_of_lt (Nat.log2_le_self n) (by omega)
theorem ok_str (G : Glob K mg) (F : DF K mg CD CS) (D : MethD K CD "__str__" "Desk.__str__" s_Desk_str ["self"] []) : CalM P w K mg base CX0 1 CD "__str__" ["self"] (spS (R_str K CD CS)) :=
  meth_tell (N := ["self"]) D ⟨rfl, rfl, rfl, by decide +kernel, rfl, by decide +kernel, by decide +kernel⟩ fun f cdv A outer s H E hr P0 P' h => by
    obtain ⟨q, og, m, S, dn, n, wd, hg, rfl, g, rfl⟩ := h
    have hw := g.w1
    have hh := g.h1
    have a1 := str20 hw.2
    have a2 := str20 hh.2
    have hl := g.c.hgt
    exact b_ret (e_strS G.str (e_addS (e_addS (e_strI G.str (e_len0 G g.c (by omega) (e_cells F (e_here F (e_nP 0 rfl mono_desk)))) (log20 hw.2)) e_str (by rw [sizeLine_eq]; show _ + 1 ≤ _; omega)) (e_strI G.str (EvD.is (d' := .int (hg : Nat)) (e_len (ds := S.cells.map dI) G.len (e_cells F (e_here F (e_nP 0 rfl mono_desk)))) (by rw [List.length_map, hl])) (log20 hh.2)) (by rw [lenApp, sizeLine_eq]; show _ + 1 + _ ≤ _; omega)))
/-- two desks of the same deeds -/
def EqD (K : PySem.W.Frag) (CD CS : Addr) (a b : Addr) (H : Hp) : Prop := ∃ q r og m S S' dn dn' n n', a = q.p ∧ b = r.p ∧ DeskAt K CD CS q og m S dn n H ∧ DeskAt K CD CS r og m S' dn' n' H ∧ S.deeds = S'.deeds ∧ SeqAt.shaped (dP og) = true ∧ SeqAt.shaped (dDs S.deeds) = true
theorem sc_eq : FnScope ["self", "other"] ["self", "other"] (defScope s_Desk_eq) := ⟨rfl, rfl, rfl, by decide +kernel, rfl, by decide +kernel, by decide +kernel⟩
theorem eqv_self {d : PyData} (h : SeqAt.shaped d = true) : PyData.eqv d d = true := SeqAt.eqv_refl d (SeqAt.canLay_of_shaped h)
theorem ok_eq (G : Glob K mg) (F : DF K mg CD CS) (I : IsD K CD) (D : MethD K CD "__eq__" "Desk.__eq__" s_Desk_eq ["self", "other"] []) : CalM P w K mg base CX0 1 CD "__eq__" ["self", "other"] (spEq (EqD K CD CS)) :=
  meth_of0 D sc_eq (fun vs H Q E h => by
    obtain ⟨a, b, rfl, _⟩ := h
    rfl) fun f cdv A outer s H vs Q E hr h => by
    obtain ⟨a, b, rfl, ⟨q, r, og, m, S, S', dn, dn', n, n', rfl, rfl, d1, d2, hds, sh1, sh2⟩, k⟩ := h
    have eo : EnvOk [some (DeskV K CD CS q og m S dn n), some (DeskV K CD CS r og m S' dn' n')] (L2.start ["self", "other"] [.ref q.p, .ref r.p]) H := eok_some ⟨rfl, d1⟩ mono_desk (eok_some ⟨rfl, d2⟩ mono_desk eok_nil)
    refine sb_iff (EvT.is (b' := false) (t_w (w_or (t_not (t_val (e_isD F I G.isi (e_nP 1 (P := DeskV K CD CS r og m S' dn' n') rfl mono_desk)))) fun _ => w_or (t_cmp (c_neD hr.units sh1 sh1) (e_origin F (e_nP 0 (P := DeskV K CD CS q og m S dn n) rfl mono_desk)) (e_origin F (e_nP 1 (P := DeskV K CD CS r og m S' dn' n') rfl mono_desk))) fun _ => w_or1 (t_cmp c_neS (e_manner F (e_nP 0 (P := DeskV K CD CS q og m S dn n) rfl mono_desk)) (e_manner F (e_nP 1 (P := DeskV K CD CS r og m S' dn' n') rfl mono_desk))))) ?tst) eo fun H1 e1 => ?_
    case tst =>
      rw [eqv_self sh1, decide_eq_true rfl]
      rfl
    · refine sb_nil ?_
      refine sb_retE ((e_cmp (c_eqD hr.units sh2 (by rw [← hds]; exact sh2)) (e_deeds F (e_here F (e_nP 0 (P := DeskV K CD CS q og m S dn n) rfl mono_desk))) (e_deeds F (e_here F (e_nP 1 (P := DeskV K CD CS r og m S' dn' n') rfl mono_desk)))).run _ _ (eo.up e1) _ fun v H2 e2 pv => ?_)
      rw [← hds, eqv_self sh2] at pv
      cases pv
      exact k _ (e1.trans e2)
end
section
variable {X : Cx} {ρ : Rho} {e e2 : Expr} {pos p : Pos} {CD CS : Addr} {q r : Ptr} {og : Pic} {m : Str} {S S' : StandM} {dn dn' : List StandM} {n n' j : Nat}
theorem e_lenD (c : CalM X.prog X.w X.K X.mg X.base CX0 1 CD "__len__" ["self"] (spS (R_len X.K CD CS))) (hr : Room j X.A) (hj : 2 ≤ j) (hm : X.mg "len" = none) (hl : S.deeds.length ≤ 500) (ha : EvR X e ρ (DeskV X.K CD CS q og m S dn n)) (hg : Gl X "len" := by rfl) (hs : starEach (e :: []) X.env = (false, eval e X.env) :: starEach [] X.env := by rfl) (hpl : (backTo pos (starEach [] X.env)).any (·.1) = false := by rfl) : EvD X (.Call (.Name "len" p) [e] [] pos) ρ (.int (S.deeds.length : Nat)) := by
  obtain ⟨f, fd, F, hmeth, b⟩ := c.ex
  refine ed_of (pe_callB (call_lenI F hmeth b hr hj) hg hm PySem.boot_len (pa_cons pe_s pa_nil hs) (he := hs) (hpl := hpl)) fun σ H eo Q k => ha.run σ H eo _ fun v H1 e1 pv => ?_
  obtain ⟨a, dx, fs, ev, h1, _⟩ := desk_ins "size" (by intros; rfl) v H1 pv
  subst ev
  refine ⟨a, dx, fs, rfl, h1, _, _, _, rfl, ⟨q, og, m, S, dn, n, rfl, rfl⟩, mono_desk, pv, fun u H2 e2 pu => ?_⟩
  cases pu
  exact ⟨S.deeds.length, rfl, by omega, k _ H2 (e1.trans e2) (.int _)⟩
theorem e_strD {wd hg : Nat} (c : CalM X.prog X.w X.K X.mg X.base CX0 1 CD "__str__" ["self"] (spS (R_str X.K CD CS))) (hr : Room j X.A) (hj : 3 ≤ j) (hm : X.mg "str" = none) (g : Good wd hg S) (ha : EvR X e ρ (DeskV X.K CD CS q og m S dn n)) (hg' : Gl X "str" := by rfl) (hs : starEach (e :: []) X.env = (false, eval e X.env) :: starEach [] X.env := by rfl) (hpl : (backTo pos (starEach [] X.env)).any (·.1) = false := by rfl) : EvD X (.Call (.Name "str" p) [e] [] pos) ρ (.str (sizeText wd hg)) := by
  obtain ⟨f, fd, F, hmeth, b⟩ := c.ex
  refine ed_of (pe_callTy (call_strI F hmeth b hr hj) hg' hm (by decide +kernel) (pa_cons pe_s pa_nil hs) (he := hs) (hpl := hpl)) fun σ H eo Q k => ha.run σ H eo _ fun v H1 e1 pv => ?_
  obtain ⟨a, dx, fs, ev, h1, _⟩ := desk_ins "size" (by intros; rfl) v H1 pv
  subst ev
  refine ⟨a, dx, fs, rfl, h1, _, _, _, rfl, ⟨q, og, m, S, dn, n, wd, hg, rfl, g, rfl⟩, mono_desk, pv, fun u H2 e2 pu => ?_⟩
  cases pu
  exact ⟨_, rfl, k _ H2 (e1.trans e2) (.str _)⟩
theorem t_neD (c : CalM X.prog X.w X.K X.mg X.base CX0 1 CD "__eq__" ["self", "other"] (spEq (EqD X.K CD CS))) (hB : ∀ f, Meth X.K CD "__eq__" f → neB X.K CD f = true) (hr : Room j X.A) (hj : 2 ≤ j) (ha : EvR X e ρ (DeskV X.K CD CS q og m S dn n)) (hb : EvR X e2 ρ (DeskV X.K CD CS r og m S' dn' n')) (hds : S.deeds = S'.deeds) (h1 : SeqAt.shaped (dP og) = true) (h2 : SeqAt.shaped (dDs S.deeds) = true) (hm : behindInMarks .NotEq e2 = false := by first | exact nomark _ | rfl) : EvT X (.Compare e [.NotEq] [e2] pos) ρ false := by
  obtain ⟨f, fd, F, hmeth, b⟩ := c.ex
  refine ⟨fun σ H eo Q k => sT_of (pt_cmpR (op_neI F hmeth.fn b hr hj (hB f hmeth)) pe_s pe_s hm) (ha.run σ H eo _ fun v H1 e1 pv => hb.run σ H1 (eo.up e1) _ fun u H2 e2 pu => ?_)⟩
  have pv2 := mono_desk _ _ _ e2 pv
  obtain ⟨a, dx, fs, ev, i1, _⟩ := desk_ins "size" (by intros; rfl) v H2 pv2
  obtain ⟨b', dy, gs, eu, i2, _⟩ := desk_ins "size" (by intros; rfl) u H2 pu
  refine ⟨a, b', dx, dy, fs, gs, ev, eu, i1, i2, ⟨q, r, og, m, S, S', dn, dn', n, n', ?_, ?_, pv2.2, pu.2, hds, h1, h2⟩, fun H3 e3 => ⟨false, rfl, k H3 ((e1.trans e2).trans e3)⟩⟩
  · rw [pv.1] at ev
    cases ev
    rfl
  · rw [pu.1] at eu
    cases eu
    rfl
theorem e_eqD (c : CalM X.prog X.w X.K X.mg X.base CX0 1 CD "__eq__" ["self", "other"] (spEq (EqD X.K CD CS))) (hr : Room j X.A) (hj : 1 ≤ j) (ha : EvR X e ρ (DeskV X.K CD CS q og m S dn n)) (hb : EvR X e2 ρ (DeskV X.K CD CS r og m S' dn' n')) (hds : S.deeds = S'.deeds) (h1 : SeqAt.shaped (dP og) = true) (h2 : SeqAt.shaped (dDs S.deeds) = true) (hm : behindInMarks .Eq e2 = false := by first | exact nomark _ | rfl) : EvD X (.Compare e [.Eq] [e2] pos) ρ (.bool true) := by
  obtain ⟨f, fd, F, hmeth, b⟩ := c.ex
  refine ed_of (pe_cmpR (op_eqG (rcG_ins (E := fun _ _ _ => False) F hmeth.at_ hmeth.fn b (fun _ _ _ _ _ _ _ h => h.elim)) (hr.mono hj)) pe_s pe_s hm) fun σ H eo Q k => ha.run σ H eo _ fun v H1 e1 pv => hb.run σ H1 (eo.up e1) _ fun u H2 e2 pu => ?_
  have pv2 := mono_desk _ _ _ e2 pv
  obtain ⟨a, dx, fs, ev, i1, _⟩ := desk_ins "size" (by intros; rfl) v H2 pv2
  obtain ⟨b', dy, gs, eu, i2, _⟩ := desk_ins "size" (by intros; rfl) u H2 pu
  refine ⟨⟨a, b', dx, dy, fs, gs, ev, eu, i1, i2, ⟨q, r, og, m, S, S', dn, dn', n, n', ?_, ?_, pv2.2, pu.2, hds, h1, h2⟩⟩, fun H3 e3 => k _ H3 ((e1.trans e2).trans e3) (.bl true)⟩
  · rw [pv.1] at ev
    cases ev
    rfl
  · rw [pu.1] at eu
    cases eu
    rfl
end
end SH

/-! ## SHSt -/
set_option Elab.async false
set_option linter.all false
set_option maxRecDepth 100000
set_option maxHeartbeats 4000000
/-! a, *b = .. -/
namespace SH
open PySem PySem.Spec PyProof.Rows L2 PySem.W
section
variable {prog : Program} {w : World} {A : Around} {E : Value → Shared → Prop} {s : Shared}
theorem star_T {l : Addr} {items : Array Value} {Q : List Value → Shared → Prop} (hl : IsTup s.heap l items) (hh : A.handled = none) (hn : 1 ≤ items.size) (hz : items.size ≤ 16384)
    (h : ∀ (h' : Heap) (tk : Nat), (∀ b o, s.heap.get? b = some o → h'.get? b = some o) → Q (items.toList.take 1 ++ [.ref h'.objs.size] ++ []) { s with heap := h'.push { cls := .type "list", data := .seq (items.toList.drop 1).toArray }, toks := tk }) : wpAny (model prog w) A (unpackItems (.ref l) 2 (some 1)) Q E s := by
  have hlt : l ≠ s.heap.objs.size := by obtain ⟨o, ho, _⟩ := hl; exact Nat.ne_of_lt (Heap.lt_size ho)
  unfold unpackItems
  refine wpAny_bind ?_
  unfold notIterableAtAll
  refine wpAny_bind (wpAny_specialOf hl.typeIs PySem.F.slot_tuple_iter.lookup ?_)
  refine wpAny_pure ?_
  simp only [Bool.false_eq_true, if_false]
  refine wpAny_bind (wpAny_holding (iter_tuple hl ?_))
  refine wpAny_bind (wpAny_holding (draw_tuple hlt 1 0 _ _ ⟨_, Heap.get?_push_size _ rfl, rfl, rfl⟩ (hl.push _) (by omega) fun h₁ hit₁ hs₁ => ?_))
  have hl₁ : IsTup h₁ l items := (hl.push _).extBut hs₁.extBut hlt
  rw [Nat.zero_add] at hit₁
  obtain ⟨oi, hoi, _⟩ := id hit₁
  obtain ⟨ol, hol, _⟩ := id hl₁
  rw [List.drop_zero]
  have hfl : (items.toList.take 1).length = 1 := by rw [List.length_take, Array.length_toList]; omega
  rw [if_neg (show ¬ ((items.toList.take 1).length < 1) by rw [hfl]; omega)]
  refine wpAny_bind (wpAny_holding (kun_collect (s := { s with heap := h₁ }) (T := "tuple_iterator") (.inr (.inr (.inr rfl))) (Walks.tuple (A := A.in1) hh s.heap.objs.size l hlt items) (fun j u st => st.1.typeIs) (k := 1) (by omega) ⟨hit₁, hl₁⟩ (Heap.lt_size hoi) (Heap.lt_size hol) (fun h₂ tk hk => ?_) (by rw [sizeLine_eq]; omega)))
  show wpAny _ _ (if (items.toList.drop 1).length < 0 then _ else _) _ _ _
  rw [if_neg (by omega)]
  have hk2 : ∀ b o, s.heap.get? b = some o → h₂.get? b = some o := fun b o e => hk b o (Nat.ne_of_lt (Heap.lt_size e)) (hs₁.extBut b o (Nat.ne_of_lt (Heap.lt_size e)) (Heap.get?_push_of_some _ e))
  have e1 : (items.toList.drop 1).take ((items.toList.drop 1).length - 0) = items.toList.drop 1 := by rw [Nat.sub_zero, List.take_length]
  have e2 : (items.toList.drop 1).drop ((items.toList.drop 1).length - 0) = [] := by rw [Nat.sub_zero, List.drop_length]
  show wpAny _ _ (newList ((items.toList.drop 1).take ((items.toList.drop 1).length - 0)) >>= fun d => pure (items.toList.take 1 ++ [d] ++ (items.toList.drop 1).drop ((items.toList.drop 1).length - 0))) _ _ _
  rw [e1, e2]
  exact wpAny_bind (wpAny_newList (s := { s with heap := h₂, toks := tk }) (wpAny_pure (h h₂ tk hk2)) (by rw [List.length_drop, Array.length_toList, sizeLine_eq]; omega))
theorem star_L {l : Addr} {items : Array Value} {Q : List Value → Shared → Prop} (hl : s.heap.IsList l items) (hh : A.handled = none) (hn : 1 ≤ items.size) (hz : items.size ≤ 16384)
    (h : ∀ (h' : Heap) (tk : Nat), (∀ b o, s.heap.get? b = some o → h'.get? b = some o) → Q (items.toList.take 1 ++ [.ref h'.objs.size] ++ []) { s with heap := h'.push { cls := .type "list", data := .seq (items.toList.drop 1).toArray }, toks := tk }) : wpAny (model prog w) A (unpackItems (.ref l) 2 (some 1)) Q E s := by
  have hlt : l ≠ s.heap.objs.size := by obtain ⟨o, ho, _⟩ := hl; exact Nat.ne_of_lt (Heap.lt_size ho)
  unfold unpackItems
  refine wpAny_bind ?_
  unfold notIterableAtAll
  refine wpAny_bind (wpAny_specialOf hl.typeIs PySem.F.slot_list_iter.lookup ?_)
  refine wpAny_pure ?_
  simp only [Bool.false_eq_true, if_false]
  refine wpAny_bind (wpAny_holding (wpAny_pyIter_list hl ?_))
  refine wpAny_bind (wpAny_holding (kun_draw hlt 1 0 _ _ ⟨_, Heap.get?_push_size _ rfl, rfl, rfl⟩ (hl.push _) (by omega) fun h₁ hit₁ hs₁ => ?_))
  have hl₁ : h₁.IsList l items := (hl.push _).extBut hs₁.extBut hlt
  rw [Nat.zero_add] at hit₁
  obtain ⟨oi, hoi, _⟩ := id hit₁
  obtain ⟨ol, hol, _⟩ := id hl₁
  rw [List.drop_zero]
  have hfl : (items.toList.take 1).length = 1 := by rw [List.length_take, Array.length_toList]; omega
  rw [if_neg (show ¬ ((items.toList.take 1).length < 1) by rw [hfl]; omega)]
  refine wpAny_bind (wpAny_holding (kun_collect (s := { s with heap := h₁ }) (T := "list_iterator") (.inr (.inr (.inl rfl))) (Walks.list (A := A.in1) hh s.heap.objs.size l hlt items) (fun j u st => st.1.typeIs) (k := 1) (by omega) ⟨hit₁, hl₁⟩ (Heap.lt_size hoi) (Heap.lt_size hol) (fun h₂ tk hk => ?_) (by rw [sizeLine_eq]; omega)))
  show wpAny _ _ (if (items.toList.drop 1).length < 0 then _ else _) _ _ _
  rw [if_neg (by omega)]
  have hk2 : ∀ b o, s.heap.get? b = some o → h₂.get? b = some o := fun b o e => hk b o (Nat.ne_of_lt (Heap.lt_size e)) (hs₁.extBut b o (Nat.ne_of_lt (Heap.lt_size e)) (Heap.get?_push_of_some _ e))
  have e1 : (items.toList.drop 1).take ((items.toList.drop 1).length - 0) = items.toList.drop 1 := by rw [Nat.sub_zero, List.take_length]
  have e2 : (items.toList.drop 1).drop ((items.toList.drop 1).length - 0) = [] := by rw [Nat.sub_zero, List.drop_length]
  show wpAny _ _ (newList ((items.toList.drop 1).take ((items.toList.drop 1).length - 0)) >>= fun d => pure (items.toList.take 1 ++ [d] ++ (items.toList.drop 1).drop ((items.toList.drop 1).length - 0))) _ _ _
  rw [e1, e2]
  exact wpAny_bind (wpAny_newList (s := { s with heap := h₂, toks := tk }) (wpAny_pure (h h₂ tk hk2)) (by rw [List.length_drop, Array.length_toList, sizeLine_eq]; omega))
end
def gStar (K : PySem.W.Frag) (t : TGs) : TG := fun v σ H Q => ∃ a x xs, v = .ref a ∧ (SqT K H a (x :: xs) ∨ SqL K H a (x :: xs)) ∧ xs.length ≤ 1000 ∧ ∀ D, H D = none → t [x, .ref D] σ (upd H D (.lst xs)) Q
theorem pg_star {X : Cx} {es : List Expr} {k : Nat} {pos : Pos} {t : TGs} (hc : X.calm = true) (h : PGs X es t) (hn : (assignEach es X.env).length = 2 := by rfl) (hst : (assignEach es X.env).findIdx? (·.1) = some 1 := by rfl) : PG X (.Tuple es k pos) (gStar X.K t) := by
  refine ⟨fun pins s σ H v u Q I r hw => ?_⟩
  obtain ⟨a, x, xs, e1, hq, hz, hw⟩ := hw
  subst e1
  cases r
  rw [assign_Tuple]
  refine wpAny_bind (wpAny_standAt ?_)
  unfold unpack
  rw [hn, hst]
  have fin : ∀ (its : List Value), Vals (x :: xs) its → ∀ (h' : Heap) (tk : Nat), (∀ b o, s.heap.get? b = some o → h'.get? b = some o) → wpAny (model X.prog X.w) X.A (assignInOrder ((assignEach es X.env).map (·.2)) (its.toArray.toList.take 1 ++ [.ref h'.objs.size] ++ [])) (fun _ s' => ∃ σ' H', Inv X pins σ' H' s' ∧ Q σ' H') X.xe { s with heap := h'.push { cls := .type "list", data := .seq (its.toArray.toList.drop 1).toArray }, toks := tk } := fun its rv h' tk hk => by
    have I1 : Inv X pins σ H { s with heap := h', toks := tk } := I.kept (t' := tk) hk
    cases rv with
    | cons rx rr =>
      rename_i y ys
      have l1 : xs.length ≤ sizeLine := by rw [sizeLine_eq]; omega
      have I2 := I1.lnew (t' := tk) rr l1
      exact h.run pins _ σ _ [x, .ref h'.objs.size] [y, .ref h'.objs.size] Q I2 (.cons rx (.cons rfl .nil)) (hw _ I1.fresh)
  rcases hq with hq | hq
  · obtain ⟨its, rv, ht, hz2⟩ := I.tuple hq
    have hlen := rv.length
    exact wpAny_bind (wpAny_holding (star_T ht (I.ok.hd hc) (by simp at hlen ⊢; omega) (by simp at hlen ⊢; omega) (fin its rv)))
  · obtain ⟨its, rv, ht, hz2⟩ := I.list hq
    have hlen := rv.length
    exact wpAny_bind (wpAny_holding (star_L ht.isList (I.ok.hd hc) (by simp at hlen ⊢; omega) (by simp at hlen ⊢; omega) (fin its rv)))
theorem pgs_same {X : Cx} {es es' : List Expr} {t : TGs} (h : PGs X es t) (e : (assignEach es' X.env).map (·.2) = (assignEach es X.env).map (·.2)) : PGs X es' t := ⟨fun pins s σ H vs us Q I r hw => by
  rw [e]
  exact h.run pins s σ H vs us Q I r hw⟩
/-- word, *box = e -/
theorem sr_star {X : Cx} {ρ : Rho} {e : Expr} {pos p1 p2 p3 tp : Pos} {k : Nat} {d : PyData} {ds : List PyData} (i j : Nat) {x y : Str} (h : EvR X e ρ (fun v H => Dp X.K H v (.tuple (d :: ds)) ∨ Dp X.K H v (.list (d :: ds)))) (hz : ds.length ≤ 1000) (hc : X.calm = true) (hN : X.N.Nodup) (hi : X.N[i]? = some x := by rfl) (hj : X.N[j]? = some y := by rfl) (hx : Loc X.env.scope x := by first | exact Or.inl rfl | exact Or.inr rfl) (hy : Loc X.env.scope y := by first | exact Or.inl rfl | exact Or.inr rfl)
    (hf : X.fn x = true ∨ X.env.scope.names.lookup x = some .local := by first | exact .inl rfl | exact .inr rfl) (hf2 : X.fn y = true ∨ X.env.scope.names.lookup y = some .local := by first | exact .inl rfl | exact .inr rfl)
    (hs : swapsWithSole [.Tuple [.Name x p1, .Starred (.Name y p2) p3] k tp] e pos.line X.env = pure false := by rfl) (hw : swappedStores [.Tuple [.Name x p1, .Starred (.Name y p2) p3] k tp] e X.env = pure none := by rfl)
    (h1 : (assignEach [.Tuple [.Name x p1, .Starred (.Name y p2) p3] k tp] X.env).map (·.2) = [assign (.Tuple [.Name x p1, .Starred (.Name y p2) p3] k tp) X.env] := by rfl)
    (hn : (assignEach [.Name x p1, .Starred (.Name y p2) p3] X.env).length = 2 := by rfl) (hst : (assignEach [.Name x p1, .Starred (.Name y p2) p3] X.env).findIdx? (·.1) = some 1 := by rfl)
    (hs1 : (assignEach [.Name x p1, .Starred (.Name y p2) p3] X.env).map (·.2) = assign (.Name x p1) X.env :: (assignEach [.Starred (.Name y p2) p3] X.env).map (·.2) := by rfl)
    (hs2 : (assignEach [.Name y p2] X.env).map (·.2) = assign (.Name y p2) X.env :: (assignEach [] X.env).map (·.2) := by rfl) (ha : (assignEach [.Starred (.Name y p2) p3] X.env).map (·.2) = (assignEach [.Name y p2] X.env).map (·.2) := by rfl) :
    SR X (.Assign [.Tuple [.Name x p1, .Starred (.Name y p2) p3] k tp] e pos) ρ ((ρ.set i (some (DD X.K d))).set j (some (DD X.K (.list ds)))) :=
  ⟨fun σ H eo D q => sS_of (ps_asg pe_s (pg_star hc (pgs_cons (pg_name hN hi hx hf) (pgs_same (pgs_cons (pg_name hN hj hy hf2) pgs_nil hs2) ha) hs1) hn hst) hs hw h1) (h.run σ H eo _ fun v H1 e1 pv => by
    have key : ∃ a x xs, v = .ref a ∧ (SqT X.K H1 a (x :: xs) ∨ SqL X.K H1 a (x :: xs)) ∧ Dp X.K H1 x d ∧ DpAll X.K H1 xs ds := by
      rcases pv with pv | pv
      · obtain ⟨a, xs, rfl, h1, d1⟩ := dp_tup pv
        cases d1 with
        | cons q1 q2 => exact ⟨a, _, _, rfl, .inl h1, q1, q2⟩
      · obtain ⟨a, xs, rfl, h1, d1⟩ := dp_lst pv
        cases d1 with
        | cons q1 q2 => exact ⟨a, _, _, rfl, .inr h1, q1, q2⟩
    obtain ⟨a, x, xs, rfl, hq, px, pxs⟩ := key
    refine ⟨a, x, xs, rfl, hq, by rw [dpa_len pxs]; exact hz, fun D hD => ?_⟩
    have e2 : Same H1 (upd H1 D (.lst xs)) := same_new hD
    exact ⟨_, _, rfl, _, _, rfl, rfl, q _ _ (e1.trans e2) (((eo.up (e1.trans e2)).set i (dp_mono e2 _ _ px) mono_dd).set j (v := .ref D) (.lst (.of upd_same) (dpa_mono e2 _ _ pxs)) mono_dd)⟩)⟩
end SH

/-! ## SHLg -/
set_option Elab.async false
set_option linter.all false
set_option maxRecDepth 100000
set_option maxHeartbeats 4000000
/-! logs: is_deed, do, step_back -/
namespace SH
open PySem PySem.Spec PyProof.Rows L2
theorem strok {x : Str} (h : x ∈ (["narrow", "flatten", "widen", "keep", "drop", "free"] : List Str)) : PyData.strOk x = true := by
  simp only [List.mem_cons, List.not_mem_nil, or_false] at h
  rcases h with rfl | rfl | rfl | rfl | rfl | rfl <;> decide +kernel
theorem deed_word {e : DeedM} (k : DeedOk e) : e.1 ∈ (["narrow", "flatten", "widen", "keep", "drop", "free"] : List Str) := by
  rcases k with ⟨k, _⟩ | ⟨k, _⟩ <;> simp only [List.mem_cons, List.not_mem_nil, or_false] at k ⊢ <;> rcases k with h | h | h <;> simp [h]
theorem shp_deed {e : DeedM} (k : DeedOk e) {n : Nat} : Shp (n + 1) (dDeed e) := shp_tup fun d hd => by
  rcases List.mem_cons.mp hd with rfl | hd
  · exact shp_str (strok (deed_word k))
  · obtain ⟨i, _, rfl⟩ := List.mem_map.mp hd
    exact shp_int
theorem shp_deeds {es : List DeedM} (h : ∀ e ∈ es, DeedOk e) {n : Nat} : Shp (n + 2) (dDs es) := shp_tup fun d hd => by
  obtain ⟨e, he, rfl⟩ := List.mem_map.mp hd
  exact shp_deed (h e he)
theorem shp_pic {p : Pic} {n : Nat} : Shp (n + 2) (dP p) := shp_tup fun d hd => by
  obtain ⟨e, he, rfl⟩ := List.mem_map.mp hd
  exact shp_ints
section
variable {P : Program} {w : World} {K : PySem.W.Frag} {mg : Str → Option Value} {base : Heap} {CD CS CB CW CR : Addr}
def R_isdeed (ds : List PyData) (d : PyData) : Prop := ∃ e, DeedOk e ∧ ds = [dDeed e] ∧ d = .bool true
theorem sc_isdeed : FnScope ["thing"] ["thing"] (defScope s_is_deed) := ⟨rfl, rfl, rfl, by decide +kernel, rfl, by decide +kernel, by decide +kernel⟩
theorem ok_isdeed (G : Glob K mg) (D : DefAt K mg "is_deed" s_is_deed ["thing"]) : CalD P w K mg base 1 "is_deed" R_isdeed := by
  refine cal_pure D sc_isdeed (fun ds d h => ?_) fun f cdv A outer s H E hr ds d h => ?_
  · obtain ⟨e, _, rfl, _⟩ := h
    rfl
  · obtain ⟨e, k, rfl, rfl⟩ := h
    obtain ⟨pa, g1, g2⟩ := G.plain
    obtain ⟨ba, b1, b2⟩ := G.boxes
    have h0 : atI ((.str e.1 :: e.2.map .int : List PyData)) 0 = some (.str e.1) := atI_nat rfl
    have ix : ∀ {X : Cx} {ρ : Rho} {e1 : Expr} {k : Nat} {p1 p2 : Pos} (_ : EvD X e1 ρ (dDeed e)), EvD X (.Subscript e1 (.Constant (.int 0) k p1) p2) ρ (.str e.1) := fun h => e_ix h e_int h0
    refine b_if_f (EvT.is (b' := false) (t_w (w_or (t_not (t_val (e_isi G.isi G.tup bt_tuple (e_n (d := dDeed e) 0 rfl) kt_tt))) fun _ => w_or (t_cmp (c_eqD hr.units (Shp.ok (n := 1) (shp_deed k)) (Shp.ok (n := 1) (shp_tup fun d hd => by simp at hd))) (e_n (d := dDeed e) 0 rfl) (e_tup a_nil)) fun _ => w_or1 (t_not (t_val (e_isi G.isi G.str bt_str (ix (e_n (d := dDeed e) 0 rfl)) kt_ss))))) ?_) ?_
    · simp [dDeed, PyData.eqv, PyData.eqvAll]
    · rcases k with ⟨km, kb⟩ | ⟨km, x, y, wd, hg, kb⟩
      · refine b_if_r (k := true) (ρ' := []) (EvT.is (t_cmp c_inS (ix (e_n (d := dDeed e) 0 rfl)) (e_gt g1 g2 fun H => dpa_of_strs _)) (decide_eq_true km)) (fun _ => b_retd (e_cmp c_eqI (e_len (ds := .str e.1 :: e.2.map .int) G.len (e_n (d := dDeed e) 0 rfl)) e_int) ?_) (fun z => by cases z) fun z => by cases z
        rw [kb]
        rfl
      · have nk : ¬ e.1 ∈ (["narrow", "flatten", "widen"] : List Str) := by
          simp only [List.mem_cons, List.not_mem_nil, or_false] at km ⊢
          rcases km with h | h | h <;> rw [h] <;> decide
        refine b_if_f (EvT.is (t_cmp c_inS (ix (e_n (d := dDeed e) 0 rfl)) (e_gt g1 g2 fun H => dpa_of_strs _)) (decide_eq_false nk)) (b_retd (e_and (e_cmp c_inS (ix (e_n (d := dDeed e) 0 rfl)) (e_gt b1 b2 fun H => dpa_of_strs _)) fun _ => e_one (e_cmp c_eqI (e_len (ds := .str e.1 :: e.2.map .int) G.len (e_n (d := dDeed e) 0 rfl)) e_int)) ?_)
        rw [decide_eq_true km, kb]
        rfl
/-! ### step_back -/
def R_stepb (ds : List PyData) (d : PyData) : Prop := ∃ c g, BackOk c g ∧ ds = [dP c, dGone g] ∧ d = dP (backM c g)
abbrev N_stepb : List Str := ["cells", "step", "word", "seam", "gone", "x"]
theorem sc_stepb : FnScope N_stepb ["cells", "step"] (defScope s_step_back) := ⟨rfl, rfl, rfl, by decide +kernel, rfl, by decide +kernel, by decide +kernel⟩
theorem ok_stepb (G : Glob K mg) (D : DefAt K mg "step_back" s_step_back ["cells", "step"]) (c1 : CalD P w K mg base 1 "put_in" R_put) (c2 : CalD P w K mg base 1 "swapped" R_swapped) (c3 : CalD P w K mg base 1 "without" R_without) : CalD P w K mg base 2 "step_back" R_stepb := by
  refine cal_pure D sc_stepb (fun ds d h => ?_) fun f cdv A outer s H E hr ds d h => ?_
  · obtain ⟨c, g, _, rfl, _⟩ := h
    rfl
  · obtain ⟨c, g, ⟨wd, hg, Sh, w0, h0, w1, h1, ok⟩, rfl, rfl⟩ := h
    obtain ⟨gw, gs, gg⟩ := g
    refine b_tg (js := [2, 3, 4]) (ds := [.str gw, dI gs, dI gg]) (e_n (d := dGone (gw, gs, gg)) 1 rfl) (tg_tup rfl (tgs_cons 2 (tgs_cons 3 (tgs_cons 4 tgs_nil sc_stepb.nd) sc_stepb.nd) sc_stepb.nd)) ?_
    rcases ok with ⟨rfl, hx, hl, hc⟩ | ⟨rfl, hx, hl, hc⟩ | ⟨rfl, hx, hl⟩
    · exact b_if_r (k := true) (ρ' := []) (EvT.is (t_cmp c_eqS (e_n (d := .str "narrow") 2 rfl) e_str) (by decide)) (fun _ => b_retd (e_call c1 hr (by decide) rfl (a_cons (e_n (d := dP c) 0 rfl) (a_cons (e_n (d := dI gs) 3 rfl) (a_cons (e_n (d := dI gg) 4 rfl) a_nil))) ⟨c, gs, gg, wd, hg, Sh, by omega, by omega, hx, hl, hc, rfl, rfl⟩) rfl) (fun z => by cases z) fun z => by cases z
    · have S2 := shape_swap Sh h0
      refine b_if_f (EvT.is (t_cmp c_eqS (e_n (d := .str "flatten") 2 rfl) e_str) (by decide)) (b_if_r (k := true) (ρ' := []) (EvT.is (t_cmp c_eqS (e_n (d := .str "flatten") 2 rfl) e_str) (by decide)) (fun _ => b_retd (e_call c2 hr (by decide) rfl (a_cons (e_call c1 hr (by decide) rfl (a_cons (e_call c2 hr (by decide) rfl (a_cons (e_n (d := dP c) 0 rfl) a_nil) ⟨c, wd, hg, Sh, h0, by omega, by omega, rfl, rfl⟩) (a_cons (e_n (d := dI gs) 3 rfl) (a_cons (e_n (d := dI gg) 4 rfl) a_nil))) ⟨swapM c, gs, gg, hg, wd, S2, by omega, by omega, hx, hl, hc, rfl, rfl⟩) a_nil) ⟨put3 (swapM c) gs gg, hg + 1, wd, shape_put S2 hl hc hx, w0, by omega, by omega, rfl, rfl⟩) rfl) (fun z => by cases z) fun z => by cases z)
    · refine b_if_f (EvT.is (t_cmp c_eqS (e_n (d := .str "widen") 2 rfl) e_str) (by decide)) (b_if_f (EvT.is (t_cmp c_eqS (e_n (d := .str "widen") 2 rfl) e_str) (by decide)) (b_retd (e_call c3 hr (by decide) rfl (a_cons (e_n (d := dP c) 0 rfl) (a_cons (EvD.is (d' := dI (plus1 gs)) (e_tuple G.tup (e_lcA (own := [("x", 5)]) (js := [5]) (xs := gs) (emb := .int) (parts := fun x => [.int x]) (g := fun x => .int (x + 1)) rfl sc_stepb.nd (src_tup (e_n (d := .tuple (gs.map .int)) 3 rfl)) (blkOk_by (own := [("x", 5)]) (by rfl)) (by decide) (by have : gs.length ≤ 30 := hl; omega) (fun _ _ => by simp [noL]) (fun _ _ _ _ _ _ _ => tg_name 5 sc_stepb.nd) fun _ _ _ _ _ x _ => e_add (e_n (d := .int x) 5 rfl) e_int)) (by unfold dI plus1; rw [List.map_map]; rfl)) a_nil)) ⟨c, plus1 gs, wd, hg, Sh, by omega, by omega, hx, rfl, rfl⟩) rfl))
/-! ### do -/
structure CalG (P : Program) (w : World) (K : PySem.W.Frag) (mg : Str → Option Value) (base : Heap) (CX : CXT) (k : Nat) (x : Str) (ps : List Str) (sp : Sp) : Prop where
  ex : ∃ (f : Addr) (fd : FuncData), FnOk P w K mg base CX k f fd ps sp ∧ mg x = some (.ref f) ∧ PySem.W.keepIn K (.ref f) = true ∧ Binds K fd ps []
theorem fn_of0 {CX : CXT} {x : Str} {st : Stmt} {N ps : List Str} {k : Nat} {sp : Sp} (D : DefAt K mg x st ps) (S : FnScope N ps (defScope st)) (hlen : ∀ vs H Q E, sp vs H Q E → vs.length = ps.length)
    (body : ∀ (f : Addr) (cdv : Value) (A : Around) (outer : List Env) (s : Shared) (H : Hp) (vs : List V) (Q : VK) (E : XK), Room k (A.deeper (envOfC x (defScope st) s.heap.objs.size f cdv)) → sp vs H Q E →
      sB ((XG CX P w K mg base N x st f cdv A outer s H E).nox) (defBody st) { nx := fun _ H' => Q .non H', rt := Q } (L2.start N vs) H) : CalG P w K mg base CX (k + 1) x ps sp := by
  obtain ⟨f, fd, F, hm, b⟩ := D.ex
  exact ⟨f, fd, F.ok S hlen (fun cdv A outer s H vs Q E hr h => ⟨_, PSs.nox pss_s, body f cdv A outer s H vs Q E hr h⟩), hm, F.kp, b⟩
/-- the desk's deeds, as they are called -/
structure Deeds (P : Program) (w : World) (K : PySem.W.Frag) (mg : Str → Option Value) (base : Heap) (CD CS CB CW CR : Addr) : Prop where
  nar : CalM P w K mg base (L2.CX P w) 7 CD "narrow" ["self"] (spMut K CD CS CB CW CR narM)
  flt : CalM P w K mg base (L2.CX P w) 7 CD "flatten" ["self"] (spMut K CD CS CB CW CR fltM)
  wdn : CalM P w K mg base (L2.CX P w) 7 CD "widen" ["self"] (spMut K CD CS CB CW CR wdnM)
  kp : CalK P w K mg base (L2.CX P w) 5 CD "keep" N_box 3 ["wide", "high"] (spBox K CD CS CB CW CR "keep" 1)
  dr : CalK P w K mg base (L2.CX P w) 5 CD "drop" N_box 3 ["wide", "high"] (spBox K CD CS CB CW CR "drop" 2)
  fr : CalK P w K mg base (L2.CX P w) 5 CD "free" N_box 3 ["wide", "high"] (spBox K CD CS CB CW CR "free" 0)
/-- o.m(e1, e2, wide = e3, high = e4) -/
theorem m_box {X : Cx} {ρ : Rho} {CX : CXT} {C : Addr} {m : Str} {k j : Nat} {sp : Sp} {E : St → XK} {pl : Sem Bool} {Q : VK} {σ : St} {H : Hp} {P0 : VP} {o e1 e2 e3 e4 : Expr} {x y wd hg : Int} {apos pos k3 k4 : Pos} (cl : Cls X.K C) (cm : CalK X.prog X.w X.K X.mg X.base CX k C m N_box 3 ["wide", "high"] sp) (hr : Room j X.A) (hk : k ≤ j) (hx : ∀ σ, PassesAt CX X σ (E σ)) (ha : EvR X o ρ P0) (h1 : EvD X e1 ρ (.int x)) (h2 : EvD X e2 ρ (.int y)) (h3 : EvD X e3 ρ (.int wd)) (h4 : EvD X e4 ρ (.int hg)) (eo : EnvOk ρ σ H) (h : ∀ v H, P0 v H → ∃ a dx fs, v = .ref a ∧ H a = some (.ins C dx fs) ∧ fs.lookup m = none)
    (kk : ∀ v H1, Same H H1 → P0 v H1 → sp [v, .int x, .int y, .int wd, .int hg] H1 Q (E σ))
    (hall : (backToKw pos (keywordEach [⟨some "wide", e3, k3⟩, ⟨some "high", e4, k4⟩] X.env)).all (·.1.isSome) = true := by rfl) (hks : (backToKw pos (keywordEach [⟨some "wide", e3, k3⟩, ⟨some "high", e4, k4⟩] X.env)).filterMap (·.1) = (["wide", "high"] : List Str) := by rfl)
    (hst : starEach (e1 :: [e2]) X.env = (false, eval e1 X.env) :: starEach [e2] X.env := by rfl) (hst2 : starEach (e2 :: []) X.env = (false, eval e2 X.env) :: starEach [] X.env := by rfl) (hpl : ((backTo pos (starEach (e1 :: [e2]) X.env)).any (·.1) || (backToKw pos (keywordEach [⟨some "wide", e3, k3⟩, ⟨some "high", e4, k4⟩] X.env)).any (·.1.isNone)) = false := by rfl)
    (ht : eval (.Call (.Attribute o m apos) [e1, e2] [⟨some "wide", e3, k3⟩, ⟨some "high", e4, k4⟩] pos) X.env = (do
      let ov ← eval o X.env
      standAt apos.atName
      let (f, first) ← holding [ov] (getMethod ov m pl)
      callWith pos f first (backTo pos (starEach [e1, e2] X.env)) (backToKw pos (keywordEach [⟨some "wide", e3, k3⟩, ⟨some "high", e4, k4⟩] X.env))) := by rfl) : sE X (.Call (.Attribute o m apos) [e1, e2] [⟨some "wide", e3, k3⟩, ⟨some "high", e4, k4⟩] pos) σ H Q := by
  obtain ⟨g, fd, gg, F, hm, b⟩ := cm.ex
  refine sE_of (pe_methK (n := 2) pe_s cl hm F (hr.mono hk) b hx (pa_cons pe_s (pa_cons pe_s pa_nil hst2) hst) (pk_cons pe_s (pk_cons pe_s pk_nil)) hall hks hst hpl ht) (ha.run σ H eo _ fun v H1 e1' pv => ?_)
  obtain ⟨a, dx, fs, rfl, i1, i2⟩ := h v H1 pv
  refine ⟨a, dx, fs, rfl, i1, i2, h1.run σ H1 (eo.up e1') _ fun v1 H2 e2' pv1 => h2.run σ H2 ((eo.up e1').up e2') _ fun v2 H3 e3' pv2 => h3.run σ H3 (((eo.up e1').up e2').up e3') _ fun v3 H4 e4' pv3 => h4.run σ H4 ((((eo.up e1').up e2').up e3').up e4') _ fun v4 H5 e5' pv4 => ⟨rfl, rfl, ?_⟩⟩
  cases pv1
  cases pv2
  cases pv3
  cases pv4
  exact kk _ H5 ((((e1'.trans e2').trans e3').trans e4').trans e5') (ha.mono _ _ _ (((e2'.trans e3').trans e4').trans e5') pv)
def spDo (K : PySem.W.Frag) (CD CS : Addr) : Sp := fun vs H Q _ => ∃ q og m S S' dn n e v wd hg, vs = [.ref q.p, v] ∧ DeskAt K CD CS q og m S dn n H ∧ Dp K H v (dDeed e) ∧ DeedOk e ∧ Good wd hg S ∧ dn.length ≤ 500 ∧ S.deeds.length ≤ 500 ∧ S.gone.length ≤ 500 ∧ doM (isW m) S e = some S' ∧
  ∀ u H' q', Stp q q' H H' → DeskAt K CD CS q' og m S' (dn ++ [S]) n H' → Q u H'
abbrev N_do : List Str := ["desk", "deed", "word", "box"]
theorem sc_do : FnScope N_do ["desk", "deed"] (defScope s_do) := ⟨rfl, rfl, rfl, by decide +kernel, rfl, by decide +kernel, by decide +kernel⟩
theorem ok_do (F : DF K mg CD CS) (D : DefAt K mg "do" s_do ["desk", "deed"]) (M : Deeds P w K mg base CD CS CB CW CR) : CalG P w K mg base CX0 8 "do" ["desk", "deed"] (spDo K CD CS) :=
  fn_of0 D sc_do (fun vs H Q E h => by
    obtain ⟨q, og, m, S, S', dn, n, e, v, wd, hg, rfl, _⟩ := h
    rfl) fun f cdv A outer s H vs Q E hr h => by
    obtain ⟨q, og, m, S, S', dn, n, e, v, wd, hg, rfl, hd, pv, k, g, l1, l2, l3, hdo, kk⟩ := h
    obtain ⟨word, box⟩ := e
    have hbl : box.length ≤ 4 := by
      rcases k with ⟨_, z⟩ | ⟨_, x, y, a, b, z⟩
      · have z : box = [] := z
        rw [z]; simp
      · have z : box = [x, y, a, b] := z
        rw [z]; simp
    have eo : EnvOk [some (DeskV K CD CS q og m S dn n), some (DD K (dDeed (word, box))), none, none] (L2.start N_do [.ref q.p, v]) H := eok_some ⟨rfl, hd⟩ mono_desk (eok_d pv (eok_reps 2))
    refine sb_cons (sr_star 2 3 (d := .str word) (ds := box.map .int) (e_w (e_n (d := dDeed (word, box)) 1 rfl) (fun v H p => .inl p) (fun v H H' e p => p.imp (dp_mono e _ _) (dp_mono e _ _))) (by rw [List.length_map]; omega) rfl sc_do.nd) eo fun σ1 H1 e1 eo1 => ?_
    have plain : ∀ {op : Bool → StandM → Option StandM} {vv : V} {H2 : Hp} {σ : St} {Q' : VK}, op (isW m) S = some S' → Same H1 H2 → DeskV K CD CS q og m S dn n vv H2 → (∀ v H', Q .non H' → Q' v H') → spMut K CD CS CB CW CR op [vv] H2 Q' (fun _ _ _ => False) := fun ho e2 pv2 hq => ⟨q, og, m, S, dn, n, wd, hg, by rw [pv2.1], pv2.2, g, l1, l2, l3, fun S2 h2 v3 H3 q3 s3 d3 => by
      rw [ho] at h2
      have h2 := Option.some.inj h2
      subst h2
      exact hq _ _ (kk .non H3 q3 (Stp.pre (e1.trans e2) s3) d3), fun hn => by rw [ho] at hn; cases hn⟩
    have box_ : ∀ {wd' : Str} {vl : Int} (x y a b : Int) {vv : V} {H2 : Hp} {Q' : VK}, mrkM wd' vl S x y a b = some S' → Same H1 H2 → DeskV K CD CS q og m S dn n vv H2 → (∀ v H', Q .non H' → Q' v H') → spBox K CD CS CB CW CR wd' vl [vv, .int x, .int y, .int a, .int b] H2 Q' (fun _ _ _ => False) := fun x y a b _ _ _ ho e2 pv2 hq => ⟨q, og, m, S, dn, n, wd, hg, x, y, a, b, by rw [pv2.1], pv2.2, g, l1, l2, l3, fun S2 h2 v3 H3 q3 s3 d3 => by
      rw [ho] at h2
      have h2 := Option.some.inj h2
      subst h2
      exact hq _ _ (kk .non H3 q3 (Stp.pre (e1.trans e2) s3) d3), fun hn => by rw [ho] at hn; cases hn⟩
    unfold doM at hdo
    have tw : ∀ {X : Cx} {z : Str} {b : Bool} {kk : Nat} {p1 p2 p3 : Pos} (_ : EvD X (.Name "word" p1) ((([some (DeskV K CD CS q og m S dn n), some (DD K (dDeed (word, box))), none, none] : Rho).set 2 (some (DD X.K (.str word)))).set 3 (some (DD X.K (.list (box.map .int))))) (.str word)) (_ : decide (word = z) = b), EvT X (.Compare (.Name "word" p1) [.Eq] [.Constant (.str z) kk p2] p3) _ b := fun h hb => EvT.is (t_cmp c_eqS h e_str) hb
    rcases k with ⟨km, kb⟩ | ⟨km, x, y, a, b, kb⟩
    · have kb : box = [] := kb
      subst kb
      have km : word = "narrow" ∨ word = "flatten" ∨ word = "widen" := by simpa using km
      rcases km with rfl | rfl | rfl
      · have hdo : narM (isW m) S = some S' := by simpa using hdo
        refine sb_ift (tw (e_n (d := .str "narrow") 2 rfl) (by decide)) eo1 fun H2 e2 => ?_
        exact sb_exprE (m_self0 (E := fun _ _ _ _ => False) F.cD M.nar hr (by decide) (fun σ => passAt takes0 σ) (e_nP 0 (P := DeskV K CD CS q og m S dn n) rfl mono_desk) (eo1.up e2) (desk_ins "narrow") fun vv H3 e3 pv3 => plain (σ := σ1) hdo (e2.trans e3) pv3 fun v H' hq => sb_nil (sb_nil hq))
      · have hdo : fltM (isW m) S = some S' := (by
          rw [if_neg (by decide), if_pos rfl] at hdo
          exact hdo)
        refine sb_iff (tw (e_n (d := .str "flatten") 2 rfl) (by decide)) eo1 fun H2 e2 => ?_
        refine sb_ift (tw (e_n (d := .str "flatten") 2 rfl) (by decide)) (eo1.up e2) fun H2b e2b => ?_
        exact sb_exprE (m_self0 (E := fun _ _ _ _ => False) F.cD M.flt hr (by decide) (fun σ => passAt takes0 σ) (e_nP 0 (P := DeskV K CD CS q og m S dn n) rfl mono_desk) ((eo1.up e2).up e2b) (desk_ins "flatten") fun vv H3 e3 pv3 => plain (σ := σ1) hdo ((e2.trans e2b).trans e3) pv3 fun v H' hq => sb_nil (sb_nil (sb_nil hq)))
      · have hdo : wdnM (isW m) S = some S' := (by
          rw [if_neg (by decide), if_neg (by decide), if_pos rfl] at hdo
          exact hdo)
        refine sb_iff (tw (e_n (d := .str "widen") 2 rfl) (by decide)) eo1 fun H2 e2 => ?_
        refine sb_iff (tw (e_n (d := .str "widen") 2 rfl) (by decide)) (eo1.up e2) fun H2b e2b => ?_
        refine sb_ift (tw (e_n (d := .str "widen") 2 rfl) (by decide)) ((eo1.up e2).up e2b) fun H2c e2c => ?_
        exact sb_exprE (m_self0 (E := fun _ _ _ _ => False) F.cD M.wdn hr (by decide) (fun σ => passAt takes0 σ) (e_nP 0 (P := DeskV K CD CS q og m S dn n) rfl mono_desk) (((eo1.up e2).up e2b).up e2c) (desk_ins "widen") fun vv H3 e3 pv3 => plain (σ := σ1) hdo (((e2.trans e2b).trans e2c).trans e3) pv3 fun v H' hq => sb_nil (sb_nil (sb_nil (sb_nil hq))))
    · have kb : box = [x, y, a, b] := kb
      subst kb
      have bx : ∀ {X : Cx} {ρ : Rho} {e1 e2 : Expr} {pos : Pos} {i j : Int} (_ : EvD X e1 ρ (.list ([x, y, a, b].map .int))) (_ : EvD X e2 ρ (.int i)) (_ : PlainIx e2) (_ : atI ([x, y, a, b].map PyData.int) i = some (.int j)), EvD X (.Subscript e1 e2 pos) ρ (.int j) := fun h1 h2 h3 h4 => e_ixL h1 h2 h4 h3
      have km : word = "keep" ∨ word = "drop" ∨ word = "free" := by simpa using km
      rcases km with rfl | rfl | rfl
      · have hdo : mrkM "keep" 1 S x y a b = some S' := (by
          rw [if_neg (show ¬ ("keep" : Str) = "narrow" by decide), if_neg (show ¬ ("keep" : Str) = "flatten" by decide), if_neg (show ¬ ("keep" : Str) = "widen" by decide)] at hdo
          have hdo : (if ("keep" : Str) = "keep" then mrkM "keep" 1 S x y a b else if ("keep" : Str) = "drop" then mrkM "drop" 2 S x y a b else mrkM "free" 0 S x y a b) = some S' := hdo
          rw [if_pos rfl] at hdo
          exact hdo)
        refine sb_iff (tw (e_n (d := .str "keep") 2 rfl) (by decide)) eo1 fun H2 e2 => ?_
        refine sb_iff (tw (e_n (d := .str "keep") 2 rfl) (by decide)) (eo1.up e2) fun H3 e3 => ?_
        refine sb_iff (tw (e_n (d := .str "keep") 2 rfl) (by decide)) ((eo1.up e2).up e3) fun H4 e4 => ?_
        refine sb_ift (tw (e_n (d := .str "keep") 2 rfl) (by decide)) (((eo1.up e2).up e3).up e4) fun H5 e5 => ?_
        exact sb_exprE (m_box (E := fun _ _ _ _ => False) F.cD M.kp hr (by decide) (fun σ => passAt takes0 σ) (e_nP 0 (P := DeskV K CD CS q og m S dn n) rfl mono_desk) (bx (i := 0) (j := x) (e_n (d := .list ([x, y, a, b].map .int)) 3 rfl) e_int (fun _ _ => rfl) rfl) (bx (i := 1) (j := y) (e_n (d := .list ([x, y, a, b].map .int)) 3 rfl) e_int (fun _ _ => rfl) rfl) (bx (i := 2) (j := a) (e_n (d := .list ([x, y, a, b].map .int)) 3 rfl) e_int (fun _ _ => rfl) rfl) (bx (i := 3) (j := b) (e_n (d := .list ([x, y, a, b].map .int)) 3 rfl) e_int (fun _ _ => rfl) rfl) ((((eo1.up e2).up e3).up e4).up e5) (desk_ins "keep") fun vv H6 e6 pv6 => box_ x y a b hdo ((((e2.trans e3).trans e4).trans e5).trans e6) pv6 fun v H' hq => sb_nil (sb_nil (sb_nil (sb_nil (sb_nil hq)))))
      · have hdo : mrkM "drop" 2 S x y a b = some S' := (by
          rw [if_neg (show ¬ ("drop" : Str) = "narrow" by decide), if_neg (show ¬ ("drop" : Str) = "flatten" by decide), if_neg (show ¬ ("drop" : Str) = "widen" by decide)] at hdo
          have hdo : (if ("drop" : Str) = "keep" then mrkM "keep" 1 S x y a b else if ("drop" : Str) = "drop" then mrkM "drop" 2 S x y a b else mrkM "free" 0 S x y a b) = some S' := hdo
          rw [if_neg (by decide), if_pos rfl] at hdo
          exact hdo)
        refine sb_iff (tw (e_n (d := .str "drop") 2 rfl) (by decide)) eo1 fun H2 e2 => ?_
        refine sb_iff (tw (e_n (d := .str "drop") 2 rfl) (by decide)) (eo1.up e2) fun H3 e3 => ?_
        refine sb_iff (tw (e_n (d := .str "drop") 2 rfl) (by decide)) ((eo1.up e2).up e3) fun H4 e4 => ?_
        refine sb_iff (tw (e_n (d := .str "drop") 2 rfl) (by decide)) (((eo1.up e2).up e3).up e4) fun H5 e5 => ?_
        refine sb_ift (tw (e_n (d := .str "drop") 2 rfl) (by decide)) ((((eo1.up e2).up e3).up e4).up e5) fun H5b e5b => ?_
        exact sb_exprE (m_box (E := fun _ _ _ _ => False) F.cD M.dr hr (by decide) (fun σ => passAt takes0 σ) (e_nP 0 (P := DeskV K CD CS q og m S dn n) rfl mono_desk) (bx (i := 0) (j := x) (e_n (d := .list ([x, y, a, b].map .int)) 3 rfl) e_int (fun _ _ => rfl) rfl) (bx (i := 1) (j := y) (e_n (d := .list ([x, y, a, b].map .int)) 3 rfl) e_int (fun _ _ => rfl) rfl) (bx (i := 2) (j := a) (e_n (d := .list ([x, y, a, b].map .int)) 3 rfl) e_int (fun _ _ => rfl) rfl) (bx (i := 3) (j := b) (e_n (d := .list ([x, y, a, b].map .int)) 3 rfl) e_int (fun _ _ => rfl) rfl) (((((eo1.up e2).up e3).up e4).up e5).up e5b) (desk_ins "drop") fun vv H6 e6 pv6 => box_ x y a b hdo (((((e2.trans e3).trans e4).trans e5).trans e5b).trans e6) pv6 fun v H' hq => sb_nil (sb_nil (sb_nil (sb_nil (sb_nil (sb_nil hq))))))
      · have hdo : mrkM "free" 0 S x y a b = some S' := (by
          rw [if_neg (show ¬ ("free" : Str) = "narrow" by decide), if_neg (show ¬ ("free" : Str) = "flatten" by decide), if_neg (show ¬ ("free" : Str) = "widen" by decide)] at hdo
          have hdo : (if ("free" : Str) = "keep" then mrkM "keep" 1 S x y a b else if ("free" : Str) = "drop" then mrkM "drop" 2 S x y a b else mrkM "free" 0 S x y a b) = some S' := hdo
          rw [if_neg (by decide), if_neg (by decide)] at hdo
          exact hdo)
        refine sb_iff (tw (e_n (d := .str "free") 2 rfl) (by decide)) eo1 fun H2 e2 => ?_
        refine sb_iff (tw (e_n (d := .str "free") 2 rfl) (by decide)) (eo1.up e2) fun H3 e3 => ?_
        refine sb_iff (tw (e_n (d := .str "free") 2 rfl) (by decide)) ((eo1.up e2).up e3) fun H4 e4 => ?_
        refine sb_iff (tw (e_n (d := .str "free") 2 rfl) (by decide)) (((eo1.up e2).up e3).up e4) fun H5 e5 => ?_
        refine sb_iff (tw (e_n (d := .str "free") 2 rfl) (by decide)) ((((eo1.up e2).up e3).up e4).up e5) fun H5b e5b => ?_
        exact sb_exprE (m_box (E := fun _ _ _ _ => False) F.cD M.fr hr (by decide) (fun σ => passAt takes0 σ) (e_nP 0 (P := DeskV K CD CS q og m S dn n) rfl mono_desk) (bx (i := 0) (j := x) (e_n (d := .list ([x, y, a, b].map .int)) 3 rfl) e_int (fun _ _ => rfl) rfl) (bx (i := 1) (j := y) (e_n (d := .list ([x, y, a, b].map .int)) 3 rfl) e_int (fun _ _ => rfl) rfl) (bx (i := 2) (j := a) (e_n (d := .list ([x, y, a, b].map .int)) 3 rfl) e_int (fun _ _ => rfl) rfl) (bx (i := 3) (j := b) (e_n (d := .list ([x, y, a, b].map .int)) 3 rfl) e_int (fun _ _ => rfl) rfl) (((((eo1.up e2).up e3).up e4).up e5).up e5b) (desk_ins "free") fun vv H6 e6 pv6 => box_ x y a b hdo (((((e2.trans e3).trans e4).trans e5).trans e5b).trans e6) pv6 fun v H' hq => sb_nil (sb_nil (sb_nil (sb_nil (sb_nil (sb_nil hq))))))
end
end SH

/-! ## SHRp -/
set_option Elab.async false
set_option linter.all false
set_option maxRecDepth 100000
set_option maxHeartbeats 4000000
/-! replayed, origin_of -/
namespace SH
open PySem PySem.Spec PyProof.Rows L2
theorem fold_none {wo : Bool} : ∀ es : List DeedM, es.foldl (stepR wo) none = none
  | [] => rfl
  | e :: es => by
    rw [List.foldl_cons]
    exact fold_none es
theorem runR_take {wo : Bool} {T : StandM} {es : List DeedM} {q : List StandM × StandM} (h : runR wo T es = some q) (i : Nat) : ∃ q', runR wo T (es.take i) = some q' := by
  cases e : runR wo T (es.take i) with
  | some q' => exact ⟨q', rfl⟩
  | none =>
    have h2 : runR wo T (es.take i ++ es.drop i) = some q := by rw [List.take_append_drop]; exact h
    unfold runR at h2 e
    rw [List.foldl_append, e, fold_none] at h2
    cases h2
theorem shape_free {w h : Nat} {p : Pic} (S : Shape w h p) : Shape w h (freeM p) := by
  refine ⟨by unfold freeM; rw [List.length_map]; exact S.hgt, fun r hr => ?_⟩
  unfold freeM at hr
  obtain ⟨q, hq, rfl⟩ := List.mem_map.mp hr
  rw [List.length_map]
  exact S.wid q hq
theorem run0 {og : Pic} (pok : PicOk og) : RunOk og (S0 og) := by
  obtain ⟨wd, w1, w2, Sh⟩ := picok_shape pok
  exact ⟨⟨wd, og.length, Sh, shape_free Sh, ⟨w1, w2⟩, pok.hgt⟩, .nil, Nat.le_refl _, (fun e h => by cases h), pok.cel⟩
section
variable {P : Program} {w : World} {K : PySem.W.Frag} {mg : Str → Option Value} {base : Heap} {CD CS CB CW CR : Addr}
structure CalKG (P : Program) (w : World) (K : PySem.W.Frag) (mg : Str → Option Value) (base : Heap) (CX : CXT) (k : Nat) (x : Str) (ps : List Str) (n : Nat) (ks : List Str) (sp : Sp) : Prop where
  ex : ∃ (f : Addr) (fd : FuncData) (g : List Value → List Value → List Value), FnOk P w K mg base CX k f fd ps sp ∧ mg x = some (.ref f) ∧ PySem.W.keepIn K (.ref f) = true ∧ KBn K fd ps n ks g (fun vs zs => vs ++ zs)
theorem m_call {X : Cx} {k j : Nat} {x : Str} {ps : List Str} {sp : Sp} {e : Expr} {es : List Expr} {p pos : Pos} {σ : St} {H : Hp} {Q : VK} (c : CalG X.prog X.w X.K X.mg X.base CX0 k x ps sp) (hr : Room j X.A) (hk : k ≤ j) (hg : Gl X x) (h : sA X (e :: es) σ H (fun vs H1 => sp vs H1 Q (fun _ _ _ => False))) (hdb : (x == ("__debug__" : Str)) = false := by decide) (he : starEach (e :: es) X.env = (false, eval e X.env) :: starEach es X.env := by rfl) (hpl : (backTo pos (starEach es X.env)).any (·.1) = false := by rfl) : sE X (.Call (.Name x p) (e :: es) [] pos) σ H Q := by
  obtain ⟨f, fd, F, hm, kp, b⟩ := c.ex
  refine sE_of (pe_call (dvs := []) (ds := []) (E := fun _ _ _ => False) F (hr.mono hk) hg hm kp b .nil (fun _ _ _ _ _ _ _ h => h.elim) pa_s hdb he hpl) ?_
  show sA X (e :: es) σ H _
  have e1 : ∀ vs : List V, vs ++ [] = vs := fun vs => List.append_nil vs
  simp only [e1]
  exact h
theorem sA2 {X : Cx} {e1 e2 : Expr} {σ : St} {H : Hp} {Q : List V → Hp → Prop} (h : sE X e1 σ H fun v1 H1 => sE X e2 σ H1 fun v2 H2 => Q [v1, v2] H2) (hs : starEach [e1, e2] X.env = (false, eval e1 X.env) :: starEach [e2] X.env := by rfl) (hs2 : starEach [e2] X.env = (false, eval e2 X.env) :: starEach [] X.env := by rfl) : sA X [e1, e2] σ H Q := sA_of (pa_cons pe_s (pa_cons pe_s pa_nil hs2) hs) h
def spReplay (K : PySem.W.Frag) (CD CS : Addr) : Sp := fun vs H Q _ => ∃ p l og m es dn S, vs = [p, l, .str m] ∧ Dp K H p (dP og) ∧ PicOk og ∧ m ∈ (["worth", "joins"] : List Str) ∧ Dp K H l (.list (es.map dDeed)) ∧ (∀ e ∈ es, DeedOk e) ∧ es.length ≤ 400 ∧ runR (isW m) (S0 og) es = some (dn, S) ∧
  ∀ q H', Same H H' → (∀ a, q.own a → H a = none) → DeskAt K CD CS q og m S dn 0 H' → Q (.ref q.p) H'
abbrev N_rep : List Str := ["picture", "deeds", "manner", "found", "deed", "e"]
theorem sc_rep : FnScope N_rep ["picture", "deeds", "manner"] (defScope s_replayed) := ⟨rfl, rfl, rfl, by decide +kernel, rfl, by decide +kernel, by decide +kernel⟩
theorem ok_rep (G : Glob K mg) (F : DF K mg CD CS) {f : Addr} {fd : FuncData} (Fd : FunD K "replayed" "replayed" (defArgs s_replayed) (defBody s_replayed) (defScope s_replayed) [] [("manner", .str "worth")] f fd) (hmf : mg "replayed" = some (.ref f)) (cd : MkK P w K mg base CX0 5 CD N_init 2 ["manner"] (spInitD K CD CS)) (ci : CalD P w K mg base 1 "is_deed" R_isdeed) (cdo : CalG P w K mg base CX0 8 "do" ["desk", "deed"] (spDo K CD CS)) :
    CalKG P w K mg base CX0 9 "replayed" ["picture", "deeds", "manner"] 2 ["manner"] (spReplay K CD CS) := by
  have hb : ∃ g, KBn K fd ["picture", "deeds", "manner"] 2 ["manner"] g (fun vs zs => vs ++ zs) := by
    obtain ⟨mv, h⟩ := Fd.kbinds0 (ps := ["picture", "deeds", "manner"]) 2 ["manner"] [] (fun us mv ws => us ++ ws) (by simp) (by simp) (fun r1 r2 r3 => r1.append r3) (fun D doc pm an cdv ct us mv ws h1 h2 h3 => by
      match us, ws, h1, h3 with
      | [a, b], [d], _, _ => rfl)
    exact ⟨_, h⟩
  obtain ⟨gg, hb⟩ := hb
  refine ⟨f, fd, gg, Fd.ok sc_rep (fun vs H Q E h => ?_) (fun cdv A outer s H vs Q E hr h => ?_), hmf, Fd.kp, hb⟩
  · obtain ⟨p, l, og, m, es, dn, S, rfl, _⟩ := h
    rfl
  · obtain ⟨p, l, og, m, es, dn, S, rfl, pp, pok, hm, pl, hok, hlen, hrun, k⟩ := h
    refine ⟨_, PSs.nox (pss_s (X := (XG CX0 P w K mg base N_rep "replayed" s_replayed f cdv A outer s H E).nox)), ?_⟩
    have eo : EnvOk [some (DD K (dP og)), some (DD K (.list (es.map dDeed))), some (DD K (.str m)), none, none, none] (L2.start N_rep [p, l, .str m]) H := eok_d pp (eok_d pl (eok_d (.str m) (eok_reps 3)))
    refine sb_setE 3 (e_desk F cd hr (by decide) pok hm (e_n (d := dP og) 0 rfl) (e_n (d := .str m) 2 rfl) eo fun q H1 e1 fr d1 => ?_) sc_rep.nd
    have eo1 := (eo.up e1).set 3 (v := .ref q.p) (P := DeskV K CD CS q og m (S0 og) [] 0) ⟨rfl, d1⟩ mono_desk
    refine sb_iff (EvT.is (b' := false) (t_w (w_or (t_not (t_val (e_isi G.isi G.list bt_list (e_n (d := .list (es.map dDeed)) 1 rfl) kt_ll))) fun _ => w_or1 (t_not (t_val (e_all (bs := es.map fun _ => true) rfl G.all (EvD.is (e_lcA (own := [("deed", 4)]) (js := [4]) (xs := es) (emb := dDeed) (parts := fun e => [dDeed e]) (g := fun _ => .bool true) rfl sc_rep.nd (src_list (e_n 1 rfl)) (blkOk_by (own := [("deed", 4)]) (by rfl)) (by decide) (by omega) (fun _ _ => by simp [noL]) (fun _ _ _ _ _ _ _ => tg_name 4 sc_rep.nd) fun _ _ _ _ _ e he => e_call ci hr (by decide) rfl (a_cons (e_n (d := dDeed e) 4 rfl) a_nil) ⟨e, hok e he, rfl, rfl⟩) (by rw [List.map_map]; rfl))))))) (by simp)) eo1 fun H2 e2 => sb_nil ?_
    refine sb_pre (sS_of (ps_try_thru0 (pss_cons (ps_for PassesOwn.never rfl (pi_list pe_s) pg_s pss_s) pss_nil)) ?_)
    have e02 := e1.trans e2
    obtain ⟨a, xs, rfl, hq, dxs⟩ := dp_lst pl
    have hxl := dpa_len dxs
    rw [List.length_map] at hxl
    refine sE_slot 1 (v := .ref a) rfl ?_
    refine ⟨a, rfl, ⟨xs, e02.seq hq⟩, ?_⟩
    refine for_it (walk_list (K := K) (a := a) (xs := xs)) (fun i σ' H' => ∃ q' dn' S', σ'[3]? = some (some (.ref q'.p)) ∧ σ'.length = 6 ∧ Same H H' ∧ (∀ b, q'.own b → H b = none) ∧ runR (isW m) (S0 og) (es.take i) = some (dn', S') ∧ DeskAt K CD CS q' og m S' dn' 0 H') ?h0 (fun i σ' H' hi pv => by
      obtain ⟨q', dn', S', _, _, hs, _⟩ := pv
      exact hs.seq hq) ?hs ?hd
    case h0 => exact ⟨q, [], S0 og, rfl, rfl, e02, fr, rfl, desk_up e2 d1⟩
    case hd =>
      rintro σ' H' ⟨q', dn', S', hsl, _, hs, hf, hr', hd'⟩
      have e : es.take xs.length = es := List.take_of_length_le (by omega)
      rw [e, hrun] at hr'
      have hr' := Option.some.inj hr'
      injection hr' with h1 h2
      subst h1 h2
      refine sb_retE (sE_slot 3 hsl ?_)
      exact k q' H' hs hf hd'
    case hs =>
      rintro i x σ' H' H'' hi ⟨q', dn', S', hsl, hsz, hs, hf, hr', hd'⟩ ⟨rfl, hx⟩
      show sG _ _ _ _ _ _
      refine sG_of (pg_name (i := 4) sc_rep.nd rfl (.inl rfl) (.inr rfl)) ?_
      obtain ⟨d, hde, pd⟩ := dpa_get' (dpa_mono hs _ _ dxs) hx
      rw [List.getElem?_map] at hde
      obtain ⟨e, he, rfl⟩ := Option.map_eq_some_iff.mp hde
      have htk := take_succ_at he
      obtain ⟨⟨dn2, S2⟩, hr2⟩ := runR_take hrun (i + 1)
      rw [htk] at hr2
      obtain ⟨dn0, T0, r1, r2, r3⟩ := runR_back hr2
      rw [hr'] at r1
      have r1 := Option.some.inj r1
      injection r1 with r1a r1b
      subst r1a r1b
      have hem := List.mem_of_getElem? he
      obtain ⟨R1, R2, R3⟩ := run_ok (run0 pok) rfl i (es.take i) (by rw [List.length_take]; have := (List.getElem?_eq_some_iff.mp he).1; omega) (fun e h => hok e (List.mem_of_mem_take h)) dn' S' hr'
      obtain ⟨wd, hg, g⟩ := R1.good
      have hdl : dn'.length ≤ 400 := by rw [R3, List.length_take]; omega
      have hsl2 : S'.deeds.length ≤ 400 := by rw [R2, List.length_take]; omega
      have hgl := R1.gl
      show sB _ _ _ _ _
      refine sb_exprE (m_call cdo hr (by decide) rfl (sA2 ?_))
      have hsl' : (σ'.set 4 (some x))[3]? = some (some (.ref q'.p)) := by rw [List.getElem?_set_ne (by decide)]; exact hsl
      refine sE_slot 3 hsl' (sE_slot 4 (v := x) (by rw [List.getElem?_set_self (by omega)]) ?_)
      refine ⟨q', og, m, S', S2, dn', 0, e, x, wd, hg, rfl, hd', pd, hok e hem, g, by omega, by omega, by omega, r2, fun u H3 q3 s3 d3 => ?_⟩
      refine sb_nil ?_
      refine ⟨q3, dn2, S2, hsl'.trans ?_, by rw [List.length_set]; exact hsz, fun b o z => s3.st b o (fun w => by rw [hf b w] at z; cases z) (hs b o z), fun b hb => ?_, by rw [htk]; exact hr2, by rw [r3]; exact d3⟩
      · rw [s3.pl.1]
      · rcases hb with rfl | rfl | rfl
        · rw [s3.pl.1]
          exact hf _ (.inl rfl)
        · rw [s3.pl.2.1]
          exact hf _ (.inr (.inl rfl))
        · rcases s3.pl.2.2 with z | z
          · rw [z]
            exact hf _ (.inr (.inr rfl))
          · exact hs.free z
/-! ### origin_of -/
def R_orig (K : PySem.W.Frag) (CD CS : Addr) (P0 P' : VP) : Prop := ∃ q og m S dn n, P0 = DeskV K CD CS q og m S dn n ∧ RunOk og S ∧ S.gone.length ≤ 500 ∧ P' = DD K (dP og)
/-- the cells behind i steps back -/
inductive GR (og : Pic) : List GoneM → Pic → Prop where
  | nil : GR og [] og
  | cons {g : GoneM} {gs : List GoneM} {c : Pic} (ok : BackOk c g) (h : GR og gs (backM c g)) : GR og (g :: gs) c
theorem gr_of {og : Pic} {gs : List GoneM} {c : Pic} (h : GC og gs c) : GR og gs.reverse c := by
  induction h with
  | nil => exact .nil
  | snoc h ok e ih =>
    rw [List.reverse_append]
    exact .cons ok (by rw [e]; exact ih)
def cellsAt (c : Pic) (gs : List GoneM) : Nat → Pic
  | 0 => c
  | i + 1 => match gs with
    | [] => c
    | g :: gs => cellsAt (backM c g) gs i
theorem gr_step {og : Pic} : ∀ {gs : List GoneM} {c : Pic}, GR og gs c → ∀ (i : Nat) (g : GoneM), gs[i]? = some g → BackOk (cellsAt c gs i) g ∧ cellsAt c gs (i + 1) = backM (cellsAt c gs i) g
  | _, _, .nil, i, g, h => by simp at h
  | _, _, .cons (g := g0) (gs := gs) (c := c) ok h, 0, g, hg => by
    have : g0 = g := Option.some.inj hg
    subst this
    refine ⟨ok, ?_⟩
    show cellsAt (backM c g0) gs 0 = _
    cases gs <;> rfl
  | _, _, .cons (g := g0) (gs := gs) (c := c) ok h, i + 1, g, hg => gr_step h i g (by simpa using hg)
theorem gr_end {og : Pic} {gs : List GoneM} {c : Pic} (h : GR og gs c) : cellsAt c gs gs.length = og := by
  induction h with
  | nil => rfl
  | cons ok h ih => exact ih
def spOrig (K : PySem.W.Frag) (CD CS : Addr) : Sp := spS (R_orig K CD CS)
theorem e_rev {X : Cx} {ρ : Rho} {e : Expr} {ds : List PyData} {k : Nat} {p1 p2 p3 pos : Pos} (he : EvD X e ρ (.list ds)) : EvD X (.Subscript e (.Slice none none (some (.UnaryOp .USub (.Constant (.int 1) k p1) p2)) p3) pos) ρ (.list ds.reverse) := by
  exact ed_of (pe_revL pe_s) fun σ H eo Q q => he.run σ H eo _ fun v H1 e1 pv => by
    obtain ⟨a, xs, rfl, h1, d1⟩ := dp_lst pv
    have rv : ∀ {xs : List V} {ds : List PyData}, DpAll X.K H1 xs ds → DpAll X.K H1 xs.reverse ds.reverse := fun {xs ds} h => by
      induction ds generalizing xs with
      | nil => cases h; exact .nil
      | cons d ds ih =>
        cases h with
        | cons a b =>
          rw [List.reverse_cons, List.reverse_cons]
          exact dpa_app (ih b) (.cons a .nil)
    exact ⟨a, xs, rfl, h1, fun p hp => q _ _ (e1.trans (same_new hp)) (.lst (.of upd_same) (dpa_mono (same_new hp) _ _ (rv d1)))⟩
abbrev N_orig : List Str := ["desk", "cells", "step"]
theorem sc_orig : FnScope N_orig ["desk"] (defScope s_origin_of) := ⟨rfl, rfl, rfl, by decide +kernel, rfl, by decide +kernel, by decide +kernel⟩
theorem ok_orig (F : DF K mg CD CS) (D : DefAt K mg "origin_of" s_origin_of ["desk"]) (cp : CalM P w K mg base CX0 1 CD "picture" ["self"] (spS (R_pict K CD CS))) (cst : CalM P w K mg base CX0 1 CD "steps" ["self"] (spS (R_steps K CD CS))) (cb : CalD P w K mg base 2 "step_back" R_stepb) : CalG P w K mg base CX0 3 "origin_of" ["desk"] (spS (R_orig K CD CS)) :=
  fn_of0 D sc_orig (fun vs H Q E h => by
    obtain ⟨v, _, _, rfl, _⟩ := h
    rfl) fun f cdv A outer s H vs Q E hr h => by
    obtain ⟨v, P0, P', rfl, ⟨q, og, m, S, dn, n, rfl, R, hgl, rfl⟩, _, pv, k⟩ := h
    have eo : EnvOk [some (DeskV K CD CS q og m S dn n), none, none] (L2.start N_orig [v]) H := eok_some pv mono_desk (eok_reps 2)
    have gr := gr_of R.gc
    refine sb_cons (sr_set 1 (P := DD K (dP S.cells)) (e_tell F.cD cp hr (by decide) (e_nP 0 (P := DeskV K CD CS q og m S dn n) rfl mono_desk) mono_dd ⟨q, og, m, S, dn, n, rfl, rfl⟩ (desk_ins "picture")) sc_orig.nd) eo fun σ1 H1 e1 eo1 => ?_
    refine sb_cons (ρ' := [some (DeskV K CD CS q og m S dn n), some (DD K (dP og)), none]) (sr_forE (js := [2]) (xs := S.gone.reverse) (emb := dGone) (parts := fun g => [dGone g]) (fun i => [some (DeskV K CD CS q og m S dn n), some (DD K (dP (cellsAt S.cells S.gone.reverse i))), none]) (by rw [gr_end gr]) PassesOwn.never rfl (SrcR.is (src_list (e_rev (e_tell F.cD cst hr (by decide) (e_nP 0 (P := DeskV K CD CS q og m S dn n) rfl mono_desk) mono_dd ⟨q, og, m, S, dn, n, rfl, rfl⟩ (desk_ins "steps")))) (by rw [List.map_reverse])) (by rw [show cellsAt S.cells S.gone.reverse 0 = S.cells from (by cases S.gone.reverse <;> simp [cellsAt])]; repeat (first | exact imp_nil | apply imp_id | apply imp_none)) (fun _ _ => tg_name 2 sc_orig.nd) fun i g hg => ?_) eo1 fun σ2 H2 e2 eo2 => ?_
    · obtain ⟨ok, ec⟩ := gr_step gr i g hg
      rw [ec]
      exact b_out (b_set 1 (e_call cb hr (by decide) rfl (a_cons (e_n (d := dP (cellsAt S.cells S.gone.reverse i)) 1 rfl) (a_cons (e_n (d := dGone g) 2 rfl) a_nil)) ⟨_, g, ok, rfl, rfl⟩) b_nil sc_orig.nd) (by repeat (first | exact imp_nil | apply imp_id | apply imp_none))
    · exact sb_retE ((e_n (d := dP og) 1 rfl).run _ _ eo2 _ fun v H3 e3 pv => k v H3 ((e1.trans e2).trans e3) pv)
end
end SH

/-! ## SHTx -/
set_option Elab.async false
set_option linter.all false
set_option maxRecDepth 100000
set_option maxHeartbeats 4000000
/-! texts: the log written and read -/
namespace SH
open PySem PySem.Spec PyProof.Rows L2
def tx (i : Int) : Str := toString i
structure TxOk (i : Int) : Prop where
  l1 : 1 ≤ (tx i).length
  l2 : (tx i).length ≤ 2
  dig : ∀ c ∈ (tx i).cps.toList, c ∈ ("0123456789" : Str).cps.toList
  int : PySem.intText? (tx i) = some i
theorem tx_ok {i : Int} (h0 : 0 ≤ i) (h1 : i ≤ 20) : TxOk i := by
  have : i = 0 ∨ i = 1 ∨ i = 2 ∨ i = 3 ∨ i = 4 ∨ i = 5 ∨ i = 6 ∨ i = 7 ∨ i = 8 ∨ i = 9 ∨ i = 10 ∨ i = 11 ∨ i = 12 ∨ i = 13 ∨ i = 14 ∨ i = 15 ∨ i = 16 ∨ i = 17 ∨ i = 18 ∨ i = 19 ∨ i = 20 := by omega
  rcases this with h | h | h | h | h | h | h | h | h | h | h | h | h | h | h | h | h | h | h | h | h <;> (subst h; exact ⟨by decide +kernel, by decide +kernel, by decide +kernel, by decide +kernel⟩)
theorem dig_no {c : Nat} (h : c ∈ ("0123456789" : Str).cps.toList) : c ≠ 32 ∧ c ≠ 10 := by
  have h : c ∈ ([48, 49, 50, 51, 52, 53, 54, 55, 56, 57] : List Nat) := h
  simp only [List.mem_cons, List.not_mem_nil, or_false] at h
  omega
def lineOf (e : DeedM) : Str := Txt.join " " (e.1 :: e.2.map tx)
def logText (es : List DeedM) : Str := Txt.join "" (es.map fun e => lineOf e ++ "\n")
theorem word_no {x : Str} (h : x ∈ (["narrow", "flatten", "widen", "keep", "drop", "free"] : List Str)) : (∀ c ∈ x.cps.toList, c ≠ 32 ∧ c ≠ 10) ∧ x.length ≤ 7 := by
  simp only [List.mem_cons, List.not_mem_nil, or_false] at h
  rcases h with rfl | rfl | rfl | rfl | rfl | rfl <;> exact ⟨by decide +kernel, by decide +kernel⟩
theorem parts_ok {e : DeedM} (k : DeedWr e) : ∀ p ∈ e.1 :: e.2.map tx, (∀ c ∈ p.cps.toList, c ≠ 32 ∧ c ≠ 10) ∧ p.length ≤ 7 := fun p hp => by
  rcases List.mem_cons.mp hp with rfl | hp
  · exact word_no (deed_word k.1)
  · obtain ⟨i, hi, rfl⟩ := List.mem_map.mp hp
    have t := tx_ok (k.2 i hi).1 (k.2 i hi).2
    exact ⟨fun c hc => dig_no (t.dig c hc), Nat.le_trans t.l2 (by decide)⟩
theorem mem_joinL {S : List Nat} {c : Nat} : ∀ {ps : List (List Nat)}, c ∈ TL.joinL S ps → c ∈ S ∨ ∃ p ∈ ps, c ∈ p
  | [], h => by simp [TL.joinL] at h
  | [p], h => .inr ⟨p, List.mem_singleton.mpr rfl, h⟩
  | p :: q :: r, h => by
    have h : c ∈ p ++ (S ++ TL.joinL S (q :: r)) := h
    rcases List.mem_append.mp h with h | h
    · exact .inr ⟨p, List.mem_cons_self, h⟩
    rcases List.mem_append.mp h with h | h
    · exact .inl h
    · rcases mem_joinL h with h | ⟨z, hz, h⟩
      · exact .inl h
      · exact .inr ⟨z, List.mem_cons_of_mem _ hz, h⟩
theorem tl_Txt (y : Str) (ps : List Str) : TL.tl (Txt.join y ps) = TL.joinL (TL.tl y) (ps.map TL.tl) := by rw [TL.join_eq, TL.tl_join]
theorem line_no {e : DeedM} (k : DeedWr e) : 10 ∉ TL.tl (lineOf e) := fun h => by
  unfold lineOf at h
  rw [tl_Txt] at h
  rcases mem_joinL h with h | ⟨p, hp, h⟩
  · have h : (10 : Nat) ∈ ([32] : List Nat) := h
    simp at h
  · obtain ⟨z, hz, rfl⟩ := List.mem_map.mp hp
    exact ((parts_ok k z hz).1 10 h).2 rfl
theorem line_split {e : DeedM} (k : DeedWr e) : Txt.split (lineOf e) " " = e.1 :: e.2.map tx :=
  TL.split_join (y := " ") (s := 32) (S := []) rfl (by decide +kernel) (by simp) fun p hp h => ((parts_ok k p hp).1 32 h).1 rfl
theorem joinL_nil : ∀ ps : List (List Nat), TL.joinL [] ps = ps.flatten
  | [] => rfl
  | [p] => by simp [TL.joinL]
  | p :: q :: r => by
    show p ++ ([] ++ TL.joinL [] (q :: r)) = _
    rw [List.nil_append, joinL_nil (q :: r)]
    rfl
theorem joinL_end (c : Nat) : ∀ ps : List (List Nat), TL.joinL [c] (ps ++ [[]]) = (ps.map fun p => p ++ [c]).flatten
  | [] => rfl
  | [p] => by simp [TL.joinL]
  | p :: q :: r => by
    show p ++ ([c] ++ TL.joinL [c] ((q :: r) ++ [[]])) = _
    rw [joinL_end c (q :: r)]
    simp
theorem str_ext {a b : Str} (h : TL.tl a = TL.tl b) : a = b := by
  cases a
  cases b
  simp only [Str.mk.injEq]
  exact Array.toList_inj.mp h
theorem log_lines (es : List DeedM) : logText es = Txt.join "\n" (es.map lineOf ++ [("" : Str)]) := by
  refine str_ext ?_
  unfold logText
  rw [tl_Txt, tl_Txt, List.map_map, List.map_append, List.map_map]
  show TL.joinL [] _ = TL.joinL [10] ((es.map (TL.tl ∘ lineOf)) ++ [[]])
  rw [joinL_nil, joinL_end, List.map_map]
  congr 1
  refine List.map_congr_left fun e _ => ?_
  show TL.tl (lineOf e ++ "\n") = TL.tl (lineOf e) ++ [10]
  rw [TL.tl_append]
  rfl
theorem log_split {es : List DeedM} (h : ∀ e ∈ es, DeedWr e) : Txt.split (logText es) "\n" = es.map lineOf ++ [("" : Str)] := by
  rw [log_lines]
  refine TL.split_join (y := "\n") (s := 10) (S := []) rfl (by decide +kernel) (by simp) fun p hp => ?_
  rcases List.mem_append.mp hp with hp | hp
  · obtain ⟨e, he, rfl⟩ := List.mem_map.mp hp
    exact line_no (h e he)
  · rw [List.mem_singleton.mp hp]
    decide +kernel
theorem sum_le {c : Nat} : ∀ {ys : List Str}, (∀ y ∈ ys, y.length ≤ c) → (ys.map (·.length)).sum ≤ ys.length * c
  | [], _ => by simp
  | y :: ys, h => by
    have a := sum_le (ys := ys) fun z hz => h z (List.mem_cons_of_mem _ hz)
    have b := h y List.mem_cons_self
    simp only [List.map_cons, List.sum_cons, List.length_cons]
    rw [Nat.succ_mul]
    omega
theorem len_joinL {S : List Nat} : ∀ {ps : List (List Nat)}, (TL.joinL S ps).length ≤ (ps.map (·.length)).sum + ps.length * S.length
  | [] => by simp [TL.joinL]
  | [p] => by simp [TL.joinL]
  | p :: q :: r => by
    have a := len_joinL (S := S) (ps := q :: r)
    show (p ++ (S ++ TL.joinL S (q :: r))).length ≤ _
    rw [List.length_append, List.length_append]
    simp only [List.map_cons, List.sum_cons, List.length_cons] at a ⊢
    have : (r.length + 1 + 1) * S.length = (r.length + 1) * S.length + S.length := Nat.succ_mul ..
    omega
theorem len_join {y : Str} {ps : List Str} : (Txt.join y ps).length ≤ (ps.map (·.length)).sum + ps.length * y.length := by
  have e : (Txt.join y ps).length = (TL.tl (Txt.join y ps)).length := (Array.length_toList ..).symm
  rw [e, tl_Txt]
  refine Nat.le_trans len_joinL ?_
  rw [List.map_map, List.length_map]
  exact Nat.le_refl _
theorem parts_len {e : DeedM} (k : DeedWr e) : (e.1 :: e.2.map tx).length ≤ 5 := by
  rcases k.1 with ⟨_, z⟩ | ⟨_, x, y, a, b, z⟩
  · rw [z]; simp
  · rw [z]; simp
theorem line_len {e : DeedM} (k : DeedWr e) : (lineOf e).length ≤ 40 := by
  have a := len_join (y := " ") (ps := e.1 :: e.2.map tx)
  have b := sum_le (c := 7) (ys := e.1 :: e.2.map tx) fun y hy => (parts_ok k y hy).2
  have c := parts_len k
  have d : (" " : Str).length = 1 := rfl
  unfold lineOf
  rw [d] at a
  omega
theorem log_sum {es : List DeedM} (h : ∀ e ∈ es, DeedWr e) : ((es.map fun e => lineOf e ++ "\n").map (·.length)).sum ≤ es.length * 41 := by
  have := sum_le (c := 41) (ys := es.map fun e => lineOf e ++ "\n") fun y hy => by
    obtain ⟨e, he, rfl⟩ := List.mem_map.mp hy
    rw [lenApp]
    have := line_len (h e he)
    have d : ("\n" : Str).length = 1 := rfl
    omega
  rw [List.length_map] at this
  exact this
theorem log_len {es : List DeedM} (h : ∀ e ∈ es, DeedWr e) : (logText es).length ≤ es.length * 41 := by
  have a := len_join (y := "") (ps := es.map fun e => lineOf e ++ "\n")
  have b := log_sum h
  have d : ("" : Str).length = 0 := rfl
  unfold logText
  rw [d, Nat.mul_zero] at a
  omega
theorem cut_last {α : Type} (xs : List α) (x : α) : cutD (xs ++ [x]) none (some (-1)) = xs := by
  unfold cutD
  have e : HT.sIx (xs ++ [x]).length (xs ++ [x]).length (some (-1)) = xs.length := by
    unfold HT.sIx
    simp
    try omega
  rw [e]
  show ((xs ++ [x]).drop 0).take (xs.length - 0) = xs
  rw [List.drop_zero, Nat.sub_zero, List.take_left']
  rfl
section
variable {X : Cx} {ρ : Rho} {e e2 : Expr} {pos apos : Pos}
theorem e_join {z : Str} {ys : List Str} (h1 : EvD X e ρ (.str z)) (h2 : EvD X e2 ρ (.list (ys.map .str))) (hz : (ys.map (·.length)).sum + ys.length * z.length ≤ 16777216) (hs : starEach [e2] X.env = [(false, eval e2 X.env)] := by rfl) (hbase : attributeBase e "join" X.env (eval e X.env) = eval e X.env := by rfl) (hline : (apos.endLine == pos.line) = true := by rfl) : EvD X (.Call (.Attribute e "join" apos) [e2] [] pos) ρ (.str (Txt.join z ys)) :=
  ed_of (pe_join pe_s pe_s hs hbase hline) fun σ H eo Q k => h1.run σ H eo _ fun v H1 e1 pv => by
    cases pv
    refine ⟨⟨z, rfl⟩, h2.run σ H1 (eo.up e1) _ fun u H2 e2' pu => ?_⟩
    obtain ⟨a, xs, rfl, hq, d1⟩ := dp_lst pu
    rw [dpa_strs d1] at hq
    exact ⟨z, a, ys, rfl, rfl, .inl hq, hz, k _ H2 (e1.trans e2') (.str _)⟩
theorem e_split {z y : Str} (h1 : EvD X e ρ (.str z)) (h2 : EvD X e2 ρ (.str y)) (hy : (y.length == 0) = false) (hz : z.length + 2 ≤ sizeLine) (hs : starEach [e2] X.env = [(false, eval e2 X.env)] := by rfl) (hbase : attributeBase e "split" X.env (eval e X.env) = eval e X.env := by rfl) (hline : (apos.endLine == pos.line) = true := by rfl) : EvD X (.Call (.Attribute e "split" apos) [e2] [] pos) ρ (.list ((Txt.split z y).map .str)) :=
  ed_of (pe_split pe_s pe_s hs hbase hline) fun σ H eo Q k => h1.run σ H eo _ fun v H1 e1 pv => by
    cases pv
    refine ⟨⟨z, rfl⟩, h2.run σ H1 (eo.up e1) _ fun u H2 e2' pu => ?_⟩
    cases pu
    exact ⟨z, y, rfl, rfl, hy, hz, fun p hp => k _ _ ((e1.trans e2').trans (same_new hp)) (.lst (.of upd_same) (dpa_of_strs _))⟩
end
section
variable {P : Program} {w : World} {K : PySem.W.Frag} {mg : Str → Option Value} {base : Heap}
def R_numof (ds : List PyData) (d : PyData) : Prop := ∃ i : Int, 0 ≤ i ∧ i ≤ 20 ∧ ds = [.str (tx i)] ∧ d = .int i
theorem sc_numof : FnScope ["word", "sign"] ["word"] (defScope s_number_of) := ⟨rfl, rfl, rfl, by decide +kernel, rfl, by decide +kernel, by decide +kernel⟩
theorem ok_numof (G : Glob K mg) (D : DefAt K mg "number_of" s_number_of ["word"]) : CalD P w K mg base 1 "number_of" R_numof := by
  refine cal_pure D sc_numof (fun ds d h => ?_) fun f cdv A outer s H E hr ds d h => ?_
  · obtain ⟨i, _, _, rfl, _⟩ := h
    rfl
  · obtain ⟨i, h0, h1, rfl, rfl⟩ := h
    have t := tx_ok h0 h1
    have t1 := t.l1
    have t2 := t.l2
    refine b_if_f (EvT.is (b' := false) (t_w (w_or (t_not (t_chain c_le c_le e_int (e_lenS G.len (e_n (d := .str (tx i)) 0 rfl) (by rw [sizeLine_eq]; omega)) e_int)) fun _ => w_or1 (t_not (t_val (e_all (bs := (tx i).cps.toList.map fun _ => true) rfl G.all (EvD.is (e_lcA (own := [("sign", 1)]) (js := [1]) (xs := (tx i).cps.toList) (emb := fun c => .str ⟨#[c]⟩) (parts := fun c => [.str ⟨#[c]⟩]) (g := fun _ => .bool true) rfl sc_numof.nd (src_str (e_n (d := .str (tx i)) 0 rfl)) (blkOk_by (own := [("sign", 1)]) (by rfl)) (by decide) (by rw [Array.length_toList]; show (tx i).length ≤ _; omega) (fun _ _ => by simp [noL]) (fun _ _ _ _ _ _ _ => tg_name 1 sc_numof.nd) fun _ _ _ _ _ c hc => EvD.is (e_cmp c_inSign (e_n (d := .str ⟨#[c]⟩) 1 rfl) (e_gs G.fig)) (by rw [decide_eq_true (t.dig c hc)])) (by rw [List.map_map]; rfl))))))) ?_) (b_ret (e_intS G.int (e_n (d := .str (tx i)) 0 rfl) t.int (by omega)))
    rw [decide_eq_true (show (1 : Int) ≤ ((tx i).length : Int) by omega), decide_eq_true (show ((tx i).length : Int) ≤ 2 by omega)]
    simp
def R_plain (ds : List PyData) (d : PyData) : Prop := ∃ e, DeedWr e ∧ ds = [dDeed e] ∧ d = .bool true
theorem sc_plain : FnScope ["deed", "one"] ["deed"] (defScope s_is_plain_deed) := ⟨rfl, rfl, rfl, by decide +kernel, rfl, by decide +kernel, by decide +kernel⟩
theorem cut_tail {α : Type} (x : α) (xs : List α) : cutD (x :: xs) (some 1) none = xs := by
  rw [cut_post (by decide) (by simp; omega)]
  rfl
theorem ok_plain (G : Glob K mg) (D : DefAt K mg "is_plain_deed" s_is_plain_deed ["deed"]) (c1 : CalD P w K mg base 1 "is_deed" R_isdeed) (c2 : CalD P w K mg base 1 "is_number" R_isnum) : CalD P w K mg base 2 "is_plain_deed" R_plain := by
  refine cal_pure D sc_plain (fun ds d h => ?_) fun f cdv A outer s H E hr ds d h => ?_
  · obtain ⟨e, _, rfl, _⟩ := h
    rfl
  · obtain ⟨e, k, rfl, rfl⟩ := h
    have hl : e.2.length ≤ 4 := by
      have := parts_len k
      simpa using this
    refine b_retd (e_and (e_call c1 hr (by decide) rfl (a_cons (e_n (d := dDeed e) 0 rfl) a_nil) ⟨e, k.1, rfl, rfl⟩) fun _ => e_one (e_all (bs := e.2.map fun _ => true) rfl G.all (EvD.is (e_lcA (own := [("one", 1)]) (js := [1]) (xs := e.2) (emb := .int) (parts := fun c => [.int c]) (g := fun _ => .bool true) rfl sc_plain.nd (SrcR.is (src_tup (e_sl (ds := .str e.1 :: e.2.map .int) (e_n (d := dDeed e) 0 rfl) (o_some e_int) o_none)) (cut_tail _ _)) (blkOk_by (own := [("one", 1)]) (by rfl)) (by decide) (by omega) (fun _ _ => by simp [noL]) (fun _ _ _ _ _ _ _ => tg_name 1 sc_plain.nd) fun _ _ _ _ _ i hi => e_call c2 hr (by decide) rfl (a_cons (e_n (d := .int i) 1 rfl) (a_cons e_int (a_cons (e_gi G.side) a_nil))) ⟨i, 0, 20, rfl, by rw [decide_eq_true (k.2 i hi).1, decide_eq_true (k.2 i hi).2]; rfl⟩) (by rw [List.map_map]; rfl)))) (by simp)
def R_logtext (ds : List PyData) (d : PyData) : Prop := ∃ es, (∀ e ∈ es, DeedWr e) ∧ es.length ≤ 400 ∧ ds = [.list (es.map dDeed)] ∧ d = .str (logText es)
theorem sc_logtext : FnScope ["deeds", "deed", "part"] ["deeds"] (defScope s_log_text) := ⟨rfl, rfl, rfl, by decide +kernel, rfl, by decide +kernel, by decide +kernel⟩
def partTx : PyData → Str
  | .str x => x
  | .int i => tx i
  | _ => ""
theorem ok_logtext (G : Glob K mg) (D : DefAt K mg "log_text" s_log_text ["deeds"]) (c1 : CalD P w K mg base 2 "is_plain_deed" R_plain) : CalD P w K mg base 3 "log_text" R_logtext := by
  refine cal_pure D sc_logtext (fun ds d h => ?_) fun f cdv A outer s H E hr ds d h => ?_
  · obtain ⟨es, _, _, rfl, _⟩ := h
    rfl
  · obtain ⟨es, k, hl, rfl, rfl⟩ := h
    refine b_if_f (EvT.is (b' := false) (t_w (w_or (t_not (t_val (e_isi G.isi G.list bt_list (e_n (d := .list (es.map dDeed)) 0 rfl) kt_ll))) fun _ => w_or1 (t_not (t_val (e_all (bs := es.map fun _ => true) rfl G.all (EvD.is (e_lcA (own := [("deed", 1)]) (js := [1]) (xs := es) (emb := dDeed) (parts := fun e => [dDeed e]) (g := fun _ => .bool true) rfl sc_logtext.nd (src_list (e_n 0 rfl)) (blkOk_by (own := [("deed", 1)]) (by rfl)) (by decide) (by omega) (fun _ _ => by simp [noL]) (fun _ _ _ _ _ _ _ => tg_name 1 sc_logtext.nd) fun _ _ _ _ _ e he => e_call c1 hr (by decide) rfl (a_cons (e_n (d := dDeed e) 1 rfl) a_nil) ⟨e, k e he, rfl, rfl⟩) (by rw [List.map_map]; rfl))))))) (by simp)) ?_
    refine b_ret (e_join e_str (EvD.is (d' := .list ((es.map fun e => lineOf e ++ "\n").map .str)) (e_lcA (own := [("deed", 1)]) (js := [1]) (xs := es) (emb := dDeed) (parts := fun e => [dDeed e]) (g := fun e => .str (lineOf e ++ "\n")) rfl sc_logtext.nd (src_list (e_n 0 rfl)) (blkOk_by (own := [("deed", 1)]) (by rfl)) (by decide) (by omega) (fun _ _ => by simp [noL]) (fun _ _ _ _ _ _ _ => tg_name 1 sc_logtext.nd) fun s2 H2 C2 cl2 fp2 e he => ?el) (by rw [List.map_map]; rfl)) ?len)
    case len =>
      have := log_sum k
      have d : ("" : Str).length = 0 := rfl
      rw [d, Nat.mul_zero]
      omega
    case el =>
      have hll := line_len (k e he)
      have hpl := parts_len (k e he)
      refine e_addS (e_join (ys := e.1 :: e.2.map tx) e_str (EvD.is (e_lcA (own := [("part", 2)]) (js := [2]) (xs := (.str e.1 :: e.2.map .int : List PyData)) (emb := id) (parts := fun d => [d]) (g := fun d => .str (partTx d)) rfl sc_logtext.nd (SrcR.is (src_tup (e_n (d := dDeed e) 1 rfl)) (by rw [List.map_id])) (blkOk_by (own := [("part", 2)]) (by rfl)) (by decide) (by simp at hpl ⊢; omega) (fun _ _ => by simp [noL]) (fun _ _ _ _ _ _ _ => tg_name 2 sc_logtext.nd) fun s3 H3 C3 cl3 fp3 d hd => ?pt) ?eq) ?sz) e_str (by rw [sizeLine_eq]; show _ + 1 ≤ _; omega)
      case eq =>
        rw [List.map_cons, List.map_map, List.map_cons, List.map_map]
        rfl
      case sz =>
        have a := sum_le (c := 7) (ys := e.1 :: e.2.map tx) fun y hy => (parts_ok (k e he) y hy).2
        have d : (" " : Str).length = 1 := rfl
        rw [d]
        omega
      case pt =>
        rcases List.mem_cons.mp hd with rfl | hd
        · exact e_strS G.str (e_n (d := .str e.1) 2 rfl)
        · obtain ⟨i, hi, rfl⟩ := List.mem_map.mp hd
          have hi2 := (k e he).2 i hi
          exact e_strI G.str (e_n (d := .int i) 2 rfl) (by
            have : i.natAbs ≤ 20 := by omega
            exact Nat.lt_of_le_of_lt (Nat.log2_le_self _) (by omega))
def R_deedin (ds : List PyData) (d : PyData) : Prop := ∃ e, DeedWr e ∧ ds = [.str (lineOf e)] ∧ d = dDeed e
theorem sc_deedin : FnScope ["line", "word", "parts", "part"] ["line"] (defScope s_deed_in) := ⟨rfl, rfl, rfl, by decide +kernel, rfl, by decide +kernel, by decide +kernel⟩
theorem ok_deedin (G : Glob K mg) (D : DefAt K mg "deed_in" s_deed_in ["line"]) (c1 : CalD P w K mg base 1 "number_of" R_numof) : CalD P w K mg base 2 "deed_in" R_deedin := by
  refine cal_pure D sc_deedin (fun ds d h => ?_) fun f cdv A outer s H E hr ds d h => ?_
  · obtain ⟨e, _, rfl, _⟩ := h
    rfl
  · obtain ⟨e, k, rfl, rfl⟩ := h
    have hll := line_len k
    have hpl := parts_len k
    refine b_s (sr_star 1 2 (d := .str e.1) (ds := (e.2.map tx).map .str) (e_w (e_split (y := " ") (e_n (d := .str (lineOf e)) 0 rfl) e_str rfl (by rw [sizeLine_eq]; omega)) (fun v H p => .inr (by rw [line_split k] at p; exact p)) (fun v H H' e p => p.imp (dp_mono e _ _) (dp_mono e _ _))) (by simp at hpl ⊢; omega) rfl sc_deedin.nd) ?_
    exact b_retd (e_cat (e_tup (a_cons (e_n (d := .str e.1) 1 rfl) a_nil) (by simp)) (e_tuple G.tup (e_lcA (own := [("part", 3)]) (js := [3]) (xs := e.2) (emb := fun i => .str (tx i)) (parts := fun i => [.str (tx i)]) (g := fun i => .int i) rfl sc_deedin.nd (SrcR.is (src_list (e_n (d := .list ((e.2.map tx).map .str)) 2 rfl)) (by rw [List.map_map]; rfl)) (blkOk_by (own := [("part", 3)]) (by rfl)) (by decide) (by simp at hpl; omega) (fun _ _ => by simp [noL]) (fun _ _ _ _ _ _ _ => tg_name 3 sc_deedin.nd) fun _ _ _ _ _ i hi => e_call c1 hr (by decide) rfl (a_cons (e_n (d := .str (tx i)) 3 rfl) a_nil) ⟨i, (k.2 i hi).1, (k.2 i hi).2, rfl, rfl⟩)) (by rw [sizeLine_eq]; simp at hpl ⊢; omega)) rfl
def R_readlog (ds : List PyData) (d : PyData) : Prop := ∃ es, (∀ e ∈ es, DeedWr e) ∧ es.length ≤ 400 ∧ ds = [.str (logText es)] ∧ d = .list (es.map dDeed)
theorem sc_readlog : FnScope ["text", "found", "line", "deed"] ["text"] (defScope s_read_log) := ⟨rfl, rfl, rfl, by decide +kernel, rfl, by decide +kernel, by decide +kernel⟩
theorem ok_readlog (G : Glob K mg) (D : DefAt K mg "read_log" s_read_log ["text"]) (c1 : CalD P w K mg base 2 "deed_in" R_deedin) (c2 : CalD P w K mg base 2 "is_plain_deed" R_plain) (c3 : CalD P w K mg base 3 "log_text" R_logtext) : CalD P w K mg base 4 "read_log" R_readlog := by
  refine cal_pure D sc_readlog (fun ds d h => ?_) fun f cdv A outer s H E hr ds d h => ?_
  · obtain ⟨es, _, _, rfl, _⟩ := h
    rfl
  · obtain ⟨es, k, hl, rfl, rfl⟩ := h
    have hlen := log_len k
    refine b_if_f (EvT.is (t_not (t_val (e_isi G.isi G.str bt_str (e_n (d := .str (logText es)) 0 rfl) kt_ss))) rfl) ?_
    refine b_s (sr_out (sr_setLc 1 (own := [("line", 2)]) (js := [2]) (xs := es) (emb := fun e => .str (lineOf e)) (parts := fun e => [.str (lineOf e)]) (f := fun _ => true) (g := dDeed) rfl sc_readlog.nd (SrcR.is (src_list (e_slL (e_split (y := "\n") (e_n (d := .str (logText es)) 0 rfl) e_str rfl (by rw [sizeLine_eq]; omega)) o_none (o_some (e_neg e_int)))) (by rw [log_split k, List.map_append]; show cutD (_ ++ [PyData.str ""]) none (some (-1)) = _; rw [cut_last, List.map_map]; rfl)) (blkOk_by (own := [("line", 2)]) (by rfl)) (by decide) (by omega) (fun e _ => noL_dDeed e) (fun _ _ _ _ _ _ _ => tg_name 2 sc_readlog.nd) (fun _ _ _ _ _ _ _ => ts_nil) fun _ _ _ _ _ e he _ => e_call c1 hr (by decide) rfl (a_cons (e_n (d := .str (lineOf e)) 2 rfl) a_nil) ⟨e, k e he, rfl, rfl⟩) (by
      rw [List.filter_eq_self.mpr fun _ _ => rfl]
      exact Imp.refl)) ?_
    refine b_if_f (EvT.is (b' := false) (t_w (w_or (t_not (t_val (e_all (bs := es.map fun _ => true) rfl G.all (EvD.is (e_lcA (own := [("deed", 3)]) (js := [3]) (xs := es) (emb := dDeed) (parts := fun e => [dDeed e]) (g := fun _ => .bool true) rfl sc_readlog.nd (src_list (e_n (d := .list (es.map dDeed)) 1 rfl)) (blkOk_by (own := [("deed", 3)]) (by rfl)) (by decide) (by omega) (fun _ _ => by simp [noL]) (fun _ _ _ _ _ _ _ => tg_name 3 sc_readlog.nd) fun _ _ _ _ _ e he => e_call c2 hr (by decide) rfl (a_cons (e_n (d := dDeed e) 3 rfl) a_nil) ⟨e, k e he, rfl, rfl⟩) (by rw [List.map_map]; rfl))))) fun _ => w_or1 (t_cmp c_neS (e_call c3 hr (by decide) rfl (a_cons (e_n (d := .list (es.map dDeed)) 1 rfl) a_nil) ⟨es, k, hl, rfl, rfl⟩) (e_n (d := .str (logText es)) 0 rfl)))) (by rw [decide_eq_true rfl]; simp)) (b_ret (e_n 1 rfl))
end
end SH

/-! ## SHD1 -/
set_option Elab.async false
set_option linter.all false
set_option maxRecDepth 100000
set_option maxHeartbeats 4000000
/-! what the law draws -/
namespace SH
open PySem PySem.Spec PyProof.Rows L2
def seqM (r : Int) : Nat → Int
  | 0 => r
  | i + 1 => seqM r i / 1000000
theorem seqM_succ (r : Int) : ∀ i, seqM (r / 1000000) i = seqM r (i + 1)
  | 0 => rfl
  | i + 1 => by
    show seqM (r / 1000000) i / 1000000 = seqM r (i + 1) / 1000000
    rw [seqM_succ r i]
def cnt : Nat → Int → Nat
  | 0, _ => 0
  | t + 1, r => if r > 0 then 1 + cnt t (r / 1000000) else 0
theorem cnt_lt : ∀ (t : Nat) (r : Int) (i : Nat), i < cnt t r → seqM r i > 0 ∧ i < t
  | 0, r, i, h => by simp [cnt] at h
  | t + 1, r, i, h => by
    unfold cnt at h
    by_cases hr : r > 0
    · rw [if_pos hr] at h
      cases i with
      | zero => exact ⟨hr, Nat.zero_lt_succ _⟩
      | succ i =>
        have := cnt_lt t (r / 1000000) i (by omega)
        rw [seqM_succ] at this
        exact ⟨this.1, by omega⟩
    · rw [if_neg hr] at h
      omega
theorem cnt_end : ∀ (t : Nat) (r : Int), cnt t r ≤ t ∧ (seqM r (cnt t r) > 0 → cnt t r = t)
  | 0, r => ⟨Nat.le_refl _, fun _ => rfl⟩
  | t + 1, r => by
    unfold cnt
    by_cases hr : r > 0
    · rw [if_pos hr]
      obtain ⟨a, b⟩ := cnt_end t (r / 1000000)
      refine ⟨by omega, fun h => ?_⟩
      have e : 1 + cnt t (r / 1000000) = cnt t (r / 1000000) + 1 := by omega
      rw [e, ← seqM_succ] at h
      have := b h
      omega
    · rw [if_neg hr]
      exact ⟨Nat.zero_le _, fun h => absurd h hr⟩
def c1M (cell k : Int) : Int := (cell % 2147483563 * 69069 + 104723 * (k + 1)) % 2147483563
def c2M (c : Int) : Int := (c * c + c / 3) % 2147483399
def finM (cell k many : Int) : Int := (c2M (c1M cell k) * c2M (c1M cell k) + c2M (c1M cell k) / 7) % 2147483647 / 11 % many
def drawnM (ns : List Int) (k many : Int) : Int :=
  if ns = [] then finM (7 * k) k many else
    if 10 ^ 18 ≤ ns.getD (k % (ns.length : Int)).toNat 0 ∧ k / (ns.length : Int) < 60 then
      if seqM (ns.getD (k % (ns.length : Int)).toNat 0 / 10 ^ 18) (cnt (k / (ns.length : Int)).toNat (ns.getD (k % (ns.length : Int)).toNat 0 / 10 ^ 18)) > 0 then
        seqM (ns.getD (k % (ns.length : Int)).toNat 0 / 10 ^ 18) (cnt (k / (ns.length : Int)).toNat (ns.getD (k % (ns.length : Int)).toNat 0 / 10 ^ 18)) % 1000000 % many
      else finM (ns.getD (k % (ns.length : Int)).toNat 0 + 6553 * (k / (ns.length : Int))) k many
    else finM (ns.getD (k % (ns.length : Int)).toNat 0 + 6553 * (k / (ns.length : Int))) k many
theorem drawn_ok {ns : List Int} {k many : Int} (h : 0 < many) : 0 ≤ drawnM ns k many ∧ drawnM ns k many < many := by
  have key : ∀ x : Int, 0 ≤ x % many ∧ x % many < many := fun x => ⟨Int.emod_nonneg _ (by omega), Int.emod_lt_of_pos _ h⟩
  unfold drawnM finM
  split
  · exact key _
  · split
    · split
      · exact key _
      · exact key _
    · exact key _
/-- while, its turns counted -/
theorem sr_while {X : Cx} {ρ : Rho} {c : Expr} {body : List Stmt} {pos : Pos} (n : Nat) (inv : Nat → Rho) (hp : PassesOwn (model X.prog X.w) X.A X.env X.xe) (h0 : Imp ρ (inv 0)) (ht : ∀ i, i < n → EvT X c (inv i) true) (hf : EvT X c (inv n) false) (hb : ∀ i, i < n → BR X body (inv i) (.nx (inv (i + 1)))) : SR X (.While c body [] pos) ρ (inv n) :=
  ⟨fun σ H eo D q => sS_of (ps_while hp pt_s pss_s) (by
    refine ⟨fun m σ' H' => ∃ i, i ≤ n ∧ m = n - i ∧ Same H H' ∧ EnvOk (inv i) σ' H', ⟨n, 0, Nat.zero_le _, rfl, Same.refl H, h0 _ _ eo⟩, ?_⟩
    rintro m σ' H' ⟨i, hi, rfl, hs, eo'⟩
    by_cases hlt : i < n
    · refine (ht i hlt).run σ' H' eo' _ fun H1 e1 => ?_
      rw [if_pos rfl]
      refine ⟨fun σ2 H2 => ∃ j, j ≤ n ∧ n - j < n - i ∧ Same H H2 ∧ EnvOk (inv j) σ2 H2, fun σ2 H2 ⟨j, a, b, cc, dd⟩ => ⟨n - j, b, j, a, rfl, cc, dd⟩, ?_⟩
      exact (hb i hlt).run σ' H1 (eo'.up e1) _ fun σ2 H2 e2 eo2 => ⟨i + 1, hlt, by omega, (hs.trans e1).trans e2, eo2⟩
    · have e : i = n := by omega
      subst e
      refine hf.run σ' H' eo' _ fun H1 e1 => ?_
      rw [if_neg (by decide)]
      exact q σ' H1 (hs.trans e1) (eo'.up e1))⟩
section
variable {P : Program} {w : World} {K : PySem.W.Frag} {mg : Str → Option Value} {base : Heap}
def R_drawn (ds : List PyData) (d : PyData) : Prop := ∃ (ns : List Int) (k many : Int), ns.length ≤ 63 ∧ 0 ≤ k ∧ k ≤ 100000 ∧ 0 < many ∧ ds = [.list (ns.map .int), .int k, .int many] ∧ d = .int (drawnM ns k many)
abbrev N_drawn : List Str := ["_law_script", "_law_k", "_law_many", "_law_cell", "_law_turn", "_law_rest"]
theorem sc_drawn : FnScope N_drawn ["_law_script", "_law_k", "_law_many"] (defScope s_Ldrawn) := ⟨rfl, rfl, rfl, by decide +kernel, rfl, by decide +kernel, by decide +kernel⟩
theorem ok_drawn (G : Glob K mg) (D : DefAt K mg "_law_drawn" s_Ldrawn ["_law_script", "_law_k", "_law_many"]) : CalD P w K mg base 1 "_law_drawn" R_drawn := by
  refine cal_pure D sc_drawn (fun ds d h => ?_) fun f cdv A outer s H E hr ds d h => ?_
  · obtain ⟨ns, k, many, _, _, _, _, rfl, _⟩ := h
    rfl
  · obtain ⟨ns, k, many, hl, k0, k1, hm, rfl, rfl⟩ := h
    -- the end of it
    have fin : ∀ (cell : Int) (u1 u2 : Option VP), BR (XX P w K mg base N_drawn "_law_drawn" s_Ldrawn f cdv A outer s H E) [(defBody s_Ldrawn).getD 2 (.Pass ⟨0, 0, 0, 0⟩), (defBody s_Ldrawn).getD 3 (.Pass ⟨0, 0, 0, 0⟩), (defBody s_Ldrawn).getD 4 (.Pass ⟨0, 0, 0, 0⟩)] [some (DD K (.list (ns.map .int))), some (DD K (.int k)), some (DD K (.int many)), some (DD K (.int cell)), u1, u2] (.ret (DD K (.int (finM cell k many)))) := fun cell u1 u2 => by
      have m1 : 0 ≤ cell % 2147483563 ∧ cell % 2147483563 < 2147483563 := ⟨Int.emod_nonneg _ (by decide), Int.emod_lt_of_pos _ (by decide)⟩
      have m2 : 0 ≤ c1M cell k ∧ c1M cell k < 2147483563 := ⟨Int.emod_nonneg _ (by decide), Int.emod_lt_of_pos _ (by decide)⟩
      have m3 : 0 ≤ c2M (c1M cell k) ∧ c2M (c1M cell k) < 2147483399 := ⟨Int.emod_nonneg _ (by decide), Int.emod_lt_of_pos _ (by decide)⟩
      refine b_set 3 (P := DD K (.int (c1M cell k))) (e_mod (e_add (e_mul (e_mod (e_n (d := .int cell) 3 rfl) e_int (by decide)) e_int (.inr ⟨by decide, by decide⟩)) (e_mul e_int (e_add (e_n (d := .int k) 1 rfl) e_int) (.inl ⟨by decide, by decide⟩))) e_int (by decide)) ?_ sc_drawn.nd
      refine b_set 3 (P := DD K (.int (c2M (c1M cell k)))) (e_mod (e_add (e_mul (e_n (d := .int (c1M cell k)) 3 rfl) (e_n (d := .int (c1M cell k)) 3 rfl) (.inl ⟨by omega, by omega⟩)) (e_fdiv (e_n (d := .int (c1M cell k)) 3 rfl) e_int ⟨by decide, by decide⟩)) e_int (by decide)) ?_ sc_drawn.nd
      exact b_ret (e_mod (e_fdiv (e_mod (e_add (e_mul (e_n (d := .int (c2M (c1M cell k))) 3 rfl) (e_n (d := .int (c2M (c1M cell k))) 3 rfl) (.inl ⟨by omega, by omega⟩)) (e_fdiv (e_n (d := .int (c2M (c1M cell k))) 3 rfl) e_int ⟨by decide, by decide⟩)) e_int (by decide)) e_int ⟨by decide, by decide⟩) (e_n (d := .int many) 2 rfl) hm)
    refine b_set 3 (P := DD K (.int (7 * k))) (e_mul e_int (e_n (d := .int k) 1 rfl) (.inl ⟨by decide, by decide⟩)) ?_ sc_drawn.nd
    have sh : ∀ xs : List Int, SeqAt.shaped (.list (xs.map .int)) = true := fun xs => Shp.ok (n := 1) (shp_lst fun d hd => by
      obtain ⟨i, _, rfl⟩ := List.mem_map.mp hd
      exact shp_int)
    cases ns with
    | nil => exact b_if_f (EvT.is (t_cmp (c_neD hr.units (sh []) (sh [])) (e_n (d := .list (([] : List Int).map .int)) 0 rfl) (e_lst a_nil)) (by simp [PyData.eqv, PyData.eqvAll])) (fin (7 * k) none none)
    | cons n0 ns =>
      have hne : ¬ (n0 :: ns) = [] := by simp
      have hlen : (0 : Int) < ((n0 :: ns).length : Nat) := by simp
      have hl2 : (((n0 :: ns).length : Nat) : Int) ≤ 63 := by omega
      have kd : 0 ≤ k / (((n0 :: ns).length : Nat) : Int) := Int.ediv_nonneg k0 (by omega)
      have km : 0 ≤ k % (((n0 :: ns).length : Nat) : Int) ∧ k % (((n0 :: ns).length : Nat) : Int) < ((n0 :: ns).length : Nat) := ⟨Int.emod_nonneg _ (by omega), Int.emod_lt_of_pos _ hlen⟩
      have hat : atI ((n0 :: ns).map PyData.int) (k % (((n0 :: ns).length : Nat) : Int)) = some (.int ((n0 :: ns).getD (k % (((n0 :: ns).length : Nat) : Int)).toNat 0)) := at_int km.1 km.2
      have len : ∀ {X : Cx} {ρ : Rho} {e : Expr} (_ : EvD X e ρ (.int (((n0 :: ns).map PyData.int).length : Nat))), EvD X e ρ (.int ((n0 :: ns).length : Nat)) := fun h => EvD.is h (by rw [List.length_map])
      have hdr : drawnM (n0 :: ns) k many = if 10 ^ 18 ≤ (n0 :: ns).getD (k % ((n0 :: ns).length : Int)).toNat 0 ∧ k / ((n0 :: ns).length : Int) < 60 then
          if seqM ((n0 :: ns).getD (k % ((n0 :: ns).length : Int)).toNat 0 / 10 ^ 18) (cnt (k / ((n0 :: ns).length : Int)).toNat ((n0 :: ns).getD (k % ((n0 :: ns).length : Int)).toNat 0 / 10 ^ 18)) > 0 then
            seqM ((n0 :: ns).getD (k % ((n0 :: ns).length : Int)).toNat 0 / 10 ^ 18) (cnt (k / ((n0 :: ns).length : Int)).toNat ((n0 :: ns).getD (k % ((n0 :: ns).length : Int)).toNat 0 / 10 ^ 18)) % 1000000 % many
          else finM ((n0 :: ns).getD (k % ((n0 :: ns).length : Int)).toNat 0 + 6553 * (k / ((n0 :: ns).length : Int))) k many
        else finM ((n0 :: ns).getD (k % ((n0 :: ns).length : Int)).toNat 0 + 6553 * (k / ((n0 :: ns).length : Int))) k many := by
        unfold drawnM
        rw [if_neg hne]
      rw [hdr]
      generalize (n0 :: ns).getD (k % (((n0 :: ns).length : Nat) : Int)).toNat 0 = cell at hat
      generalize hturn : k / (((n0 :: ns).length : Nat) : Int) = turn at kd
      have et : ∀ {X : Cx} {ρ : Rho} {e1 e2 : Expr} {pos : Pos} (_ : EvD X e1 ρ (.int k)) (_ : EvD X e2 ρ (.int (((n0 :: ns).map PyData.int).length : Nat))), EvD X (.BinOp e1 .FloorDiv e2 pos) ρ (.int turn) := fun h1 h2 => EvD.is (e_fdiv h1 (len h2) ⟨hlen, by omega⟩) (by rw [hturn])
      by_cases hbig : 10 ^ 18 ≤ cell ∧ turn < 60
      · rw [if_pos hbig]
        generalize hrest : cell / 10 ^ 18 = rest
        by_cases hr0 : seqM rest (cnt turn.toNat rest) > 0
        · rw [if_pos hr0]
          refine b_if_r (k := true) (ρ' := []) (EvT.is (t_cmp (c_neD hr.units (sh (n0 :: ns)) (sh [])) (e_n (d := .list ((n0 :: ns).map .int)) 0 rfl) (e_lst a_nil)) (by simp [PyData.eqv, PyData.eqvAll])) (fun _ => ?_) (fun z => by cases z) fun z => by cases z
          refine b_set 3 (P := DD K (.int cell)) (e_ixL (e_n (d := .list ((n0 :: ns).map .int)) 0 rfl) (e_mod (e_n (d := .int k) 1 rfl) (len (e_lenL G.len (e_n 0 rfl))) hlen) hat) ?_ sc_drawn.nd
          refine b_set 4 (P := DD K (.int turn)) (et (e_n (d := .int k) 1 rfl) (e_lenL G.len (e_n 0 rfl))) ?_ sc_drawn.nd
          refine b_if_r (k := true) (ρ' := []) (EvT.is (t_w (w_and (t_cmp c_ge (e_n (d := .int cell) 3 rfl) (EvD.is (d' := .int (10 ^ 18)) (e_pow e_int e_int ⟨by decide, by decide, by decide⟩) rfl)) fun _ => w_and1 (t_cmp c_lt (e_n (d := .int turn) 4 rfl) e_int))) (by rw [decide_eq_true hbig.1, decide_eq_true hbig.2]; rfl)) (fun _ => ?_) (fun z => by cases z) fun z => by cases z
          refine b_set 5 (P := DD K (.int rest)) (EvD.is (e_bin op_fdivW mono_dd (ok2_I ⟨by decide, by decide +kernel⟩ fun _ => .int _) (e_n (d := .int cell) 3 rfl) (EvD.is (d' := .int (10 ^ 18)) (e_pow e_int e_int ⟨by decide, by decide, by decide⟩) rfl)) (by rw [hrest])) ?_ sc_drawn.nd
          refine b_s (sr_while (cnt turn.toNat rest) (fun i => [some (DD K (.list ((n0 :: ns).map .int))), some (DD K (.int k)), some (DD K (.int many)), some (DD K (.int cell)), some (DD K (.int (turn - (i : Int)))), some (DD K (.int (seqM rest i)))]) PassesOwn.never (by simp only [Int.natCast_zero, Int.sub_zero]; exact Imp.refl) (fun i hi => ?wt) ?wf (fun i hi => ?wb)) ?_
          case wt =>
            obtain ⟨a, b⟩ := cnt_lt _ _ _ hi
            exact EvT.is (t_w (w_and (t_cmp c_gt (e_n (d := .int (seqM rest i)) 5 rfl) e_int) fun _ => w_and1 (t_cmp c_gt (e_n (d := .int (turn - (i : Int))) 4 rfl) e_int))) (by rw [decide_eq_true (show (0 : Int) < seqM rest i from a), decide_eq_true (show (0 : Int) < turn - (i : Int) by omega)]; rfl)
          case wf =>
            obtain ⟨a, b⟩ := cnt_end turn.toNat rest
            have b := b hr0
            exact EvT.is (t_w (w_and (t_cmp c_gt (e_n (d := .int (seqM rest (cnt turn.toNat rest))) 5 rfl) e_int) fun _ => w_and1 (t_cmp c_gt (e_n (d := .int (turn - ((cnt turn.toNat rest : Nat) : Int))) 4 rfl) e_int))) (by rw [decide_eq_false (show ¬ (0 : Int) < turn - ((cnt turn.toNat rest : Nat) : Int) by omega), Bool.and_false])
          case wb =>
            refine b_out (b_set 5 (P := DD K (.int (seqM rest (i + 1)))) (e_fdiv (e_n (d := .int (seqM rest i)) 5 rfl) e_int ⟨by decide, by decide⟩) (b_set 4 (P := DD K (.int (turn - ((i + 1 : Nat) : Int)))) (EvD.is (e_sub (e_n (d := .int (turn - (i : Int))) 4 rfl) e_int) (by congr 1; omega)) b_nil sc_drawn.nd) sc_drawn.nd) Imp.refl
          · exact b_if_r (k := true) (ρ' := []) (EvT.is (t_cmp c_gt (e_n (d := .int (seqM rest (cnt turn.toNat rest))) 5 rfl) e_int) (decide_eq_true hr0)) (fun _ => b_ret (e_mod (e_mod (e_n (d := .int (seqM rest (cnt turn.toNat rest))) 5 rfl) e_int (by decide)) (e_n (d := .int many) 2 rfl) hm)) (fun z => by cases z) fun z => by cases z
        · rw [if_neg hr0]
          refine b_s (ρ' := [some (DD K (.list ((n0 :: ns).map .int))), some (DD K (.int k)), some (DD K (.int many)), some (DD K (.int (cell + 6553 * turn))), none, none]) (sr_if (k := true) (EvT.is (t_cmp (c_neD hr.units (sh (n0 :: ns)) (sh [])) (e_n (d := .list ((n0 :: ns).map .int)) 0 rfl) (e_lst a_nil)) (by simp [PyData.eqv, PyData.eqvAll])) (fun _ => ?_) fun z => by cases z) (fin _ none none)
          refine b_set 3 (P := DD K (.int cell)) (e_ixL (e_n (d := .list ((n0 :: ns).map .int)) 0 rfl) (e_mod (e_n (d := .int k) 1 rfl) (len (e_lenL G.len (e_n 0 rfl))) hlen) hat) ?_ sc_drawn.nd
          refine b_set 4 (P := DD K (.int turn)) (et (e_n (d := .int k) 1 rfl) (e_lenL G.len (e_n 0 rfl))) ?_ sc_drawn.nd
          refine b_s (ρ' := [some (DD K (.list ((n0 :: ns).map .int))), some (DD K (.int k)), some (DD K (.int many)), some (DD K (.int cell)), none, none]) (sr_if (k := true) (EvT.is (t_w (w_and (t_cmp c_ge (e_n (d := .int cell) 3 rfl) (EvD.is (d' := .int (10 ^ 18)) (e_pow e_int e_int ⟨by decide, by decide, by decide⟩) rfl)) fun _ => w_and1 (t_cmp c_lt (e_n (d := .int turn) 4 rfl) e_int))) (by rw [decide_eq_true hbig.1, decide_eq_true hbig.2]; rfl)) (fun _ => ?_) fun z => by cases z) (b_out (b_set 3 (P := DD K (.int (cell + 6553 * turn))) (e_add (e_n (d := .int cell) 3 rfl) (e_mul e_int (et (e_n (d := .int k) 1 rfl) (e_lenL G.len (e_n 0 rfl))) (.inl ⟨by decide, by decide⟩))) b_nil sc_drawn.nd) (by repeat (first | exact imp_nil | apply imp_id | apply imp_none)))
          refine b_set 5 (P := DD K (.int rest)) (EvD.is (e_bin op_fdivW mono_dd (ok2_I ⟨by decide, by decide +kernel⟩ fun _ => .int _) (e_n (d := .int cell) 3 rfl) (EvD.is (d' := .int (10 ^ 18)) (e_pow e_int e_int ⟨by decide, by decide, by decide⟩) rfl)) (by rw [hrest])) ?_ sc_drawn.nd
          refine b_s (sr_while (cnt turn.toNat rest) (fun i => [some (DD K (.list ((n0 :: ns).map .int))), some (DD K (.int k)), some (DD K (.int many)), some (DD K (.int cell)), some (DD K (.int (turn - (i : Int)))), some (DD K (.int (seqM rest i)))]) PassesOwn.never (by simp only [Int.natCast_zero, Int.sub_zero]; exact Imp.refl) (fun i hi => ?wt) ?wf (fun i hi => ?wb)) ?_
          case wt =>
            obtain ⟨a, b⟩ := cnt_lt _ _ _ hi
            exact EvT.is (t_w (w_and (t_cmp c_gt (e_n (d := .int (seqM rest i)) 5 rfl) e_int) fun _ => w_and1 (t_cmp c_gt (e_n (d := .int (turn - (i : Int))) 4 rfl) e_int))) (by rw [decide_eq_true (show (0 : Int) < seqM rest i from a), decide_eq_true (show (0 : Int) < turn - (i : Int) by omega)]; rfl)
          case wf =>
            exact EvT.is (b' := false) (t_w (w_and (k' := false) (t_cmp c_gt (e_n (d := .int (seqM rest (cnt turn.toNat rest))) 5 rfl) e_int) fun z => absurd (of_decide_eq_true z) hr0)) (by rw [Bool.and_false])
          case wb =>
            refine b_out (b_set 5 (P := DD K (.int (seqM rest (i + 1)))) (e_fdiv (e_n (d := .int (seqM rest i)) 5 rfl) e_int ⟨by decide, by decide⟩) (b_set 4 (P := DD K (.int (turn - ((i + 1 : Nat) : Int)))) (EvD.is (e_sub (e_n (d := .int (turn - (i : Int))) 4 rfl) e_int) (by congr 1; omega)) b_nil sc_drawn.nd) sc_drawn.nd) Imp.refl
          · exact b_out (b_if_f (EvT.is (t_cmp c_gt (e_n (d := .int (seqM rest (cnt turn.toNat rest))) 5 rfl) e_int) (decide_eq_false hr0)) b_nil) (by repeat (first | exact imp_nil | apply imp_id | apply imp_none))
      · rw [if_neg hbig]
        refine b_s (ρ' := [some (DD K (.list ((n0 :: ns).map .int))), some (DD K (.int k)), some (DD K (.int many)), some (DD K (.int (cell + 6553 * turn))), none, none]) (sr_if (k := true) (EvT.is (t_cmp (c_neD hr.units (sh (n0 :: ns)) (sh [])) (e_n (d := .list ((n0 :: ns).map .int)) 0 rfl) (e_lst a_nil)) (by simp [PyData.eqv, PyData.eqvAll])) (fun _ => ?_) fun z => by cases z) (fin _ none none)
        refine b_set 3 (P := DD K (.int cell)) (e_ixL (e_n (d := .list ((n0 :: ns).map .int)) 0 rfl) (e_mod (e_n (d := .int k) 1 rfl) (len (e_lenL G.len (e_n 0 rfl))) hlen) hat) ?_ sc_drawn.nd
        refine b_set 4 (P := DD K (.int turn)) (et (e_n (d := .int k) 1 rfl) (e_lenL G.len (e_n 0 rfl))) ?_ sc_drawn.nd
        refine b_if_f (EvT.is (b' := false) (t_w (w_and (t_cmp c_ge (e_n (d := .int cell) 3 rfl) (EvD.is (d' := .int (10 ^ 18)) (e_pow e_int e_int ⟨by decide, by decide, by decide⟩) rfl)) fun _ => w_and1 (t_cmp c_lt (e_n (d := .int turn) 4 rfl) e_int))) (by
          by_cases h1 : 10 ^ 18 ≤ cell
          · rw [decide_eq_false (fun z => hbig ⟨h1, z⟩), Bool.and_false]
          · rw [decide_eq_false h1, Bool.false_and])) ?_
        exact b_out (b_set 3 (P := DD K (.int (cell + 6553 * turn))) (e_add (e_n (d := .int cell) 3 rfl) (e_mul e_int (et (e_n (d := .int k) 1 rfl) (e_lenL G.len (e_n 0 rfl))) (.inl ⟨by decide, by decide⟩))) b_nil sc_drawn.nd) (by repeat (first | exact imp_nil | apply imp_id | apply imp_none))
end
end SH

/-! ## SHD2 -/
set_option Elab.async false
set_option linter.all false
set_option maxRecDepth 100000
set_option maxHeartbeats 4000000
/-! what the law draws: pictures, manners, deeds -/
namespace SH
open PySem PySem.Spec PyProof.Rows L2
def mostM (ns : List Int) (k : Int) : Int := ([2, 5, 100, 10] : List Int).getD (drawnM ns k 4).toNat 0
theorem most_ok (ns : List Int) (k : Int) : 0 < mostM ns k ∧ mostM ns k ≤ 100 := by
  have h := drawn_ok (ns := ns) (k := k) (many := 4) (by decide)
  unfold mostM
  have : (drawnM ns k 4).toNat = 0 ∨ (drawnM ns k 4).toNat = 1 ∨ (drawnM ns k 4).toNat = 2 ∨ (drawnM ns k 4).toNat = 3 := by omega
  rcases this with e | e | e | e <;> rw [e] <;> decide
def rowP (ns : List Int) (k broad most : Int) (y : Nat) : List Int := (List.range broad.toNat).map fun (x : Nat) => drawnM ns (k + 1 + broad * (0 + (y : Int)) + (0 + (x : Int))) most
def picP (ns : List Int) (k broad tall : Int) : Pic := (List.range tall.toNat).map fun (y : Nat) => rowP ns k broad (mostM ns k) y
theorem picP_ok {ns : List Int} {k broad tall : Int} (b0 : 1 ≤ broad) (b1 : broad ≤ 6) (t0 : 1 ≤ tall) (t1 : tall ≤ 4) : PicOk (picP ns k broad tall) := by
  have hm := most_ok ns k
  refine ⟨by unfold picP; rw [List.length_map, List.length_range]; omega, ⟨broad.toNat, by omega, by omega, fun r hr => ?_⟩, fun r hr c hc => ?_⟩
  · unfold picP at hr
    obtain ⟨y, _, rfl⟩ := List.mem_map.mp hr
    unfold rowP
    rw [List.length_map, List.length_range]
  · unfold picP at hr
    obtain ⟨y, _, rfl⟩ := List.mem_map.mp hr
    unfold rowP at hc
    obtain ⟨x, _, rfl⟩ := List.mem_map.mp hc
    have := drawn_ok (ns := ns) (k := k + 1 + broad * (0 + (y : Int)) + (0 + (x : Int))) hm.1
    omega
section
variable {P : Program} {w : World} {K : PySem.W.Frag} {mg : Str → Option Value} {base : Heap} {CD CS CB CW CR : Addr}
def R_pic (ds : List PyData) (d : PyData) : Prop := ∃ (ns : List Int) (k broad tall : Int), ns.length ≤ 63 ∧ 0 ≤ k ∧ k ≤ 1000 ∧ 1 ≤ broad ∧ broad ≤ 6 ∧ 1 ≤ tall ∧ tall ≤ 4 ∧ ds = [.list (ns.map .int), .int k, .int broad, .int tall] ∧ d = dP (picP ns k broad tall)
abbrev N_pic : List Str := ["_law_script", "_law_at", "_law_broad", "_law_tall", "_law_most", "_law_rows", "_law_y", "_law_x"]
theorem sc_pic : FnScope N_pic ["_law_script", "_law_at", "_law_broad", "_law_tall"] (defScope s_Lpicture) := ⟨rfl, rfl, rfl, by decide +kernel, rfl, by decide +kernel, by decide +kernel⟩
/-- a, b = e, [] where one is a cell -/
theorem b_newTup {X : Cx} {ρ : Rho} {a : Expr} {rest : List Stmt} {pos : Pos} (i j : Nat) {x y : Str} {px py pt pt2 pl : Pos} {kt k2} {d : PyData} {o : Out} {om : OutM} (ha : EvD X a ρ d) (hd : noL d = true) (k : ∀ (p : Addr) (H0 : Hp), H0 p = none → BM X p rest (((bsR H0 ρ).set i (some (DD X.K d))).set j (some (Own X.K p []))) om) (ho : om = match o with | .ret P => .ret P | .nx ρ' => .nx ρ')
    (hc : X.calm = true) (hN : X.N.Nodup) (hi : X.N[i]? = some x := by rfl) (hj : X.N[j]? = some y := by rfl) (hx : Loc X.env.scope x := by first | exact Or.inl rfl | exact Or.inr rfl) (hy : Loc X.env.scope y := by first | exact Or.inl rfl | exact Or.inr rfl)
    (hf : X.fn x = true ∨ X.env.scope.names.lookup x = some .local := by first | exact .inl rfl | exact .inr rfl) (hf2 : X.fn y = true ∨ X.env.scope.names.lookup y = some .local := by first | exact .inl rfl | exact .inr rfl)
    (hs : swapsWithSole [.Tuple [.Name x px, .Name y py] kt pt] (.Tuple [a, .List [] pl] k2 pt2) pos.line X.env = pure false := by rfl) (hw : swappedStores [.Tuple [.Name x px, .Name y py] kt pt] (.Tuple [a, .List [] pl] k2 pt2) X.env = pure none := by rfl)
    (h1 : (assignEach [.Tuple [.Name x px, .Name y py] kt pt] X.env).map (·.2) = [assign (.Tuple [.Name x px, .Name y py] kt pt) X.env] := by rfl) (hs1 : starEach [a, .List [] pl] X.env = (false, eval a X.env) :: starEach [.List [] pl] X.env := by rfl) (hs2 : starEach [.List [] pl] X.env = (false, eval (.List [] pl) X.env) :: starEach [] X.env := by rfl)
    (hn : (assignEach [.Name x px, .Name y py] X.env).length = 2 := by rfl) (hst : (assignEach [.Name x px, .Name y py] X.env).findIdx? (·.1) = none := by rfl)
    (hsa : (assignEach [.Name x px, .Name y py] X.env).map (·.2) = assign (.Name x px) X.env :: (assignEach [.Name y py] X.env).map (·.2) := by rfl) (hsb : (assignEach [.Name y py] X.env).map (·.2) = assign (.Name y py) X.env :: (assignEach [] X.env).map (·.2) := by rfl) :
    BR X (.Assign [.Tuple [.Name x px, .Name y py] kt pt] (.Tuple [a, .List [] pl] k2 pt2) pos :: rest) ρ o := ⟨fun σ H eo D q => sB_of (pss_cons (ps_asg (pe_tup (pa_cons pe_s (pa_cons (pe_lst pa_nil) pa_nil hs2) hs1)) (pg_tup hc (pgs_cons (pg_name hN hi hx hf) (pgs_cons (pg_name hN hj hy hf2) pgs_nil hsb) hsa) hn hst) hs hw h1) pss_s) (ha.run σ H eo _ fun v H1 e1 pv => ⟨by rw [sizeLine_eq]; exact Nat.zero_le _, fun p hp => ⟨by rw [sizeLine_eq]; simp, fun T hT => by
      have e2 : Same H1 (upd H1 p (.lst [])) := same_new hp
      have e3 := (e2.trans (same_new (o := .tup [v, .ref p]) hT))
      have hl : (upd (upd H1 p (.lst [])) T (.tup [v, .ref p])) p = some (.lst []) := same_new hT _ _ upd_same
      refine ⟨T, [v, .ref p], rfl, .of upd_same, rfl, _, _, rfl, _, _, rfl, rfl, ?_⟩
      refine (k p H1 hp).run _ _ (((EnvOk.base (eo.up e1) e3).set i (dp_mono e3 _ _ pv) mono_dd).set j (v := .ref p) ⟨rfl, [], hl, .nil⟩ mono_own) ⟨[], hl⟩ D ?_
      subst ho
      cases o with
      | ret P => exact fun v H' s pv => q v H' (e1.trans (sx_same hp e3 s)) pv
      | nx ρ' => exact fun σ' H' s pe => q σ' H' (e1.trans (sx_same hp e3 s)) pe⟩⟩)⟩
theorem ok_pic (G : Glob K mg) (D : DefAt K mg "_law_picture" s_Lpicture ["_law_script", "_law_at", "_law_broad", "_law_tall"]) (c1 : CalD P w K mg base 1 "_law_drawn" R_drawn) : CalD P w K mg base 2 "_law_picture" R_pic := by
  refine cal_pure D sc_pic (fun ds d h => ?_) fun f cdv A outer s H E hr ds d h => ?_
  · obtain ⟨ns, k, b, t, _, _, _, _, _, _, _, rfl, _⟩ := h
    rfl
  · obtain ⟨ns, k, broad, tall, hl, k0, k1, b0, b1, t0, t1, rfl, rfl⟩ := h
    have hm := most_ok ns k
    have hdr := drawn_ok (ns := ns) (k := k) (many := 4) (by decide)
    have hat : atI (([2, 5, 100, 10] : List Int).map PyData.int) (drawnM ns k 4) = some (.int (mostM ns k)) := at_int hdr.1 (by simpa using hdr.2)
    refine b_newTup 4 5 (d := .int (mostM ns k)) (e_ixL (EvD.is (d' := .list (([2, 5, 100, 10] : List Int).map .int)) (e_lst (a_cons e_int (a_cons e_int (a_cons e_int (a_cons e_int a_nil))))) rfl) (e_call c1 hr (by decide) rfl (a_cons (e_n (d := .list (ns.map .int)) 0 rfl) (a_cons (e_n (d := .int k) 1 rfl) (a_cons e_int a_nil))) ⟨ns, k, 4, hl, k0, by omega, by decide, rfl, rfl⟩) hat) (by simp [noL]) (fun q H0 h0 => ?_) rfl rfl sc_pic.nd
    refine bm_for (js := [6]) (xs := List.range tall.toNat) (emb := fun i => .int (0 + (i : Int))) (parts := fun i => [.int (0 + (i : Int))])
      (fun i => [some (Bs H0 (DD K (.list (ns.map .int)))), some (Bs H0 (DD K (.int k))), some (Bs H0 (DD K (.int broad))), some (Bs H0 (DD K (.int tall))), some (DD K (.int (mostM ns k))), some (Own K q (((picP ns k broad tall).take i).map dI)), none, none])
      PassesOwn.never rfl (srcm_rangeN G.range (EvD.is (e_nb (d := .int tall) 3 rfl) (by congr 1; omega)) (by omega)) (by repeat (first | exact imp_nil | apply imp_id | apply imp_none | apply imp_bs | apply imp_own | (refine imp_bsP mono_ll ?_))) (fun _ _ => tg_name 6 sc_pic.nd) (fun i x0 hi => ?body) ?after
    case after =>
      rw [List.length_range]
      have ht : (picP ns k broad tall).take tall.toNat = picP ns k broad tall := List.take_of_length_le (by unfold picP; rw [List.length_map, List.length_range]; exact Nat.le_refl _)
      rw [ht]
      exact bm_ret (EvD.is (e_tuple G.tup (e_no 5 rfl)) rfl)
    case body =>
      obtain ⟨hi2, hi3⟩ := (List.getElem?_eq_some_iff.mp hi)
      rw [List.length_range] at hi2
      rw [List.getElem_range] at hi3
      subst hi3
      have hb2 : broad * (0 + (i : Int)) ≤ 24 ∧ 0 ≤ broad * (0 + (i : Int)) := by
        have h1 : (0 + (i : Int)) ≤ 4 := by omega
        have h2 : 0 ≤ (0 + (i : Int)) := by omega
        exact ⟨by
          have := Int.mul_le_mul b1 h1 h2 (by decide : (0 : Int) ≤ 6)
          omega, Int.mul_nonneg (by omega) h2⟩
      have htk : (picP ns k broad tall).take (i + 1) = (picP ns k broad tall).take i ++ [rowP ns k broad (mostM ns k) i] := by
        refine take_succ_at ?_
        unfold picP
        rw [List.getElem?_map, List.getElem?_range hi2]
        rfl
      refine bm_out (bm_app 5 (ds := ((picP ns k broad tall).take i).map dI) (d := dI (rowP ns k broad (mostM ns k) i)) (EvD.is (e_tuple G.tup (e_lcA (own := [("_law_x", 7)]) (js := [7]) (xs := List.range broad.toNat) (emb := fun x => .int (0 + (x : Int))) (parts := fun x => [.int (0 + (x : Int))]) (g := fun x => .int (drawnM ns (k + 1 + broad * (0 + (i : Int)) + (0 + (x : Int))) (mostM ns k))) rfl sc_pic.nd (src_rangeN G.range (EvD.is (e_nb (d := .int broad) 2 rfl) (by congr 1; omega)) (by omega)) (blkOk_by (own := [("_law_x", 7)]) (by rfl)) (by decide) (by rw [List.length_range]; omega) (fun _ _ => by simp [noL]) (fun _ _ _ _ _ _ _ => tg_name 7 sc_pic.nd) fun s2 H2 C2 cl2 fp2 x hx => ?el)) ?eq) (noL_dI _) (noLs_map fun _ _ => noL_dI _) (by rw [List.length_map, List.length_take]; omega) bm_nil (by repeat (first | exact ka_nil | apply ka_none | (refine ka_some (keep_bs h0) ?_) | (refine ka_some (keep_d (by first | rfl | exact noL_dI _ | simp [noL])) ?_)))) ?wk
      case eq =>
        unfold dI rowP
        rw [List.map_map]
        rfl
      case wk =>
        rw [htk, List.map_append]
        exact (by repeat (first | exact imp_nil | apply imp_id | apply imp_none | apply imp_bs | apply imp_own | (refine imp_bsP mono_ll ?_)))
      case el =>
        have hx : x < broad.toNat := List.mem_range.mp hx
        exact e_call c1 hr (by decide) rfl (a_cons (e_nb (d := .list (ns.map .int)) 0 rfl) (a_cons (e_add (e_add (e_add (e_nb (d := .int k) 1 rfl) e_int) (e_mul (e_nb (d := .int broad) 2 rfl) (e_n (d := .int (0 + (i : Int))) 6 rfl) (.inl ⟨by omega, by omega⟩))) (e_n (d := .int (0 + (x : Int))) 7 rfl)) (a_cons (e_n (d := .int (mostM ns k)) 4 rfl) a_nil))) ⟨ns, _, mostM ns k, hl, by omega, by omega, hm.1, rfl, rfl⟩
def someP (ns : List Int) (k broad tall : Int) : Pic := picP ns (k + 2) (1 + drawnM ns k broad) (1 + drawnM ns (k + 1) tall)
theorem someP_ok {ns : List Int} {k : Int} : PicOk (someP ns k 6 4) := by
  have h1 := drawn_ok (ns := ns) (k := k) (many := 6) (by decide)
  have h2 := drawn_ok (ns := ns) (k := k + 1) (many := 4) (by decide)
  exact picP_ok (by omega) (by omega) (by omega) (by omega)
def R_some (ds : List PyData) (d : PyData) : Prop := ∃ (ns : List Int) (k : Int), ns.length ≤ 63 ∧ 0 ≤ k ∧ k ≤ 500 ∧ ds = [.list (ns.map .int), .int k, .int 6, .int 4] ∧ d = dP (someP ns k 6 4)
theorem sc_some : FnScope ["_law_script", "_law_at", "_law_broad", "_law_tall"] ["_law_script", "_law_at", "_law_broad", "_law_tall"] (defScope s_Lsome) := ⟨rfl, rfl, rfl, by decide +kernel, rfl, by decide +kernel, by decide +kernel⟩
theorem ok_some (D : DefAt K mg "_law_some" s_Lsome ["_law_script", "_law_at", "_law_broad", "_law_tall"]) (c1 : CalD P w K mg base 1 "_law_drawn" R_drawn) (c2 : CalD P w K mg base 2 "_law_picture" R_pic) : CalD P w K mg base 3 "_law_some" R_some := by
  refine cal_pure D sc_some (fun ds d h => ?_) fun f cdv A outer s H E hr ds d h => ?_
  · obtain ⟨ns, k, _, _, _, rfl, _⟩ := h
    rfl
  · obtain ⟨ns, k, hl, k0, k1, rfl, rfl⟩ := h
    have h1 := drawn_ok (ns := ns) (k := k) (many := 6) (by decide)
    have h2 := drawn_ok (ns := ns) (k := k + 1) (many := 4) (by decide)
    exact b_ret (e_call c2 hr (by decide) rfl (a_cons (e_n (d := .list (ns.map .int)) 0 rfl) (a_cons (e_add (e_n (d := .int k) 1 rfl) e_int) (a_cons (e_add e_int (e_call c1 hr (by decide) rfl (a_cons (e_n (d := .list (ns.map .int)) 0 rfl) (a_cons (e_n (d := .int k) 1 rfl) (a_cons (e_n (d := .int 6) 2 rfl) a_nil))) ⟨ns, k, 6, hl, k0, by omega, by decide, rfl, rfl⟩)) (a_cons (e_add e_int (e_call c1 hr (by decide) rfl (a_cons (e_n (d := .list (ns.map .int)) 0 rfl) (a_cons (e_add (e_n (d := .int k) 1 rfl) e_int) (a_cons (e_n (d := .int 4) 3 rfl) a_nil))) ⟨ns, k + 1, 4, hl, by omega, by omega, by decide, rfl, rfl⟩)) a_nil)))) ⟨ns, k + 2, _, _, hl, by omega, by omega, by omega, by omega, by omega, by omega, rfl, rfl⟩)
def manM (ns : List Int) (k : Int) : Str := (["worth", "joins"] : List Str).getD (drawnM ns k 2).toNat ""
theorem manM_ok (ns : List Int) (k : Int) : manM ns k ∈ (["worth", "joins"] : List Str) := by
  have h := drawn_ok (ns := ns) (k := k) (many := 2) (by decide)
  exact getD_mem (by show _ < 2; omega)
theorem at_str {xs : List Str} {i : Int} (h0 : 0 ≤ i) (h1 : i < xs.length) : atI (xs.map PyData.str) i = some (.str (xs.getD i.toNat "")) := by
  refine at_map h0 ?_
  have h : i.toNat < xs.length := by omega
  rw [List.getElem?_eq_getElem h, List.getD_eq_getElem?_getD, List.getElem?_eq_getElem h]
  rfl
def R_man (ds : List PyData) (d : PyData) : Prop := ∃ (ns : List Int) (k : Int), ns.length ≤ 63 ∧ 0 ≤ k ∧ k ≤ 500 ∧ ds = [.list (ns.map .int), .int k] ∧ d = .str (manM ns k)
theorem sc_man : FnScope ["_law_script", "_law_at"] ["_law_script", "_law_at"] (defScope s_Lmanner) := ⟨rfl, rfl, rfl, by decide +kernel, rfl, by decide +kernel, by decide +kernel⟩
theorem ok_man (D : DefAt K mg "_law_manner" s_Lmanner ["_law_script", "_law_at"]) (c1 : CalD P w K mg base 1 "_law_drawn" R_drawn) : CalD P w K mg base 2 "_law_manner" R_man := by
  refine cal_pure D sc_man (fun ds d h => ?_) fun f cdv A outer s H E hr ds d h => ?_
  · obtain ⟨ns, k, _, _, _, rfl, _⟩ := h
    rfl
  · obtain ⟨ns, k, hl, k0, k1, rfl, rfl⟩ := h
    have h1 := drawn_ok (ns := ns) (k := k) (many := 2) (by decide)
    exact b_ret (e_ixL (EvD.is (d' := .list ((["worth", "joins"] : List Str).map .str)) (e_lst (a_cons e_str (a_cons e_str a_nil))) rfl) (e_call c1 hr (by decide) rfl (a_cons (e_n (d := .list (ns.map .int)) 0 rfl) (a_cons (e_n (d := .int k) 1 rfl) (a_cons e_int a_nil))) ⟨ns, k, 2, hl, k0, by omega, by decide, rfl, rfl⟩) (at_str h1.1 (by simpa using h1.2)))
end
end SH

/-! ## SHTr -/
set_option Elab.async false
set_option linter.all false
set_option maxRecDepth 100000
set_option maxHeartbeats 4000000
/-! try with several clauses 'as n'; the law's done -/
namespace SH
open PySem PySem.Spec PyProof.Rows L2
/-- the ends behind a clause 'as n': n's slot is empty again -/
def asEnds (i : Nat) (D : Ends) : Ends := { nx := fun σ' H' => D.nx (σ'.set i none) H', rt := D.rt, bk := fun σ' H' => D.bk (σ'.set i none) H', ct := fun σ' H' => D.ct (σ'.set i none) H' }
def wA (K : PySem.W.Frag) (i : Nat) (Wout : WX) (D : Ends) : List (Value × (Addr → Value → Option Addr → TS)) → WX
  | [] => Wout
  | (c, ts) :: r => fun cls d σ H => ∃ b, PySem.W.exmOne K cls c = some b ∧ (b = true → ∀ a, H a = none → ts a cls d (asEnds i D) (σ.set i (some (.ref a))) H) ∧ (b = false → wA K i Wout D r cls d σ H)
inductive HdsA (X : Cx) (n : Str) : List ExceptHandler → List (Value × (Addr → Value → Option Addr → TS)) → Prop
  | nil : HdsA X n [] []
  | cons {x : Str} {c : Value} {ts : Addr → Value → Option Addr → TS} {b₀ : Stmt} {suite : List Stmt} {np pos' : Pos} {hds : List ExceptHandler} {l : List (Value × (Addr → Value → Option Addr → TS))} (hc : Names X x c)
      (hsu : ∀ (a : Addr) (oe : Obj) (cls : Value) (d : Option Addr) (pn : List (Addr × Obj)), Zc cls d oe → (∃ vs, oe.data = .fields vs) → PSs (X.suite a ((a, oe) :: pn)) (b₀ :: suite) (ts a cls d)) (r : HdsA X n hds l) :
      HdsA X n (.ExceptHandler (some (.Name x np)) (some n) (b₀ :: suite) pos' :: hds) ((c, ts) :: l)
section
variable {X : Cx} {n : Str} {i : Nat} {body : List Stmt} {h₀ : ExceptHandler} {hds : List ExceptHandler} {l : List (Value × (Addr → Value → Option Addr → TS))} {pos : Pos} {tb : WX → TS} {Wout : WX}
theorem ps_try_asMany (hs : X.stack = X.env :: X.outer) (hf : X.env.frame = some X.env.locals) (hN : X.N.Nodup) (hi : X.N[i]? = some n) (hln : X.env.kindOf n = some .local) (tk : Takes X Wout)
    (hb : ∀ (W : WX) (pn : List (Addr × Obj)) (xe : Value → Shared → Prop), Takes (X.tr pn xe) W → PassesOwn (model X.prog X.w) X.A X.env xe → PSs (X.tr pn xe) body (tb W))
    (hh : HdsA X n (h₀ :: hds) l) : PS X (.Try body (h₀ :: hds) [] [] pos) (fun D σ H => tb (wA X.K i Wout D l) D σ H) := by
  refine ⟨fun pins s σ H D I h => ?_⟩
  have ok := I.ok
  have hfr : X.A.frames = some (X.env :: X.outer) := by rw [ok.frames, hs]
  have hloc : Loc X.env.scope n := .inl hln
  refine wpAny_Try_except ?_
  refine wpAny_mono ((hb (wA X.K i Wout D l) (X.pn ++ pins) (fun e s₁ => wpAny (model X.prog X.w) X.A (noteFrame e X.env) (fun _ s₂ => wpAny (model X.prog X.w) X.A (setFlight e none) (fun _ s₃ =>
    wpAny (model X.prog X.w) X.A (handleBy e X.env (h₀ :: hds)) (SP X pins D) X.xe s₃) X.xe s₂) X.xe s₁) (fun u s' xx => ?_) PassesOwn.looking).run [] s σ H D (I.toTry _) h) (fun f s1 hsp => ?_) (fun e s1 he => he)
  · obtain ⟨a, B, sI, pins', σ', H', cls, d, rfl, J', nb, up, sky, na, os, ag, w⟩ := xx
    have J : Inv X pins σ' H' sI := J'.ofTry ok
    have sky' : Sky B (X.env :: X.outer) a (Zc cls d) X.env.locals s'.heap := by rw [← hs]; exact sky
    show wpAny (model X.prog X.w) X.A (noteFrame (.ref a) X.env) _ _ _
    refine Sky.land Zc.steady hfr hf sky' fun h3 fl3 up3 => ?_
    have J3 : Inv X pins σ' H' { s' with heap := h3 } := J.landed nb fl3.1 (up.trans up3) os ag
    obtain ⟨oe3, vs3, he3, hz3, hd3⟩ := fl3.there
    have notFr : ∀ {h : Heap} {o : Obj} {vs : Array Value}, h.FunFrames B (X.env :: X.outer) → h.get? a = some o → o.data = .fields vs → a ∉ frs (X.env :: X.outer) := fun {h o vs} ff e dd hm => by
      obtain ⟨_, o', e', hnf⟩ := ff.mem hm
      rw [e] at e'; cases e'
      exact hnf _ dd
    have nfr := notFr fl3.2.2.1 he3 hd3
    have nL : a ≠ X.env.locals := fun z => nfr (List.mem_filterMap.mpr ⟨X.env, List.mem_cons_self, by rw [hf, z]⟩)
    have nF : a ∉ X.fs := fun hm => by
      obtain ⟨e, he, q⟩ := List.mem_filterMap.mp hm
      exact nfr (List.mem_filterMap.mpr ⟨e, List.mem_cons_of_mem _ he, q⟩)
    have S3 := J3.suite he3 hd3 na nL nF
    have go : ∀ {hds' : List ExceptHandler} {l' : List (Value × (Addr → Value → Option Addr → TS))}, HdsA X n hds' l' → wA X.K i Wout D l' cls d σ' H' →
        wpAny (model X.prog X.w) X.A (handleBy (.ref a) X.env hds') (SP X pins D) X.xe { s' with heap := h3 } := by
      intro hds' l' hk
      induction hk with
      | nil =>
        intro w
        refine wpAny_handleBy_nil ?_
        obtain ⟨k1, k2, k3, oe, vs, T, oT, ts', he, hz, hd, h1, hr⟩ := id fl3
        unfold PySem.passOn
        refine wpAny_bind (wpAny_field he hd h1 ?_)
        rw [if_neg (show ¬ ((Value.ref T == Value.none) = true) from by simp)]
        have fin : wpAny (model X.prog X.w) X.A (setFlight (.ref a) X.env.frame) (fun _ s4 => wpAny (model X.prog X.w) X.A (throw (.ref a) : Sem Flow) (SP X pins D) X.xe s4) X.xe { s' with heap := h3 } := by
          rw [hf]
          refine HandSPX.setFlight_upZ fl3 fun h4 hh4 up4 => wpAny_throw (tk _ _ ?_)
          exact ⟨a, B, sI, pins, σ', H', cls, d, rfl, J, nb, (up.trans up3).trans up4, .inr (.inr (by rw [hs]; exact hh4)), na, os, ag, w⟩
        first
          | exact wpAny_bind (wpAny_pure (wpAny_bind fin))
          | exact wpAny_bind fin
      | @cons x c ts b₀ suite np pos' hds2 l2 hc hsu r ih =>
        intro w
        obtain ⟨b, hb1, hyes, hno⟩ := w
        refine wpAny_handleBy_cons (codeAny_handlers_test ?_) (by intro q; cases q)
        have LT : PySem.W.Looks (model X.prog X.w) h3 (typeOf (.ref a)) cls := fun A Q E s k q => wpAny_typeOf_ref (k _ _ he3) (by rw [hz3.1]; exact q)
        have LM := PySem.W.exm_one (M := model X.prog X.w) (J3.kIn) LT hb1
        have test : ∀ {Q : Value → Shared → Prop} {E : Value → Shared → Prop}, Q c { s' with heap := h3 } → wpAny (model X.prog X.w) (X.A.mark (some (.ref a))) (eval (.Name x np) X.env) Q E { s' with heap := h3 } := fun {Q E} q => by
          obtain ⟨hg, hdbg, hm | ⟨hm, hv, hnn⟩⟩ := hc
          · exact ld_glob (X := X.suite a ((a, oe3) :: (X.pn ++ pins))) S3 hg hm q hdbg
          · exact ld_blt (X := X.suite a ((a, oe3) :: (X.pn ++ pins))) S3 hg hm hv q hnn hdbg
        refine test (LM.here ?_)
        cases b with
        | true =>
          refine codeAny_handlers_suite_as ?_
          refine HandSPX.lands_againZ fl3 fun h4 fl4 up4 => ?_
          have J4 : Inv X pins σ' H' { s' with heap := h4 } := J.landed nb fl4.1 ((up.trans up3).trans up4) os ag
          obtain ⟨oe4, vs4, he4, hz4, hd4⟩ := fl4.there
          have S4 := J4.suite he4 hd4 na nL nF
          refine store_ok (X := X.suite a ((a, oe4) :: (X.pn ++ pins))) (v := .ref a) S4 hN hi hloc rfl (fun s5 S5 => ?_) (.inr hln)
          refine wpAny_mono ((hsu a oe4 cls d (X.pn ++ pins) hz4 ⟨_, hd4⟩).run [] s5 _ H' _ S5 (hyes rfl a na)) (fun f s6 hsp => ?_) (fun _ _ z => False.elim z)
          have end_ : ∀ {σ6 : St} {H6 : Hp} {Q : Shared → Prop}, Inv (X.suite a ((a, oe4) :: (X.pn ++ pins))) [] σ6 H6 s6 → (∀ s7, Inv X pins (σ6.set i none) H6 s7 → Q s7) →
              wpAny (model X.prog X.w) X.A (do bindName X.env n .none; unbindBehindTheSuite X.env n pos') (fun _ s7 => Q s7) X.xe s6 := fun {σ6 H6 Q} S6 hq => gone_ok (S6.unsuite ok) hN hi hln hq
          cases f with
          | next =>
            obtain ⟨σ6, H6, S6, q6⟩ := hsp
            exact end_ S6 fun s7 J7 => ⟨_, _, J7, q6⟩
          | brk =>
            obtain ⟨σ6, H6, S6, q6⟩ := hsp
            exact end_ S6 fun s7 J7 => ⟨_, _, J7, q6⟩
          | cont =>
            obtain ⟨σ6, H6, S6, q6⟩ := hsp
            exact end_ S6 fun s7 J7 => ⟨_, _, J7, q6⟩
          | ret u =>
            obtain ⟨v6, σ6, H6, S6, r6, q6⟩ := hsp
            exact end_ S6 fun s7 J7 => ⟨_, _, _, J7, r6, q6⟩
        | false =>
          show wpAny _ X.A (handleBy (.ref a) X.env hds2) _ _ _
          exact ih (hno rfl)
    exact go hh w
  · cases f with
    | next =>
      obtain ⟨σ', H', J', q⟩ := hsp
      exact wpAny_execs_nil ⟨σ', H', J'.ofTry ok, q⟩
    | brk =>
      obtain ⟨σ', H', J', q⟩ := hsp
      exact ⟨σ', H', J'.ofTry ok, q⟩
    | cont =>
      obtain ⟨σ', H', J', q⟩ := hsp
      exact ⟨σ', H', J'.ofTry ok, q⟩
    | ret u =>
      obtain ⟨v, σ', H', J', r, q⟩ := hsp
      exact ⟨v, σ', H', J'.ofTry ok, r, q⟩
end
/-! ### _law_deed, _law_seen -/
section
variable {P : Program} {w : World} {K : PySem.W.Frag} {mg : Str → Option Value} {base : Heap} {CD CS CB CW CR : Addr}
def DeedV (K : PySem.W.Frag) : VP := fun v H => ∃ e, DeedOk e ∧ Dp K H v (dDeed e)
theorem mono_deed {K : PySem.W.Frag} : Mono (DeedV K) := fun v H H' e h => let ⟨d, a, b⟩ := h; ⟨d, a, dp_mono e _ _ b⟩
theorem b_retP {X : Cx} {ρ : Rho} {e : Expr} {d : PyData} {pos : Pos} {rest : List Stmt} {P' : VP} (h : EvD X e ρ d) (k : ∀ v H, Dp X.K H v d → P' v H) (m : Mono P') : BR X (.Return (some e) pos :: rest) ρ (.ret P') := b_ret (e_w h k m)
def spDeed (K : PySem.W.Frag) (CD CS : Addr) : Sp := fun vs H Q _ => ∃ (ns : List Int) (k : Int) (l v : V) (q : Ptr) (og : Pic) (m : Str) (S : StandM) (dn : List StandM) (n wd hg : Nat), vs = [l, .int k, v] ∧ Dp K H l (.list (ns.map .int)) ∧ DeskV K CD CS q og m S dn n v H ∧ Good wd hg S ∧ ns.length ≤ 63 ∧ 0 ≤ k ∧ k ≤ 5000 ∧ ∀ u H', Same H H' → DeedV K u H' → Q u H'
abbrev N_deed : List Str := ["_law_script", "_law_at", "_law_desk", "_law_word", "_law_broad", "_law_tall", "_law_x", "_law_y", "_law_w", "_law_h"]
theorem sc_deed : FnScope N_deed ["_law_script", "_law_at", "_law_desk"] (defScope s_Ldeed) := ⟨rfl, rfl, rfl, by decide +kernel, rfl, by decide +kernel, by decide +kernel⟩
def words8 : List Str := ["narrow", "flatten", "keep", "drop", "free", "widen", "narrow", "narrow"]
theorem ok_deed (F : DF K mg CD CS) (D : DefAt K mg "_law_deed" s_Ldeed ["_law_script", "_law_at", "_law_desk"]) (c1 : CalD P w K mg base 1 "_law_drawn" R_drawn) (cz : CalM P w K mg base CX0 1 CD "size" ["self"] (spS (R_size K CD CS))) : CalG P w K mg base CX0 2 "_law_deed" ["_law_script", "_law_at", "_law_desk"] (spDeed K CD CS) :=
  fn_of0 D sc_deed (fun vs H Q E h => by
    obtain ⟨ns, k, l, v, q, og, m, S, dn, n, wd, hg, rfl, _⟩ := h
    rfl) fun f cdv A outer s H vs Q E hr h => by
    obtain ⟨ns, k, l, v, q, og, m, S, dn, n, wd, hg, rfl, pl, pv, g, hl, k0, k1, kk⟩ := h
    have g1 := g.w1
    have g2 := g.h1
    have eo : EnvOk [some (DD K (.list (ns.map .int))), some (DD K (.int k)), some (DeskV K CD CS q og m S dn n), none, none, none, none, none, none, none] (L2.start N_deed [l, .int k, v]) H := eok_d pl (eok_d (.int k) (eok_some pv mono_desk (eok_reps 7)))
    have dr : ∀ (j many : Int), 0 < many → 0 ≤ drawnM ns (k + j) many ∧ drawnM ns (k + j) many < many := fun j many h => drawn_ok h
    have d0 := drawn_ok (ns := ns) (k := k) (many := 8) (by decide)
    have hw8 : words8.getD (drawnM ns k 8).toNat "" ∈ words8 := getD_mem (by show _ < 8; omega)
    have hat : atI (words8.map PyData.str) (drawnM ns k 8) = some (.str (words8.getD (drawnM ns k 8).toNat "")) := at_str d0.1 (by show _ < (8 : Int); exact d0.2)
    generalize words8.getD (drawnM ns k 8).toNat "" = word at hw8 hat
    have body : BR (XG CX0 P w K mg base N_deed "_law_deed" s_Ldeed f cdv A outer s H E).nox (defBody s_Ldeed) [some (DD K (.list (ns.map .int))), some (DD K (.int k)), some (DeskV K CD CS q og m S dn n), none, none, none, none, none, none, none] (.ret (DeedV K)) := by
      refine b_set 3 (e_ixL (EvD.is (d' := .list (words8.map .str)) (e_lst (a_cons e_str (a_cons e_str (a_cons e_str (a_cons e_str (a_cons e_str (a_cons e_str (a_cons e_str (a_cons e_str a_nil)))))))) (by decide)) rfl) (e_call c1 hr (by decide) rfl (a_cons (e_n (d := .list (ns.map .int)) 0 rfl) (a_cons (e_n (d := .int k) 1 rfl) (a_cons e_int a_nil))) ⟨ns, k, 8, hl, k0, by omega, by decide, rfl, rfl⟩) hat) ?_ sc_deed.nd
      by_cases hin : word ∈ (["keep", "drop", "free"] : List Str)
      · refine b_if_f (EvT.is (t_cmp c_notinS (e_n (d := .str word) 3 rfl) (EvD.is (d' := .tuple (((["keep", "drop", "free"] : List Str)).map .str)) (e_tup (a_cons e_str (a_cons e_str (a_cons e_str a_nil))) (by decide)) rfl)) (by rw [decide_eq_true hin]; rfl)) ?_
        refine b_tg (js := [4, 5]) (ds := [.int (wd : Nat), .int (hg : Nat)]) (e_tell F.cD cz hr (by decide) (e_nP 2 (P := DeskV K CD CS q og m S dn n) rfl mono_desk) mono_dd ⟨q, og, m, S, dn, n, wd, hg, rfl, g, rfl⟩ (desk_ins "size")) (tg_tup rfl (tgs_cons 4 (tgs_cons 5 tgs_nil sc_deed.nd) sc_deed.nd)) ?_
        have dx := dr 1 (wd : Nat) (by omega)
        have dy := dr 2 (hg : Nat) (by omega)
        refine b_par 6 7 (e_call c1 hr (by decide) rfl (a_cons (e_n (d := .list (ns.map .int)) 0 rfl) (a_cons (e_add (e_n (d := .int k) 1 rfl) e_int) (a_cons (e_n (d := .int (wd : Nat)) 4 rfl) a_nil))) ⟨ns, k + 1, (wd : Nat), hl, by omega, by omega, by omega, rfl, rfl⟩) (e_call c1 hr (by decide) rfl (a_cons (e_n (d := .list (ns.map .int)) 0 rfl) (a_cons (e_add (e_n (d := .int k) 1 rfl) e_int) (a_cons (e_n (d := .int (hg : Nat)) 5 rfl) a_nil))) ⟨ns, k + 2, (hg : Nat), hl, by omega, by omega, by omega, rfl, rfl⟩) ?_ rfl sc_deed.nd
        generalize drawnM ns (k + 1) (wd : Nat) = x at dx
        generalize drawnM ns (k + 2) (hg : Nat) = y at dy
        refine b_par 8 9 (e_add e_int (e_call c1 hr (by decide) rfl (a_cons (e_n (d := .list (ns.map .int)) 0 rfl) (a_cons (e_add (e_n (d := .int k) 1 rfl) e_int) (a_cons (e_sub (e_n (d := .int (wd : Nat)) 4 rfl) (e_n (d := .int x) 6 rfl)) a_nil))) ⟨ns, k + 3, (wd : Nat) - x, hl, by omega, by omega, by omega, rfl, rfl⟩)) (e_add e_int (e_call c1 hr (by decide) rfl (a_cons (e_n (d := .list (ns.map .int)) 0 rfl) (a_cons (e_add (e_n (d := .int k) 1 rfl) e_int) (a_cons (e_sub (e_n (d := .int (hg : Nat)) 5 rfl) (e_n (d := .int y) 7 rfl)) a_nil))) ⟨ns, k + 4, (hg : Nat) - y, hl, by omega, by omega, by omega, rfl, rfl⟩)) ?_ rfl sc_deed.nd
        generalize 1 + drawnM ns (k + 3) ((wd : Nat) - x) = w1
        generalize 1 + drawnM ns (k + 4) ((hg : Nat) - y) = h1
        have last : ∀ (w2 h2 : Int), BR (XG CX0 P w K mg base N_deed "_law_deed" s_Ldeed f cdv A outer s H E).nox [(defBody s_Ldeed).getD 6 (.Pass ⟨0, 0, 0, 0⟩)] [some (DD K (.list (ns.map .int))), some (DD K (.int k)), some (DeskV K CD CS q og m S dn n), some (DD K (.str word)), some (DD K (.int (wd : Nat))), some (DD K (.int (hg : Nat))), some (DD K (.int x)), some (DD K (.int y)), some (DD K (.int w2)), some (DD K (.int h2))] (.ret (DeedV K)) := fun w2 h2 => by
          refine b_retP (d := dDeed (word, [x, y, if decide (word = "keep") = true then 1 else w2, if (decide (word = "keep") && decide (0 < h2)) = true then 1 else h2])) (EvD.is (e_tup (a_cons (e_n (d := .str word) 3 rfl) (a_cons (e_n (d := .int x) 6 rfl) (a_cons (e_n (d := .int y) 7 rfl) (a_cons (e_if (d := .int 1) (d' := .int w2) (t_cmp c_eqS (e_n (d := .str word) 3 rfl) e_str) (fun _ => e_int) fun _ => e_n (d := .int w2) 8 rfl) (a_cons (e_if (d := .int 1) (d' := .int h2) (t_w (w_and (t_cmp c_eqS (e_n (d := .str word) 3 rfl) e_str) fun _ => w_and1 (t_cmp c_gt (e_n (d := .int h2) 9 rfl) e_int))) (fun _ => e_int) fun _ => e_n (d := .int h2) 9 rfl) a_nil))))) (by simp)) ?_) (fun v H p => ⟨_, .inr ⟨hin, _, _, _, _, rfl⟩, p⟩) mono_deed
          unfold dDeed
          simp only [List.map_cons, List.map_nil, apply_ite PyData.int]
        by_cases hz : drawnM ns (k + 5) 9 = 0
        · refine b_s (ρ' := [some (DD K (.list (ns.map .int))), some (DD K (.int k)), some (DeskV K CD CS q og m S dn n), some (DD K (.str word)), some (DD K (.int (wd : Nat))), some (DD K (.int (hg : Nat))), some (DD K (.int x)), some (DD K (.int y)), some (DD K (.int (w1 + 1))), some (DD K (.int (h1 - 1)))]) (sr_if (k := true) (EvT.is (t_cmp c_eqI (e_call c1 hr (by decide) rfl (a_cons (e_n (d := .list (ns.map .int)) 0 rfl) (a_cons (e_add (e_n (d := .int k) 1 rfl) e_int) (a_cons e_int a_nil))) ⟨ns, k + 5, 9, hl, by omega, by omega, by decide, rfl, rfl⟩) e_int) (decide_eq_true hz)) (fun _ => b_par 8 9 (e_add (e_n (d := .int w1) 8 rfl) e_int) (e_sub (e_n (d := .int h1) 9 rfl) e_int) b_nil rfl sc_deed.nd) fun z => by cases z) (last _ _)
        · exact b_if_f (EvT.is (t_cmp c_eqI (e_call c1 hr (by decide) rfl (a_cons (e_n (d := .list (ns.map .int)) 0 rfl) (a_cons (e_add (e_n (d := .int k) 1 rfl) e_int) (a_cons e_int a_nil))) ⟨ns, k + 5, 9, hl, by omega, by omega, by decide, rfl, rfl⟩) e_int) (decide_eq_false hz)) (last _ _)
      · refine b_if_r (k := true) (ρ' := []) (EvT.is (t_cmp c_notinS (e_n (d := .str word) 3 rfl) (EvD.is (d' := .tuple (((["keep", "drop", "free"] : List Str)).map .str)) (e_tup (a_cons e_str (a_cons e_str (a_cons e_str a_nil))) (by decide)) rfl)) (by rw [decide_eq_false hin]; rfl)) (fun _ => b_retP (d := dDeed (word, [])) (EvD.is (e_tup (a_cons (e_n (d := .str word) 3 rfl) a_nil) (by simp)) rfl) (fun v H p => ⟨_, .inl ⟨?_, rfl⟩, p⟩) mono_deed) (fun z => by cases z) fun z => by cases z
        simp only [words8, List.mem_cons, List.not_mem_nil, or_false] at hw8 hin ⊢
        rcases hw8 with h | h | h | h | h | h | h | h <;> simp_all
    exact body.run _ H eo _ fun u H' e pu => kk u H' e pu
end
end SH

/-! ## SHDn -/
set_option Elab.async false
set_option linter.all false
set_option maxRecDepth 100000
set_option maxHeartbeats 4000000
/-! the law's done, seen -/
namespace SH
open PySem PySem.Spec PyProof.Rows L2
structure EX (K : PySem.W.Frag) (mg : Str → Option Value) (CB CW CR CE : Addr) : Prop where
  gE : mg "SeamError" = some (.ref CE)
  xf : XfC K CR
  no : PySem.W.findIn K (.ref CR) "now" = some none
  cB : ExcC K CB
  cW : ExcC K CW
  m1 : PySem.W.exmOne K (.ref CR) (.ref CR) = some true
  m2 : PySem.W.exmOne K (.ref CB) (.ref CR) = some false
  m3 : PySem.W.exmOne K (.ref CW) (.ref CR) = some false
  m4 : PySem.W.exmOne K (.ref CB) (.ref CE) = some true
  m5 : PySem.W.exmOne K (.ref CW) (.ref CE) = some true
  k1 : PySem.W.kitOne K (.ref CB) (.ref CB) = some true
  k2 : PySem.W.kitOne K (.ref CB) (.ref CW) = some false
  k3 : PySem.W.kitOne K (.ref CW) (.ref CB) = some false
  k4 : PySem.W.kitOne K (.ref CW) (.ref CW) = some true
theorem e_isE {X : Cx} {a D : Addr} {oe : Obj} {pn : List (Addr × Obj)} {ρ : Rho} {e : Expr} {x : Str} {C : Addr} {b : Bool} {pos p p2 : Pos} (T : ExcC X.K D) (hz : Zc (.ref D) none oe) (hf : ∃ vs, oe.data = .fields vs) (hm : X.mg "isinstance" = none) (hx : X.mg x = some (.ref C)) (hk : PySem.W.kitOne X.K (.ref D) (.ref C) = some b) (ha : EvR (X.suite a ((a, oe) :: pn)) e ρ (Eq0 (.ref a)))
    (hg : Gl (X.suite a ((a, oe) :: pn)) "isinstance" := by rfl) (hg2 : Gl (X.suite a ((a, oe) :: pn)) x := by rfl) (hdb : (x == ("__debug__" : Str)) = false := by decide) (hs : starEach [e, .Name x p2] X.env = (false, eval e X.env) :: starEach [.Name x p2] X.env := by rfl) (hs2 : starEach [.Name x p2] X.env = (false, eval (.Name x p2) X.env) :: starEach [] X.env := by rfl)
    (hpl : (backTo pos (starEach [.Name x p2] X.env)).any (·.1) = false := by rfl) : EvD (X.suite a ((a, oe) :: pn)) (.Call (.Name "isinstance" p) [e, .Name x p2] [] pos) ρ (.bool b) :=
  ed_of (pe_callB (call_isE T hz hf) hg hm (by decide +kernel) (pa_cons pe_s (pa_cons (pe_glob (v := V.ref C) hg2 hx rfl hdb) pa_nil hs2) hs) (he := hs) (hpl := hpl)) fun σ H eo Q k => ha.run σ H eo _ fun v H1 e1 pv => by
    have pv : v = .ref a := pv
    subst pv
    exact ⟨.ref C, .ref C, b, rfl, fun u h => h, hk, k _ _ e1 (.bl b)⟩
section
variable {P : Program} {w : World} {K : PySem.W.Frag} {mg : Str → Option Value} {base : Heap} {CD CS CB CW CR CE : Addr}
def spDone (K : PySem.W.Frag) (CD CS : Addr) : Sp := fun vs H Q _ => ∃ (q : Ptr) (og : Pic) (m : Str) (S : StandM) (dn : List StandM) (n wd hg : Nat) (e : DeedM) (v : V), vs = [.ref q.p, v] ∧ DeskAt K CD CS q og m S dn n H ∧ Dp K H v (dDeed e) ∧ DeedOk e ∧ Good wd hg S ∧ dn.length ≤ 500 ∧ S.deeds.length ≤ 500 ∧ S.gone.length ≤ 500 ∧
  (∀ S', doM (isW m) S e = some S' → ∀ u H' q', Stp q q' H H' → DeskAt K CD CS q' og m S' (dn ++ [S]) n H' → Q u H') ∧ (doM (isW m) S e = none → ∀ u H', Same H H' → Q u H')
abbrev N_done : List Str := ["_law_desk", "_law_deed_here", "_law_word", "_law_box", "e"]
theorem sc_done : FnScope N_done ["_law_desk", "_law_deed_here"] (defScope s_Ldone) := ⟨rfl, rfl, rfl, by decide +kernel, rfl, by decide +kernel, by decide +kernel⟩
theorem eok_nones {σ : St} {H : Hp} (n : Nat) (h : σ.length = n) : EnvOk (List.replicate n none) σ H := by
  have key : ∀ (i : Nat) (P : VP), (List.replicate n (none : Option VP))[i]? ≠ some (some P) := fun i P q => by
    rw [List.getElem?_replicate] at q
    split at q
    · have q := Option.some.inj q
      cases q
    · cases q
  exact ⟨fun i P q => absurd q (key i P), fun i P q => absurd q (key i P), by rw [h, List.length_replicate]⟩
def tsOf (X : Cx) (sts : List Stmt) : Addr → Value → Option Addr → TS := fun a cls d D' σ' H' => ∀ (oe : Obj) (pn : List (Addr × Obj)), Zc cls d oe → (∃ vs, oe.data = .fields vs) → sB (X.suite a ((a, oe) :: pn)) sts D' σ' H'
def W2 (X : Cx) (i : Nat) (D : Ends) (c1 c2 : Value) (s1 s2 : List Stmt) : WX := wA X.K i (fun _ _ _ _ => False) D [(c1, tsOf X s1), (c2, tsOf X s2)]
theorem sb_try2 {X : Cx} {n x1 x2 : Str} {i : Nat} {c1 c2 : Value} {body s1 s2 : List Stmt} {b1 b2 : Stmt} {np1 np2 pos1 pos2 pos : Pos} {D : Ends} {σ : St} {H : Hp} (hs : X.stack = X.env :: X.outer) (hf : X.env.frame = some X.env.locals) (hN : X.N.Nodup) (hi : X.N[i]? = some n) (hln : X.env.kindOf n = some .local) (h1 : Names X x1 c1) (h2 : Names X x2 c2)
    (h : ∀ (pn : List (Addr × Obj)) (xe : Value → Shared → Prop), Takes (X.tr pn xe) (W2 X i D c1 c2 (b1 :: s1) (b2 :: s2)) → sB (X.tr pn xe) body D σ H) : sS X (.Try body [.ExceptHandler (some (.Name x1 np1)) (some n) (b1 :: s1) pos1, .ExceptHandler (some (.Name x2 np2)) (some n) (b2 :: s2) pos2] [] [] pos) D σ H :=
  sS_of (ps_try_asMany (i := i) (Wout := fun _ _ _ _ => False) (tb := fun W D' σ' H' => ∀ (pn : List (Addr × Obj)) (xe : Value → Shared → Prop), Takes (X.tr pn xe) W → sB (X.tr pn xe) body D' σ' H') hs hf hN hi hln takes0 (fun W pn xe tk po => ⟨fun pins s σ H D I h => h pn xe tk pins s I⟩)
      (.cons h1 (fun a oe cls d pn hz hf => ⟨fun pins s σ H D I h => h oe pn hz hf pins s I⟩) (.cons h2 (fun a oe cls d pn hz hf => ⟨fun pins s σ H D I h => h oe pn hz hf pins s I⟩) .nil))) h
theorem ok_done (G : Glob K mg) (F : DF K mg CD CS) (Ex : EF P w K mg base CB CW CR) (Y : EX K mg CB CW CR CE) (D : DefAt K mg "_law_done" s_Ldone ["_law_desk", "_law_deed_here"]) (M : Deeds P w K mg base CD CS CB CW CR) : CalG P w K mg base CX0 8 "_law_done" ["_law_desk", "_law_deed_here"] (spDone K CD CS) :=
  fn_of0 D sc_done (fun vs H Q E h => by
    obtain ⟨q, og, m, S, dn, n, wd, hg, e, v, rfl, _⟩ := h
    rfl) fun f cdv A outer s H vs Q E hr h => by
    obtain ⟨q, og, m, S, dn, n, wd, hg, e, v, rfl, hd, pv, k, g, l1, l2, l3, kk, kn⟩ := h
    obtain ⟨word, box⟩ := e
    have eo : EnvOk [some (DeskV K CD CS q og m S dn n), some (DD K (dDeed (word, box))), none, none, none] (L2.start N_done [.ref q.p, v]) H := eok_some ⟨rfl, hd⟩ mono_desk (eok_d pv (eok_reps 3))
    refine sb_cons (sr_par 2 3 (d := .str word) (d' := .tuple (box.map .int)) (e_ix (ds := .str word :: box.map .int) (e_n (d := dDeed (word, box)) 1 rfl) e_int (atI_nat rfl)) (EvD.is (e_sl (ds := .str word :: box.map .int) (e_n (d := dDeed (word, box)) 1 rfl) (o_some e_int) o_none) (by rw [cut_tail])) rfl sc_done.nd) eo fun σ1 H1 e1 eo1 => ?_
    refine sb_pre (sb_try2 (i := 4) (c1 := .ref CR) (c2 := .ref CE) rfl rfl sc_done.nd rfl rfl ⟨rfl, by decide, .inl Ex.gR⟩ ⟨rfl, by decide, .inl Y.gE⟩ fun pn xe tk => ?_)
    have len1 : σ1.length = 5 := eo1.len
    obtain ⟨W, hW, tk⟩ : ∃ W, W = _ ∧ Takes ((XG CX0 P w K mg base N_done "_law_done" s_Ldone f cdv A outer s H E).nox.tr pn xe) W := ⟨_, rfl, tk⟩
    have xs := fun (σ : St) => passAt tk σ
    -- what a refusal leads to
    have refuse : ∀ {H2 : Hp}, doM (isW m) S (word, box) = none → Same H1 H2 → Ref CB CW CR H2 (WE W σ1) := by
      rw [hW]
      intro H2 hno e2 H' e'
      have eA : ∀ a : Addr, EnvOk ((List.replicate 5 none : Rho).set 4 (some (Eq0 (.ref a)))) (σ1.set 4 (some (.ref a))) H' := fun a => (eok_nones (σ := σ1) (H := H') 5 len1).set 4 (v := .ref a) rfl mono_eq
      have e1' := (e1.trans e2).trans e'
      have shb : ∀ b : Bool, SeqAt.shaped (.bool b) = true := fun b => by cases b <;> rfl
      have shl : ∀ b1 b2 b3 : Bool, SeqAt.shaped (.list [.bool b1, .bool b2, .bool b3]) = true := fun b1 b2 b3 => Shp.ok (n := 1) (shp_lst fun d hd => by
        simp only [List.mem_cons, List.not_mem_nil, or_false] at hd
        rcases hd with rfl | rfl | rfl <;> exact shp_bool)
      have hun : (A.deeper (envOfC "_law_done" (defScope s_Ldone) s.heap.objs.size f cdv)).units + 65 < cLine := by have := hr.un; omega
      refine ⟨⟨false, Y.m3, (fun z => by cases z), fun _ => ⟨true, Y.m5, fun _ a ha oe pn hz hf => ?_, fun z => by cases z⟩⟩, ⟨false, Y.m2, (fun z => by cases z), fun _ => ⟨true, Y.m4, fun _ a ha oe pn hz hf => ?_, fun z => by cases z⟩⟩, fun d v hv => ⟨true, Y.m1, fun _ a ha oe pn hz hf => ?_, fun z => by cases z⟩⟩
      · refine sb_retE ((e_tup (a_cons e_str (a_cons (e_index (d := .bool true) (z := .bool true) (j := 2) (ds := [.bool false, .bool false, .bool true]) hun (e_lst (a_cons (e_isE Y.cW hz hf G.isi Ex.gB Y.k3 (e_nP 4 rfl mono_eq)) (a_cons e_bl (a_cons (e_isE Y.cW hz hf G.isi Ex.gW Y.k4 (e_nP 4 rfl mono_eq)) a_nil)))) e_bl (shl _ _ _) (shb _) rfl rfl (fun k z' hk hz' => by
          have : k = 0 ∨ k = 1 := by omega
          rcases this with rfl | rfl <;> (cases hz'; rfl))) (a_cons e_non a_nil))) (by simp)).run _ _ (eA a) _ fun v3 H3 e3 _ => kn hno v3 H3 (e1'.trans e3))
      · refine sb_retE ((e_tup (a_cons e_str (a_cons (e_index (d := .bool true) (z := .bool true) (j := 0) (ds := [.bool true, .bool false, .bool false]) hun (e_lst (a_cons (e_isE Y.cB hz hf G.isi Ex.gB Y.k1 (e_nP 4 rfl mono_eq)) (a_cons e_bl (a_cons (e_isE Y.cB hz hf G.isi Ex.gW Y.k2 (e_nP 4 rfl mono_eq)) a_nil)))) e_bl (shl _ _ _) (shb _) rfl rfl (fun k z' hk hz' => by omega)) (a_cons e_non a_nil))) (by simp)).run _ _ (eA a) _ fun v3 H3 e3 _ => kn hno v3 H3 (e1'.trans e3))
      · refine sb_retE (sE_of (pe_tup (pa_cons pe_str (pa_cons pe_int (pa_cons (pe_xf Y.xf Y.no hz hf (pe_var (i := 4) rfl (.inl rfl) (by decide) (by decide))) pa_nil)))) ?_)
        refine ⟨.ref a, by rw [List.getElem?_set_self (by omega)], rfl, rfl, d, _, v, rfl, hv, rfl, by rw [sizeLine_eq]; simp, fun p hp => ?_⟩
        exact kn hno _ _ (e1'.trans (same_new hp))
    have plain : ∀ {op : Bool → StandM → Option StandM} {vv : V} {H2 : Hp} {Q' : VK}, doM (isW m) S (word, box) = op (isW m) S → Same H1 H2 → DeskV K CD CS q og m S dn n vv H2 → (∀ v H', Q v H' → Q' v H') → spMut K CD CS CB CW CR op [vv] H2 Q' (WE W σ1) := fun ho e2 pv2 hq => ⟨q, og, m, S, dn, n, wd, hg, by rw [pv2.1], pv2.2, g, l1, l2, l3, fun S2 h2 v3 H3 q3 s3 d3 => hq _ _ (kk S2 (ho.trans h2) v3 H3 q3 (Stp.pre (e1.trans e2) s3) d3), fun hn => refuse (ho.trans hn) e2⟩
    have box_ : ∀ {wd' : Str} {vl : Int} (x y a b : Int) {vv : V} {H2 : Hp} {Q' : VK}, doM (isW m) S (word, box) = mrkM wd' vl S x y a b → Same H1 H2 → DeskV K CD CS q og m S dn n vv H2 → (∀ v H', Q v H' → Q' v H') → spBox K CD CS CB CW CR wd' vl [vv, .int x, .int y, .int a, .int b] H2 Q' (WE W σ1) := fun x y a b _ _ _ ho e2 pv2 hq => ⟨q, og, m, S, dn, n, wd, hg, x, y, a, b, by rw [pv2.1], pv2.2, g, l1, l2, l3, fun S2 h2 v3 H3 q3 s3 d3 => hq _ _ (kk S2 (ho.trans h2) v3 H3 q3 (Stp.pre (e1.trans e2) s3) d3), fun hn => refuse (ho.trans hn) e2⟩
    have tw : ∀ {X : Cx} {z : Str} {b : Bool} {kk : Nat} {p1 p2 p3 : Pos} (_ : EvD X (.Name "_law_word" p1) ((([some (DeskV K CD CS q og m S dn n), some (DD K (dDeed (word, box))), none, none, none] : Rho).set 2 (some (DD X.K (.str word)))).set 3 (some (DD X.K (.tuple (box.map .int))))) (.str word)) (_ : decide (word = z) = b), EvT X (.Compare (.Name "_law_word" p1) [.Eq] [.Constant (.str z) kk p2] p3) _ b := fun h hb => EvT.is (t_cmp c_eqS h e_str) hb
    rcases k with ⟨km, kb⟩ | ⟨km, x, y, a, b, kb⟩
    · have kb : box = [] := kb
      subst kb
      have km : word = "narrow" ∨ word = "flatten" ∨ word = "widen" := by simpa using km
      rcases km with rfl | rfl | rfl
      · have hdo : doM (isW m) S ("narrow", []) = narM (isW m) S := by unfold doM; rw [if_pos rfl]
        refine sb_ift (tw (e_n (d := .str "narrow") 2 rfl) (by decide)) eo1 fun H2 e2 => ?_
        exact sb_retE (m_self0 (E := WE W) F.cD M.nar hr (by decide) (fun σ => passAt tk σ) (e_nP 0 (P := DeskV K CD CS q og m S dn n) rfl mono_desk) (eo1.up e2) (desk_ins "narrow") fun vv H3 e3 pv3 => plain hdo (e2.trans e3) pv3 fun v H' hq => hq)
      · have hdo : doM (isW m) S ("flatten", []) = fltM (isW m) S := by unfold doM; rw [if_neg (by decide), if_pos rfl]
        refine sb_iff (tw (e_n (d := .str "flatten") 2 rfl) (by decide)) eo1 fun H2 e2 => sb_nil ?_
        refine sb_ift (tw (e_n (d := .str "flatten") 2 rfl) (by decide)) (eo1.up e2) fun H3 e3 => ?_
        exact sb_retE (m_self0 (E := WE W) F.cD M.flt hr (by decide) (fun σ => passAt tk σ) (e_nP 0 (P := DeskV K CD CS q og m S dn n) rfl mono_desk) ((eo1.up e2).up e3) (desk_ins "flatten") fun vv H4 e4 pv3 => plain hdo ((e2.trans e3).trans e4) pv3 fun v H' hq => hq)
      · have hdo : doM (isW m) S ("widen", []) = wdnM (isW m) S := by unfold doM; rw [if_neg (by decide), if_neg (by decide), if_pos rfl]
        refine sb_iff (tw (e_n (d := .str "widen") 2 rfl) (by decide)) eo1 fun H2 e2 => sb_nil ?_
        refine sb_iff (tw (e_n (d := .str "widen") 2 rfl) (by decide)) (eo1.up e2) fun H3 e3 => sb_nil ?_
        refine sb_ift (tw (e_n (d := .str "widen") 2 rfl) (by decide)) ((eo1.up e2).up e3) fun H4 e4 => ?_
        exact sb_retE (m_self0 (E := WE W) F.cD M.wdn hr (by decide) (fun σ => passAt tk σ) (e_nP 0 (P := DeskV K CD CS q og m S dn n) rfl mono_desk) (((eo1.up e2).up e3).up e4) (desk_ins "widen") fun vv H5 e5 pv3 => plain hdo (((e2.trans e3).trans e4).trans e5) pv3 fun v H' hq => hq)
    · have kb : box = [x, y, a, b] := kb
      subst kb
      have bx : ∀ {X : Cx} {ρ : Rho} {e1 e2 : Expr} {pos : Pos} {i j : Int} (_ : EvD X e1 ρ (.tuple ([x, y, a, b].map .int))) (_ : EvD X e2 ρ (.int i)) (_ : PlainIx e2) (_ : atI ([x, y, a, b].map PyData.int) i = some (.int j)), EvD X (.Subscript e1 e2 pos) ρ (.int j) := fun h1 h2 h3 h4 => e_ix h1 h2 h4 h3
      have km : word = "keep" ∨ word = "drop" ∨ word = "free" := by simpa using km
      rcases km with rfl | rfl | rfl
      · have hdo : doM (isW m) S ("keep", [x, y, a, b]) = mrkM "keep" 1 S x y a b := by
          unfold doM
          rw [if_neg (show ¬ ("keep" : Str) = "narrow" by decide), if_neg (show ¬ ("keep" : Str) = "flatten" by decide), if_neg (show ¬ ("keep" : Str) = "widen" by decide)]
          show (if ("keep" : Str) = "keep" then mrkM "keep" 1 S x y a b else if ("keep" : Str) = "drop" then mrkM "drop" 2 S x y a b else mrkM "free" 0 S x y a b) = _
          rw [if_pos rfl]
        refine sb_iff (tw (e_n (d := .str "keep") 2 rfl) (by decide)) (eo1) fun H2 e2 => sb_nil ?_
        refine sb_iff (tw (e_n (d := .str "keep") 2 rfl) (by decide)) ((eo1).up e2) fun H3 e3 => sb_nil ?_
        refine sb_iff (tw (e_n (d := .str "keep") 2 rfl) (by decide)) (((eo1).up e2).up e3) fun H4 e4 => sb_nil ?_
        refine sb_ift (tw (e_n (d := .str "keep") 2 rfl) (by decide)) ((((eo1).up e2).up e3).up e4) fun H5 e5 => ?_
        exact sb_retE (m_box (E := WE W) F.cD M.kp hr (by decide) (fun σ => passAt tk σ) (e_nP 0 (P := DeskV K CD CS q og m S dn n) rfl mono_desk) (bx (i := 0) (j := x) (e_n (d := .tuple ([x, y, a, b].map .int)) 3 rfl) e_int (fun _ _ => rfl) rfl) (bx (i := 1) (j := y) (e_n (d := .tuple ([x, y, a, b].map .int)) 3 rfl) e_int (fun _ _ => rfl) rfl) (bx (i := 2) (j := a) (e_n (d := .tuple ([x, y, a, b].map .int)) 3 rfl) e_int (fun _ _ => rfl) rfl) (bx (i := 3) (j := b) (e_n (d := .tuple ([x, y, a, b].map .int)) 3 rfl) e_int (fun _ _ => rfl) rfl) (((((eo1).up e2).up e3).up e4).up e5) (desk_ins "keep") fun vv H9 e9 pv9 => box_ x y a b hdo (((((e2).trans e3).trans e4).trans e5).trans e9) pv9 fun v H' hq => hq)
      · have hdo : doM (isW m) S ("drop", [x, y, a, b]) = mrkM "drop" 2 S x y a b := by
          unfold doM
          rw [if_neg (show ¬ ("drop" : Str) = "narrow" by decide), if_neg (show ¬ ("drop" : Str) = "flatten" by decide), if_neg (show ¬ ("drop" : Str) = "widen" by decide)]
          show (if ("drop" : Str) = "keep" then mrkM "keep" 1 S x y a b else if ("drop" : Str) = "drop" then mrkM "drop" 2 S x y a b else mrkM "free" 0 S x y a b) = _
          rw [if_neg (by decide), if_pos rfl]
        refine sb_iff (tw (e_n (d := .str "drop") 2 rfl) (by decide)) (eo1) fun H2 e2 => sb_nil ?_
        refine sb_iff (tw (e_n (d := .str "drop") 2 rfl) (by decide)) ((eo1).up e2) fun H3 e3 => sb_nil ?_
        refine sb_iff (tw (e_n (d := .str "drop") 2 rfl) (by decide)) (((eo1).up e2).up e3) fun H4 e4 => sb_nil ?_
        refine sb_iff (tw (e_n (d := .str "drop") 2 rfl) (by decide)) ((((eo1).up e2).up e3).up e4) fun H5 e5 => sb_nil ?_
        refine sb_ift (tw (e_n (d := .str "drop") 2 rfl) (by decide)) (((((eo1).up e2).up e3).up e4).up e5) fun H6 e6 => ?_
        exact sb_retE (m_box (E := WE W) F.cD M.dr hr (by decide) (fun σ => passAt tk σ) (e_nP 0 (P := DeskV K CD CS q og m S dn n) rfl mono_desk) (bx (i := 0) (j := x) (e_n (d := .tuple ([x, y, a, b].map .int)) 3 rfl) e_int (fun _ _ => rfl) rfl) (bx (i := 1) (j := y) (e_n (d := .tuple ([x, y, a, b].map .int)) 3 rfl) e_int (fun _ _ => rfl) rfl) (bx (i := 2) (j := a) (e_n (d := .tuple ([x, y, a, b].map .int)) 3 rfl) e_int (fun _ _ => rfl) rfl) (bx (i := 3) (j := b) (e_n (d := .tuple ([x, y, a, b].map .int)) 3 rfl) e_int (fun _ _ => rfl) rfl) ((((((eo1).up e2).up e3).up e4).up e5).up e6) (desk_ins "drop") fun vv H9 e9 pv9 => box_ x y a b hdo ((((((e2).trans e3).trans e4).trans e5).trans e6).trans e9) pv9 fun v H' hq => hq)
      · have hdo : doM (isW m) S ("free", [x, y, a, b]) = mrkM "free" 0 S x y a b := by
          unfold doM
          rw [if_neg (show ¬ ("free" : Str) = "narrow" by decide), if_neg (show ¬ ("free" : Str) = "flatten" by decide), if_neg (show ¬ ("free" : Str) = "widen" by decide)]
          show (if ("free" : Str) = "keep" then mrkM "keep" 1 S x y a b else if ("free" : Str) = "drop" then mrkM "drop" 2 S x y a b else mrkM "free" 0 S x y a b) = _
          rw [if_neg (by decide), if_neg (by decide)]
        refine sb_iff (tw (e_n (d := .str "free") 2 rfl) (by decide)) (eo1) fun H2 e2 => sb_nil ?_
        refine sb_iff (tw (e_n (d := .str "free") 2 rfl) (by decide)) ((eo1).up e2) fun H3 e3 => sb_nil ?_
        refine sb_iff (tw (e_n (d := .str "free") 2 rfl) (by decide)) (((eo1).up e2).up e3) fun H4 e4 => sb_nil ?_
        refine sb_iff (tw (e_n (d := .str "free") 2 rfl) (by decide)) ((((eo1).up e2).up e3).up e4) fun H5 e5 => sb_nil ?_
        refine sb_iff (tw (e_n (d := .str "free") 2 rfl) (by decide)) (((((eo1).up e2).up e3).up e4).up e5) fun H6 e6 => sb_nil ?_
        exact sb_retE (m_box (E := WE W) F.cD M.fr hr (by decide) (fun σ => passAt tk σ) (e_nP 0 (P := DeskV K CD CS q og m S dn n) rfl mono_desk) (bx (i := 0) (j := x) (e_n (d := .tuple ([x, y, a, b].map .int)) 3 rfl) e_int (fun _ _ => rfl) rfl) (bx (i := 1) (j := y) (e_n (d := .tuple ([x, y, a, b].map .int)) 3 rfl) e_int (fun _ _ => rfl) rfl) (bx (i := 2) (j := a) (e_n (d := .tuple ([x, y, a, b].map .int)) 3 rfl) e_int (fun _ _ => rfl) rfl) (bx (i := 3) (j := b) (e_n (d := .tuple ([x, y, a, b].map .int)) 3 rfl) e_int (fun _ _ => rfl) rfl) ((((((eo1).up e2).up e3).up e4).up e5).up e6) (desk_ins "free") fun vv H9 e9 pv9 => box_ x y a b hdo ((((((e2).trans e3).trans e4).trans e5).trans e6).trans e9) pv9 fun v H' hq => hq)
end
end SH

/-! ## SHSn -/
set_option Elab.async false
set_option linter.all false
set_option maxRecDepth 100000
set_option maxHeartbeats 4000000
/-! what is seen of a desk; the log's own list -/
namespace SH
open PySem PySem.Spec PyProof.Rows L2
/-- a list that is no desk's own -/
def LN (K : PySem.W.Frag) (q : Ptr) (ds : List PyData) : VP := fun v H => ∃ a L, v = .ref a ∧ H a = some (.lst L) ∧ DpAll K H L ds ∧ ¬ q.own a
theorem mono_ln {K : PySem.W.Frag} {q : Ptr} {ds : List PyData} : Mono (LN K q ds) := fun v H H' e h => by
  obtain ⟨a, L, rfl, h1, h2, h3⟩ := h
  exact ⟨a, L, rfl, e _ _ h1, dpa_mono e _ _ h2, h3⟩
theorem ln_d {K : PySem.W.Frag} {q : Ptr} {ds : List PyData} {v : V} {H : Hp} (h : LN K q ds v H) : Dp K H v (.list ds) := by
  obtain ⟨a, L, rfl, h1, h2, h3⟩ := h
  exact .lst (.of h1) h2
theorem ln_stp {K : PySem.W.Frag} {q q' : Ptr} {ds : List PyData} {v : V} {H H' : Hp} (hn : noLs ds = true) (s : Stp q q' H H') (h : LN K q ds v H) : LN K q' ds v H' := by
  obtain ⟨a, L, rfl, h1, h2, h3⟩ := h
  refine ⟨a, L, rfl, s.st _ _ h3 h1, dpa_t s.k.t _ _ hn h2, fun z => ?_⟩
  rcases z with z | z | z
  · exact h3 (.inl (z.trans s.pl.1))
  · exact h3 (.inr (.inl (z.trans s.pl.2.1)))
  · rcases s.pl.2.2 with y | y
    · exact h3 (.inr (.inr (z.trans y)))
    · rw [z, y] at h1
      cases h1
/-- another desk's deed -/
theorem ln_other {K : PySem.W.Frag} {q r r' : Ptr} {ds : List PyData} {v : V} {H H' : Hp} (hn : noLs ds = true) (s : Stp r r' H H') (h : LN K q ds v H) (hr : LN K r ds v H) : LN K q ds v H' ∧ LN K r' ds v H' := by
  refine ⟨?_, ln_stp hn s hr⟩
  obtain ⟨a, L, rfl, h1, h2, h3⟩ := h
  obtain ⟨a', L', e, h1', h2', h3'⟩ := hr
  cases e
  exact ⟨a, L, rfl, s.st _ _ h3' h1, dpa_t s.k.t _ _ hn h2, h3⟩
section
variable {P : Program} {w : World} {K : PySem.W.Frag} {mg : Str → Option Value} {base : Heap} {CD CS CB CW CR CE : Addr}
theorem e_listN {X : Cx} {ρ : Rho} {e : Expr} {p pos : Pos} {ds : List PyData} {q : Ptr} {og : Pic} {m : Str} {S : StandM} {dn : List StandM} {n : Nat} (h0 : ρ[0]? = some (some (DeskV X.K CD CS q og m S dn n))) (hm : X.mg "list" = none) (ha : EvD X e ρ (.tuple ds)) (hg : Gl X "list" := by rfl) (hs : starEach (e :: []) X.env = (false, eval e X.env) :: starEach [] X.env := by rfl) (hpl : (backTo pos (starEach [] X.env)).any (·.1) = false := by rfl) : EvR X (.Call (.Name "list" p) [e] [] pos) ρ (LN X.K q ds) :=
  ev_of (pe_callTy call_list_of hg hm (by decide +kernel) (pa_cons pe_s pa_nil hs) (he := hs) (hpl := hpl)) mono_ln fun σ H eo Q k => ha.run σ H eo _ fun u H1 e1 pu => by
    obtain ⟨v, _, pv⟩ := eo.at_ 0 _ h0
    obtain ⟨a, xs, rfl, h1, d1⟩ := dp_tup pu
    refine ⟨a, xs, rfl, .inr h1, fun l hl => ?_⟩
    refine k _ _ (e1.trans (same_new hl)) ⟨l, xs, rfl, upd_same, dpa_mono (same_new hl) _ _ d1, fun z => ?_⟩
    obtain ⟨o, hz⟩ := desk_own_some (desk_up e1 pv.2) z
    rw [hl] at hz
    cases hz
def R_logN (K : PySem.W.Frag) (CD CS : Addr) (P0 P' : VP) : Prop := ∃ q og m S dn n, P0 = DeskV K CD CS q og m S dn n ∧ P' = LN K q (S.deeds.map dDeed)
theorem ok_logN (G : Glob K mg) (F : DF K mg CD CS) (D : MethD K CD "log" "Desk.log" s_Desk_log ["self"] []) : CalM P w K mg base CX0 1 CD "log" ["self"] (spS (R_logN K CD CS)) :=
  meth_of0 (N := ["self"]) D ⟨rfl, rfl, rfl, by decide +kernel, rfl, by decide +kernel, by decide +kernel⟩ (fun vs H Q E h => by
    obtain ⟨v, _, _, rfl, _⟩ := h
    rfl) fun f cdv A outer s H vs Q E hr h => by
    obtain ⟨v, P0, P', rfl, ⟨q, og, m, S, dn, n, rfl, rfl⟩, _, pv, k⟩ := h
    have eo : EnvOk [some (DeskV K CD CS q og m S dn n)] (L2.start ["self"] [v]) H := eok_some pv mono_desk eok_nil
    exact sb_retE ((e_listN (q := q) (og := og) (m := m) (S := S) (dn := dn) (n := n) rfl G.list (e_deeds F (e_here F (e_nP 0 (P := DeskV K CD CS q og m S dn n) rfl mono_desk)))).run _ H eo _ fun u H1 e1 pu => k u H1 e1 pu)
def seenM (S : StandM) (wd hg : Nat) : List PyData := [dP S.cells, dP S.signs, .list (S.gone.map dGone), .tuple [.int (wd : Nat), .int (hg : Nat)], .int (S.deeds.length : Nat), .str (sizeText wd hg), .list (S.deeds.map dDeed)]
def R_seen (K : PySem.W.Frag) (CD CS : Addr) (P0 P' : VP) : Prop := ∃ q og m S dn n wd hg, P0 = DeskV K CD CS q og m S dn n ∧ Good wd hg S ∧ S.deeds.length ≤ 500 ∧ P' = DD K (.list (seenM S wd hg))
theorem ok_seen (G : Glob K mg) (F : DF K mg CD CS) (D : DefAt K mg "_law_seen" s_Lseen ["_law_desk"]) (c1 : CalM P w K mg base CX0 1 CD "picture" ["self"] (spS (R_pict K CD CS))) (c2 : CalM P w K mg base CX0 1 CD "marks" ["self"] (spS (R_marks K CD CS))) (c3 : CalM P w K mg base CX0 1 CD "steps" ["self"] (spS (R_steps K CD CS))) (c4 : CalM P w K mg base CX0 1 CD "size" ["self"] (spS (R_size K CD CS))) (c5 : CalM P w K mg base CX0 1 CD "__len__" ["self"] (spS (R_len K CD CS))) (c6 : CalM P w K mg base CX0 1 CD "__str__" ["self"] (spS (R_str K CD CS))) (c7 : CalM P w K mg base CX0 1 CD "log" ["self"] (spS (R_log K CD CS))) : CalG P w K mg base CX0 4 "_law_seen" ["_law_desk"] (spS (R_seen K CD CS)) :=
  fn_of0 (N := ["_law_desk"]) D ⟨rfl, rfl, rfl, by decide +kernel, rfl, by decide +kernel, by decide +kernel⟩ (fun vs H Q E h => by
    obtain ⟨v, _, _, rfl, _⟩ := h
    rfl) fun f cdv A outer s H vs Q E hr h => by
    obtain ⟨v, P0, P', rfl, ⟨q, og, m, S, dn, n, wd, hg, rfl, g, hl, rfl⟩, _, pv, k⟩ := h
    have eo : EnvOk [some (DeskV K CD CS q og m S dn n)] (L2.start ["_law_desk"] [v]) H := eok_some pv mono_desk eok_nil
    refine sb_retE ((e_lst (ds := seenM S wd hg) (a_cons (e_tell F.cD c1 hr (by decide) (e_nP 0 (P := DeskV K CD CS q og m S dn n) rfl mono_desk) mono_dd ⟨q, og, m, S, dn, n, rfl, rfl⟩ (desk_ins "picture")) (a_cons (e_tell F.cD c2 hr (by decide) (e_nP 0 (P := DeskV K CD CS q og m S dn n) rfl mono_desk) mono_dd ⟨q, og, m, S, dn, n, rfl, rfl⟩ (desk_ins "marks")) (a_cons (e_tell F.cD c3 hr (by decide) (e_nP 0 (P := DeskV K CD CS q og m S dn n) rfl mono_desk) mono_dd ⟨q, og, m, S, dn, n, rfl, rfl⟩ (desk_ins "steps")) (a_cons (e_tell F.cD c4 hr (by decide) (e_nP 0 (P := DeskV K CD CS q og m S dn n) rfl mono_desk) mono_dd ⟨q, og, m, S, dn, n, wd, hg, rfl, g, rfl⟩ (desk_ins "size")) (a_cons (e_lenD c5 hr (by decide) G.len hl (e_nP 0 (P := DeskV K CD CS q og m S dn n) rfl mono_desk)) (a_cons (e_strD c6 hr (by decide) G.str g (e_nP 0 (P := DeskV K CD CS q og m S dn n) rfl mono_desk)) (a_cons (e_tell F.cD c7 hr (by decide) (e_nP 0 (P := DeskV K CD CS q og m S dn n) rfl mono_desk) mono_dd ⟨q, og, m, S, dn, n, rfl, rfl⟩ (desk_ins "log")) a_nil))))))) (by show (7 : Nat) ≤ 1000; decide)).run _ H eo _ fun u H1 e1 pu => k u H1 e1 pu)
end
end SH

/-! ## SHLw -/
set_option Elab.async false
set_option linter.all false
set_option maxRecDepth 100000
set_option maxHeartbeats 4000000
/-! the law -/
namespace SH
open PySem PySem.Spec PyProof.Rows L2
section
variable {X : Cx} {ρ : Rho} {e e1 e2 e3 : Expr} {es : List Expr} {pos p kpos : Pos} {CD CS : Addr} {σ : St} {H : Hp} {Q : VK} {j : Nat} {P0 P1 P2 P' : VP} {x : Str}
theorem sA1 {Q : List V → Hp → Prop} (h : sE X e1 σ H fun v1 H1 => Q [v1] H1) (hs : starEach (e1 :: []) X.env = (false, eval e1 X.env) :: starEach [] X.env := by rfl) : sA X [e1] σ H Q := sA_of (pa_cons pe_s pa_nil hs) h
theorem sA3 {Q : List V → Hp → Prop} (h : sE X e1 σ H fun v1 H1 => sE X e2 σ H1 fun v2 H2 => sE X e3 σ H2 fun v3 H3 => Q [v1, v2, v3] H3) (hs : starEach [e1, e2, e3] X.env = (false, eval e1 X.env) :: starEach [e2, e3] X.env := by rfl) (hs2 : starEach [e2, e3] X.env = (false, eval e2 X.env) :: starEach [e3] X.env := by rfl) (hs3 : starEach [e3] X.env = (false, eval e3 X.env) :: starEach [] X.env := by rfl) : sA X [e1, e2, e3] σ H Q := sA_of (pa_cons pe_s (pa_cons pe_s (pa_cons pe_s pa_nil hs3) hs2) hs) h
/-- f(desk) -/
theorem e_callV {k : Nat} {ps : List Str} {R : VP → VP → Prop} (c : CalG X.prog X.w X.K X.mg X.base CX0 k x ps (spS R)) (hr : Room j X.A) (hk : k ≤ j) (hg : Gl X x) (ha : EvR X e ρ P0) (mo : Mono P') (hR : R P0 P') (hdb : (x == ("__debug__" : Str)) = false := by decide) (he : starEach (e :: []) X.env = (false, eval e X.env) :: starEach [] X.env := by rfl) (hpl : (backTo pos (starEach [] X.env)).any (·.1) = false := by rfl) : EvR X (.Call (.Name x p) [e] [] pos) ρ P' :=
  ⟨mo, fun σ H eo Q k' => m_call c hr hk hg (sA1 (ha.run σ H eo _ fun v H1 e1 pv => ⟨v, P0, P', rfl, hR, ha.mono, pv, fun u H2 e2 pu => k' u H2 (e1.trans e2) pu⟩) he) hdb he hpl⟩
/-- replayed(picture, deeds, manner = m) -/
theorem e_rply {og : Pic} {m : Str} {ds : List DeedM} {dn : List StandM} {S : StandM} (c : CalKG X.prog X.w X.K X.mg X.base CX0 9 "replayed" ["picture", "deeds", "manner"] 2 ["manner"] (spReplay X.K CD CS)) (hr : Room j X.A) (hj : 9 ≤ j) (pok : PicOk og) (hm : m ∈ (["worth", "joins"] : List Str)) (hok : ∀ e ∈ ds, DeedOk e) (hl : ds.length ≤ 400) (hrun : runR (isW m) (S0 og) ds = some (dn, S)) (h1 : EvD X e1 ρ (dP og)) (h2 : EvD X e2 ρ (.list (ds.map dDeed))) (h3 : EvD X e3 ρ (.str m)) (eo : EnvOk ρ σ H)
    (k : ∀ q H', Same H H' → (∀ a, q.own a → H a = none) → DeskAt X.K CD CS q og m S dn 0 H' → Q (.ref q.p) H') (hg : Gl X "replayed" := by rfl)
    (hall : (backToKw pos (keywordEach [⟨some "manner", e3, kpos⟩] X.env)).all (·.1.isSome) = true := by rfl) (hks : (backToKw pos (keywordEach [⟨some "manner", e3, kpos⟩] X.env)).filterMap (·.1) = (["manner"] : List Str) := by rfl)
    (he : starEach (e1 :: [e2]) X.env = (false, eval e1 X.env) :: starEach [e2] X.env := by rfl) (he2 : starEach (e2 :: []) X.env = (false, eval e2 X.env) :: starEach [] X.env := by rfl) (hpl : ((backTo pos (starEach (e1 :: [e2]) X.env)).any (·.1) || (backToKw pos (keywordEach [⟨some "manner", e3, kpos⟩] X.env)).any (·.1.isNone)) = false := by rfl) :
    sE X (.Call (.Name "replayed" p) [e1, e2] [⟨some "manner", e3, kpos⟩] pos) σ H Q := by
  obtain ⟨f, fd, g, F, hmg, kp, b⟩ := c.ex
  refine sE_of (pe_callN (n := 2) (E := fun _ _ _ => False) F (hr.mono hj) hg hmg kp b (fun _ _ _ _ _ _ _ h => h.elim) (pa_cons pe_s (pa_cons pe_s pa_nil he2) he) (pk_cons pe_s pk_nil) hall hks (by decide) he hpl) ?_
  refine h1.run σ H eo _ fun v1 H1 a1 p1 => h2.run σ H1 (eo.up a1) _ fun v2 H2 a2 p2 => h3.run σ H2 ((eo.up a1).up a2) _ fun v3 H3 a3 p3 => ⟨rfl, rfl, ?_⟩
  cases p3
  have e13 := (a1.trans a2).trans a3
  exact ⟨v1, v2, og, m, ds, dn, S, rfl, dp_mono (a2.trans a3) _ _ p1, pok, hm, dp_mono a3 _ _ p2, hok, hl, hrun, fun q H' e4 fr d => k q H' (e13.trans e4) (fun a ha => e13.free (fr a ha)) d⟩
/-- some desk of that -/
def AnyD (K : PySem.W.Frag) (CD CS : Addr) (og : Pic) (m : Str) (S : StandM) (dn : List StandM) : VP := fun v H => ∃ q, DeskV K CD CS q og m S dn 0 v H
theorem mono_any {K : PySem.W.Frag} {og : Pic} {m : Str} {S : StandM} {dn : List StandM} : Mono (AnyD K CD CS og m S dn) := fun v H H' e h => let ⟨q, d⟩ := h; ⟨q, mono_desk _ _ _ e d⟩
theorem t_neV {S : StandM} {dn : List StandM} {q : Ptr} {og : Pic} {m : Str} {S' : StandM} {dn' : List StandM} {n' : Nat} (c : CalM X.prog X.w X.K X.mg X.base CX0 1 CD "__eq__" ["self", "other"] (spEq (EqD X.K CD CS))) (hB : ∀ f, Meth X.K CD "__eq__" f → neB X.K CD f = true) (hr : Room j X.A) (hj : 2 ≤ j) (ha : EvR X e ρ (AnyD X.K CD CS og m S dn)) (hb : EvR X e2 ρ (DeskV X.K CD CS q og m S' dn' n')) (hds : S.deeds = S'.deeds) (h1 : SeqAt.shaped (dP og) = true) (h2 : SeqAt.shaped (dDs S.deeds) = true) (hm : behindInMarks .NotEq e2 = false := by first | exact nomark _ | rfl) : EvT X (.Compare e [.NotEq] [e2] pos) ρ false := by
  obtain ⟨f, fd, F, hmeth, b⟩ := c.ex
  refine ⟨fun σ H eo Q k => sT_of (pt_cmpR (op_neI F hmeth.fn b hr hj (hB f hmeth)) pe_s pe_s hm) (ha.run σ H eo _ fun v H1 e1 pv => hb.run σ H1 (eo.up e1) _ fun u H2 e2 pu => ?_)⟩
  obtain ⟨r, pv⟩ := pv
  have pv2 := mono_desk _ _ _ e2 pv
  obtain ⟨a, dx, fs, ev, i1, _⟩ := desk_ins "size" (by intros; rfl) v H2 pv2
  obtain ⟨b', dy, gs, eu, i2, _⟩ := desk_ins "size" (by intros; rfl) u H2 pu
  refine ⟨a, b', dx, dy, fs, gs, ev, eu, i1, i2, ⟨r, q, og, m, S, S', dn, dn', 0, n', ?_, ?_, pv2.2, pu.2, hds, h1, h2⟩, fun H3 e3 => ⟨false, rfl, k H3 ((e1.trans e2).trans e3)⟩⟩
  · rw [pv.1] at ev
    cases ev
    rfl
  · rw [pu.1] at eu
    cases eu
    rfl
theorem e_eqV {S : StandM} {dn : List StandM} {q : Ptr} {og : Pic} {m : Str} {S' : StandM} {dn' : List StandM} {n' : Nat} (c : CalM X.prog X.w X.K X.mg X.base CX0 1 CD "__eq__" ["self", "other"] (spEq (EqD X.K CD CS))) (hr : Room j X.A) (hj : 1 ≤ j) (ha : EvR X e ρ (DeskV X.K CD CS q og m S' dn' n')) (hb : EvR X e2 ρ (AnyD X.K CD CS og m S dn)) (hds : S'.deeds = S.deeds) (h1 : SeqAt.shaped (dP og) = true) (h2 : SeqAt.shaped (dDs S'.deeds) = true) (hm : behindInMarks .Eq e2 = false := by first | exact nomark _ | rfl) : EvD X (.Compare e [.Eq] [e2] pos) ρ (.bool true) := by
  obtain ⟨f, fd, F, hmeth, b⟩ := c.ex
  refine ed_of (pe_cmpR (op_eqG (rcG_ins (E := fun _ _ _ => False) F hmeth.at_ hmeth.fn b (fun _ _ _ _ _ _ _ h => h.elim)) (hr.mono hj)) pe_s pe_s hm) fun σ H eo Q k => ha.run σ H eo _ fun v H1 e1 pv => hb.run σ H1 (eo.up e1) _ fun u H2 e2 pu => ?_
  obtain ⟨r, pu⟩ := pu
  have pv2 := mono_desk _ _ _ e2 pv
  obtain ⟨a, dx, fs, ev, i1, _⟩ := desk_ins "size" (by intros; rfl) v H2 pv2
  obtain ⟨b', dy, gs, eu, i2, _⟩ := desk_ins "size" (by intros; rfl) u H2 pu
  refine ⟨⟨a, b', dx, dy, fs, gs, ev, eu, i1, i2, ⟨q, r, og, m, S', S, dn', dn, n', 0, ?_, ?_, pv2.2, pu.2, hds, h1, h2⟩⟩, fun H3 e3 => k _ H3 ((e1.trans e2).trans e3) (.bl true)⟩
  · rw [pv.1] at ev
    cases ev
    rfl
  · rw [pu.1] at eu
    cases eu
    rfl
end
/-- a desk that stands at the deeds es -/
def LS (K : PySem.W.Frag) (CD CS : Addr) (og : Pic) (m : Str) (q : Ptr) (es : List DeedM) (n : Nat) (H : Hp) : Prop := ∃ dn S, runR (isW m) (S0 og) es = some (dn, S) ∧ DeskAt K CD CS q og m S dn n H ∧ ∀ e ∈ es, DeedOk e
structure LawC (P : Program) (w : World) (K : PySem.W.Frag) (mg : Str → Option Value) (base : Heap) (CD CS : Addr) : Prop where
  some : CalD P w K mg base 3 "_law_some" R_some
  man : CalD P w K mg base 2 "_law_manner" R_man
  drawn : CalD P w K mg base 1 "_law_drawn" R_drawn
  desk : MkK P w K mg base CX0 5 CD N_init 2 ["manner"] (spInitD K CD CS)
  done : CalG P w K mg base CX0 8 "_law_done" ["_law_desk", "_law_deed_here"] (spDone K CD CS)
  deed : CalG P w K mg base CX0 2 "_law_deed" ["_law_script", "_law_at", "_law_desk"] (spDeed K CD CS)
  seen : CalG P w K mg base CX0 4 "_law_seen" ["_law_desk"] (spS (R_seen K CD CS))
  back : CalM P w K mg base CX0 1 CD "back" ["self"] (spBack K CD CS)
  logN : CalM P w K mg base CX0 1 CD "log" ["self"] (spS (R_logN K CD CS))
  len : CalM P w K mg base CX0 1 CD "__len__" ["self"] (spS (R_len K CD CS))
  eq : CalM P w K mg base CX0 1 CD "__eq__" ["self", "other"] (spEq (EqD K CD CS))
  hB : ∀ f, Meth K CD "__eq__" f → neB K CD f = true
  rep : CalKG P w K mg base CX0 9 "replayed" ["picture", "deeds", "manner"] 2 ["manner"] (spReplay K CD CS)
  orig : CalG P w K mg base CX0 3 "origin_of" ["desk"] (spS (R_orig K CD CS))
  read : CalD P w K mg base 4 "read_log" R_readlog
  text : CalD P w K mg base 3 "log_text" R_logtext
abbrev N_law : List Str := ["_law_script", "_law_picture_here", "_law_mode", "_law_desk", "_law_k", "_law_log", "_law_made", "_law_size", "_law_some_here"]
theorem sc_law : FnScope N_law ["_law_script"] (defScope s_law) := ⟨rfl, rfl, rfl, by decide +kernel, rfl, by decide +kernel, by decide +kernel⟩
def spLaw (K : PySem.W.Frag) : Sp := fun vs H Q _ => ∃ (a : Addr) (ns : List Int), vs = [.ref a] ∧ SqL K H a (ns.map V.int) ∧ ns.length ≤ 63 ∧ ∀ H', Q (.bl true) H'
structure LSF (og : Pic) (m : Str) (es : List DeedM) (dn : List StandM) (S : StandM) : Prop where
  R : RunOk og S
  de : S.deeds = es
  dl : dn.length = es.length
theorem ls_ok {og : Pic} {m : Str} {es : List DeedM} {dn : List StandM} {S : StandM} (pok : PicOk og) (h : runR (isW m) (S0 og) es = some (dn, S)) (hd : ∀ e ∈ es, DeedOk e) : LSF og m es dn S := by
  obtain ⟨a, b, c⟩ := run_ok (run0 pok) rfl es.length es rfl hd dn S h
  exact ⟨a, b, c⟩
theorem own_fresh {q q' : Ptr} {H0 H H' : Hp} (h : ∀ a, q.own a → H0 a = none) (hs : Same H0 H) (s : Stp q q' H H') : (∀ a, q'.own a → H0 a = none) ∧ Same H0 H' := by
  refine ⟨fun b hb => ?_, fun b o z => s.st b o (fun w => by rw [h b w] at z; cases z) (hs b o z)⟩
  rcases hb with rfl | rfl | rfl
  · rw [s.pl.1]
    exact h _ (.inl rfl)
  · rw [s.pl.2.1]
    exact h _ (.inr (.inl rfl))
  · rcases s.pl.2.2 with z | z
    · rw [z]
      exact h _ (.inr (.inr rfl))
    · exact hs.free z
section
variable {P : Program} {w : World} {K : PySem.W.Frag} {mg : Str → Option Value} {base : Heap} {CD CS : Addr}
abbrev XL (P : Program) (w : World) (K : PySem.W.Frag) (mg : Str → Option Value) (base : Heap) (f : Addr) (cdv : Value) (A : Around) (outer : List Env) (s : Shared) (H : Hp) (E : XK) : Cx := (XG CX0 P w K mg base N_law "law" s_law f cdv A outer s H E).nox
/-- the slots that stay: script, picture, manner -/
abbrev ρL (K : PySem.W.Frag) (ns : List Int) (og : Pic) (m : Str) : Rho := [some (DD K (.list (ns.map .int))), some (DD K (dP og)), some (DD K (.str m)), none, none, none, none, none, none]
abbrev forB (b : List Stmt) (i : Nat) : List Stmt := match b.getD i (.Pass ⟨0, 0, 0, 0⟩) with | .For _ _ b _ _ => b | _ => []
theorem loop1 (G : Glob K mg) (F : DF K mg CD CS) (C : LawC P w K mg base CD CS) {f : Addr} {cdv : Value} {A : Around} {outer : List Env} {s : Shared} {H0 : Hp} {E : XK} (hr : Room 10 (A.deeper (envOfC "law" (defScope s_law) s.heap.objs.size f cdv))) {ns : List Int} {og : Pic} {m : Str} (hns : ns.length ≤ 63) (pok : PicOk og) {H1 : Hp}
    {D : Ends} {i : Nat} (hi : i < 10) {σ : St} {H : Hp} {q : Ptr} {es : List DeedM} {n : Nat} (eo : EnvOk (ρL K ns og m) σ H1) (hq : σ[3]? = some (some (.ref q.p))) (hs : Same H1 H) (hf : ∀ a, q.own a → H1 a = none) (ls : LS K CD CS og m q es n H) (hl : es.length ≤ i) (hn : n ≤ i)
    (k : ∀ σ' H' q' es' n', EnvOk (ρL K ns og m) σ' H1 → σ'[3]? = some (some (.ref q'.p)) → Same H1 H' → (∀ a, q'.own a → H1 a = none) → LS K CD CS og m q' es' n' H' → es'.length ≤ i + 1 → n' ≤ i + 1 → D.nx σ' H') :
    sB (XL P w K mg base f cdv A outer s H0 E) (forB (defBody s_law) 2) D (σ.set 4 (some (.int (0 + (i : Int))))) H := by
  show sB _ [_, _] _ _ _
  obtain ⟨dn, S, hrun, hd, hok⟩ := ls
  have L := ls_ok pok hrun hok
  obtain ⟨wd, hg, g⟩ := L.R.good
  have hgl := L.R.gl
  have hdl := L.dl
  have hde := L.de
  have hsl : S.deeds.length = es.length := by rw [hde]
  have hlen : σ.length = 9 := eo.len
  have hq' : (σ.set 4 (some (.int (0 + (i : Int)))))[3]? = some (some (.ref q.p)) := by rw [List.getElem?_set_ne (by decide)]; exact hq
  have eo4 : EnvOk ((ρL K ns og m).set 4 (some (DD K (.int (0 + (i : Int)))))) (σ.set 4 (some (.int (0 + (i : Int))))) H1 := eo.set 4 (.int _) mono_dd
  generalize σ.set 4 (some (.int (0 + (i : Int)))) = σ4 at hq' eo4
  -- the slots with the desk in them
  have withD : ∀ {H' : Hp} {q' : Ptr} {S' : StandM} {dn' : List StandM} {n' : Nat}, Same H1 H' → q'.p = q.p → DeskAt K CD CS q' og m S' dn' n' H' → EnvOk (((ρL K ns og m).set 4 (some (DD K (.int (0 + (i : Int)))))).set 3 (some (DeskV K CD CS q' og m S' dn' n'))) σ4 H' := fun hs' hp d => by
    have z := (eo4.up hs').set 3 (v := .ref q.p) (P := DeskV K CD CS _ og m _ _ _) ⟨by rw [hp], d⟩ mono_desk
    rw [set_id hq'] at z
    exact z
  have back4 : EnvOk (ρL K ns og m) σ4 H1 := by
    have i4 : Imp ((ρL K ns og m).set 4 (some (DD K (.int (0 + (i : Int)))))) (ρL K ns og m) := by repeat (first | exact imp_nil | apply imp_id | apply imp_none)
    exact i4 _ _ eo4
  -- behind the deed
  have stage2 : ∀ (q' : Ptr) (es' : List DeedM) (n' : Nat) (H' : Hp), q'.p = q.p → Same H1 H' → (∀ a, q'.own a → H1 a = none) → LS K CD CS og m q' es' n' H' → es'.length ≤ i + 1 → n' ≤ i → sB (XL P w K mg base f cdv A outer s H0 E) ((forB (defBody s_law) 2).drop 1) D σ4 H' := fun q' es' n' H' hp hs' hf' ls' hl' hn' => by
    show sB _ [_] _ _ _
    obtain ⟨dn', S', hrun', hd', hok'⟩ := ls'
    have L' := ls_ok pok hrun' hok'
    have hsl' : S'.deeds.length = es'.length := by rw [L'.de]
    have eoD := withD hs' hp hd'
    have hq2 : σ4[3]? = some (some (.ref q'.p)) := by rw [hp]; exact hq'
    cases ht : (decide ((0 : Int) < (S'.deeds.length : Nat)) && decide (drawnM ns (200 + (0 + (i : Int))) 5 = 0)) with
    | false =>
      refine sb_iff (EvT.is (t_w (w_and (t_cmp c_gt (e_lenD C.len hr (by decide) G.len (by omega) (e_nP 3 (P := DeskV K CD CS q' og m S' dn' n') rfl mono_desk)) e_int) fun _ => w_and1 (t_cmp c_eqI (e_call C.drawn hr (by decide) rfl (a_cons (e_n (d := .list (ns.map .int)) 0 rfl) (a_cons (e_add e_int (e_n (d := .int (0 + (i : Int))) 4 rfl)) (a_cons e_int a_nil))) ⟨ns, 200 + (0 + (i : Int)), 5, hns, by omega, by omega, by decide, rfl, rfl⟩) e_int))) ht) eoD fun H2 e2 => sb_nil (sb_nil ?_)
      exact k σ4 H2 q' es' n' back4 hq2 (hs'.trans e2) hf' ⟨dn', S', hrun', desk_up e2 hd', hok'⟩ hl' (by omega)
    | true =>
      have hpos : 0 < es'.length := by
        simp only [Bool.and_eq_true, decide_eq_true_eq] at ht
        omega
      refine sb_ift (EvT.is (t_w (w_and (t_cmp c_gt (e_lenD C.len hr (by decide) G.len (by omega) (e_nP 3 (P := DeskV K CD CS q' og m S' dn' n') rfl mono_desk)) e_int) fun _ => w_and1 (t_cmp c_eqI (e_call C.drawn hr (by decide) rfl (a_cons (e_n (d := .list (ns.map .int)) 0 rfl) (a_cons (e_add e_int (e_n (d := .int (0 + (i : Int))) 4 rfl)) (a_cons e_int a_nil))) ⟨ns, 200 + (0 + (i : Int)), 5, hns, by omega, by omega, by decide, rfl, rfl⟩) e_int))) ht) eoD fun H2 e2 => ?_
      have hne : es' ≠ [] := fun z => by rw [z] at hpos; simp at hpos
      have hcut := List.dropLast_concat_getLast hne
      rw [← hcut] at hrun'
      obtain ⟨dn0, S0', r1, r2, r3⟩ := runR_back hrun'
      subst r3
      refine sb_exprE (m_self0 (E := fun _ _ _ _ => False) F.cD C.back hr (by decide) (fun σ => passAt0) (e_nP 3 (P := DeskV K CD CS q' og m S' (dn0 ++ [S0']) n') rfl mono_desk) (eoD.up e2) (desk_ins "back") fun v H3 e3 pv3 => ?_)
      have hdl0 : dn0.length ≤ 20 := by
        have := L'.dl
        rw [List.length_append] at this
        omega
      refine ⟨q', og, m, S', S0', dn0, n', es'.getLast hne, es'.dropLast, by rw [pv3.1], pv3.2, by rw [L'.de, hcut], by omega, by omega, fun u H4 s4 pu d4 => sb_nil (sb_nil ?_)⟩
      obtain ⟨f4, hs4⟩ := own_fresh hf' (hs'.trans (e2.trans e3)) s4
      exact k σ4 H4 q' es'.dropLast (n' + 1) back4 hq2 hs4 f4 ⟨dn0, S0', r1, d4, fun e he => hok' e (List.dropLast_subset _ he)⟩ (by rw [List.length_dropLast]; omega) (by omega)
  -- the deed
  have eoD := withD hs rfl hd
  refine sb_exprE (m_call C.done hr (by decide) rfl (sA2 (sE_slot 3 hq' (m_call C.deed hr (by decide) rfl (sA3 ((e_n (d := .list (ns.map .int)) 0 rfl).run _ _ eoD _ fun v1 H2 e2 p1 => (e_add e_int (e_mul e_int (e_n (d := .int (0 + (i : Int))) 4 rfl) (.inl ⟨by decide, by decide⟩))).run _ _ (eoD.up e2) _ fun v2 H3 e3 p2 => sE_slot 3 hq' ?_))))))
  cases p2
  have e23 := e2.trans e3
  refine ⟨ns, _, v1, .ref q.p, q, og, m, S, dn, n, wd, hg, rfl, dp_mono e3 _ _ p1, ⟨rfl, desk_up e23 hd⟩, g, hns, by omega, by omega, fun u H4 e4 pu => ?_⟩
  obtain ⟨e, he, pe⟩ := pu
  have e24 := e23.trans e4
  refine ⟨q, og, m, S, dn, n, wd, hg, e, u, rfl, desk_up e24 hd, pe, he, g, by omega, by omega, by omega, fun S' hdo u' H5 q5 s5 d5 => ?_, fun hno u' H5 e5 => ?_⟩
  · obtain ⟨f5, hs5⟩ := own_fresh hf (hs.trans e24) s5
    exact stage2 q5 (es ++ [e]) n H5 s5.pl.1 hs5 f5 ⟨dn ++ [S], S', runR_next hrun hdo, d5, fun e' he' => by
      rcases List.mem_append.mp he' with h | h
      · exact hok e' h
      · rw [List.mem_singleton.mp h]
        exact he⟩ (by rw [List.length_append]; simp; omega) hn
  · exact stage2 q es n H5 rfl (hs.trans (e24.trans e5)) hf ⟨dn, S, hrun, desk_up (e24.trans e5) hd, hok⟩ (by omega) hn
end
end SH

/-! ## SHLw2 -/
set_option Elab.async false
set_option linter.all false
set_option maxRecDepth 100000
set_option maxHeartbeats 4000000
/-! the law: the second loop and the whole -/
namespace SH
open PySem PySem.Spec PyProof.Rows L2
theorem gc_word {og : Pic} {gs : List GoneM} {c : Pic} (h : GC og gs c) : ∀ g ∈ gs, g.1 ∈ (["narrow", "flatten", "widen"] : List Str) := by
  induction h with
  | nil =>
    intro g hg
    cases hg
  | snoc h ok e ih =>
    intro g hg
    rcases List.mem_append.mp hg with h' | h'
    · exact ih g h'
    · rw [List.mem_singleton.mp h']
      obtain ⟨w, h, _, _, _, _, _, k⟩ := ok
      rcases k with k | k | k <;> simp [k.1]
theorem shp_gone {g : GoneM} (h : g.1 ∈ (["narrow", "flatten", "widen"] : List Str)) {n : Nat} : Shp (n + 2) (dGone g) := shp_tup fun d hd => by
  simp only [List.mem_cons, List.not_mem_nil, or_false] at hd
  rcases hd with rfl | rfl | rfl
  · refine shp_str (strok ?_)
    simp only [List.mem_cons, List.not_mem_nil, or_false] at h ⊢
    rcases h with h | h | h <;> simp [h]
  · exact shp_ints
  · exact shp_ints
theorem strok_app {a b : Str} (h : PyData.strOk a = true) (h' : PyData.strOk b = true) : PyData.strOk (a ++ b) = true := by
  show (a.cps ++ b.cps).all _ = true
  unfold PyData.strOk at h h'
  rw [Array.all_append, h, h']
  rfl
theorem strok20 {n : Nat} (h : n ≤ 20) : PyData.strOk (toString (n : Int) : Str) = true := by
  have : n = 0 ∨ n = 1 ∨ n = 2 ∨ n = 3 ∨ n = 4 ∨ n = 5 ∨ n = 6 ∨ n = 7 ∨ n = 8 ∨ n = 9 ∨ n = 10 ∨ n = 11 ∨ n = 12 ∨ n = 13 ∨ n = 14 ∨ n = 15 ∨ n = 16 ∨ n = 17 ∨ n = 18 ∨ n = 19 ∨ n = 20 := by omega
  rcases this with h | h | h | h | h | h | h | h | h | h | h | h | h | h | h | h | h | h | h | h | h <;> (subst h; decide +kernel)
theorem shp_seen {og : Pic} {S : StandM} {wd hg : Nat} (R : RunOk og S) (g : Good wd hg S) (hd : ∀ e ∈ S.deeds, DeedOk e) : SeqAt.shaped (.list (seenM S wd hg)) = true := by
  have z : Shp 5 (.list (seenM S wd hg)) := shp_lst fun d h => by
    unfold seenM at h
    simp only [List.mem_cons, List.not_mem_nil, or_false] at h
    rcases h with rfl | rfl | rfl | rfl | rfl | rfl | rfl
    · exact shp_pic
    · exact shp_pic
    · exact shp_lst fun d h => by
        obtain ⟨x, hx, rfl⟩ := List.mem_map.mp h
        exact shp_gone (gc_word R.gc x hx)
    · exact shp_tup fun d h => by
        simp only [List.mem_cons, List.not_mem_nil, or_false] at h
        rcases h with rfl | rfl
        · exact shp_int
        · exact shp_int
    · exact shp_int
    · exact shp_str (strok_app (strok_app (strok20 g.w1.2) (by decide +kernel)) (strok20 g.h1.2))
    · exact shp_lst fun d h => by
        obtain ⟨x, hx, rfl⟩ := List.mem_map.mp h
        exact shp_deed (hd x hx)
  exact z.ok
theorem shp_log {es : List DeedM} (h : ∀ e ∈ es, DeedOk e) : SeqAt.shaped (.list (es.map dDeed)) = true := Shp.ok (n := 4) (shp_lst fun d hd => by
  obtain ⟨x, hx, rfl⟩ := List.mem_map.mp hd
  exact shp_deed (h x hx))
theorem noLs_log (es : List DeedM) : noLs (es.map dDeed) = true := by
  induction es with
  | nil => simp [noLs]
  | cons e es ih =>
    simp only [List.map_cons, noLs, ih, Bool.and_true]
    exact noL_tup fun d hd => by
      rcases List.mem_cons.mp hd with rfl | hd
      · simp [noL]
      · obtain ⟨i, _, rfl⟩ := List.mem_map.mp hd
        simp [noL]
end SH

/-! ## SHLw3 -/
set_option Elab.async false
set_option linter.all false
set_option maxRecDepth 100000
set_option maxHeartbeats 4000000
/-! the law: the second loop -/
namespace SH
open PySem PySem.Spec PyProof.Rows L2
section
variable {P : Program} {w : World} {K : PySem.W.Frag} {mg : Str → Option Value} {base : Heap} {CD CS : Addr}
theorem dis_fresh {q t : Ptr} {og : Pic} {m : Str} {S : StandM} {dn : List StandM} {n : Nat} {H : Hp} (h : DeskAt K CD CS q og m S dn n H) (f : ∀ a, t.own a → H a = none) : Dis q t := fun a qa ta => by
  obtain ⟨o, z⟩ := desk_own_some h qa
  rw [f a ta] at z
  cases z
theorem Dis.symm {q t : Ptr} (h : Dis q t) : Dis t q := fun a x y => h a y x
theorem ln_fresh {q t : Ptr} {ds : List PyData} {v : V} {H H' : Hp} (h : LN K q ds v H) (e : Same H H') (f : ∀ a, t.own a → H a = none) : LN K t ds v H' := by
  obtain ⟨a, L, rfl, h1, h2, h3⟩ := h
  refine ⟨a, L, rfl, e _ _ h1, dpa_mono e _ _ h2, fun z => ?_⟩
  rw [f a z] at h1
  cases h1
theorem slot_set {ρ : Rho} {σ : St} {H : Hp} {v : V} {P' : VP} (i : Nat) (eo : EnvOk ρ σ H) (h : σ[i]? = some (some v)) (p : P' v H) (m : Mono P') : EnvOk (ρ.set i (some P')) σ H := by
  have z := eo.set i p m
  rw [set_id h] at z
  exact z
theorem loop2 (G : Glob K mg) (F : DF K mg CD CS) (C : LawC P w K mg base CD CS) {f : Addr} {cdv : Value} {A : Around} {outer : List Env} {s : Shared} {H0 : Hp} {E : XK} (hr : Room 10 (A.deeper (envOfC "law" (defScope s_law) s.heap.objs.size f cdv))) {ns : List Int} {og : Pic} {m : Str} (pok : PicOk og) (hm : m ∈ (["worth", "joins"] : List Str)) {H1 : Hp}
    {D : Ends} {L : List DeedM} (hL : L.length ≤ 10) (hok : ∀ e ∈ L, DeedOk e) {i : Nat} {e : DeedM} (he : L[i]? = some e) {σ : St} {H : Hp} {q r : Ptr} {n : Nat} {SL : StandM} {dnL : List StandM} {v5 : V} (eo : EnvOk (ρL K ns og m) σ H1) (h3 : σ[3]? = some (some (.ref q.p))) (h5 : σ[5]? = some (some v5)) (hs : Same H1 H) (hf : ∀ a, q.own a → H1 a = none)
    (hlg : LN K q (L.map dDeed) v5 H) (hd : DeskAt K CD CS r og m SL dnL 0 H) (dis : Dis q r) (ls : LS K CD CS og m q (L.take (i + 1)) n H) (hn : n ≤ 30)
    (k : ∀ σ' H', EnvOk (ρL K ns og m) σ' H1 → σ'[3]? = σ[3]? → σ'[5]? = σ[5]? → σ'[6]? = σ[6]? → Same H1 H' → LN K q (L.map dDeed) v5 H' → DeskAt K CD CS r og m SL dnL 0 H' → LS K CD CS og m q (L.take i) (n + 1) H' → D.nx σ' H') :
    sB (XL P w K mg base f cdv A outer s H0 E) (forB (defBody s_law) 8) D (σ.set 7 (some (.int ((i + 1 : Nat) : Int)))) H := by
  show sB _ [_, _, _] _ _ _
  obtain ⟨dn, S, hrun, hdq, hok'⟩ := ls
  have LF := ls_ok pok hrun hok'
  obtain ⟨wd, hg, g⟩ := LF.R.good
  have hlt : i < L.length := (List.getElem?_eq_some_iff.mp he).1
  have htl : (L.take (i + 1)).length ≤ 10 := by rw [List.length_take]; omega
  have hdl : dn.length ≤ 10 := by rw [LF.dl]; exact htl
  have hsl : S.deeds.length ≤ 10 := by rw [LF.de]; exact htl
  have sh1 : SeqAt.shaped (dP og) = true := Shp.ok (n := 2) (shp_pic (n := 0))
  have sh2 : SeqAt.shaped (dDs S.deeds) = true := Shp.ok (n := 2) (shp_deeds (n := 0) (by rw [LF.de]; exact hok'))
  have sh3 := shp_seen LF.R g (by rw [LF.de]; exact hok')
  have eo7 := eo.set 7 (v := .int ((i + 1 : Nat) : Int)) (P := DD K (.int ((i + 1 : Nat) : Int))) (.int _) mono_dd
  have h37 : (σ.set 7 (some (.int ((i + 1 : Nat) : Int))))[3]? = some (some (.ref q.p)) := by rw [List.getElem?_set_ne (by decide)]; exact h3
  have h57 : (σ.set 7 (some (.int ((i + 1 : Nat) : Int))))[5]? = some (some v5) := by rw [List.getElem?_set_ne (by decide)]; exact h5
  have h67 : (σ.set 7 (some (.int ((i + 1 : Nat) : Int))))[6]? = σ[6]? := by rw [List.getElem?_set_ne (by decide)]
  have h7 : (σ.set 7 (some (.int ((i + 1 : Nat) : Int)))).length = 9 := by rw [List.length_set]; exact eo.len
  generalize σ.set 7 (some (.int ((i + 1 : Nat) : Int))) = σ7 at eo7 h37 h57 h67 h7
  -- the desk made of the first deeds
  refine sb_setE 8 (e_rply C.rep hr (by decide) pok hm hok' (by omega) hrun (e_n (d := dP og) 1 rfl) (EvD.is (e_slL (ds := L.map dDeed) (e_n 5 rfl) o_none (o_some (e_n (d := .int ((i + 1 : Nat) : Int)) 7 rfl))) (by rw [cut_pre (by omega) (by rw [List.length_map]; omega), ← List.map_take]; rfl)) (e_n (d := .str m) 2 rfl) (slot_set 5 (eo7.up hs) h57 (ln_d hlg) mono_dd) fun t H2 e2 fr dt => ?_) sc_law.nd
  have hs2 := hs.trans e2
  have dqt : Dis q t := dis_fresh hdq fr
  have drt : Dis r t := dis_fresh hd fr
  have lg2 := mono_ln _ _ _ e2 hlg
  have lt2 := ln_fresh hlg e2 fr
  have hd2 := desk_up e2 hd
  have hdq2 := desk_up e2 hdq
  have h38 : (σ7.set 8 (some (.ref t.p)))[3]? = some (some (.ref q.p)) := by rw [List.getElem?_set_ne (by decide)]; exact h37
  have h58 : (σ7.set 8 (some (.ref t.p)))[5]? = some (some v5) := by rw [List.getElem?_set_ne (by decide)]; exact h57
  have h68 : (σ7.set 8 (some (.ref t.p)))[6]? = σ[6]? := by rw [List.getElem?_set_ne (by decide)]; exact h67
  have h88 : (σ7.set 8 (some (.ref t.p)))[8]? = some (some (.ref t.p)) := List.getElem?_set_self (by omega)
  have eo8 : EnvOk (((ρL K ns og m).set 7 (some (DD K (.int ((i + 1 : Nat) : Int))))).set 8 none) (σ7.set 8 (some (.ref t.p))) H1 := by
    have z := eo7.set 8 (v := .ref t.p) (P := fun _ _ => True) trivial fun _ _ _ _ _ => trivial
    have i8 : Imp (((ρL K ns og m).set 7 (some (DD K (.int ((i + 1 : Nat) : Int))))).set 8 (some fun _ _ => True)) (((ρL K ns og m).set 7 (some (DD K (.int ((i + 1 : Nat) : Int))))).set 8 none) := by repeat (first | exact imp_nil | apply imp_id | apply imp_none)
    exact i8 _ _ z
  have eoF : EnvOk (ρL K ns og m) (σ7.set 8 (some (.ref t.p))) H1 := by
    have i8 : Imp (((ρL K ns og m).set 7 (some (DD K (.int ((i + 1 : Nat) : Int))))).set 8 none) (ρL K ns og m) := by repeat (first | exact imp_nil | apply imp_id | apply imp_none)
    exact i8 _ _ eo8
  generalize σ7.set 8 (some (.ref t.p)) = σ8 at h38 h58 h68 h88 eo8 eoF
  -- as the desk
  have eoA := slot_set 8 (slot_set 3 (eo8.up hs2) h38 (P' := DeskV K CD CS q og m S dn n) ⟨rfl, hdq2⟩ mono_desk) h88 (P' := DeskV K CD CS t og m S dn 0) ⟨rfl, dt⟩ mono_desk
  refine sb_iff (EvT.is (b' := false) (t_w (w_or (t_neD C.eq C.hB hr (by decide) (e_nP 8 (P := DeskV K CD CS t og m S dn 0) rfl mono_desk) (e_nP 3 (P := DeskV K CD CS q og m S dn n) rfl mono_desk) rfl sh1 sh2) fun _ => w_or1 (t_cmp (c_neD hr.units sh3 sh3) (e_callV C.seen hr (by decide) rfl (e_nP 8 (P := DeskV K CD CS t og m S dn 0) rfl mono_desk) mono_dd ⟨t, og, m, S, dn, 0, wd, hg, rfl, g, by omega, rfl⟩) (e_callV C.seen hr (by decide) rfl (e_nP 3 (P := DeskV K CD CS q og m S dn n) rfl mono_desk) mono_dd ⟨q, og, m, S, dn, n, wd, hg, rfl, g, by omega, rfl⟩)))) (by rw [eqv_self sh3]; rfl)) eoA fun H3 e3 => sb_nil ?_
  have hs3 := hs2.trans e3
  have lg3 := mono_ln _ _ _ e3 lg2
  have lt3 := mono_ln _ _ _ e3 lt2
  have hd3 := desk_up e3 hd2
  have hdq3 := desk_up e3 hdq2
  have dt3 := desk_up e3 dt
  -- the deed taken back on both
  have htk := take_succ_at he
  have hrun2 := hrun
  rw [htk] at hrun2
  obtain ⟨dn0, S0', r1, r2, r3⟩ := runR_back hrun2
  have hde : S.deeds = L.take i ++ [e] := by rw [LF.de, htk]
  subst r3
  rw [List.length_append] at hdl
  have hed : DeedOk e := hok e (List.mem_of_getElem? he)
  have she : SeqAt.shaped (dDeed e) = true := Shp.ok (n := 1) (shp_deed (n := 0) hed)
  have cne : CmpOk (XL P w K mg base f cdv A outer s H0 E) .NotEq (DD K (dDeed e)) (DD K (dDeed e)) false := by
    have z : CmpOk (XL P w K mg base f cdv A outer s H0 E) .NotEq (DD K (dDeed e)) (DD K (dDeed e)) (!PyData.eqv (dDeed e) (dDeed e)) := c_neD hr.units she she
    rw [eqv_self she] at z
    exact z
  obtain ⟨rr, ho, hrr⟩ := cne.ex
  have hat : atI (L.map dDeed) (((i + 1 : Nat) : Int) - 1) = some (dDeed e) := by
    have z : ((i + 1 : Nat) : Int) - 1 = ((i : Nat) : Int) := by omega
    rw [z]
    exact atI_nat (by rw [List.getElem?_map, he]; rfl)
  have okT : ∀ e' ∈ L.take i, DeedOk e' := fun e' h => hok e' (List.mem_of_mem_take h)
  have LF0 := ls_ok pok r1 okT
  refine sB_of (pss_cons (ps_if (PW.pt (pw_or pt_s (pw_or pt_s (pw_or1 pt_s)))) pss_s pss_s) pss_s) ?_
  show sT _ _ _ _ _
  refine sT_of (pt_cmpR ho pe_s pe_s (by first | exact nomark _ | rfl)) ?_
  show sE _ _ _ _ _
  refine m_self0 (E := fun _ _ _ _ => False) F.cD C.back hr (by decide) (fun σ => passAt0) (e_nP 3 (P := DeskV K CD CS q og m S (dn0 ++ [S0']) n) rfl mono_desk) (eoA.up e3) (desk_ins "back") fun v H4 e4 pv4 => ?_
  refine ⟨q, og, m, S, S0', dn0, n, e, L.take i, by rw [pv4.1], pv4.2, hde, by omega, by omega, fun u H5 s5 pu d5 => ?_⟩
  have s35 := Stp.pre e4 s5
  obtain ⟨f5, hs5⟩ := own_fresh hf hs3 s35
  have lg5 := ln_other (noLs_log L) s35 lt3 lg3
  obtain ⟨hd5, _⟩ := desk_other s35 dis hd3
  obtain ⟨dt5, _⟩ := desk_other s35 dqt dt3
  refine (e_ixL (ds := L.map dDeed) (e_n 5 rfl) (e_sub (e_n (d := .int ((i + 1 : Nat) : Int)) 7 rfl) e_int) hat).run _ _ (slot_set 5 (eo8.up hs5) h58 (ln_d lg5.2) mono_dd) _ fun y H6 e6 py => hrr u y H6 (dp_mono e6 _ _ pu) py _ fun H7 e7 => ⟨false, rfl, ?_⟩
  have e57 := e6.trans e7
  show sT _ _ _ _ _
  refine sT_of (pt_cmpR ho pe_s pe_s (by first | exact nomark _ | rfl)) ?_
  show sE _ _ _ _ _
  have hs7 := hs5.trans e57
  have eoB := slot_set 8 (eo8.up hs7) h88 (P' := DeskV K CD CS t og m S (dn0 ++ [S0']) 0) ⟨rfl, desk_up e57 dt5⟩ mono_desk
  refine m_self0 (E := fun _ _ _ _ => False) F.cD C.back hr (by decide) (fun σ => passAt0) (e_nP 8 (P := DeskV K CD CS t og m S (dn0 ++ [S0']) 0) rfl mono_desk) eoB (desk_ins "back") fun v' H8 e8 pv8 => ?_
  refine ⟨t, og, m, S, S0', dn0, 0, e, L.take i, by rw [pv8.1], pv8.2, hde, by omega, by omega, fun u' H9 s9 pu9 d9 => ?_⟩
  have s59 := Stp.pre (e57.trans e8) s9
  have lg9 := ln_other (noLs_log L) s59 lg5.2 lg5.1
  obtain ⟨hd9, _⟩ := desk_other s59 drt.symm hd5
  obtain ⟨dq9, _⟩ := desk_other s59 dqt.symm d5
  have ft : ∀ a, t.own a → H1 a = none := fun a ha => hs.free (fr a ha)
  obtain ⟨_, hs9⟩ := own_fresh ft hs5 s59
  refine (e_ixL (ds := L.map dDeed) (e_n 5 rfl) (e_sub (e_n (d := .int ((i + 1 : Nat) : Int)) 7 rfl) e_int) hat).run _ _ (slot_set 5 (eo8.up hs9) h58 (ln_d lg9.1) mono_dd) _ fun y H10 e10 py => hrr u' y H10 (dp_mono e10 _ _ pu9) py _ fun H11 e11 => ⟨false, rfl, ?_⟩
  have e911 := e10.trans e11
  have hs11 := hs9.trans e911
  show sT _ _ _ _ _
  have eoC := slot_set 8 (slot_set 3 (eo8.up hs11) h38 (P' := DeskV K CD CS q og m S0' dn0 (n + 1)) ⟨rfl, desk_up e911 dq9⟩ mono_desk) h88 (P' := DeskV K CD CS t og m S0' dn0 (0 + 1)) ⟨rfl, desk_up e911 d9⟩ mono_desk
  have sh4 : SeqAt.shaped (dDs S0'.deeds) = true := Shp.ok (n := 2) (shp_deeds (n := 0) (by rw [LF0.de]; exact okT))
  refine (t_neD C.eq C.hB hr (by decide) (e_nP 8 (P := DeskV K CD CS t og m S0' dn0 (0 + 1)) rfl mono_desk) (e_nP 3 (P := DeskV K CD CS q og m S0' dn0 (n + 1)) rfl mono_desk) rfl sh1 sh4).run _ _ eoC _ fun H12 e12 => ?_
  show sB _ [] _ _ _
  refine sb_nil (sb_nil ?_)
  have e912 := e911.trans e12
  exact k σ8 H12 eoF (h38.trans h3.symm) (h58.trans h5.symm) h68 (hs9.trans e912) (mono_ln _ _ _ e912 lg9.1) (desk_up e912 hd9) ⟨dn0, S0', r1, desk_up e912 dq9, okT⟩
end
end SH

/-! ## SHLw4 -/
set_option Elab.async false
set_option linter.all false
set_option maxRecDepth 100000
set_option maxHeartbeats 4000000
/-! the law: the whole -/
namespace SH
open PySem PySem.Spec PyProof.Rows L2
section
variable {P : Program} {w : World} {K : PySem.W.Frag} {mg : Str → Option Value} {base : Heap} {CD CS : Addr}
/-- what stands behind the first loop -/
theorem tail (G : Glob K mg) (F : DF K mg CD CS) (C : LawC P w K mg base CD CS) {f : Addr} {cdv : Value} {A : Around} {outer : List Env} {s : Shared} {H0 : Hp} {E : XK} (hr : Room 10 (A.deeper (envOfC "law" (defScope s_law) s.heap.objs.size f cdv))) {ns : List Int} {og : Pic} {m : Str} (pok : PicOk og) (hm : m ∈ (["worth", "joins"] : List Str)) {H1 : Hp}
    {D : Ends} {L : List DeedM} (hL : L.length ≤ 10) {σ : St} {H : Hp} {q : Ptr} {n : Nat} (eo : EnvOk (ρL K ns og m) σ H1) (h3 : σ[3]? = some (some (.ref q.p))) (hs : Same H1 H) (hf : ∀ a, q.own a → H1 a = none) (ls : LS K CD CS og m q L n H) (hn : n ≤ 10) (k : ∀ H', D.rt (.bl true) H') :
    sB (XL P w K mg base f cdv A outer s H0 E) ((defBody s_law).drop 3) D σ H := by
  show sB _ [_, _, _, _, _, _, _] _ _ _
  obtain ⟨dn, S, hrun, hdq, hok⟩ := ls
  have LF := ls_ok pok hrun hok
  obtain ⟨wd, hg, g⟩ := LF.R.good
  have hgl := LF.R.gl
  have hdl : dn.length ≤ 10 := by rw [LF.dl]; exact hL
  have hsl : S.deeds.length ≤ 10 := by rw [LF.de]; exact hL
  have hde := LF.de
  have hwr : ∀ e ∈ L, DeedWr e := fun e he => LF.R.wr e (by rw [hde]; exact he)
  have sh1 : SeqAt.shaped (dP og) = true := Shp.ok (n := 2) (shp_pic (n := 0))
  have sh2 : SeqAt.shaped (dDs S.deeds) = true := Shp.ok (n := 2) (shp_deeds (n := 0) (by rw [LF.de]; exact hok))
  have sh3 := shp_seen LF.R g (by rw [LF.de]; exact hok)
  have shl := shp_log hok
  have hlen : σ.length = 9 := eo.len
  -- the log
  refine sb_setE 5 (m_self0 (E := fun _ _ _ _ => False) F.cD C.logN hr (by decide) (fun σ => passAt0) (e_nP 3 (P := DeskV K CD CS q og m S dn n) rfl mono_desk) (slot_set 3 (eo.up hs) h3 (P' := DeskV K CD CS q og m S dn n) ⟨rfl, hdq⟩ mono_desk) (desk_ins "log") fun v H2 e2 pv2 => ⟨v, _, _, rfl, ⟨q, og, m, S, dn, n, rfl, rfl⟩, mono_desk, pv2, fun v5 H3 e3 lg3 => ?_⟩) sc_law.nd
  rw [hde] at lg3
  have e23 := e2.trans e3
  have h35 : (σ.set 5 (some v5))[3]? = some (some (.ref q.p)) := by rw [List.getElem?_set_ne (by decide)]; exact h3
  have h55 : (σ.set 5 (some v5))[5]? = some (some v5) := List.getElem?_set_self (by omega)
  have h5l : (σ.set 5 (some v5)).length = 9 := by rw [List.length_set]; exact hlen
  have eo5 : EnvOk (ρL K ns og m) (σ.set 5 (some v5)) H1 := by
    have z := eo.set 5 (v := v5) (P := fun _ _ => True) trivial fun _ _ _ _ _ => trivial
    have i8 : Imp ((ρL K ns og m).set 5 (some fun _ _ => True)) (ρL K ns og m) := by repeat (first | exact imp_nil | apply imp_id | apply imp_none)
    exact i8 _ _ z
  generalize σ.set 5 (some v5) = σ5 at h35 h55 h5l eo5
  have hs3 := hs.trans e23
  have hdq3 := desk_up e23 hdq
  -- made from it
  refine sb_setE 6 (e_rply C.rep hr (by decide) pok hm hok (by omega) hrun (e_n (d := dP og) 1 rfl) (e_n (d := .list (L.map dDeed)) 5 rfl) (e_n (d := .str m) 2 rfl) (slot_set 5 (eo5.up hs3) h55 (ln_d lg3) mono_dd) fun r H4 e4 fr dr => ?_) sc_law.nd
  have dqr : Dis q r := dis_fresh hdq3 fr
  have hs4 := hs3.trans e4
  have lg4 := mono_ln _ _ _ e4 lg3
  have hdq4 := desk_up e4 hdq3
  have h36 : (σ5.set 6 (some (.ref r.p)))[3]? = some (some (.ref q.p)) := by rw [List.getElem?_set_ne (by decide)]; exact h35
  have h56 : (σ5.set 6 (some (.ref r.p)))[5]? = some (some v5) := by rw [List.getElem?_set_ne (by decide)]; exact h55
  have h66 : (σ5.set 6 (some (.ref r.p)))[6]? = some (some (.ref r.p)) := List.getElem?_set_self (by omega)
  have eo6 : EnvOk (ρL K ns og m) (σ5.set 6 (some (.ref r.p))) H1 := by
    have z := eo5.set 6 (v := .ref r.p) (P := fun _ _ => True) trivial fun _ _ _ _ _ => trivial
    have i8 : Imp ((ρL K ns og m).set 6 (some fun _ _ => True)) (ρL K ns og m) := by repeat (first | exact imp_nil | apply imp_id | apply imp_none)
    exact i8 _ _ z
  generalize σ5.set 6 (some (.ref r.p)) = σ6 at h36 h56 h66 eo6
  -- the three tests
  have eoA := slot_set 6 (slot_set 5 (slot_set 3 (eo6.up hs4) h36 (P' := DeskV K CD CS q og m S dn n) ⟨rfl, hdq4⟩ mono_desk) h56 (ln_d lg4) mono_dd) h66 (P' := DeskV K CD CS r og m S dn 0) ⟨rfl, dr⟩ mono_desk
  refine sb_iff (EvT.is (b' := false) (t_w (w_or (t_neD C.eq C.hB hr (by decide) (e_nP 6 (P := DeskV K CD CS r og m S dn 0) rfl mono_desk) (e_nP 3 (P := DeskV K CD CS q og m S dn n) rfl mono_desk) rfl sh1 sh2) fun _ => w_or (t_cmp (c_neD hr.units sh3 sh3) (e_callV C.seen hr (by decide) rfl (e_nP 6 (P := DeskV K CD CS r og m S dn 0) rfl mono_desk) mono_dd ⟨r, og, m, S, dn, 0, wd, hg, rfl, g, by omega, rfl⟩) (e_callV C.seen hr (by decide) rfl (e_nP 3 (P := DeskV K CD CS q og m S dn n) rfl mono_desk) mono_dd ⟨q, og, m, S, dn, n, wd, hg, rfl, g, by omega, rfl⟩)) fun _ => w_or1 (t_cmp (c_neD hr.units shl shl) (e_n (d := .list (L.map dDeed)) 5 rfl) ⟨mono_dd, fun σ' H' eo' Q k' => m_self0 (E := fun _ _ _ _ => False) F.cD C.logN hr (by decide) (fun σ => passAt0) (e_nP 3 (P := DeskV K CD CS q og m S dn n) rfl mono_desk) eo' (desk_ins "log") fun v H2 e2 pv2 => ⟨v, _, _, rfl, ⟨q, og, m, S, dn, n, rfl, rfl⟩, mono_desk, pv2, fun u H3 e3 lg => k' u H3 (e2.trans e3) (by rw [hde] at lg; exact ln_d lg)⟩⟩))) (by rw [eqv_self sh3, eqv_self shl]; rfl)) eoA fun H5 e5 => sb_nil ?_
  refine sb_iff (EvT.is (b' := false) (t_cmp (c_neD hr.units sh1 sh1) (e_callV C.orig hr (by decide) rfl (e_nP 6 (P := DeskV K CD CS r og m S dn 0) rfl mono_desk) mono_dd ⟨r, og, m, S, dn, 0, rfl, LF.R, by omega, rfl⟩) (e_n (d := dP og) 1 rfl)) (by rw [eqv_self sh1]; rfl)) (eoA.up e5) fun H6 e6 => sb_nil ?_
  refine sb_iff (t_neV C.eq C.hB hr (by decide) ⟨mono_any, fun σ' H' eo' Q k' => e_rply C.rep hr (by decide) pok hm hok (by omega) hrun (e_n (d := dP og) 1 rfl) (e_call C.read hr (by decide) rfl (a_cons (e_call C.text hr (by decide) rfl (a_cons (e_n (d := .list (L.map dDeed)) 5 rfl) a_nil) ⟨L, hwr, by omega, rfl, rfl⟩) a_nil) ⟨L, hwr, by omega, rfl, rfl⟩) (e_n (d := .str m) 2 rfl) eo' fun t H7 e7 _ dt => k' _ H7 e7 ⟨t, rfl, dt⟩⟩ (e_nP 3 (P := DeskV K CD CS q og m S dn n) rfl mono_desk) rfl sh1 sh2) ((eoA.up e5).up e6) fun H7 e7 => sb_nil ?_
  have e47 := (e5.trans e6).trans e7
  have hs7 := hs4.trans e47
  have hf7 : ∀ a, q.own a → H1 a = none := hf
  -- the second loop
  refine sb_pre (sS_of (ps_for PassesOwn.never rfl (pi_range3 (X := XL P w K mg base f cdv A outer s H0 E) rfl G.range pa_s) pg_s pss_s) ?_)
  refine (a_cons (e_lenL (ds := L.map dDeed) G.len (e_n 5 rfl)) (a_cons e_int (a_cons (e_neg (i := 1) e_int) a_nil))).run _ _ (eoA.up e47) _ fun vs H8 e8 pvs => ?_
  cases pvs with
  | cons pv pvs =>
    obtain ⟨v', v'', rfl, pv', pv''⟩ := dpa2 pvs
    cases pv
    cases pv'
    cases pv''
    have rg := RgC.neg (i := ((L.map dDeed).length : Nat)) (j := 0) (by omega) (by rw [List.length_map]; omega) (by omega) (by omega)
    have hz : ((((L.map dDeed).length : Nat) : Int) - 0).toNat = L.length := by rw [List.length_map]; omega
    rw [hz] at rg
    refine ⟨_, _, _, L.length, rfl, rg, ?_⟩
    refine for_it walk_rangeC (fun i σ' H' => EnvOk (ρL K ns og m) σ' H1 ∧ σ'[3]? = some (some (.ref q.p)) ∧ σ'[5]? = some (some v5) ∧ σ'[6]? = some (some (.ref r.p)) ∧ Same H1 H' ∧ LN K q (L.map dDeed) v5 H' ∧ DeskAt K CD CS r og m S dn 0 H' ∧ LS K CD CS og m q (L.take (L.length - i)) (n + i) H' ∧ i ≤ L.length) ?h0 (fun _ _ _ _ _ => trivial) ?hs ?hd
    case h0 => exact ⟨eo6, h36, h56, h66, hs7.trans e8, mono_ln _ _ _ (e47.trans e8) lg4, desk_up (e47.trans e8) dr, ⟨dn, S, by rw [Nat.sub_zero, List.take_length]; exact hrun, desk_up (e47.trans e8) hdq4, by rw [Nat.sub_zero, List.take_length]; exact hok⟩, Nat.zero_le _⟩
    case hs =>
      rintro i x σ' H' H'' hi ⟨eo', g3, g5, g6, hs', lg', dr', ls', _⟩ ⟨rfl, rfl⟩
      show sG _ _ _ _ _ _
      refine sG_of (pg_name (i := 7) sc_law.nd rfl (.inl rfl) (.inr rfl)) ?_
      obtain ⟨j, hj⟩ : ∃ j, L.length - i = j + 1 := ⟨L.length - i - 1, by omega⟩
      have hv : (((L.map dDeed).length : Nat) : Int) + (i : Nat) * (-1) = ((j + 1 : Nat) : Int) := by rw [List.length_map]; omega
      have hjl : j < L.length := by omega
      rw [hj] at ls'
      show gName _ (V.int ((((L.map dDeed).length : Nat) : Int) + (i : Nat) * (-1))) _ _ _
      rw [hv]
      refine loop2 G F C hr pok hm (L := L) hL hok (List.getElem?_eq_getElem hjl) eo' g3 g5 hs' hf lg' dr' dqr ls' (by omega) fun σ2 H2 eo2 k3 k5 k6 hs2 lg2 dr2 ls2 => ?_
      have hj2 : L.length - (i + 1) = j := by omega
      exact ⟨eo2, k3.trans g3, k5.trans g5, k6.trans g6, hs2, lg2, dr2, by rw [hj2]; exact ls2, by omega⟩
    case hd =>
      rintro σ' H' ⟨eo', g3, g5, g6, hs', lg', dr', ls', _⟩
      rw [Nat.sub_self] at ls'
      obtain ⟨dn', S', hrun', dq', _⟩ := ls'
      have z : (([] : List StandM), S0 og) = (dn', S') := Option.some.inj hrun'
      injection z with z1 z2
      subst z1 z2
      have eoZ := slot_set 6 (slot_set 5 (slot_set 3 (eo'.up hs') g3 (P' := DeskV K CD CS q og m (S0 og) [] (n + L.length)) ⟨rfl, dq'⟩ mono_desk) g5 (ln_d lg') mono_dd) g6 (P' := DeskV K CD CS r og m S dn 0) ⟨rfl, dr'⟩ mono_desk
      refine sb_retE ((EvD.is (d' := .bool true) (e_and (e_cmp c_eqI (e_lenD C.len hr (by decide) G.len (S := S0 og) (by show 0 ≤ 500; omega) (e_nP 3 (P := DeskV K CD CS q og m (S0 og) [] (n + L.length)) rfl mono_desk)) e_int) fun _ => e_and (e_eqV C.eq hr (by decide) (e_nP 3 (P := DeskV K CD CS q og m (S0 og) [] (n + L.length)) rfl mono_desk) ⟨mono_any, fun σ' H' eo' Q k' => e_desk F C.desk hr (by decide) pok hm (e_n (d := dP og) 1 rfl) (e_n (d := .str m) 2 rfl) eo' fun t H7 e7 _ dt => k' _ H7 e7 ⟨t, rfl, dt⟩⟩ rfl sh1 (by rfl)) fun _ => e_one (e_cmp (c_eqD hr.units shl shl) ⟨mono_dd, fun σ' H' eo' Q k' => m_self0 (E := fun _ _ _ _ => False) F.cD C.logN hr (by decide) (fun σ => passAt0) (e_nP 6 (P := DeskV K CD CS r og m S dn 0) rfl mono_desk) eo' (desk_ins "log") fun v H2 e2 pv2 => ⟨v, _, _, rfl, ⟨r, og, m, S, dn, 0, rfl, rfl⟩, mono_desk, pv2, fun u H3 e3 lg => k' u H3 (e2.trans e3) (by rw [hde] at lg; exact ln_d lg)⟩⟩ (e_n (d := .list (L.map dDeed)) 5 rfl))) (by rw [eqv_self shl]; rfl)).run _ _ eoZ _ fun v H9 e9 pv => ?_)
      cases pv
      exact k H9
end
end SH

/-! ## SHLw5 -/
set_option Elab.async false
set_option linter.all false
set_option maxRecDepth 100000
set_option maxHeartbeats 4000000
/-! the law: ok_law -/
namespace SH
open PySem PySem.Spec PyProof.Rows L2
section
variable {P : Program} {w : World} {K : PySem.W.Frag} {mg : Str → Option Value} {base : Heap} {CD CS : Addr}
theorem law_body (G : Glob K mg) (F : DF K mg CD CS) (C : LawC P w K mg base CD CS) {f : Addr} {cdv : Value} {A : Around} {outer : List Env} {s : Shared} {H0 : Hp} {E : XK} (hr : Room 10 (A.deeper (envOfC "law" (defScope s_law) s.heap.objs.size f cdv))) {ns : List Int} (hns : ns.length ≤ 63) {a : Addr} (ha : SqL K H0 a (ns.map V.int)) {D : Ends} (k : ∀ H', D.rt (.bl true) H') :
    sB (XL P w K mg base f cdv A outer s H0 E) (defBody s_law) D (L2.start N_law [.ref a]) H0 := by
  show sB _ [_, _, _, _, _, _, _, _, _, _] _ _ _
  have pok : PicOk (someP ns 0 6 4) := someP_ok
  have hm := manM_ok ns 60
  have eo : EnvOk [some (DD K (.list (ns.map .int))), none, none, none, none, none, none, none, none] (L2.start N_law [.ref a]) H0 := eok_d (.lst ha (dpa_of_ints ns)) (eok_reps 8)
  refine sb_cons (sr_par 1 2 (e_call C.some hr (by decide) rfl (a_cons (e_n (d := .list (ns.map .int)) 0 rfl) (a_cons e_int (a_cons e_int (a_cons e_int a_nil)))) ⟨ns, 0, hns, by omega, by omega, rfl, rfl⟩) (e_call C.man hr (by decide) rfl (a_cons (e_n (d := .list (ns.map .int)) 0 rfl) (a_cons e_int a_nil)) ⟨ns, 60, hns, by omega, by omega, rfl, rfl⟩) rfl sc_law.nd) eo fun σ1 H1 e1 eo1 => ?_
  generalize someP ns 0 6 4 = og at pok eo1
  generalize manM ns 60 = m at hm eo1
  have eo1 : EnvOk (ρL K ns og m) σ1 H1 := eo1
  refine sb_setE 3 (e_desk F C.desk hr (by decide) pok hm (e_n (d := dP og) 1 rfl) (e_n (d := .str m) 2 rfl) eo1 fun q H2 e2 fr dq => ?_) sc_law.nd
  have hlen : σ1.length = 9 := eo1.len
  have h3 : (σ1.set 3 (some (.ref q.p)))[3]? = some (some (.ref q.p)) := List.getElem?_set_self (by omega)
  have eo2 : EnvOk (ρL K ns og m) (σ1.set 3 (some (.ref q.p))) H1 := by
    have z := eo1.set 3 (v := .ref q.p) (P := fun _ _ => True) trivial fun _ _ _ _ _ => trivial
    have i8 : Imp ((ρL K ns og m).set 3 (some fun _ _ => True)) (ρL K ns og m) := by repeat (first | exact imp_nil | apply imp_id | apply imp_none)
    exact i8 _ _ z
  generalize σ1.set 3 (some (.ref q.p)) = σ2 at h3 eo2
  have dr6 := drawn_ok (ns := ns) (k := 61) (many := 6) (by decide)
  refine sb_pre (sS_of (ps_for PassesOwn.never rfl (pi_range1 (X := XL P w K mg base f cdv A outer s H0 E) rfl G.range pa_s) pg_s pss_s) ?_)
  refine (a_cons (e_add e_int (e_call (X := XL P w K mg base f cdv A outer s H0 E) C.drawn hr (by decide) rfl (a_cons (e_n (d := .list (ns.map .int)) 0 rfl) (a_cons e_int (a_cons e_int a_nil))) ⟨ns, 61, 6, hns, by omega, by omega, by decide, rfl, rfl⟩)) a_nil).run _ _ (eo2.up e2) _ fun vs H3 e3 pvs => ?_
  obtain ⟨v, rfl, pv⟩ := dpa1 pvs
  cases pv
  have e23 := e2.trans e3
  refine ⟨4 + drawnM ns 61 6, rfl, by omega, by omega, ?_⟩
  refine for_it walk_range (fun i σ' H' => ∃ q' es n, EnvOk (ρL K ns og m) σ' H1 ∧ σ'[3]? = some (some (.ref q'.p)) ∧ Same H1 H' ∧ (∀ a, q'.own a → H1 a = none) ∧ LS K CD CS og m q' es n H' ∧ es.length ≤ i ∧ n ≤ i) ?h0 (fun _ _ _ _ _ => trivial) ?hs ?hd
  case h0 => exact ⟨q, [], 0, eo2, h3, e23, fr, ⟨[], S0 og, rfl, desk_up e3 dq, fun e he => by cases he⟩, Nat.le_refl _, Nat.le_refl _⟩
  case hs =>
    rintro i x σ' H' H'' hi ⟨q', es, n, eo', g3, hs', hf', ls', hl', hn'⟩ ⟨rfl, rfl⟩
    show sG _ _ _ _ _ _
    refine sG_of (pg_name (i := 4) sc_law.nd rfl (.inl rfl) (.inr rfl)) ?_
    exact loop1 G F C hr hns pok (by omega) eo' g3 hs' hf' ls' hl' hn' fun σ2 H2 q2 es2 n2 a1 a2 a3 a4 a5 a6 a7 => ⟨q2, es2, n2, a1, a2, a3, a4, a5, a6, a7⟩
  case hd =>
    rintro σ' H' ⟨q', es, n, eo', g3, hs', hf', ls', hl', hn'⟩
    exact tail G F C hr pok hm (L := es) (by omega) eo' g3 hs' hf' ls' (by omega) k
theorem ok_law (G : Glob K mg) (F : DF K mg CD CS) (C : LawC P w K mg base CD CS) (D : DefAt K mg "law" s_law ["_law_script"]) : CalG P w K mg base CX0 11 "law" ["_law_script"] (spLaw K) :=
  fn_of0 (N := N_law) D sc_law (fun vs H Q E h => by
    obtain ⟨a, ns, rfl, _⟩ := h
    rfl) fun f cdv A outer s H vs Q E hr h => by
    obtain ⟨a, ns, rfl, ha, hns, k⟩ := h
    exact law_body G F C hr hns ha fun H' => k H'
end
end SH

/-! ## SHHead -/
set_option Elab.async false
set_option linter.all false
set_option maxRecDepth 100000
set_option maxHeartbeats 0
namespace SH
open PySem PySem.Spec PyProof.Rows L2
/-! ### further facts -/
def oexB (K : PySem.W.Frag) (C : Addr) : Bool := (match K.lookup C with
  | some ⟨.type "type", _, .cls cd, sl⟩ => (match cd.mro, sl.toList with
    | .ref C' :: bm, [_, _, _, _, some (.builtin n), _] => C' == C && n == "ValueError.__new__" && !cd.hasDel && cd.hasDict && PySem.HandSPX.refsVE bm
    | _, _ => false)
  | _ => false) && (He.eqO (PySem.W.findIn K (.ref C) "__setattr__") (some (some (.builtin "object.__setattr__"))) && (decide (PySem.W.subIn K (.ref C) (.type "BaseException") = some true) && (decide (PySem.W.typeIn K (.ref C) = some (.type "type")) && PySem.W.keepIn K (.ref C))))
theorem oexB_ok {K : PySem.W.Frag} {C : Addr} (h : oexB K C = true) : OexC K C := by
  obtain ⟨h1, h⟩ := He.ba h
  obtain ⟨h2, h⟩ := He.ba h
  obtain ⟨h3, h⟩ := He.ba h
  obtain ⟨h4, h5⟩ := He.ba h
  refine ⟨?_, He.eqO_ok h2, of_decide_eq_true h3, of_decide_eq_true h4, h5⟩
  split at h1
  · rename_i dd cd sl ho
    split at h1
    · rename_i C' bm k0 k1 k2 k3 n k5 hm hs
      simp only [Bool.and_eq_true, beq_iff_eq, Bool.not_eq_true'] at h1
      obtain ⟨⟨⟨⟨rfl, rfl⟩, hdel⟩, hhd⟩, hve⟩ := h1
      obtain ⟨nm, bs, mro, ns, qn, hd, sn, sub, ab, col, del⟩ := cd
      dsimp only at hm hdel hhd
      subst hm hdel hhd
      have hsl : sl = #[k0, k1, k2, k3, some (.builtin "ValueError.__new__"), k5] := by
        obtain ⟨l⟩ := sl
        simp only at hs
        rw [hs]
      subst hsl
      exact ⟨_, _, _, _, _, _, _, _, _, _, _, _, _, _, _, ho, hve⟩
    · cases h1
  · cases h1
def excCB (K : PySem.W.Frag) (C : Addr) : Bool := decide (PySem.W.findIn K (.ref C) "__getattribute__" = some (some (.builtin "BaseException.__getattribute__"))) && (decide (PySem.W.findIn K (.ref C) "__getattr__" = some none) && (decide (PySem.W.subIn K (.ref C) (.type "BaseException") = some true) && (PySem.W.hasDictIn K C && (decide (PySem.W.findIn K (.ref C) "__class__" = some (some (.builtin "object.__class__"))) && (decide (PySem.W.specialIn K (.builtin "object.__class__") "__get__" = some (some (.builtin "getset_descriptor.__get__"))) && (decide (PySem.W.takesIn K (.builtin "object.__class__") = some true) && decide (PySem.W.mroIn K C (.type "object") = some true)))))))
theorem excCB_ok {K : PySem.W.Frag} {C : Addr} (h : excCB K C = true) : ExcC K C := by
  obtain ⟨h1, h⟩ := He.ba h
  obtain ⟨h2, h⟩ := He.ba h
  obtain ⟨h3, h⟩ := He.ba h
  obtain ⟨h4, h⟩ := He.ba h
  obtain ⟨h5, h⟩ := He.ba h
  obtain ⟨h6, h⟩ := He.ba h
  obtain ⟨h7, h8⟩ := He.ba h
  exact ⟨of_decide_eq_true h1, of_decide_eq_true h2, of_decide_eq_true h3, h4, of_decide_eq_true h5, of_decide_eq_true h6, of_decide_eq_true h7, of_decide_eq_true h8⟩
def isDB (K : PySem.W.Frag) (C : Addr) : Bool := decide (PySem.W.findIn K (.ref C) "__class__" = some (some (.builtin "object.__class__"))) && (decide (PySem.W.specialIn K (.builtin "object.__class__") "__get__" = some (some (.builtin "getset_descriptor.__get__"))) && (decide (PySem.W.takesIn K (.builtin "object.__class__") = some true) && (decide (PySem.W.mroIn K C (.type "object") = some true) && decide (PySem.W.kitOne K (.ref C) (.ref C) = some true))))
theorem isDB_ok {K : PySem.W.Frag} {C : Addr} (h : isDB K C = true) : IsD K C := by
  obtain ⟨h1, h⟩ := He.ba h
  obtain ⟨h2, h⟩ := He.ba h
  obtain ⟨h3, h⟩ := He.ba h
  obtain ⟨h4, h5⟩ := He.ba h
  exact ⟨of_decide_eq_true h1, of_decide_eq_true h2, of_decide_eq_true h3, of_decide_eq_true h4, of_decide_eq_true h5⟩
def kitB2 (K : PySem.W.Frag) (x y : Str) (b : Bool) : Bool := decide (PySem.W.kitOne K (.ref (He.ga K x)) (.ref (He.ga K y)) = some b)
def exL (K : PySem.W.Frag) : List Bool := [He.tupB K "MANNERS" [.str "worth", .str "joins"], He.tupB K "BOXES" [.str "keep", .str "drop", .str "free"], He.tupB K "PLAIN" [.str "narrow", .str "flatten", .str "widen"],
  oexB K (He.ga K "NoRoom"), He.eqO (PySem.W.findIn K (.ref (He.ga K "NoRoom")) "now") (some none), xfB K (He.ga K "NoRoom"), excCB K (He.ga K "NoBox"), excCB K (He.ga K "NoWay"), isDB K (He.ga K "Desk"), neB K (He.ga K "Desk") (He.ma K (He.ga K "Desk") "__eq__"),
  kitB2 K "NoBox" "NoBox" true, kitB2 K "NoBox" "NoWay" false, kitB2 K "NoWay" "NoBox" false, kitB2 K "NoWay" "NoWay" true]
def exB (K : PySem.W.Frag) : Bool := (exL K).all id
/-! ### the facts by names -/
def fa0 : List He.Fa := [.glo "SeamError", .glo "NoPicture", .glo "NoManner", .glo "NoWay", .glo "NoBox", .glo "NoRoom", .glo "NoBack", .glo "NoDeeds", .glo "NoText", .glo "is_number", .glo "is_row", .glo "is_picture", .glo "need_picture", .glo "swapped", .glo "MANNERS", .glo "need_manner", .glo "near", .glo "worth_at", .glo "join_at", .glo "step_cost", .glo "free_marks", .glo "next_ones", .glo "add", .glo "downs", .glo "starts"]
def fa1 : List He.Fa := [.glo "best_way", .glo "without", .glo "put_in", .glo "means", .glo "near_next", .glo "Stand", .glo "Desk", .glo "BOXES", .glo "PLAIN", .glo "is_deed", .glo "do", .glo "replayed", .glo "step_back", .glo "origin_of", .glo "number_of", .glo "is_plain_deed", .glo "log_text", .glo "deed_in", .glo "read_log", .glo "_law_drawn", .glo "_law_picture", .glo "_law_some", .glo "_law_manner", .glo "_law_done", .glo "_law_deed"]
def fa2 : List He.Fa := [.glo "_law_seen", .glo "law", .free "len", .free "isinstance", .free "tuple", .free "int", .free "bool", .free "all", .free "range", .free "max", .free "min", .free "abs", .free "sum", .free "enumerate", .free "zip", .free "str", .free "list", .int "MOST_CELL" 99, .int "MOST_SIDE" 20, .int "FREE" 0, .int "KEPT" 1, .int "GONE" 2, .str "FIGURES" "0123456789", .cls "Desk", .cls "Stand"]
def fa3 : List He.Fa := [.noat "Desk" "origin", .noat "Desk" "manner", .noat "Desk" "here", .noat "Desk" "done", .noat "Desk" "undone", .noat "Stand" "cells", .noat "Stand" "signs", .noat "Stand" "gone", .noat "Stand" "deeds", .meth "Desk" "turn_to", .meth "Desk" "size", .meth "Desk" "picture", .meth "Desk" "marks", .meth "Desk" "mark", .meth "Desk" "keep", .meth "Desk" "drop", .meth "Desk" "free", .meth "Desk" "seam_of", .meth "Desk" "narrow", .meth "Desk" "flatten", .meth "Desk" "widen", .meth "Desk" "steps", .meth "Desk" "log", .meth "Desk" "back", .mkr "Desk"]
def fa4 : List He.Fa := [.mkr "Stand", .exc "NoBox", .exc "NoWay", .exm "NoRoom" "NoRoom" true, .exm "NoBox" "NoRoom" false, .exm "NoWay" "NoRoom" false, .exm "NoBox" "SeamError" true, .exm "NoWay" "SeamError" true, .meth "Desk" "__len__", .meth "Desk" "__eq__", .meth "Desk" "__str__", .meth "NoRoom" "__init__"]
def fa : List He.Fa := fa0 ++ (fa1 ++ (fa2 ++ (fa3 ++ (fa4))))
abbrev R : PySem.W.OpenRow := PySem.W.OpenLaw.row PySem.Challenge.rw_seamhall_k57_whole_replays
/-- HookD with one Bool more -/
abbrev AlY : Type := He.AlD × Bool
def obsY (n : Nat) (g : Addr → Option Obj) : AlY := (He.obsD fa fn (He.frG g (He.asD g n)), exB (He.frG g (He.asD g n)))
def hookY (n : Nat) : PySem.W.Hook where
  α := AlY
  obs := fun s => obsY n s.heap.get?
  val := fun _ => (He.valD fn, true)
  says := fun _ h => ∃ K : PySem.W.Frag, K.In h ∧ He.SaysD fa fn K ∧ exB K = true
  of := fun _ _ e => ⟨_, He.frG_in, congrArg (fun z : AlY => z.1) e, congrArg (fun z : AlY => z.2) e⟩
  keeps := fun _ _ _ ⟨K, hK, c⟩ k => ⟨K, PySem.W.Frag.In.keeps hK k, c⟩
theorem obsY_eq {n : Nat} {g : Addr → Option Obj} {s : Shared} (h : ∀ a, g a = s.heap.get? a) : obsY n g = (hookY n).obs s := by
  have e : g = s.heap.get? := funext h
  rw [e] <;> rfl
abbrev hk : PySem.W.Hook := hookY 4
def ob (s : PySem.W.SharedT) : AlY := obsY 4 (HandSHeadRun.getT s)
theorem ob_eq (s : PySem.W.SharedT) : ob s = hk.obs s.abs := obsY_eq (HandSHeadRun.getT_eq s)
theorem run (w : World) : HandSHeadRun.RunEq R (PySem.W.view R.prog [66]) hk ob 30000 loose w := by
  intro os
  kernel_rfl
end SH

/-! ## SHFa -/
set_option Elab.async false
set_option linter.all false
set_option maxRecDepth 100000
set_option maxHeartbeats 0
/-! the facts, out of what the head says (printed by gen9.py) -/
namespace SH
open PySem PySem.Spec PyProof.Rows L2
section
variable {P : Program} {w : World} {K : PySem.W.Frag} {h : Heap} {mg : Str → Option Value} {base : Heap}
theorem ex_at (e : exB K = true) (i : Nat) {b : Bool} (z : (exL K)[i]? = some b) : b = true := List.all_eq_true.mp e b (List.mem_of_getElem? z)
theorem D_is_number (X : K.In h) (G : h.Ns mainGlobals mg) (c : He.SaysD fa fn K) : DefAt K mg "is_number" s_is_number ["thing", "least", "most"] := by
  obtain ⟨fd, F⟩ := c.def_ 1 (d := d_is_number) rfl
  exact ⟨_, fd, F, He.glo_ok X G (c.fact 9 (f := .glo "is_number") rfl), FunD.bindsN F fun _ _ _ _ _ _ us hl => match us, hl with | [_, _, _], _ => rfl⟩
theorem D_is_row (X : K.In h) (G : h.Ns mainGlobals mg) (c : He.SaysD fa fn K) : DefAt K mg "is_row" s_is_row ["thing", "wide"] := by
  obtain ⟨fd, F⟩ := c.def_ 2 (d := d_is_row) rfl
  exact ⟨_, fd, F, He.glo_ok X G (c.fact 10 (f := .glo "is_row") rfl), FunD.bindsN F fun _ _ _ _ _ _ us hl => match us, hl with | [_, _], _ => rfl⟩
theorem D_is_picture (X : K.In h) (G : h.Ns mainGlobals mg) (c : He.SaysD fa fn K) : DefAt K mg "is_picture" s_is_picture ["thing"] := by
  obtain ⟨fd, F⟩ := c.def_ 3 (d := d_is_picture) rfl
  exact ⟨_, fd, F, He.glo_ok X G (c.fact 11 (f := .glo "is_picture") rfl), FunD.bindsN F fun _ _ _ _ _ _ us hl => match us, hl with | [_], _ => rfl⟩
theorem D_need_picture (X : K.In h) (G : h.Ns mainGlobals mg) (c : He.SaysD fa fn K) : DefAt K mg "need_picture" s_need_picture ["picture"] := by
  obtain ⟨fd, F⟩ := c.def_ 4 (d := d_need_picture) rfl
  exact ⟨_, fd, F, He.glo_ok X G (c.fact 12 (f := .glo "need_picture") rfl), FunD.bindsN F fun _ _ _ _ _ _ us hl => match us, hl with | [_], _ => rfl⟩
theorem D_need_manner (X : K.In h) (G : h.Ns mainGlobals mg) (c : He.SaysD fa fn K) : DefAt K mg "need_manner" s_need_manner ["manner"] := by
  obtain ⟨fd, F⟩ := c.def_ 6 (d := d_need_manner) rfl
  exact ⟨_, fd, F, He.glo_ok X G (c.fact 15 (f := .glo "need_manner") rfl), FunD.bindsN F fun _ _ _ _ _ _ us hl => match us, hl with | [_], _ => rfl⟩
theorem D_near (X : K.In h) (G : h.Ns mainGlobals mg) (c : He.SaysD fa fn K) : DefAt K mg "near" s_near ["row", "x"] := by
  obtain ⟨fd, F⟩ := c.def_ 7 (d := d_near) rfl
  exact ⟨_, fd, F, He.glo_ok X G (c.fact 16 (f := .glo "near") rfl), FunD.bindsN F fun _ _ _ _ _ _ us hl => match us, hl with | [_, _], _ => rfl⟩
theorem D_swapped (X : K.In h) (G : h.Ns mainGlobals mg) (c : He.SaysD fa fn K) : DefAt K mg "swapped" s_swapped ["rows"] := by
  obtain ⟨fd, F⟩ := c.def_ 5 (d := d_swapped) rfl
  exact ⟨_, fd, F, He.glo_ok X G (c.fact 13 (f := .glo "swapped") rfl), FunD.bindsN F fun _ _ _ _ _ _ us hl => match us, hl with | [_], _ => rfl⟩
theorem D_worth_at (X : K.In h) (G : h.Ns mainGlobals mg) (c : He.SaysD fa fn K) : DefAt K mg "worth_at" s_worth_at ["picture", "x", "y"] := by
  obtain ⟨fd, F⟩ := c.def_ 8 (d := d_worth_at) rfl
  exact ⟨_, fd, F, He.glo_ok X G (c.fact 17 (f := .glo "worth_at") rfl), FunD.bindsN F fun _ _ _ _ _ _ us hl => match us, hl with | [_, _, _], _ => rfl⟩
theorem D_join_at (X : K.In h) (G : h.Ns mainGlobals mg) (c : He.SaysD fa fn K) : DefAt K mg "join_at" s_join_at ["picture", "x", "y"] := by
  obtain ⟨fd, F⟩ := c.def_ 9 (d := d_join_at) rfl
  exact ⟨_, fd, F, He.glo_ok X G (c.fact 18 (f := .glo "join_at") rfl), FunD.bindsN F fun _ _ _ _ _ _ us hl => match us, hl with | [_, _, _], _ => rfl⟩
theorem D_step_cost (X : K.In h) (G : h.Ns mainGlobals mg) (c : He.SaysD fa fn K) : DefAt K mg "step_cost" s_step_cost ["picture", "x", "y", "before", "manner"] := by
  obtain ⟨fd, F⟩ := c.def_ 10 (d := d_step_cost) rfl
  exact ⟨_, fd, F, He.glo_ok X G (c.fact 19 (f := .glo "step_cost") rfl), FunD.bindsN F fun _ _ _ _ _ _ us hl => match us, hl with | [_, _, _, _, _], _ => rfl⟩
theorem D_free_marks (X : K.In h) (G : h.Ns mainGlobals mg) (c : He.SaysD fa fn K) : DefAt K mg "free_marks" s_free_marks ["picture"] := by
  obtain ⟨fd, F⟩ := c.def_ 11 (d := d_free_marks) rfl
  exact ⟨_, fd, F, He.glo_ok X G (c.fact 20 (f := .glo "free_marks") rfl), FunD.bindsN F fun _ _ _ _ _ _ us hl => match us, hl with | [_], _ => rfl⟩
theorem D_next_ones (X : K.In h) (G : h.Ns mainGlobals mg) (c : He.SaysD fa fn K) : DefAt K mg "next_ones" s_next_ones ["x", "wide"] := by
  obtain ⟨fd, F⟩ := c.def_ 12 (d := d_next_ones) rfl
  exact ⟨_, fd, F, He.glo_ok X G (c.fact 21 (f := .glo "next_ones") rfl), FunD.bindsN F fun _ _ _ _ _ _ us hl => match us, hl with | [_, _], _ => rfl⟩
theorem D_add (X : K.In h) (G : h.Ns mainGlobals mg) (c : He.SaysD fa fn K) : DefAt K mg "add" s_add ["one", "other"] := by
  obtain ⟨fd, F⟩ := c.def_ 13 (d := d_add) rfl
  exact ⟨_, fd, F, He.glo_ok X G (c.fact 22 (f := .glo "add") rfl), FunD.bindsN F fun _ _ _ _ _ _ us hl => match us, hl with | [_, _], _ => rfl⟩
theorem D_without (X : K.In h) (G : h.Ns mainGlobals mg) (c : He.SaysD fa fn K) : DefAt K mg "without" s_without ["rows", "seam"] := by
  obtain ⟨fd, F⟩ := c.def_ 17 (d := d_without) rfl
  exact ⟨_, fd, F, He.glo_ok X G (c.fact 26 (f := .glo "without") rfl), FunD.bindsN F fun _ _ _ _ _ _ us hl => match us, hl with | [_, _], _ => rfl⟩
theorem D_put_in (X : K.In h) (G : h.Ns mainGlobals mg) (c : He.SaysD fa fn K) : DefAt K mg "put_in" s_put_in ["rows", "seam", "cells"] := by
  obtain ⟨fd, F⟩ := c.def_ 18 (d := d_put_in) rfl
  exact ⟨_, fd, F, He.glo_ok X G (c.fact 27 (f := .glo "put_in") rfl), FunD.bindsN F fun _ _ _ _ _ _ us hl => match us, hl with | [_, _, _], _ => rfl⟩
theorem D_near_next (X : K.In h) (G : h.Ns mainGlobals mg) (c : He.SaysD fa fn K) : DefAt K mg "near_next" s_near_next ["row", "x"] := by
  obtain ⟨fd, F⟩ := c.def_ 20 (d := d_near_next) rfl
  exact ⟨_, fd, F, He.glo_ok X G (c.fact 29 (f := .glo "near_next") rfl), FunD.bindsN F fun _ _ _ _ _ _ us hl => match us, hl with | [_, _], _ => rfl⟩
theorem D_means (X : K.In h) (G : h.Ns mainGlobals mg) (c : He.SaysD fa fn K) : DefAt K mg "means" s_means ["rows", "seam"] := by
  obtain ⟨fd, F⟩ := c.def_ 19 (d := d_means) rfl
  exact ⟨_, fd, F, He.glo_ok X G (c.fact 28 (f := .glo "means") rfl), FunD.bindsN F fun _ _ _ _ _ _ us hl => match us, hl with | [_, _], _ => rfl⟩
theorem D_downs (X : K.In h) (G : h.Ns mainGlobals mg) (c : He.SaysD fa fn K) : DefAt K mg "downs" s_downs ["pictures", "manner", "marks"] := by
  obtain ⟨fd, F⟩ := c.def_ 14 (d := d_downs) rfl
  exact ⟨_, fd, F, He.glo_ok X G (c.fact 23 (f := .glo "downs") rfl), FunD.bindsN F fun _ _ _ _ _ _ us hl => match us, hl with | [_, _, _], _ => rfl⟩
theorem D_starts (X : K.In h) (G : h.Ns mainGlobals mg) (c : He.SaysD fa fn K) : DefAt K mg "starts" s_starts ["pictures", "manner", "table"] := by
  obtain ⟨fd, F⟩ := c.def_ 15 (d := d_starts) rfl
  exact ⟨_, fd, F, He.glo_ok X G (c.fact 24 (f := .glo "starts") rfl), FunD.bindsN F fun _ _ _ _ _ _ us hl => match us, hl with | [_, _, _], _ => rfl⟩
theorem D_best_way (X : K.In h) (G : h.Ns mainGlobals mg) (c : He.SaysD fa fn K) : DefAt K mg "best_way" s_best_way ["pictures", "manner", "marks"] := by
  obtain ⟨fd, F⟩ := c.def_ 16 (d := d_best_way) rfl
  exact ⟨_, fd, F, He.glo_ok X G (c.fact 25 (f := .glo "best_way") rfl), FunD.bindsN F fun _ _ _ _ _ _ us hl => match us, hl with | [_, _, _], _ => rfl⟩
theorem D_origin_of (X : K.In h) (G : h.Ns mainGlobals mg) (c : He.SaysD fa fn K) : DefAt K mg "origin_of" s_origin_of ["desk"] := by
  obtain ⟨fd, F⟩ := c.def_ 45 (d := d_origin_of) rfl
  exact ⟨_, fd, F, He.glo_ok X G (c.fact 38 (f := .glo "origin_of") rfl), FunD.bindsN F fun _ _ _ _ _ _ us hl => match us, hl with | [_], _ => rfl⟩
theorem D_is_deed (X : K.In h) (G : h.Ns mainGlobals mg) (c : He.SaysD fa fn K) : DefAt K mg "is_deed" s_is_deed ["thing"] := by
  obtain ⟨fd, F⟩ := c.def_ 41 (d := d_is_deed) rfl
  exact ⟨_, fd, F, He.glo_ok X G (c.fact 34 (f := .glo "is_deed") rfl), FunD.bindsN F fun _ _ _ _ _ _ us hl => match us, hl with | [_], _ => rfl⟩
theorem D_step_back (X : K.In h) (G : h.Ns mainGlobals mg) (c : He.SaysD fa fn K) : DefAt K mg "step_back" s_step_back ["cells", "step"] := by
  obtain ⟨fd, F⟩ := c.def_ 44 (d := d_step_back) rfl
  exact ⟨_, fd, F, He.glo_ok X G (c.fact 37 (f := .glo "step_back") rfl), FunD.bindsN F fun _ _ _ _ _ _ us hl => match us, hl with | [_, _], _ => rfl⟩
theorem D_do (X : K.In h) (G : h.Ns mainGlobals mg) (c : He.SaysD fa fn K) : DefAt K mg "do" s_do ["desk", "deed"] := by
  obtain ⟨fd, F⟩ := c.def_ 42 (d := d_do) rfl
  exact ⟨_, fd, F, He.glo_ok X G (c.fact 35 (f := .glo "do") rfl), FunD.bindsN F fun _ _ _ _ _ _ us hl => match us, hl with | [_, _], _ => rfl⟩
theorem D_number_of (X : K.In h) (G : h.Ns mainGlobals mg) (c : He.SaysD fa fn K) : DefAt K mg "number_of" s_number_of ["word"] := by
  obtain ⟨fd, F⟩ := c.def_ 46 (d := d_number_of) rfl
  exact ⟨_, fd, F, He.glo_ok X G (c.fact 39 (f := .glo "number_of") rfl), FunD.bindsN F fun _ _ _ _ _ _ us hl => match us, hl with | [_], _ => rfl⟩
theorem D_is_plain_deed (X : K.In h) (G : h.Ns mainGlobals mg) (c : He.SaysD fa fn K) : DefAt K mg "is_plain_deed" s_is_plain_deed ["deed"] := by
  obtain ⟨fd, F⟩ := c.def_ 47 (d := d_is_plain_deed) rfl
  exact ⟨_, fd, F, He.glo_ok X G (c.fact 40 (f := .glo "is_plain_deed") rfl), FunD.bindsN F fun _ _ _ _ _ _ us hl => match us, hl with | [_], _ => rfl⟩
theorem D_log_text (X : K.In h) (G : h.Ns mainGlobals mg) (c : He.SaysD fa fn K) : DefAt K mg "log_text" s_log_text ["deeds"] := by
  obtain ⟨fd, F⟩ := c.def_ 48 (d := d_log_text) rfl
  exact ⟨_, fd, F, He.glo_ok X G (c.fact 41 (f := .glo "log_text") rfl), FunD.bindsN F fun _ _ _ _ _ _ us hl => match us, hl with | [_], _ => rfl⟩
theorem D_deed_in (X : K.In h) (G : h.Ns mainGlobals mg) (c : He.SaysD fa fn K) : DefAt K mg "deed_in" s_deed_in ["line"] := by
  obtain ⟨fd, F⟩ := c.def_ 49 (d := d_deed_in) rfl
  exact ⟨_, fd, F, He.glo_ok X G (c.fact 42 (f := .glo "deed_in") rfl), FunD.bindsN F fun _ _ _ _ _ _ us hl => match us, hl with | [_], _ => rfl⟩
theorem D_read_log (X : K.In h) (G : h.Ns mainGlobals mg) (c : He.SaysD fa fn K) : DefAt K mg "read_log" s_read_log ["text"] := by
  obtain ⟨fd, F⟩ := c.def_ 50 (d := d_read_log) rfl
  exact ⟨_, fd, F, He.glo_ok X G (c.fact 43 (f := .glo "read_log") rfl), FunD.bindsN F fun _ _ _ _ _ _ us hl => match us, hl with | [_], _ => rfl⟩
theorem D_Ldrawn (X : K.In h) (G : h.Ns mainGlobals mg) (c : He.SaysD fa fn K) : DefAt K mg "_law_drawn" s_Ldrawn ["_law_script", "_law_k", "_law_many"] := by
  obtain ⟨fd, F⟩ := c.def_ 51 (d := d_Ldrawn) rfl
  exact ⟨_, fd, F, He.glo_ok X G (c.fact 44 (f := .glo "_law_drawn") rfl), FunD.bindsN F fun _ _ _ _ _ _ us hl => match us, hl with | [_, _, _], _ => rfl⟩
theorem D_Lpicture (X : K.In h) (G : h.Ns mainGlobals mg) (c : He.SaysD fa fn K) : DefAt K mg "_law_picture" s_Lpicture ["_law_script", "_law_at", "_law_broad", "_law_tall"] := by
  obtain ⟨fd, F⟩ := c.def_ 52 (d := d_Lpicture) rfl
  exact ⟨_, fd, F, He.glo_ok X G (c.fact 45 (f := .glo "_law_picture") rfl), FunD.bindsN F fun _ _ _ _ _ _ us hl => match us, hl with | [_, _, _, _], _ => rfl⟩
theorem D_Lsome (X : K.In h) (G : h.Ns mainGlobals mg) (c : He.SaysD fa fn K) : DefAt K mg "_law_some" s_Lsome ["_law_script", "_law_at", "_law_broad", "_law_tall"] := by
  obtain ⟨fd, F⟩ := c.def_ 53 (d := d_Lsome) rfl
  exact ⟨_, fd, F, He.glo_ok X G (c.fact 46 (f := .glo "_law_some") rfl), FunD.bindsN F fun _ _ _ _ _ _ us hl => match us, hl with | [_, _, _, _], _ => rfl⟩
theorem D_Lmanner (X : K.In h) (G : h.Ns mainGlobals mg) (c : He.SaysD fa fn K) : DefAt K mg "_law_manner" s_Lmanner ["_law_script", "_law_at"] := by
  obtain ⟨fd, F⟩ := c.def_ 54 (d := d_Lmanner) rfl
  exact ⟨_, fd, F, He.glo_ok X G (c.fact 47 (f := .glo "_law_manner") rfl), FunD.bindsN F fun _ _ _ _ _ _ us hl => match us, hl with | [_, _], _ => rfl⟩
theorem D_Ldeed (X : K.In h) (G : h.Ns mainGlobals mg) (c : He.SaysD fa fn K) : DefAt K mg "_law_deed" s_Ldeed ["_law_script", "_law_at", "_law_desk"] := by
  obtain ⟨fd, F⟩ := c.def_ 56 (d := d_Ldeed) rfl
  exact ⟨_, fd, F, He.glo_ok X G (c.fact 49 (f := .glo "_law_deed") rfl), FunD.bindsN F fun _ _ _ _ _ _ us hl => match us, hl with | [_, _, _], _ => rfl⟩
theorem D_Ldone (X : K.In h) (G : h.Ns mainGlobals mg) (c : He.SaysD fa fn K) : DefAt K mg "_law_done" s_Ldone ["_law_desk", "_law_deed_here"] := by
  obtain ⟨fd, F⟩ := c.def_ 55 (d := d_Ldone) rfl
  exact ⟨_, fd, F, He.glo_ok X G (c.fact 48 (f := .glo "_law_done") rfl), FunD.bindsN F fun _ _ _ _ _ _ us hl => match us, hl with | [_, _], _ => rfl⟩
theorem D_Lseen (X : K.In h) (G : h.Ns mainGlobals mg) (c : He.SaysD fa fn K) : DefAt K mg "_law_seen" s_Lseen ["_law_desk"] := by
  obtain ⟨fd, F⟩ := c.def_ 57 (d := d_Lseen) rfl
  exact ⟨_, fd, F, He.glo_ok X G (c.fact 50 (f := .glo "_law_seen") rfl), FunD.bindsN F fun _ _ _ _ _ _ us hl => match us, hl with | [_], _ => rfl⟩
theorem D_law (X : K.In h) (G : h.Ns mainGlobals mg) (c : He.SaysD fa fn K) : DefAt K mg "law" s_law ["_law_script"] := by
  obtain ⟨fd, F⟩ := c.def_ 58 (d := d_law) rfl
  exact ⟨_, fd, F, He.glo_ok X G (c.fact 51 (f := .glo "law") rfl), FunD.bindsN F fun _ _ _ _ _ _ us hl => match us, hl with | [_], _ => rfl⟩
theorem M_Stand_init (c : He.SaysD fa fn K) : MethD K (He.ga K "Stand") "__init__" "Stand.__init__" s_Stand_init ["self", "cells", "signs", "gone", "deeds"] [] := by
  obtain ⟨fd, F⟩ := c.def_ 21 (d := d_Stand_init) rfl
  exact ⟨_, fd, F, ⟨(He.mkr_ok (c.fact 100 (f := .mkr "Stand") rfl)).init, (He.mkr_ok (c.fact 100 (f := .mkr "Stand") rfl)).fn, F.kp⟩, fun _ => FunD.bindsN F fun _ _ _ _ _ _ us hl => match us, hl with | [_, _, _, _, _], _ => rfl⟩
theorem M_Desk_turn_to (c : He.SaysD fa fn K) : MethD K (He.ga K "Desk") "turn_to" "Desk.turn_to" s_Desk_turn_to ["self", "cells", "marks", "steps", "deed"] [] := by
  obtain ⟨fd, F⟩ := c.def_ 26 (d := d_Desk_turn_to) rfl
  exact ⟨_, fd, F, He.meth_ok (c.fact 84 (f := .meth "Desk" "turn_to") rfl), fun _ => FunD.bindsN F fun _ _ _ _ _ _ us hl => match us, hl with | [_, _, _, _, _], _ => rfl⟩
theorem M_Desk_size (c : He.SaysD fa fn K) : MethD K (He.ga K "Desk") "size" "Desk.size" s_Desk_size ["self"] [] := by
  obtain ⟨fd, F⟩ := c.def_ 27 (d := d_Desk_size) rfl
  exact ⟨_, fd, F, He.meth_ok (c.fact 85 (f := .meth "Desk" "size") rfl), fun _ => FunD.bindsN F fun _ _ _ _ _ _ us hl => match us, hl with | [_], _ => rfl⟩
theorem M_Desk_picture (c : He.SaysD fa fn K) : MethD K (He.ga K "Desk") "picture" "Desk.picture" s_Desk_picture ["self"] [] := by
  obtain ⟨fd, F⟩ := c.def_ 28 (d := d_Desk_picture) rfl
  exact ⟨_, fd, F, He.meth_ok (c.fact 86 (f := .meth "Desk" "picture") rfl), fun _ => FunD.bindsN F fun _ _ _ _ _ _ us hl => match us, hl with | [_], _ => rfl⟩
theorem M_Desk_marks (c : He.SaysD fa fn K) : MethD K (He.ga K "Desk") "marks" "Desk.marks" s_Desk_marks ["self"] [] := by
  obtain ⟨fd, F⟩ := c.def_ 29 (d := d_Desk_marks) rfl
  exact ⟨_, fd, F, He.meth_ok (c.fact 87 (f := .meth "Desk" "marks") rfl), fun _ => FunD.bindsN F fun _ _ _ _ _ _ us hl => match us, hl with | [_], _ => rfl⟩
theorem M_Desk_steps (c : He.SaysD fa fn K) : MethD K (He.ga K "Desk") "steps" "Desk.steps" s_Desk_steps ["self"] [] := by
  obtain ⟨fd, F⟩ := c.def_ 38 (d := d_Desk_steps) rfl
  exact ⟨_, fd, F, He.meth_ok (c.fact 96 (f := .meth "Desk" "steps") rfl), fun _ => FunD.bindsN F fun _ _ _ _ _ _ us hl => match us, hl with | [_], _ => rfl⟩
theorem M_Desk_log (c : He.SaysD fa fn K) : MethD K (He.ga K "Desk") "log" "Desk.log" s_Desk_log ["self"] [] := by
  obtain ⟨fd, F⟩ := c.def_ 39 (d := d_Desk_log) rfl
  exact ⟨_, fd, F, He.meth_ok (c.fact 97 (f := .meth "Desk" "log") rfl), fun _ => FunD.bindsN F fun _ _ _ _ _ _ us hl => match us, hl with | [_], _ => rfl⟩
theorem M_Desk_seam_of (c : He.SaysD fa fn K) : MethD K (He.ga K "Desk") "seam_of" "Desk.seam_of" s_Desk_seam_of ["self", "cells", "marks"] [] := by
  obtain ⟨fd, F⟩ := c.def_ 34 (d := d_Desk_seam_of) rfl
  exact ⟨_, fd, F, He.meth_ok (c.fact 92 (f := .meth "Desk" "seam_of") rfl), fun _ => FunD.bindsN F fun _ _ _ _ _ _ us hl => match us, hl with | [_, _, _], _ => rfl⟩
theorem M_Desk_narrow (c : He.SaysD fa fn K) : MethD K (He.ga K "Desk") "narrow" "Desk.narrow" s_Desk_narrow ["self"] [] := by
  obtain ⟨fd, F⟩ := c.def_ 35 (d := d_Desk_narrow) rfl
  exact ⟨_, fd, F, He.meth_ok (c.fact 93 (f := .meth "Desk" "narrow") rfl), fun _ => FunD.bindsN F fun _ _ _ _ _ _ us hl => match us, hl with | [_], _ => rfl⟩
theorem M_Desk_flatten (c : He.SaysD fa fn K) : MethD K (He.ga K "Desk") "flatten" "Desk.flatten" s_Desk_flatten ["self"] [] := by
  obtain ⟨fd, F⟩ := c.def_ 36 (d := d_Desk_flatten) rfl
  exact ⟨_, fd, F, He.meth_ok (c.fact 94 (f := .meth "Desk" "flatten") rfl), fun _ => FunD.bindsN F fun _ _ _ _ _ _ us hl => match us, hl with | [_], _ => rfl⟩
theorem M_Desk_widen (c : He.SaysD fa fn K) : MethD K (He.ga K "Desk") "widen" "Desk.widen" s_Desk_widen ["self"] [] := by
  obtain ⟨fd, F⟩ := c.def_ 37 (d := d_Desk_widen) rfl
  exact ⟨_, fd, F, He.meth_ok (c.fact 95 (f := .meth "Desk" "widen") rfl), fun _ => FunD.bindsN F fun _ _ _ _ _ _ us hl => match us, hl with | [_], _ => rfl⟩
theorem M_Desk_mark (c : He.SaysD fa fn K) : MethD K (He.ga K "Desk") "mark" "Desk.mark" s_Desk_mark ["self", "word", "value", "box"] [] := by
  obtain ⟨fd, F⟩ := c.def_ 30 (d := d_Desk_mark) rfl
  exact ⟨_, fd, F, He.meth_ok (c.fact 88 (f := .meth "Desk" "mark") rfl), fun _ => FunD.bindsN F fun _ _ _ _ _ _ us hl => match us, hl with | [_, _, _, _], _ => rfl⟩
theorem M_Desk_keep (c : He.SaysD fa fn K) : MethD K (He.ga K "Desk") "keep" "Desk.keep" s_Desk_keep N_box [("wide", .int 1), ("high", .int 1)] := by
  obtain ⟨fd, F⟩ := c.def_ 31 (d := d_Desk_keep) rfl
  exact ⟨_, fd, F, He.meth_ok (c.fact 89 (f := .meth "Desk" "keep") rfl), (fun z => by cases z)⟩
theorem M_Desk_drop (c : He.SaysD fa fn K) : MethD K (He.ga K "Desk") "drop" "Desk.drop" s_Desk_drop N_box [("wide", .int 1), ("high", .int 1)] := by
  obtain ⟨fd, F⟩ := c.def_ 32 (d := d_Desk_drop) rfl
  exact ⟨_, fd, F, He.meth_ok (c.fact 90 (f := .meth "Desk" "drop") rfl), (fun z => by cases z)⟩
theorem M_Desk_free (c : He.SaysD fa fn K) : MethD K (He.ga K "Desk") "free" "Desk.free" s_Desk_free N_box [("wide", .int 1), ("high", .int 1)] := by
  obtain ⟨fd, F⟩ := c.def_ 33 (d := d_Desk_free) rfl
  exact ⟨_, fd, F, He.meth_ok (c.fact 91 (f := .meth "Desk" "free") rfl), (fun z => by cases z)⟩
theorem M_Desk_back (c : He.SaysD fa fn K) : MethD K (He.ga K "Desk") "back" "Desk.back" s_Desk_back ["self"] [] := by
  obtain ⟨fd, F⟩ := c.def_ 40 (d := d_Desk_back) rfl
  exact ⟨_, fd, F, He.meth_ok (c.fact 98 (f := .meth "Desk" "back") rfl), fun _ => FunD.bindsN F fun _ _ _ _ _ _ us hl => match us, hl with | [_], _ => rfl⟩
theorem M_Desk_len (c : He.SaysD fa fn K) : MethD K (He.ga K "Desk") "__len__" "Desk.__len__" s_Desk_len ["self"] [] := by
  obtain ⟨fd, F⟩ := c.def_ 23 (d := d_Desk_len) rfl
  exact ⟨_, fd, F, He.meth_ok (c.fact 108 (f := .meth "Desk" "__len__") rfl), fun _ => FunD.bindsN F fun _ _ _ _ _ _ us hl => match us, hl with | [_], _ => rfl⟩
theorem M_Desk_str (c : He.SaysD fa fn K) : MethD K (He.ga K "Desk") "__str__" "Desk.__str__" s_Desk_str ["self"] [] := by
  obtain ⟨fd, F⟩ := c.def_ 25 (d := d_Desk_str) rfl
  exact ⟨_, fd, F, He.meth_ok (c.fact 110 (f := .meth "Desk" "__str__") rfl), fun _ => FunD.bindsN F fun _ _ _ _ _ _ us hl => match us, hl with | [_], _ => rfl⟩
theorem M_Desk_eq (c : He.SaysD fa fn K) : MethD K (He.ga K "Desk") "__eq__" "Desk.__eq__" s_Desk_eq ["self", "other"] [] := by
  obtain ⟨fd, F⟩ := c.def_ 24 (d := d_Desk_eq) rfl
  exact ⟨_, fd, F, He.meth_ok (c.fact 109 (f := .meth "Desk" "__eq__") rfl), fun _ => FunD.bindsN F fun _ _ _ _ _ _ us hl => match us, hl with | [_, _], _ => rfl⟩
theorem glob_of (X : K.In h) (G : h.Ns mainGlobals mg) (c : He.SaysD fa fn K) (e : exB K = true) : Glob K mg where
  len := He.free_ok X G (c.fact 52 (f := .free "len") rfl)
  isi := He.free_ok X G (c.fact 53 (f := .free "isinstance") rfl)
  tup := He.free_ok X G (c.fact 54 (f := .free "tuple") rfl)
  int := He.free_ok X G (c.fact 55 (f := .free "int") rfl)
  bool := He.free_ok X G (c.fact 56 (f := .free "bool") rfl)
  all := He.free_ok X G (c.fact 57 (f := .free "all") rfl)
  range := He.free_ok X G (c.fact 58 (f := .free "range") rfl)
  max := He.free_ok X G (c.fact 59 (f := .free "max") rfl)
  min := He.free_ok X G (c.fact 60 (f := .free "min") rfl)
  abs := He.free_ok X G (c.fact 61 (f := .free "abs") rfl)
  sum := He.free_ok X G (c.fact 62 (f := .free "sum") rfl)
  enum := He.free_ok X G (c.fact 63 (f := .free "enumerate") rfl)
  zip := He.free_ok X G (c.fact 64 (f := .free "zip") rfl)
  str := He.free_ok X G (c.fact 65 (f := .free "str") rfl)
  list := He.free_ok X G (c.fact 66 (f := .free "list") rfl)
  cell := He.int_ok X G (c.fact 67 (f := .int "MOST_CELL" 99) rfl)
  side := He.int_ok X G (c.fact 68 (f := .int "MOST_SIDE" 20) rfl)
  free := He.int_ok X G (c.fact 69 (f := .int "FREE" 0) rfl)
  kept := He.int_ok X G (c.fact 70 (f := .int "KEPT" 1) rfl)
  gone := He.int_ok X G (c.fact 71 (f := .int "GONE" 2) rfl)
  fig := He.str_ok X G (c.fact 72 (f := .str "FIGURES" "0123456789") rfl)
  manners := ⟨_, (He.glo_ok X G (c.fact 14 (f := .glo "MANNERS") rfl)), fun H => He.tupB_ok (ex_at e 0 rfl) H⟩
  boxes := ⟨_, (He.glo_ok X G (c.fact 32 (f := .glo "BOXES") rfl)), fun H => He.tupB_ok (ex_at e 1 rfl) H⟩
  plain := ⟨_, (He.glo_ok X G (c.fact 33 (f := .glo "PLAIN") rfl)), fun H => He.tupB_ok (ex_at e 2 rfl) H⟩
theorem df_of (X : K.In h) (G : h.Ns mainGlobals mg) (c : He.SaysD fa fn K) : DF K mg (He.ga K "Desk") (He.ga K "Stand") where
  gD := (He.glo_ok X G (c.fact 31 (f := .glo "Desk") rfl))
  gS := (He.glo_ok X G (c.fact 30 (f := .glo "Stand") rfl))
  cD := He.cls_ok (c.fact 73 (f := .cls "Desk") rfl)
  cS := He.cls_ok (c.fact 74 (f := .cls "Stand") rfl)
  d1 := He.noat_ok (c.fact 75 (f := .noat "Desk" "origin") rfl)
  d2 := He.noat_ok (c.fact 76 (f := .noat "Desk" "manner") rfl)
  d3 := He.noat_ok (c.fact 77 (f := .noat "Desk" "here") rfl)
  d4 := He.noat_ok (c.fact 78 (f := .noat "Desk" "done") rfl)
  d5 := He.noat_ok (c.fact 79 (f := .noat "Desk" "undone") rfl)
  s1 := He.noat_ok (c.fact 80 (f := .noat "Stand" "cells") rfl)
  s2 := He.noat_ok (c.fact 81 (f := .noat "Stand" "signs") rfl)
  s3 := He.noat_ok (c.fact 82 (f := .noat "Stand" "gone") rfl)
  s4 := He.noat_ok (c.fact 83 (f := .noat "Stand" "deeds") rfl)
theorem ex_of (X : K.In h) (G : h.Ns mainGlobals mg) (c : He.SaysD fa fn K) (e : exB K = true) : EX K mg (He.ga K "NoBox") (He.ga K "NoWay") (He.ga K "NoRoom") (He.ga K "SeamError") where
  gE := (He.glo_ok X G (c.fact 0 (f := .glo "SeamError") rfl))
  xf := xfB_ok (ex_at e 5 rfl)
  no := He.eqO_ok (ex_at e 4 rfl)
  cB := excCB_ok (ex_at e 6 rfl)
  cW := excCB_ok (ex_at e 7 rfl)
  m1 := He.exm_ok (c.fact 103 (f := .exm "NoRoom" "NoRoom" true) rfl)
  m2 := He.exm_ok (c.fact 104 (f := .exm "NoBox" "NoRoom" false) rfl)
  m3 := He.exm_ok (c.fact 105 (f := .exm "NoWay" "NoRoom" false) rfl)
  m4 := He.exm_ok (c.fact 106 (f := .exm "NoBox" "SeamError" true) rfl)
  m5 := He.exm_ok (c.fact 107 (f := .exm "NoWay" "SeamError" true) rfl)
  k1 := of_decide_eq_true (ex_at e 10 rfl)
  k2 := of_decide_eq_true (ex_at e 11 rfl)
  k3 := of_decide_eq_true (ex_at e 12 rfl)
  k4 := of_decide_eq_true (ex_at e 13 rfl)
theorem ef_of (X : K.In h) (G : h.Ns mainGlobals mg) (c : He.SaysD fa fn K) (e : exB K = true) : EF P w K mg base (He.ga K "NoBox") (He.ga K "NoWay") (He.ga K "NoRoom") := by
  obtain ⟨fd, F⟩ := c.def_ 0 (d := d_NoRoom_init) rfl
  have me := He.meth_ok (c.fact 111 (f := .meth "NoRoom" "__init__") rfl)
  have o := oexB_ok (ex_at e 3 rfl)
  exact ⟨(He.glo_ok X G (c.fact 4 (f := .glo "NoBox") rfl)), (He.glo_ok X G (c.fact 3 (f := .glo "NoWay") rfl)), (He.glo_ok X G (c.fact 5 (f := .glo "NoRoom") rfl)), He.exc_ok (c.fact 101 (f := .exc "NoBox") rfl), He.exc_ok (c.fact 102 (f := .exc "NoWay") rfl), o, ⟨_, fd, me.at_, eq_of_beq me.fn, ok_room o (He.eqO_ok (ex_at e 4 rfl)) F, FunD.bindsN F fun _ _ _ _ _ _ us hl => match us, hl with | [_, _], _ => rfl⟩⟩
end
end SH

/-! ## SHFin -/
set_option Elab.async false
set_option linter.all false
set_option maxRecDepth 100000
set_option maxHeartbeats 0
/-! the chain (printed by gen10.py) -/
namespace SH
open PySem PySem.Spec PyProof.Rows L2
section
variable {P : Program} {w : World} {K : PySem.W.Frag} {CD CS : Addr} {h : Heap} {mg : Str → Option Value} {base : Heap}
theorem lawC_of (X : K.In h) (G : h.Ns mainGlobals mg) (c : He.SaysD fa fn K) (e : exB K = true) : LawC P w K mg base (He.ga K "Desk") (He.ga K "Stand") := by
  have Gb := glob_of X G c e
  have F := df_of X G c
  have Ex : EF P w K mg base (He.ga K "NoBox") (He.ga K "NoWay") (He.ga K "NoRoom") := ef_of X G c e
  have Y := ex_of X G c e
  have I : IsD K (He.ga K "Desk") := isDB_ok (ex_at e 8 rfl)
  have isnum : CalD P w K mg base 1 "is_number" R_isnum := ok_isnum Gb (D_is_number X G c)
  have isrow := ok_isrow Gb (D_is_row X G c) isnum
  have ispic := ok_ispic Gb (D_is_picture X G c) isrow
  have needpic := ok_needpic Gb (D_need_picture X G c) ispic
  have needman : CalD P w K mg base 1 "need_manner" R_needman := ok_needman Gb (D_need_manner X G c)
  have near : CalD P w K mg base 1 "near" R_near := ok_near Gb (D_near X G c)
  have swapped : CalD P w K mg base 1 "swapped" R_swapped := ok_swapped Gb (D_swapped X G c)
  have worth := ok_worth Gb (D_worth_at X G c) near
  have join := ok_join Gb (D_join_at X G c) near
  have cost := ok_cost Gb (D_step_cost X G c) worth join
  have free : CalD P w K mg base 1 "free_marks" R_free := ok_free Gb (D_free_marks X G c)
  have next : CalD P w K mg base 1 "next_ones" R_next := ok_next Gb (D_next_ones X G c)
  have add : CalD P w K mg base 1 "add" R_add := ok_add Gb (D_add X G c)
  have without : CalD P w K mg base 1 "without" R_without := ok_without Gb (D_without X G c)
  have put : CalD P w K mg base 1 "put_in" R_put := ok_put Gb (D_put_in X G c)
  have nextn : CalD P w K mg base 1 "near_next" R_nextn := ok_nextn Gb (D_near_next X G c)
  have means := ok_means Gb (D_means X G c) nextn
  have downs := ok_downs Gb (D_downs X G c) next cost add
  have starts := ok_starts Gb (D_starts X G c) cost add
  have way := ok_way Gb (D_best_way X G c) downs starts next cost add
  have cs : MkC P w K mg base CX0 1 (He.ga K "Stand") ["self", "cells", "signs", "gone", "deeds"] (spInitS (He.ga K "Stand")) := by
    obtain ⟨f, fd, FO, me, b⟩ := (ok_initS (P := P) (w := w) (base := base) F (M_Stand_init c)).ex
    have mk := He.mkr_ok (c.fact 100 (f := .mkr "Stand") rfl)
    have z := me.at_.symm.trans mk.init
    injection z with z
    injection z with z
    injection z with z
    subst z
    exact ⟨_, fd, mk, FO, b⟩
  have turn := ok_turn F (M_Desk_turn_to c) cs
  have size : CalM P w K mg base CX0 1 (He.ga K "Desk") "size" ["self"] (spS (R_size K (He.ga K "Desk") (He.ga K "Stand"))) := ok_size Gb F (M_Desk_size c)
  have pict : CalM P w K mg base CX0 1 (He.ga K "Desk") "picture" ["self"] (spS (R_pict K (He.ga K "Desk") (He.ga K "Stand"))) := ok_pict F (M_Desk_picture c)
  have marks : CalM P w K mg base CX0 1 (He.ga K "Desk") "marks" ["self"] (spS (R_marks K (He.ga K "Desk") (He.ga K "Stand"))) := ok_marks F (M_Desk_marks c)
  have steps : CalM P w K mg base CX0 1 (He.ga K "Desk") "steps" ["self"] (spS (R_steps K (He.ga K "Desk") (He.ga K "Stand"))) := ok_steps Gb F (M_Desk_steps c)
  have log : CalM P w K mg base CX0 1 (He.ga K "Desk") "log" ["self"] (spS (R_log K (He.ga K "Desk") (He.ga K "Stand"))) := ok_log Gb F (M_Desk_log c)
  have logN : CalM P w K mg base CX0 1 (He.ga K "Desk") "log" ["self"] (spS (R_logN K (He.ga K "Desk") (He.ga K "Stand"))) := ok_logN Gb F (M_Desk_log c)
  have len : CalM P w K mg base CX0 1 (He.ga K "Desk") "__len__" ["self"] (spS (R_len K (He.ga K "Desk") (He.ga K "Stand"))) := ok_len Gb F (M_Desk_len c)
  have str : CalM P w K mg base CX0 1 (He.ga K "Desk") "__str__" ["self"] (spS (R_str K (He.ga K "Desk") (He.ga K "Stand"))) := ok_str Gb F (M_Desk_str c)
  have eq : CalM P w K mg base CX0 1 (He.ga K "Desk") "__eq__" ["self", "other"] (spEq (EqD K (He.ga K "Desk") (He.ga K "Stand"))) := ok_eq Gb F I (M_Desk_eq c)
  have back : CalM P w K mg base CX0 1 (He.ga K "Desk") "back" ["self"] (spBack K (He.ga K "Desk") (He.ga K "Stand")) := ok_back F (M_Desk_back c)
  have seam := ok_seam F Ex (M_Desk_seam_of c) way
  have nar := ok_nar Gb F Ex (M_Desk_narrow c) size seam turn without
  have flt := ok_flt Gb F Ex (M_Desk_flatten c) size seam turn without swapped
  have wdn := ok_wdn Gb F Ex (M_Desk_widen c) size seam turn put means
  have mark := ok_mark Gb F Ex (M_Desk_mark c) size turn isnum
  have kp := ok_box_keep Gb F (M_Desk_keep c) mark
  have dr := ok_box_drop Gb F (M_Desk_drop c) mark
  have fr := ok_box_free Gb F (M_Desk_free c) mark
  have deeds : Deeds P w K mg base (He.ga K "Desk") (He.ga K "Stand") (He.ga K "NoBox") (He.ga K "NoWay") (He.ga K "NoRoom") := ⟨nar, flt, wdn, kp, dr, fr⟩
  have isdeed : CalD P w K mg base 1 "is_deed" R_isdeed := ok_isdeed Gb (D_is_deed X G c)
  have stepb := ok_stepb Gb (D_step_back X G c) put swapped without
  have do_ := ok_do F (D_do X G c) deeds
  have init : MkK P w K mg base CX0 5 (He.ga K "Desk") N_init 2 ["manner"] (spInitD K (He.ga K "Desk") (He.ga K "Stand")) := by
    obtain ⟨fd, Fd⟩ := c.def_ 22 (d := d_Desk_init) rfl
    exact ok_init F Fd (He.mkr_ok (c.fact 99 (f := .mkr "Desk") rfl)) needpic needman free cs
  have rep : CalKG P w K mg base CX0 9 "replayed" ["picture", "deeds", "manner"] 2 ["manner"] (spReplay K (He.ga K "Desk") (He.ga K "Stand")) := by
    obtain ⟨fd, Fd⟩ := c.def_ 43 (d := d_replayed) rfl
    exact ok_rep Gb F Fd (He.glo_ok X G (c.fact 36 (f := .glo "replayed") rfl)) init isdeed do_
  have orig := ok_orig F (D_origin_of X G c) pict steps stepb
  have numof : CalD P w K mg base 1 "number_of" R_numof := ok_numof Gb (D_number_of X G c)
  have plain := ok_plain Gb (D_is_plain_deed X G c) isdeed isnum
  have text := ok_logtext Gb (D_log_text X G c) plain
  have deedin := ok_deedin Gb (D_deed_in X G c) numof
  have read := ok_readlog Gb (D_read_log X G c) deedin plain text
  have drawn : CalD P w K mg base 1 "_law_drawn" R_drawn := ok_drawn Gb (D_Ldrawn X G c)
  have lpic := ok_pic Gb (D_Lpicture X G c) drawn
  have lsome := ok_some (D_Lsome X G c) drawn lpic
  have lman := ok_man (D_Lmanner X G c) drawn
  have ldeed := ok_deed F (D_Ldeed X G c) drawn size
  have ldone := ok_done Gb F Ex Y (D_Ldone X G c) deeds
  have lseen := ok_seen Gb F (D_Lseen X G c) pict marks steps size len str log
  exact ⟨lsome, lman, drawn, init, ldone, ldeed, lseen, back, logN, len, eq, fun f hm => by
    have z := hm.at_.symm.trans (He.meth_ok (c.fact 109 (f := .meth "Desk" "__eq__") rfl)).at_
    injection z with z
    injection z with z
    injection z with z
    subst z
    exact ex_at e 9 rfl, rep, orig, read, text⟩
theorem ok_lawF (G : Glob K mg) (F : DF K mg CD CS) (C : LawC P w K mg base CD CS) {f : Addr} {fd : FuncData} (Fd : FunD K "law" "law" (defArgs s_law) (defBody s_law) (defScope s_law) [] [] f fd) : FnOk P w K mg base CX0 11 f fd ["_law_script"] (spLaw K) :=
  Fd.ok sc_law (fun vs H Q E h => by
    obtain ⟨a, ns, rfl, _⟩ := h
    rfl) (fun cdv A outer s H vs Q E hr h => by
    obtain ⟨a, ns, rfl, ha, hns, k⟩ := h
    exact ⟨_, PSs.nox pss_s, law_body G F C hr hns ha fun H' => k H'⟩)
theorem facts {f : Addr} (X : K.In h) (G : h.Ns mainGlobals mg) (hfa : mg ("law" : Str) = some (.ref f)) (c : He.SaysD fa fn K) (e : exB K = true) :
    ∃ fd : FuncData, (∀ (s : Shared) (v : Value), BindsTo s fd ⟨[v], []⟩ [("_law_script", v)]) ∧ ∀ base : Heap, K.In base → base.Ns mainGlobals mg → FnOk P w K mg base CX0 11 f fd ["_law_script"] (spLaw K) := by
  obtain ⟨fd, F⟩ := c.def_ 58 (d := d_law) rfl
  have e' := hfa.symm.trans (He.glo_ok X G (c.fact 51 (f := .glo "law") rfl))
  cases e'
  have b := FunD.bindsA (ps := ["_law_script"]) F fun _ _ _ _ _ _ us hl => match us, hl with | [_], _ => rfl
  exact ⟨fd, fun s v => b s [v] rfl, fun base _ _ => ok_lawF (glob_of X G c e) (df_of X G c) (lawC_of X G c e) F⟩
end
end SH
open PySem PySem.W PySem.Calls PyProof.Rows
theorem PySem.Challenge.cw_seamhall_k57_whole_replays_holds : PySem.Challenge.rw_seamhall_k57_whole_replays.Holds := by
  w_on; o_law
  refine HandSHeadRun.head_any (r := OpenLaw.row PySem.Challenge.rw_seamhall_k57_whole_replays) (q := view (OpenLaw.row PySem.Challenge.rw_seamhall_k57_whole_replays).prog [66]) (H := SH.hk) (ob := SH.ob) (M := 30000) (loose := SH.loose) (d := HandSHeadRun.topDef (OpenLaw.row PySem.Challenge.rw_seamhall_k57_whole_replays).prog 66) (kwd := []) SH.ob_eq
    (by kernel_rfl) (fun s => by kernel_rfl) SH.run (by kernel_rfl) (by kernel_rfl) (by kernel_rfl) (by rfl) (by first | assumption | decide +kernel) (by decide +kernel) ⟨rfl, rfl, rfl, rfl, rfl, by decide +kernel⟩ ?hw ?hc
  case hw => w_witness2
  case hc =>
    refine L2.walk_ofE (l := PySem.Challenge.rw_seamhall_k57_whole_replays) (n := 63) (k := 11) (x := "_law_script") (CX := L2.CX0) rfl (by decide) (by kernel_rfl) ⟨rfl, by decide, by decide⟩ ?F (fun _ _ _ _ z => z)
    intro w mg fa h Y G hmg0
    obtain ⟨K, KX, c, e⟩ := Y
    have hmg : mg ("law" : PySem.Str) = some (.ref fa) := by
      have e : (HandSHeadRun.topDef (OpenLaw.row PySem.Challenge.rw_seamhall_k57_whole_replays).prog 66).name = ("law" : PySem.Str) := by kernel_rfl
      rw [← e]
      exact hmg0
    obtain ⟨fd, hb, hF⟩ := SH.facts (P := (PySem.Challenge.rw_seamhall_k57_whole_replays).prog) (w := w) KX G hmg c e
    exact ⟨K, fd, SH.spLaw K, KX, hb, fun H a ns hl _ hS => ⟨a, ns, rfl, hS, hl, fun _ => rfl⟩, hF⟩
