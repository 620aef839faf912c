import PyProof.Rows.All
import Wide.All
import OpenK.AllK
import Wide.FinOn
import HandS.ForMost
import HandS.ForExc
import HandS.Wide
import HandS.Zip
import HandS.Walk
import HandS.Style
import HandS.TupAny
import HandS.IsInst
import HandS.HeadHook1
import HandS.Head3
import HandS.HeadHook2
import HandS.Defaults
import HandS.Gcd
import HandS.Deep
import HandS.TupMul
import HandS.RaiseMore
import KE.DataCmp
import KE.DataEq
import KE.DataMinMax
import KE.GoesMore
import KE.GoesEnum
import HandS.Star
import HandS.Conv
import KE.SortData
import HandS.Head0
import HandS.Head1
import HandS.Head2
import HandS.HeadEnd
import HandS.EndBits
import PySem.Challenge.RW_whatthepicturesays_k00_whole_simplest_sh
set_option Elab.async false
set_option linter.all false
set_option maxRecDepth 100000
set_option maxHeartbeats 4000000
namespace Rf
open PySem L2

/-! ## data -/
inductive D where
  | non | bl (b : Bool) | int (i : Int) | str (x : Str)
  | tup (xs : List D) | lst (xs : List D) | dic (kvs : List (Key × D))
  | pot | scr (ns : List Int) | fn (x : Str)

end Rf
namespace Rf
open PySem L2 PySem.Spec PyProof.Rows
/-! ## what the head is asked -/
mutual
def datB (K : PySem.W.Frag) : D → Value → Bool
  | .non, .none => true
  | .bl b, .bool c => b == c
  | .int i, .int j _ => decide (i = j)
  | .str x, .str y _ => decide (x = y)
  | .tup ds, .ref a => match K.lookup a with
    | some ⟨.type c, _, .seq its _, _⟩ => decide (c = "tuple") && decide (its.size ≤ sizeLine) && datsB K ds its.toList
    | _ => false
  | _, _ => false
def datsB (K : PySem.W.Frag) : List D → List Value → Bool
  | [], [] => true
  | d :: ds, v :: vs => datB K d v && datsB K ds vs
  | _, _ => false
end
/-- a name of the module: a datum; a built-in by import -/
inductive Cn where
  | dat (x : Str) (d : D) | blt (x : Str) (id : String)
def Cn.ok (K : PySem.W.Frag) : Cn → Bool
  | .dat x d => match PySem.W.nsIn K mainGlobals x with
    | some (some u) => datB K d u
    | _ => false
  | .blt x id => match PySem.W.nsIn K mainGlobals x with
    | some (some (.builtin j)) => decide (j = id)
    | _ => false
abbrev AlX : Type := He.AlD × Bool
def obsX (fa : List He.Fa) (fn : List He.DefD) (cs : List Cn) (K : PySem.W.Frag) : AlX := (He.obsD fa fn K, cs.all (Cn.ok K))
def valX (fn : List He.DefD) : AlX := (He.valD fn, true)
def SaysX (fa : List He.Fa) (fn : List He.DefD) (cs : List Cn) (K : PySem.W.Frag) : Prop := obsX fa fn cs K = valX fn
def obsXG (n : Nat) (fa : List He.Fa) (fn : List He.DefD) (cs : List Cn) (g : Addr → Option Obj) : AlX := obsX fa fn cs (He.frG g (He.asD g n))
def hookX (n : Nat) (fa : List He.Fa) (fn : List He.DefD) (cs : List Cn) : PySem.W.Hook where
  α := AlX
  obs := fun s => obsXG n fa fn cs s.heap.get?
  val := fun _ => valX fn
  says := fun _ h => ∃ K : PySem.W.Frag, K.In h ∧ SaysX fa fn cs K
  of := fun _ _ e => ⟨_, He.frG_in, e⟩
  keeps := fun _ _ _ ⟨K, hK, c⟩ k => ⟨K, PySem.W.Frag.In.keeps hK k, c⟩
theorem obsXG_eq {n : Nat} {fa : List He.Fa} {fn : List He.DefD} {cs : List Cn} {g : Addr → Option Obj} {s : Shared} (h : ∀ a, g a = s.heap.get? a) : obsXG n fa fn cs g = (hookX n fa fn cs).obs s := by
  have e : g = s.heap.get? := funext h
  rw [e] <;> rfl
end Rf
namespace Rf.K00
open PySem L2 PySem.Spec PyProof.Rows Rf
def c_BEYOND : D := (.int ((10 ^ 60) ^ 5))
def c_MOST_PARTS : D := (.int (10 ^ 6))
def c_ONE : D := (.tup [(.int 1), (.int 1)])
def c_NOTHING : D := (.tup [(.int 0), (.int 1)])
def c_TWO : D := (.tup [(.int 2), (.int 1)])
/-! ## the text -/
def top (i : Nat) : Stmt := PySem.Challenge.pw_whatthepicturesays_k00_whole_simplest_sh.main.body.getD i (.Pass ⟨0, 0, 0, 0⟩)
abbrev s_is_integer : Stmt := top 8
abbrev s_common : Stmt := top 9
abbrev s_reduced : Stmt := top 10
abbrev s_is_fraction : Stmt := top 11
abbrev s_is_told_fraction : Stmt := top 12
abbrev s_difference : Stmt := top 13
abbrev s_product_of : Stmt := top 14
abbrev s_quotient : Stmt := top 15
abbrev s_is_less : Stmt := top 16
abbrev s_floor_of : Stmt := top 17
abbrev s_is_stretch : Stmt := top 21
abbrev s_check_stretch : Stmt := top 22
abbrev s_is_inside : Stmt := top 23
abbrev s_simplest_of : Stmt := top 24
abbrev s_parents_of : Stmt := top 25
abbrev s_with_parents : Stmt := top 26
abbrev s_simplest : Stmt := top 27
abbrev s_halves_of : Stmt := top 28
abbrev s_twice : Stmt := top 29
abbrev s_edge_told : Stmt := top 30
abbrev s_edge_size : Stmt := top 31
abbrev s_middle_told : Stmt := top 32
abbrev s_middle_size : Stmt := top 33
abbrev s_are_parents : Stmt := top 34
abbrev s_is_simplest : Stmt := top 35
abbrev s_shows_simplest : Stmt := top 36
abbrev s_shows_edge_size : Stmt := top 37
abbrev s_are_beside : Stmt := top 38
abbrev s_is_middle_told : Stmt := top 39
abbrev s_shows_middle_size : Stmt := top 40
abbrev s__law_take : Stmt := top 43
abbrev s__law_of : Stmt := top 44
abbrev s__law_cells : Stmt := top 45
abbrev s__law_reduced : Stmt := top 46
abbrev s__law_less : Stmt := top 47
abbrev s__law_added : Stmt := top 48
abbrev s__law_minus : Stmt := top 49
abbrev s__law_is_in : Stmt := top 50
abbrev s__law_stretch : Stmt := top 51
abbrev s__law_shifted : Stmt := top 52
abbrev s__law_mirrored : Stmt := top 53
abbrev s__law_inverted : Stmt := top 54
abbrev s__law_is_shift_right : Stmt := top 55
abbrev s__law_is_turn_right : Stmt := top 56
abbrev s__law_is_inner_right : Stmt := top 57
abbrev s__law_right : Stmt := top 58
abbrev s__law_pot : Stmt := top 42
abbrev s_law : Stmt := top 59
def d_is_integer : He.DefD := ⟨("is_integer", none), "is_integer", "is_integer", defArgs s_is_integer, defBody s_is_integer, defScope s_is_integer, [], []⟩
def d_common : He.DefD := ⟨("common", none), "common", "common", defArgs s_common, defBody s_common, defScope s_common, [], []⟩
def d_reduced : He.DefD := ⟨("reduced", none), "reduced", "reduced", defArgs s_reduced, defBody s_reduced, defScope s_reduced, [], []⟩
def d_is_fraction : He.DefD := ⟨("is_fraction", none), "is_fraction", "is_fraction", defArgs s_is_fraction, defBody s_is_fraction, defScope s_is_fraction, [], []⟩
def d_is_told_fraction : He.DefD := ⟨("is_told_fraction", none), "is_told_fraction", "is_told_fraction", defArgs s_is_told_fraction, defBody s_is_told_fraction, defScope s_is_told_fraction, [], []⟩
def d_difference : He.DefD := ⟨("difference", none), "difference", "difference", defArgs s_difference, defBody s_difference, defScope s_difference, [], []⟩
def d_product_of : He.DefD := ⟨("product_of", none), "product_of", "product_of", defArgs s_product_of, defBody s_product_of, defScope s_product_of, [], []⟩
def d_quotient : He.DefD := ⟨("quotient", none), "quotient", "quotient", defArgs s_quotient, defBody s_quotient, defScope s_quotient, [], []⟩
def d_is_less : He.DefD := ⟨("is_less", none), "is_less", "is_less", defArgs s_is_less, defBody s_is_less, defScope s_is_less, [], []⟩
def d_floor_of : He.DefD := ⟨("floor_of", none), "floor_of", "floor_of", defArgs s_floor_of, defBody s_floor_of, defScope s_floor_of, [], []⟩
def d_is_stretch : He.DefD := ⟨("is_stretch", none), "is_stretch", "is_stretch", defArgs s_is_stretch, defBody s_is_stretch, defScope s_is_stretch, [], []⟩
def d_check_stretch : He.DefD := ⟨("check_stretch", none), "check_stretch", "check_stretch", defArgs s_check_stretch, defBody s_check_stretch, defScope s_check_stretch, [], []⟩
def d_is_inside : He.DefD := ⟨("is_inside", none), "is_inside", "is_inside", defArgs s_is_inside, defBody s_is_inside, defScope s_is_inside, [], []⟩
def d_simplest_of : He.DefD := ⟨("simplest_of", none), "simplest_of", "simplest_of", defArgs s_simplest_of, defBody s_simplest_of, defScope s_simplest_of, [], []⟩
def d_parents_of : He.DefD := ⟨("parents_of", none), "parents_of", "parents_of", defArgs s_parents_of, defBody s_parents_of, defScope s_parents_of, [], []⟩
def d_with_parents : He.DefD := ⟨("with_parents", none), "with_parents", "with_parents", defArgs s_with_parents, defBody s_with_parents, defScope s_with_parents, [], []⟩
def d_simplest : He.DefD := ⟨("simplest", none), "simplest", "simplest", defArgs s_simplest, defBody s_simplest, defScope s_simplest, [], []⟩
def d_halves_of : He.DefD := ⟨("halves_of", none), "halves_of", "halves_of", defArgs s_halves_of, defBody s_halves_of, defScope s_halves_of, [], []⟩
def d_twice : He.DefD := ⟨("twice", none), "twice", "twice", defArgs s_twice, defBody s_twice, defScope s_twice, [], []⟩
def d_edge_told : He.DefD := ⟨("edge_told", none), "edge_told", "edge_told", defArgs s_edge_told, defBody s_edge_told, defScope s_edge_told, [], []⟩
def d_edge_size : He.DefD := ⟨("edge_size", none), "edge_size", "edge_size", defArgs s_edge_size, defBody s_edge_size, defScope s_edge_size, [], []⟩
def d_middle_told : He.DefD := ⟨("middle_told", none), "middle_told", "middle_told", defArgs s_middle_told, defBody s_middle_told, defScope s_middle_told, [], []⟩
def d_middle_size : He.DefD := ⟨("middle_size", none), "middle_size", "middle_size", defArgs s_middle_size, defBody s_middle_size, defScope s_middle_size, [], []⟩
def d_are_parents : He.DefD := ⟨("are_parents", none), "are_parents", "are_parents", defArgs s_are_parents, defBody s_are_parents, defScope s_are_parents, [], []⟩
def d_is_simplest : He.DefD := ⟨("is_simplest", none), "is_simplest", "is_simplest", defArgs s_is_simplest, defBody s_is_simplest, defScope s_is_simplest, [], []⟩
def d_shows_simplest : He.DefD := ⟨("shows_simplest", none), "shows_simplest", "shows_simplest", defArgs s_shows_simplest, defBody s_shows_simplest, defScope s_shows_simplest, [], []⟩
def d_shows_edge_size : He.DefD := ⟨("shows_edge_size", none), "shows_edge_size", "shows_edge_size", defArgs s_shows_edge_size, defBody s_shows_edge_size, defScope s_shows_edge_size, [], []⟩
def d_are_beside : He.DefD := ⟨("are_beside", none), "are_beside", "are_beside", defArgs s_are_beside, defBody s_are_beside, defScope s_are_beside, [], []⟩
def d_is_middle_told : He.DefD := ⟨("is_middle_told", none), "is_middle_told", "is_middle_told", defArgs s_is_middle_told, defBody s_is_middle_told, defScope s_is_middle_told, [], []⟩
def d_shows_middle_size : He.DefD := ⟨("shows_middle_size", none), "shows_middle_size", "shows_middle_size", defArgs s_shows_middle_size, defBody s_shows_middle_size, defScope s_shows_middle_size, [], []⟩
def d__law_take : He.DefD := ⟨("_law_take", none), "_law_take", "_law_take", defArgs s__law_take, defBody s__law_take, defScope s__law_take, [], []⟩
def d__law_of : He.DefD := ⟨("_law_of", none), "_law_of", "_law_of", defArgs s__law_of, defBody s__law_of, defScope s__law_of, [], []⟩
def d__law_cells : He.DefD := ⟨("_law_cells", none), "_law_cells", "_law_cells", defArgs s__law_cells, defBody s__law_cells, defScope s__law_cells, [], []⟩
def d__law_reduced : He.DefD := ⟨("_law_reduced", none), "_law_reduced", "_law_reduced", defArgs s__law_reduced, defBody s__law_reduced, defScope s__law_reduced, [], []⟩
def d__law_less : He.DefD := ⟨("_law_less", none), "_law_less", "_law_less", defArgs s__law_less, defBody s__law_less, defScope s__law_less, [], []⟩
def d__law_added : He.DefD := ⟨("_law_added", none), "_law_added", "_law_added", defArgs s__law_added, defBody s__law_added, defScope s__law_added, [], []⟩
def d__law_minus : He.DefD := ⟨("_law_minus", none), "_law_minus", "_law_minus", defArgs s__law_minus, defBody s__law_minus, defScope s__law_minus, [], []⟩
def d__law_is_in : He.DefD := ⟨("_law_is_in", none), "_law_is_in", "_law_is_in", defArgs s__law_is_in, defBody s__law_is_in, defScope s__law_is_in, [], []⟩
def d__law_stretch : He.DefD := ⟨("_law_stretch", none), "_law_stretch", "_law_stretch", defArgs s__law_stretch, defBody s__law_stretch, defScope s__law_stretch, [], []⟩
def d__law_shifted : He.DefD := ⟨("_law_shifted", none), "_law_shifted", "_law_shifted", defArgs s__law_shifted, defBody s__law_shifted, defScope s__law_shifted, [], []⟩
def d__law_mirrored : He.DefD := ⟨("_law_mirrored", none), "_law_mirrored", "_law_mirrored", defArgs s__law_mirrored, defBody s__law_mirrored, defScope s__law_mirrored, [], []⟩
def d__law_inverted : He.DefD := ⟨("_law_inverted", none), "_law_inverted", "_law_inverted", defArgs s__law_inverted, defBody s__law_inverted, defScope s__law_inverted, [], []⟩
def d__law_is_shift_right : He.DefD := ⟨("_law_is_shift_right", none), "_law_is_shift_right", "_law_is_shift_right", defArgs s__law_is_shift_right, defBody s__law_is_shift_right, defScope s__law_is_shift_right, [], []⟩
def d__law_is_turn_right : He.DefD := ⟨("_law_is_turn_right", none), "_law_is_turn_right", "_law_is_turn_right", defArgs s__law_is_turn_right, defBody s__law_is_turn_right, defScope s__law_is_turn_right, [], []⟩
def d__law_is_inner_right : He.DefD := ⟨("_law_is_inner_right", none), "_law_is_inner_right", "_law_is_inner_right", defArgs s__law_is_inner_right, defBody s__law_is_inner_right, defScope s__law_is_inner_right, [], []⟩
def d__law_right : He.DefD := ⟨("_law_right", none), "_law_right", "_law_right", defArgs s__law_right, defBody s__law_right, defScope s__law_right, [], []⟩
def d__law_pot : He.DefD := ⟨("_law_pot", none), "_law_pot", "_law_pot", defArgs s__law_pot, defBody s__law_pot, defScope s__law_pot, [], []⟩
def d_law : He.DefD := ⟨("law", none), "law", "law", defArgs s_law, defBody s_law, defScope s_law, [], []⟩
def fn : List He.DefD := [d_is_integer, d_common, d_reduced, d_is_fraction, d_is_told_fraction, d_difference, d_product_of, d_quotient, d_is_less, d_floor_of, d_is_stretch, d_check_stretch, d_is_inside, d_simplest_of, d_parents_of, d_with_parents, d_simplest, d_halves_of, d_twice, d_edge_told, d_edge_size, d_middle_told, d_middle_size, d_are_parents, d_is_simplest, d_shows_simplest, d_shows_edge_size, d_are_beside, d_is_middle_told, d_shows_middle_size, d__law_take, d__law_of, d__law_cells, d__law_reduced, d__law_less, d__law_added, d__law_minus, d__law_is_in, d__law_stretch, d__law_shifted, d__law_mirrored, d__law_inverted, d__law_is_shift_right, d__law_is_turn_right, d__law_is_inner_right, d__law_right, d__law_pot, d_law]
def fa : List He.Fa := [.glo "is_integer", .glo "common", .glo "reduced", .glo "is_fraction", .glo "is_told_fraction", .glo "difference", .glo "product_of", .glo "quotient", .glo "is_less", .glo "floor_of", .glo "is_stretch", .glo "check_stretch", .glo "is_inside", .glo "simplest_of", .glo "parents_of", .glo "with_parents", .glo "simplest", .glo "halves_of", .glo "twice", .glo "edge_told", .glo "edge_size", .glo "middle_told", .glo "middle_size", .glo "are_parents", .glo "is_simplest", .glo "shows_simplest", .glo "shows_edge_size", .glo "are_beside", .glo "is_middle_told", .glo "shows_middle_size", .glo "_law_take", .glo "_law_of", .glo "_law_cells", .glo "_law_reduced", .glo "_law_less", .glo "_law_added", .glo "_law_minus", .glo "_law_is_in", .glo "_law_stretch", .glo "_law_shifted", .glo "_law_mirrored", .glo "_law_inverted", .glo "_law_is_shift_right", .glo "_law_is_turn_right", .glo "_law_is_inner_right", .glo "_law_right", .glo "_law_pot", .glo "law", .free "abs", .free "all", .free "bool", .free "int", .free "isinstance", .free "len", .free "list", .free "max", .free "min", .free "range", .free "repr", .free "sorted", .free "sum", .free "tuple", .free "zip"]
def cs : List Cn := [.dat "BEYOND" c_BEYOND, .dat "MOST_PARTS" c_MOST_PARTS, .dat "ONE" c_ONE, .dat "NOTHING" c_NOTHING, .dat "TWO" c_TWO, .blt "gcd" "math.gcd"]
end Rf.K00
namespace Rf.K00
open PySem L2 PySem.Spec PyProof.Rows Rf
/-! ## the head -/
abbrev R0 : PySem.W.OpenRow := PySem.W.OpenLaw.row PySem.Challenge.rw_whatthepicturesays_k00_whole_simplest_sh
abbrev hk : PySem.W.Hook := hookX 2 fa fn cs
def ob (s : PySem.W.SharedT) : AlX := obsXG 2 fa fn cs (HandSHeadRun.getT s)
theorem ob_eq (s : PySem.W.SharedT) : ob s = hk.obs s.abs := obsXG_eq (HandSHeadRun.getT_eq s)
def loose0 : List Str := ["PictureError", "BadStretch", "BEYOND", "NOTHING", "ONE", "is_integer", "common", "reduced", "is_fraction", "is_told_fraction", "difference", "product_of", "quotient", "is_less", "floor_of", "TWO", "MOST_PARTS", "is_stretch", "check_stretch", "is_inside", "simplest_of", "parents_of", "with_parents", "simplest", "halves_of", "twice", "edge_told", "edge_size", "middle_told", "middle_size"]
def loose1 : List Str := ["are_parents", "is_simplest", "shows_simplest", "shows_edge_size", "are_beside", "is_middle_told", "shows_middle_size", "_law_pot", "_law_take", "_law_of", "_law_cells", "_law_reduced", "_law_less", "_law_added", "_law_minus", "_law_is_in", "_law_stretch", "_law_shifted", "_law_mirrored", "_law_inverted", "_law_is_shift_right", "_law_is_turn_right", "_law_is_inner_right", "_law_right"]
def loose : List Str := loose0 ++ loose1
theorem run (w : World) : HandSHeadRun.RunEqI R0 (PySem.W.view R0.prog [0, 59]) hk ob 4000 loose w := by
  unfold HandSHeadRun.RunEqI
  kernel_rfl
end Rf.K00
namespace Rf
open PySem L2

abbrev W := Option (List Int)
inductive R (α : Type) where
  | ok (a : α) (w : W)
  | no
def bnd {α β : Type} (r : R α) (k : α → W → R β) : R β := match r with
  | .ok a w => k a w
  | .no => .no
theorem bnd_ok {α β : Type} (a : α) (w : W) (k : α → W → R β) : bnd (.ok a w) k = k a w := rfl
theorem bnd_inv {α β : Type} {r : R α} {k : α → W → R β} {b : β} {w' : W} (h : bnd r k = .ok b w') : ∃ a w, r = .ok a w ∧ k a w = .ok b w' := by
  cases r with
  | ok a w => exact ⟨a, w, rfl, h⟩
  | no => cases h
def opt {α : Type} (o : Option α) (w : W) : R α := match o with
  | some a => .ok a w
  | none => .no
theorem opt_inv {α : Type} {o : Option α} {w w' : W} {a : α} (h : opt o w = .ok a w') : o = some a ∧ w' = w := by
  cases o with
  | some b => cases h; exact ⟨rfl, rfl⟩
  | none => cases h

/-! ## what stands for what -/
mutual
inductive Dn (K : PySem.W.Frag) (po : Option Addr) (H : Hp) : V → D → Prop
  | non : Dn K po H .non .non
  | bl (b : Bool) : Dn K po H (.bl b) (.bl b)
  | int (i : Int) : Dn K po H (.int i) (.int i)
  | str (x : Str) : Dn K po H (.str x) (.str x)
  | tup {a : Addr} {xs : List V} {ds : List D} : SqT K H a xs → DnAll K po H xs ds → Dn K po H (.ref a) (.tup ds)
  | lst {a : Addr} {xs : List V} {ds : List D} : H a = some (.lst xs) → DnAll K po H xs ds → Dn K po H (.ref a) (.lst ds)
  | dic {a : Addr} {xs : List (Key × V)} {ds : List (Key × D)} : H a = some (.dK xs) → DnKV K po H xs ds → Dn K po H (.ref a) (.dic ds)
  | pot {a : Addr} : po = some a → Dn K po H (.ref a) .pot
  | scr {a : Addr} {ns : List Int} : SqL K H a (ns.map V.int) → Dn K po H (.ref a) (.scr ns)
  | fn (x : Str) : Dn K po H (.ref (He.ga K x)) (.fn x)
inductive DnAll (K : PySem.W.Frag) (po : Option Addr) (H : Hp) : List V → List D → Prop
  | nil : DnAll K po H [] []
  | cons {v : V} {vs : List V} {d : D} {ds : List D} : Dn K po H v d → DnAll K po H vs ds → DnAll K po H (v :: vs) (d :: ds)
inductive DnKV (K : PySem.W.Frag) (po : Option Addr) (H : Hp) : List (Key × V) → List (Key × D) → Prop
  | nil : DnKV K po H [] []
  | cons {k : Key} {v : V} {vs : List (Key × V)} {d : D} {ds : List (Key × D)} : Dn K po H v d → DnKV K po H vs ds → DnKV K po H ((k, v) :: vs) ((k, d) :: ds)
end

/-- all that is seen in H is seen in H' -/
def Le (H H' : Hp) : Prop := ∀ a o, H a = some o → H' a = some o
theorem Le.refl (H : Hp) : Le H H := fun _ _ h => h
theorem Le.trans {H H1 H2 : Hp} (a : Le H H1) (b : Le H1 H2) : Le H H2 := fun x o h => b x o (a x o h)
theorem Le.new {H : Hp} {p : Addr} {o : HO} (h : H p = none) : Le H (upd H p o) := fun a u e => by
  rw [upd_ne (ne_of_none e h)]; exact e
theorem Le.rd {H H' : Hp} {a : Addr} {u : HO} (e : Le H H') (h : Rd H a u) : Rd H' a u := by
  rcases h with h | ⟨o, h⟩
  · exact Or.inl (e a _ h)
  · exact Or.inr ⟨o, e a _ h⟩
theorem Le.sqL {K : PySem.W.Frag} {H H' : Hp} {a : Addr} {xs : List V} (e : Le H H') (h : SqL K H a xs) : SqL K H' a xs := by
  rcases h with h | h
  · exact Or.inl (e.rd h)
  · exact Or.inr h
theorem Le.sqT {K : PySem.W.Frag} {H H' : Hp} {a : Addr} {xs : List V} (e : Le H H') (h : SqT K H a xs) : SqT K H' a xs := by
  rcases h with h | h
  · exact Or.inl (e.rd h)
  · exact Or.inr h
section
variable {K : PySem.W.Frag} {po : Option Addr} {H H' : Hp}
mutual
theorem Dn.mono (e : Le H H') : ∀ {v : V} {d : D}, Dn K po H v d → Dn K po H' v d
  | _, _, .non => .non
  | _, _, .bl b => .bl b
  | _, _, .int i => .int i
  | _, _, .str x => .str x
  | _, _, .tup h q => .tup (e.sqT h) (DnAll.mono e q)
  | _, _, .lst h q => .lst (e _ _ h) (DnAll.mono e q)
  | _, _, .dic h q => .dic (e _ _ h) (DnKV.mono e q)
  | _, _, .pot h => .pot h
  | _, _, .scr h => .scr (e.sqL h)
  | _, _, .fn x => .fn x
theorem DnAll.mono (e : Le H H') : ∀ {v : List V} {d : List D}, DnAll K po H v d → DnAll K po H' v d
  | _, _, .nil => .nil
  | _, _, .cons h q => .cons (Dn.mono e h) (DnAll.mono e q)
theorem DnKV.mono (e : Le H H') : ∀ {v : List (Key × V)} {d : List (Key × D)}, DnKV K po H v d → DnKV K po H' v d
  | _, _, .nil => .nil
  | _, _, .cons h q => .cons (Dn.mono e h) (DnKV.mono e q)
end
theorem DnAll.length : ∀ {vs : List V} {ds : List D}, DnAll K po H vs ds → vs.length = ds.length
  | _, _, .nil => rfl
  | _, _, .cons _ q => by simp [DnAll.length q]
theorem DnAll.get : ∀ {vs : List V} {ds : List D} {i : Nat} {d : D}, DnAll K po H vs ds → ds[i]? = some d → ∃ v, vs[i]? = some v ∧ Dn K po H v d
  | _, _, _, _, .nil, e => by simp at e
  | _, _, 0, _, .cons h _, e => by simp at e; subst e; exact ⟨_, rfl, h⟩
  | _, _, i + 1, d, .cons _ q, e => by
    obtain ⟨v, h1, h2⟩ := DnAll.get (i := i) (d := d) q (by simpa using e)
    exact ⟨v, by simpa using h1, h2⟩
theorem DnAll.append : ∀ {vs ws : List V} {ds es : List D}, DnAll K po H vs ds → DnAll K po H ws es → DnAll K po H (vs ++ ws) (ds ++ es)
  | _, _, _, _, .nil, s => s
  | _, _, _, _, .cons h q, s => .cons h (DnAll.append q s)
theorem DnAll.take : ∀ {vs : List V} {ds : List D} (n : Nat), DnAll K po H vs ds → DnAll K po H (vs.take n) (ds.take n)
  | _, _, 0, _ => by simp; exact .nil
  | _, _, _ + 1, .nil => .nil
  | _, _, n + 1, .cons h q => .cons h (DnAll.take n q)
theorem DnAll.drop : ∀ {vs : List V} {ds : List D} (n : Nat), DnAll K po H vs ds → DnAll K po H (vs.drop n) (ds.drop n)
  | _, _, 0, r => r
  | _, _, _ + 1, .nil => .nil
  | _, _, n + 1, .cons _ q => DnAll.drop n q
theorem DnAll.set {v : V} {d : D} (h : Dn K po H v d) : ∀ {vs : List V} {ds : List D} (n : Nat), DnAll K po H vs ds → DnAll K po H (vs.set n v) (ds.set n d)
  | _, _, _, .nil => .nil
  | _, _, 0, .cons _ q => .cons h q
  | _, _, n + 1, .cons h' q => .cons h' (DnAll.set h n q)
theorem DnAll.eraseIdx : ∀ {vs : List V} {ds : List D} (n : Nat), DnAll K po H vs ds → DnAll K po H (vs.eraseIdx n) (ds.eraseIdx n)
  | _, _, _, .nil => .nil
  | _, _, 0, .cons _ q => q
  | _, _, n + 1, .cons h' q => .cons h' (DnAll.eraseIdx n q)
theorem DnAll.ints : ∀ {ns : List Int}, DnAll K po H (ns.map V.int) (ns.map D.int)
  | [] => .nil
  | _ :: ns => .cons (.int _) (DnAll.ints (ns := ns))
theorem DnAll.ints_inv : ∀ {vs : List V} {ns : List Int}, DnAll K po H vs (ns.map D.int) → vs = ns.map V.int
  | _, [], .nil => rfl
  | _, _ :: ns, .cons (.int _) q => by rw [DnAll.ints_inv (ns := ns) q]; rfl
theorem DnAll.bls_inv : ∀ {vs : List V} {ns : List Bool}, DnAll K po H vs (ns.map D.bl) → vs = ns.map V.bl
  | _, [], .nil => rfl
  | _, _ :: ns, .cons (.bl _) q => by rw [DnAll.bls_inv (ns := ns) q]; rfl
theorem DnAll.strs_inv : ∀ {vs : List V} {ns : List Str}, DnAll K po H vs (ns.map D.str) → vs = ns.map V.str
  | _, [], .nil => rfl
  | _, _ :: ns, .cons (.str _) q => by rw [DnAll.strs_inv (ns := ns) q]; rfl
end

/-! ## hidden addresses -/
open Classical in
noncomputable def mask (P : Addr → Prop) (H : Hp) : Hp := fun a => if P a then none else H a
theorem mask_le (P : Addr → Prop) (H : Hp) : Le (mask P H) H := fun a o h => by
  unfold mask at h; split at h
  · cases h
  · exact h
theorem mask_some {P : Addr → Prop} {H : Hp} {a : Addr} {o : HO} (h : H a = some o) (n : ¬ P a) : mask P H a = some o := by
  unfold mask; rw [if_neg n]; exact h
theorem mask_inv {P : Addr → Prop} {H : Hp} {a : Addr} {o : HO} (h : mask P H a = some o) : H a = some o ∧ ¬ P a := by
  unfold mask at h; split at h
  · cases h
  · exact ⟨h, by assumption⟩
theorem mask_mono {P P' : Addr → Prop} {H H' : Hp} (h : ∀ a o, H a = some o → ¬ P a → H' a = some o ∧ ¬ P' a) : Le (mask P H) (mask P' H') := fun a o e => by
  obtain ⟨e1, n⟩ := mask_inv e
  obtain ⟨e2, n2⟩ := h a o e1 n
  exact mask_some e2 n2
theorem mask_le2 {P : Addr → Prop} {H H' : Hp} (h : Le H H') : Le (mask P H) (mask P H') := mask_mono fun a o e n => ⟨h a o e, n⟩

def PotIs (po : Option Addr) (w : W) (H : Hp) : Prop := match w with
  | none => True
  | some ns => ∃ a, po = some a ∧ H a = some (.lst (ns.map V.int))
/-- behind an expression: all stands but the pot -/
structure Post (po : Option Addr) (w : W) (H H' : Hp) : Prop where
  keep : ∀ a o, H a = some o → po ≠ some a → H' a = some o
  there : ∀ a, H a ≠ none → H' a ≠ none
  pot : PotIs po w H'
theorem Post.refl {po : Option Addr} {w : W} {H : Hp} (h : PotIs po w H) : Post po w H H := ⟨fun _ _ e _ => e, fun _ h => h, h⟩
theorem Post.trans {po : Option Addr} {w w' : W} {H H1 H2 : Hp} (a : Post po w H H1) (b : Post po w' H1 H2) : Post po w' H H2 :=
  ⟨fun x o e n => b.keep x o (a.keep x o e n) n, fun x h => b.there x (a.there x h), b.pot⟩
theorem Le.there {H H' : Hp} (e : Le H H') (a : Addr) (h : H a ≠ none) : H' a ≠ none := by
  cases q : H a with
  | none => exact absurd q h
  | some o => rw [e a o q]; simp
theorem PotIs.le {po : Option Addr} {w : W} {H H' : Hp} (h : PotIs po w H) (e : Le H H') : PotIs po w H' := by
  cases w with
  | none => trivial
  | some ns => obtain ⟨a, h1, h2⟩ := h; exact ⟨a, h1, e _ _ h2⟩
theorem Post.le {po : Option Addr} {w : W} {H H' : Hp} (h : PotIs po w H) (e : Le H H') : Post po w H H' := ⟨fun a o q _ => e a o q, e.there, h.le e⟩

/-- a def's entry: the heap, the callers' hidden addresses, the pot -/
structure Bs where
  H0 : Hp
  O : Addr → Prop
  po : Option Addr
abbrev Ow := Nat → Option Addr
def hid0 (O : Addr → Prop) (po : Option Addr) (a : Addr) : Prop := O a ∨ po = some a
def hid (B : Bs) (ow : Ow) : Addr → Prop := hid0 (fun a => B.O a ∨ ∃ i, ow i = some a) B.po
noncomputable abbrev Mk (B : Bs) (ow : Ow) (H : Hp) : Hp := mask (hid B ow) H
theorem Post.msk {B : Bs} {ow : Ow} {w : W} {H H' : Hp} (p : Post B.po w H H') : Le (Mk B ow H) (Mk B ow H') :=
  mask_mono fun a o e n => ⟨p.keep a o e fun q => n (.inr q), n⟩

/-- a slot: nothing known, a value that is never changed again, a list of the def's own -/
inductive Sl where
  | e | v (d : D) | o (xs : List D)
abbrev S := List Sl
/-- what a slot holds -/
def SlIs (K : PySem.W.Frag) (B : Bs) (ow : Ow) (H : Hp) (σ : St) (i : Nat) : Sl → Prop
  | .e => ow i = none
  | .v d => ow i = none ∧ ∃ v, σ[i]? = some (some v) ∧ Dn K B.po (Mk B ow H) v d
  | .o xs => ∃ p vs, ow i = some p ∧ σ[i]? = some (some (.ref p)) ∧ H p = some (.lst vs) ∧ DnAll K B.po (Mk B ow H) vs xs
structure Sim (K : PySem.W.Frag) (B : Bs) (ow : Ow) (s : S) (w : W) (σ : St) (H : Hp) : Prop where
  keep : ∀ a o, B.H0 a = some o → B.po ≠ some a → H a = some o
  live : ∀ a, B.O a → B.H0 a ≠ none
  pO : ∀ a, B.po = some a → ¬ B.O a ∧ B.H0 a ≠ none ∧ H a ≠ none
  len : σ.length = s.length
  slot : ∀ i x, s[i]? = some x → SlIs K B ow H σ i x
  out : ∀ i, s[i]? = none → ow i = none
  own : ∀ i p, ow i = some p → B.H0 p = none ∧ ¬ B.O p ∧ B.po ≠ some p
  inj : ∀ i j p, ow i = some p → ow j = some p → i = j
  pot : PotIs B.po w H
theorem hid_live {K : PySem.W.Frag} {B : Bs} {ow : Ow} {s : S} {w : W} {σ : St} {H : Hp} (m : Sim K B ow s w σ H) : ∀ a, hid B ow a → H a ≠ none := by
  intro a h
  rcases h with (h | ⟨i, h⟩) | h
  · have h1 := m.live a h
    have hp : B.po ≠ some a := fun e => (m.pO a e).1 h
    cases e : B.H0 a with
    | none => exact absurd e h1
    | some o => rw [m.keep a o e hp]; simp
  · cases e : s[i]? with
    | none => rw [m.out i e] at h; cases h
    | some x =>
      have q := m.slot i x e
      cases x with
      | e => rw [show ow i = none from q] at h; cases h
      | v d => rw [q.1] at h; cases h
      | o xs =>
        obtain ⟨p, vs, h1, _, h2, _⟩ := q
        rw [h1] at h; cases h; rw [h2]; simp
  · exact (m.pO a h).2.2
/-- behind an expression the slots are as they were -/
theorem Sim.post {K : PySem.W.Frag} {B : Bs} {ow : Ow} {s : S} {w w' : W} {σ : St} {H H' : Hp} (m : Sim K B ow s w σ H) (p : Post B.po w' H H') : Sim K B ow s w' σ H' where
  keep := fun a o e n => p.keep a o (m.keep a o e n) n
  live := m.live
  pO := fun a e => ⟨(m.pO a e).1, (m.pO a e).2.1, p.there a (m.pO a e).2.2⟩
  len := m.len
  slot := fun i x e => by
    have q := m.slot i x e
    cases x with
    | e => exact q
    | v d => obtain ⟨q1, v, q2, q3⟩ := q; exact ⟨q1, v, q2, q3.mono p.msk⟩
    | o xs =>
      obtain ⟨a, vs, q1, q2, q3, q4⟩ := q
      exact ⟨a, vs, q1, q2, p.keep a _ q3 (m.own i a q1).2.2, q4.mono p.msk⟩
  out := m.out
  own := m.own
  inj := m.inj
  pot := p.pot
end Rf
namespace Rf
open PySem L2

/-! ## expressions -/
/-- an operand: a value, or a list of the def's own as it stands -/
def Sh (K : PySem.W.Frag) (po : Option Addr) (P : Addr → Prop) (H : Hp) (v : V) (d : D) : Prop := match d with
  | .lst ds => ∃ a xs, v = .ref a ∧ H a = some (.lst xs) ∧ (¬ P a ∨ po ≠ some a) ∧ DnAll K po (mask P H) xs ds
  | d => Dn K po (mask P H) v d
/-- x: as an operand -/
def Vw (x : Bool) (K : PySem.W.Frag) (po : Option Addr) (P : Addr → Prop) (H : Hp) (v : V) (d : D) : Prop := match x with
  | true => Sh K po P H v d
  | false => Dn K po (mask P H) v d
section
variable {K : PySem.W.Frag} {po : Option Addr} {P : Addr → Prop} {H H' : Hp} {v : V} {d : D}
theorem Dn.sh (h : Dn K po (mask P H) v d) : Sh K po P H v d := by
  cases h with
  | lst h q => exact ⟨_, _, rfl, (mask_inv h).1, .inl (mask_inv h).2, q⟩
  | non => exact .non
  | bl b => exact .bl b
  | int i => exact .int i
  | str x => exact .str x
  | tup h q => exact .tup h q
  | dic h q => exact .dic h q
  | pot h => exact .pot h
  | scr h => exact .scr h
  | fn x => exact .fn x
theorem Vw.up {x : Bool} (h : Vw x K po P H v d) : Sh K po P H v d := by
  cases x with
  | true => exact h
  | false => exact Dn.sh h
theorem Vw.dn {x : Bool} (h : Dn K po (mask P H) v d) : Vw x K po P H v d := by
  cases x with
  | true => exact Dn.sh h
  | false => exact h
end
theorem Sh.post {K : PySem.W.Frag} {B : Bs} {ow : Ow} {w : W} {H H' : Hp} {v : V} {d : D} (h : Sh K B.po (hid B ow) H v d) (p : Post B.po w H H') : Sh K B.po (hid B ow) H' v d := by
  cases d with
  | lst ds =>
    obtain ⟨a, xs, e1, e2, e3, e4⟩ := h
    have n : B.po ≠ some a := by
      rcases e3 with e3 | e3
      · exact fun z => e3 (.inr z)
      · exact e3
    exact ⟨a, xs, e1, p.keep a _ e2 n, e3, e4.mono p.msk⟩
  | _ => exact Dn.mono p.msk (show Dn K B.po (Mk B ow H) v _ from h)
theorem Vw.post {x : Bool} {K : PySem.W.Frag} {B : Bs} {ow : Ow} {w : W} {H H' : Hp} {v : V} {d : D} (h : Vw x K B.po (hid B ow) H v d) (p : Post B.po w H H') : Vw x K B.po (hid B ow) H' v d := by
  cases x with
  | false => exact Dn.mono p.msk h
  | true => exact Sh.post h p
inductive VwAll (x : Bool) (K : PySem.W.Frag) (po : Option Addr) (P : Addr → Prop) (H : Hp) : List V → List D → Prop
  | nil : VwAll x K po P H [] []
  | cons {v : V} {vs : List V} {d : D} {ds : List D} : Vw x K po P H v d → VwAll x K po P H vs ds → VwAll x K po P H (v :: vs) (d :: ds)
theorem VwAll.dn {K : PySem.W.Frag} {po : Option Addr} {P : Addr → Prop} {H : Hp} : ∀ {vs : List V} {ds : List D}, VwAll false K po P H vs ds → DnAll K po (mask P H) vs ds
  | _, _, .nil => .nil
  | _, _, .cons h q => .cons h (VwAll.dn q)
theorem VwAll.up {x : Bool} {K : PySem.W.Frag} {po : Option Addr} {P : Addr → Prop} {H : Hp} : ∀ {vs : List V} {ds : List D}, VwAll x K po P H vs ds → VwAll true K po P H vs ds
  | _, _, .nil => .nil
  | _, _, .cons h q => .cons h.up (VwAll.up q)

def trE (K : PySem.W.Frag) (x : Bool) (f : S → W → R D) : TE := fun σ H Q => ∃ (B : Bs) (ow : Ow) (s : S) (w : W) (d : D) (w' : W),
  Sim K B ow s w σ H ∧ f s w = .ok d w' ∧ ∀ v H', Post B.po w' H H' → Vw x K B.po (hid B ow) H' v d → Q v H'
def trA (K : PySem.W.Frag) (x : Bool) (f : S → W → R (List D)) : TA := fun σ H Q => ∃ (B : Bs) (ow : Ow) (s : S) (w : W) (ds : List D) (w' : W),
  Sim K B ow s w σ H ∧ f s w = .ok ds w' ∧ ∀ vs H', Post B.po w' H H' → VwAll x K B.po (hid B ow) H' vs ds → Q vs H'
def trB (K : PySem.W.Frag) (f : S → W → R D) : TT := fun σ H Q => ∃ (B : Bs) (ow : Ow) (s : S) (w : W) (b : Bool) (w' : W),
  Sim K B ow s w σ H ∧ f s w = .ok (.bl b) w' ∧ ∀ H', Post B.po w' H H' → Q b H'
structure QE (X : Cx) (x : Bool) (e : Expr) (f : S → W → R D) : Prop where
  pe : PE X e (trE X.K x f)
structure QA (X : Cx) (x : Bool) (es : List Expr) (f : S → W → R (List D)) : Prop where
  pa : PA X es (trA X.K x f)
structure QT (X : Cx) (e : Expr) (f : S → W → R D) : Prop where
  pt : PT X e (trB X.K f)

section
variable {X : Cx} {e a b c : Expr} {f g : S → W → R D} {x y : Bool} {pos : Pos}
theorem PE.imp {t t' : TE} (h : PE X e t) (i : ∀ σ H Q, t' σ H Q → t σ H Q) : PE X e t' := ⟨fun pins s σ H Q I hw => h.run pins s σ H Q I (i _ _ _ hw)⟩
theorem PT.imp {t t' : TT} (h : PT X e t) (i : ∀ σ H Q, t' σ H Q → t σ H Q) : PT X e t' := ⟨fun pins s σ H Q I hw => h.run pins s σ H Q I (i _ _ _ hw)⟩
theorem PW.imp {t t' : TT} (h : PW X e t) (i : ∀ σ H Q, t' σ H Q → t σ H Q) : PW X e t' := ⟨fun wh pins s σ H Q I hw => h.run wh pins s σ H Q I (i _ _ _ hw)⟩
theorem PA.imp {es : List Expr} {t t' : TA} (h : PA X es t) (i : ∀ σ H Q, t' σ H Q → t σ H Q) : PA X es t' := ⟨fun pos pins s σ H Q I hw => h.run pos pins s σ H Q I (i _ _ _ hw)⟩
theorem QE.up (h : QE X x e f) : QE X true e f := ⟨PE.imp h.pe fun σ H Q ⟨B, ow, s, w, d, w', m, e, k⟩ => ⟨B, ow, s, w, d, w', m, e, fun v H' p q => k v H' p q.up⟩⟩
theorem QE.fn {f' : S → W → R D} (h : QE X x e f) (hf : ∀ s w, f' s w = f s w) : QE X x e f' := ⟨PE.imp h.pe fun σ H Q ⟨B, ow, s, w, d, w', m, e, k⟩ => ⟨B, ow, s, w, d, w', m, by rw [← hf]; exact e, k⟩⟩

/-! ### names, constants -/
def fV (i : Nat) : S → W → R D := fun s w => match s[i]? with
  | some (.v d) => .ok d w
  | _ => .no
def fO (i : Nat) : S → W → R D := fun s w => match s[i]? with
  | some (.o ds) => .ok (.lst ds) w
  | _ => .no
def fC (d : D) : S → W → R D := fun _ w => .ok d w
theorem Sim.here {K : PySem.W.Frag} {B : Bs} {ow : Ow} {s : S} {w : W} {σ : St} {H : Hp} (m : Sim K B ow s w σ H) : Post B.po w H H := Post.refl m.pot
theorem q_v {i : Nat} {n : Str} (hN : X.N[i]? = some n) (hv : Vis X.env.scope n) (hd : (n == ("__debug__" : Str)) = false) (hcd : (n == ("__classdict__" : Str)) = false) : QE X x (.Name n pos) (fV i) :=
  ⟨PE.imp (pe_var hN hv hd hcd) fun σ H Q ⟨B, ow, s, w, d, w', m, e, k⟩ => by
    unfold fV at e
    split at e
    · rename_i d' he
      cases e
      obtain ⟨_, v, h1, h2⟩ := m.slot i _ he
      exact ⟨v, h1, k v H m.here (Vw.dn h2)⟩
    · cases e⟩
theorem q_o {i : Nat} {n : Str} (hN : X.N[i]? = some n) (hv : Vis X.env.scope n) (hd : (n == ("__debug__" : Str)) = false) (hcd : (n == ("__classdict__" : Str)) = false) : QE X true (.Name n pos) (fO i) :=
  ⟨PE.imp (pe_var hN hv hd hcd) fun σ H Q ⟨B, ow, s, w, d, w', m, e, k⟩ => by
    unfold fO at e
    split at e
    · rename_i ds he
      cases e
      obtain ⟨p, vs, h1, h2, h3, h4⟩ := m.slot i _ he
      exact ⟨_, h2, k _ H m.here ⟨p, vs, rfl, h3, .inr (m.own i p h1).2.2, h4⟩⟩
    · cases e⟩
theorem q_non {j : Nat} : QE X x (.Constant .none j pos) (fC .non) := ⟨PE.imp pe_non fun σ H Q ⟨B, ow, s, w, d, w', m, e, k⟩ => by cases e; exact k _ H m.here (Vw.dn .non)⟩
theorem q_bl {j : Nat} {b : Bool} : QE X x (.Constant (.bool b) j pos) (fC (.bl b)) := ⟨PE.imp pe_bl fun σ H Q ⟨B, ow, s, w, d, w', m, e, k⟩ => by cases e; exact k _ H m.here (Vw.dn (.bl b))⟩
theorem q_int {j : Nat} {i : Int} : QE X x (.Constant (.int i) j pos) (fC (.int i)) := ⟨PE.imp pe_int fun σ H Q ⟨B, ow, s, w, d, w', m, e, k⟩ => by cases e; exact k _ H m.here (Vw.dn (.int i))⟩
theorem q_str {j : Nat} {z : Str} : QE X x (.Constant (.str z) j pos) (fC (.str z)) := ⟨PE.imp pe_str fun σ H Q ⟨B, ow, s, w, d, w', m, e, k⟩ => by cases e; exact k _ H m.here (Vw.dn (.str z))⟩
/-- a constant of the module -/
theorem q_g {n : Str} {v : V} {u : Value} {d : D} (hg : Gl X n) (hm : X.mg n = some u) (r : RelV v u) (hd : (n == ("__debug__" : Str)) = false) (h : Dn X.K none (fun _ => none) v d) (hp : ∀ po H, Dn X.K none (fun _ => none) v d → Dn X.K po H v d) :
    QE X x (.Name n pos) (fC d) := ⟨PE.imp (pe_glob hg hm r hd) fun σ H Q ⟨B, ow, s, w, d', w', m, e, k⟩ => by cases e; exact k _ H m.here (Vw.dn (hp _ _ h))⟩

/-! ### operators -/
/-- what an operator on values gives, told of data -/
def Op2 (K : PySem.W.Frag) (r : R2) (o : D → D → Option D) : Prop := ∀ (po : Option Addr) (P : Addr → Prop) (H : Hp) (u v : V) (a b d : D), (∀ c, P c → H c ≠ none) → Sh K po P H u a → Sh K po P H v b → o a b = some d →
  ∀ Q : VK, (∀ z H', Le H H' → Dn K po (mask P H') z d → Q z H') → r u v H Q
def Op1 (K : PySem.W.Frag) (r : V → Hp → VK → Prop) (o : D → Option D) : Prop := ∀ (po : Option Addr) (P : Addr → Prop) (H : Hp) (u : V) (a d : D), (∀ c, P c → H c ≠ none) → Sh K po P H u a → o a = some d →
  ∀ Q : VK, (∀ z H', Le H H' → Dn K po (mask P H') z d → Q z H') → r u H Q
def OpN (K : PySem.W.Frag) (r : List V → Hp → VK → Prop) (o : List D → Option D) : Prop := ∀ (po : Option Addr) (P : Addr → Prop) (H : Hp) (us : List V) (as : List D) (d : D), (∀ c, P c → H c ≠ none) → VwAll true K po P H us as → o as = some d →
  ∀ Q : VK, (∀ z H', Le H H' → Dn K po (mask P H') z d → Q z H') → r us H Q
def f2 (o : D → D → Option D) (f g : S → W → R D) : S → W → R D := fun s w => bnd (f s w) fun a w1 => bnd (g s w1) fun b w2 => opt (o a b) w2
def f1 (o : D → Option D) (f : S → W → R D) : S → W → R D := fun s w => bnd (f s w) fun a w1 => opt (o a) w1
def fN (o : List D → Option D) (f : S → W → R (List D)) : S → W → R D := fun s w => bnd (f s w) fun a w1 => opt (o a) w1
theorem op2_tr {K : PySem.W.Frag} {r : R2} {o : D → D → Option D} (h : Op2 K r o) {z : Bool} {σ : St} {H : Hp} {Q : VK} (t : trE K z (f2 o f g) σ H Q) : tOp r (trE K x f) (trE K y g) σ H Q := by
  obtain ⟨B, ow, s, w, d, w', m, e, k⟩ := t
  obtain ⟨a, w1, e1, e⟩ := bnd_inv e
  obtain ⟨b, w2, e2, e⟩ := bnd_inv e
  obtain ⟨e3, rfl⟩ := opt_inv e
  refine ⟨B, ow, s, w, a, w1, m, e1, fun u H1 p1 h1 => ⟨B, ow, s, w1, b, w', m.post p1, e2, fun v H2 p2 h2 => ?_⟩⟩
  refine h B.po (hid B ow) H2 u v a b d (hid_live ((m.post p1).post p2)) (h1.post p2).up h2.up e3 Q fun v' H' le hd => ?_
  exact k v' H' ((p1.trans p2).trans (Post.le p2.pot le)) (Vw.dn hd)
theorem q_bin {op : Operator} {r : R2} {o : D → D → Option D} (ho : OpR X (binaryOp op) r) (h : Op2 X.K r o) (ha : QE X x a f) (hb : QE X y b g) {z : Bool} : QE X z (.BinOp a op b pos) (f2 o f g) :=
  ⟨PE.imp (pe_op ho ha.pe hb.pe) fun _ _ _ t => op2_tr h t⟩
theorem q_cmp {op : CmpOp} {r : R2} {o : D → D → Option D} (ho : OpR X (compareOp op) r) (h : Op2 X.K r o) (ha : QE X x a f) (hb : QE X y b g) (hm : behindInMarks op b = false) {z : Bool} : QE X z (.Compare a [op] [b] pos) (f2 o f g) :=
  ⟨PE.imp (pe_cmpR ho ha.pe hb.pe hm) fun _ _ _ t => op2_tr h t⟩
theorem q_ix {r : R2} {o : D → D → Option D} (ho : IxR X r) (h : Op2 X.K r o) (ha : QE X x a f) (hb : QE X y b g) (hs : PlainIx b) {z : Bool} : QE X z (.Subscript a b pos) (f2 o f g) :=
  ⟨PE.imp (pe_ix ho ha.pe hb.pe hs) fun _ _ _ t => op2_tr h t⟩
theorem op1_tr {K : PySem.W.Frag} {r : V → Hp → VK → Prop} {o : D → Option D} (h : Op1 K r o) {z : Bool} {σ : St} {H : Hp} {Q : VK} (t : trE K z (f1 o f) σ H Q) : tUn r (trE K x f) σ H Q := by
  obtain ⟨B, ow, s, w, d, w', m, e, k⟩ := t
  obtain ⟨a, w1, e1, e⟩ := bnd_inv e
  obtain ⟨e3, rfl⟩ := opt_inv e
  refine ⟨B, ow, s, w, a, w', m, e1, fun u H1 p1 h1 => ?_⟩
  refine h B.po (hid B ow) H1 u a d (hid_live (m.post p1)) h1.up e3 Q fun v' H' le hd => ?_
  exact k v' H' (p1.trans (Post.le p1.pot le)) (Vw.dn hd)
theorem q_un {op : UnaryOp} {r : V → Hp → VK → Prop} {o : D → Option D} (ho : UnR X (unaryOp op) r) (h : Op1 X.K r o) (ha : QE X x a f) {z : Bool} : QE X z (.UnaryOp op a pos) (f1 o f) :=
  ⟨PE.imp (pe_un ho ha.pe) fun _ _ _ t => op1_tr h t⟩
/-! ### arguments, calls of builtins, displays -/
def aNil : S → W → R (List D) := fun _ w => .ok [] w
def aCons (f : S → W → R D) (g : S → W → R (List D)) : S → W → R (List D) := fun s w => bnd (f s w) fun a w1 => bnd (g s w1) fun as w2 => .ok (a :: as) w2
variable {es : List Expr} {fa : S → W → R (List D)}
theorem qa_nil : QA X x [] aNil := ⟨PA.imp pa_nil fun σ H Q ⟨B, ow, s, w, d, w', m, e, k⟩ => by cases e; exact k [] H m.here .nil⟩
theorem qa_cons (ha : QE X x e f) (hr : QA X x es fa) (hs : starEach (e :: es) X.env = (false, eval e X.env) :: starEach es X.env) : QA X x (e :: es) (aCons f fa) :=
  ⟨PA.imp (pa_cons ha.pe hr.pa hs) fun σ H Q ⟨B, ow, s, w, d, w', m, e, k⟩ => by
    obtain ⟨a, w1, e1, e⟩ := bnd_inv e
    obtain ⟨b, w2, e2, e⟩ := bnd_inv e
    cases e
    refine ⟨B, ow, s, w, a, w1, m, e1, fun u H1 p1 h1 => ⟨B, ow, s, w1, b, w', m.post p1, e2, fun v H2 p2 h2 => ?_⟩⟩
    exact k _ H2 (p1.trans p2) (.cons (h1.post p2) h2)⟩
theorem opN_tr {K : PySem.W.Frag} {r : List V → Hp → VK → Prop} {o : List D → Option D} (h : OpN K r o) {z : Bool} {σ : St} {H : Hp} {Q : VK} (t : trE K z (fN o fa) σ H Q) : tCB r (trA K x fa) σ H Q := by
  obtain ⟨B, ow, s, w, d, w', m, e, k⟩ := t
  obtain ⟨a, w1, e1, e⟩ := bnd_inv e
  obtain ⟨e3, rfl⟩ := opt_inv e
  refine ⟨B, ow, s, w, a, w', m, e1, fun u H1 p1 h1 => ?_⟩
  refine h B.po (hid B ow) H1 u a d (hid_live (m.post p1)) h1.up e3 Q fun v' H' le hd => ?_
  exact k v' H' (p1.trans (Post.le p1.pot le)) (Vw.dn hd)
theorem q_callB {n : Str} {id : String} {r : List V → Hp → VK → Prop} {o : List D → Option D} {p : Pos} (hc : CallR X (.builtin id) r) (h : OpN X.K r o) (hg : Gl X n) (hm : X.mg n = none) (hv : bootBuiltins n = some (.builtin id)) (ha : QA X x (e :: es) fa) (hn : n ≠ "__name__") (hdb : (n == ("__debug__" : Str)) = false)
    (he : starEach (e :: es) X.env = (false, eval e X.env) :: starEach es X.env) (hpl : (backTo pos (starEach es X.env)).any (·.1) = false) {z : Bool} : QE X z (.Call (.Name n p) (e :: es) [] pos) (fN o fa) :=
  ⟨PE.imp (pe_callB hc hg hm hv ha.pa hn hdb he hpl) fun _ _ _ t => opN_tr h t⟩
theorem q_callTy {n : Str} {T : String} {r : List V → Hp → VK → Prop} {o : List D → Option D} {p : Pos} (hc : CallR X (.type T) r) (h : OpN X.K r o) (hg : Gl X n) (hm : X.mg n = none) (hv : bootBuiltins n = some (.type T)) (ha : QA X x (e :: es) fa) (hn : n ≠ "__name__") (hdb : (n == ("__debug__" : Str)) = false)
    (he : starEach (e :: es) X.env = (false, eval e X.env) :: starEach es X.env) (hpl : (backTo pos (starEach es X.env)).any (·.1) = false) {z : Bool} : QE X z (.Call (.Name n p) (e :: es) [] pos) (fN o fa) :=
  ⟨PE.imp (pe_callTy hc hg hm hv ha.pa hn hdb he hpl) fun _ _ _ t => opN_tr h t⟩
def fTup (fa : S → W → R (List D)) : S → W → R D := fun s w => bnd (fa s w) fun ds w1 => if ds.length ≤ sizeLine then .ok (.tup ds) w1 else .no
def fLst (fa : S → W → R (List D)) : S → W → R D := fun s w => bnd (fa s w) fun ds w1 => if ds.length ≤ sizeLine then .ok (.lst ds) w1 else .no
theorem newT {K : PySem.W.Frag} {po : Option Addr} {P : Addr → Prop} {H : Hp} {p : Addr} {vs : List V} {ds : List D} (hl : ∀ c, P c → H c ≠ none) (hp : H p = none) (h : DnAll K po (mask P H) vs ds) : Dn K po (mask P (upd H p (.tup vs))) (.ref p) (.tup ds) :=
  .tup (.inl (.inl (mask_some upd_same fun z => hl p z hp))) (h.mono (mask_le2 (Le.new hp)))
theorem newL {K : PySem.W.Frag} {po : Option Addr} {P : Addr → Prop} {H : Hp} {p : Addr} {vs : List V} {ds : List D} (hl : ∀ c, P c → H c ≠ none) (hp : H p = none) (h : DnAll K po (mask P H) vs ds) : Dn K po (mask P (upd H p (.lst vs))) (.ref p) (.lst ds) :=
  .lst (mask_some upd_same fun z => hl p z hp) (h.mono (mask_le2 (Le.new hp)))
theorem q_tup {j : Nat} (ha : QA X false es fa) {z : Bool} : QE X z (.Tuple es j pos) (fTup fa) := ⟨PE.imp (pe_tup ha.pa) fun σ H Q ⟨B, ow, s, w, d, w', m, e, k⟩ => by
    obtain ⟨a, w1, e1, e⟩ := bnd_inv e
    split at e
    · rename_i hs
      cases e
      refine ⟨B, ow, s, w, a, w', m, e1, fun u H1 p1 h1 => ⟨by rw [h1.dn.length]; exact hs, fun p hp => ?_⟩⟩
      exact k _ _ (p1.trans (Post.le p1.pot (Le.new hp))) (Vw.dn (newT (hid_live (m.post p1)) hp h1.dn))
    · cases e⟩
theorem q_lst (ha : QA X false es fa) {z : Bool} : QE X z (.List es pos) (fLst fa) := ⟨PE.imp (pe_lst ha.pa) fun σ H Q ⟨B, ow, s, w, d, w', m, e, k⟩ => by
    obtain ⟨a, w1, e1, e⟩ := bnd_inv e
    split at e
    · rename_i hs
      cases e
      refine ⟨B, ow, s, w, a, w', m, e1, fun u H1 p1 h1 => ⟨by rw [h1.dn.length]; exact hs, fun p hp => ?_⟩⟩
      exact k _ _ (p1.trans (Post.le p1.pot (Le.new hp))) (Vw.dn (newL (hid_live (m.post p1)) hp h1.dn))
    · cases e⟩
end
end Rf
namespace Rf
open PySem L2
section
variable {X : Cx} {e a b c : Expr} {f g h : S → W → R D} {x y z : Bool} {pos : Pos}
/-! ### tests -/
theorem Dn.bl_inv {K : PySem.W.Frag} {po : Option Addr} {H : Hp} {v : V} {b : Bool} (h : Dn K po H v (.bl b)) : v = .bl b := by cases h; rfl
theorem Vw.bl_inv {K : PySem.W.Frag} {po : Option Addr} {P : Addr → Prop} {H : Hp} {v : V} {b : Bool} (h : Vw x K po P H v (.bl b)) : v = .bl b := by
  cases x with
  | true => exact Dn.bl_inv (show Dn K po (mask P H) v (.bl b) from h)
  | false => exact Dn.bl_inv h
theorem qt_val (ha : QE X x e f) (he : ∀ whole, isTrue e X.env whole = (do let v ← whole; standAt e.pos; holding [v] (truthy v))) : QT X e f :=
  ⟨PT.imp (pt_val ha.pe he) fun σ H Q ⟨B, ow, s, w, d, w', m, e1, k⟩ => ⟨B, ow, s, w, .bl d, w', m, e1, fun v H' p q => ⟨d, q.bl_inv, k H' p⟩⟩⟩
theorem qt_cmp {op : CmpOp} {r : R2} {o : D → D → Option D} (ho : OpR X (compareOp op) r) (hr : Op2 X.K r o) (ha : QE X x a f) (hb : QE X y b g) (hm : behindInMarks op b = false) : QT X (.Compare a [op] [b] pos) (f2 o f g) :=
  ⟨PT.imp (pt_cmpR ho ha.pe hb.pe hm) fun σ H Q ⟨B, ow, s, w, d, w', m, e1, k⟩ =>
    op2_tr hr (z := false) ⟨B, ow, s, w, .bl d, w', m, e1, fun v H' p q => ⟨d, q.bl_inv, k H' p⟩⟩⟩
def fAnd (f g : S → W → R D) : S → W → R D := fun s w => bnd (f s w) fun d w1 => match d with
  | .bl true => g s w1
  | .bl false => .ok (.bl false) w1
  | _ => .no
def fOr (f g : S → W → R D) : S → W → R D := fun s w => bnd (f s w) fun d w1 => match d with
  | .bl true => .ok (.bl true) w1
  | .bl false => g s w1
  | _ => .no
def oNot : D → Option D
  | .bl b => some (.bl (!b))
  | _ => none
abbrev fNot (f : S → W → R D) : S → W → R D := f1 oNot f
def fIf (c f g : S → W → R D) : S → W → R D := fun s w => bnd (c s w) fun d w1 => match d with
  | .bl true => f s w1
  | .bl false => g s w1
  | _ => .no
structure QW (X : Cx) (e : Expr) (f : S → W → R D) : Prop where
  pw : PW X e (trB X.K f)
theorem QW.qt (h : QW X e f) : QT X e f := ⟨h.pw.pt⟩
theorem qw_and1 (ha : QT X a f) : QW X (.BoolOp .And [a] pos) f := ⟨pw_and1 ha.pt⟩
theorem qw_or1 (ha : QT X a f) : QW X (.BoolOp .Or [a] pos) f := ⟨pw_or1 ha.pt⟩
theorem qw_and {rest : List Expr} (ha : QT X a f) (hb : QW X (.BoolOp .And (b :: rest) pos) g) : QW X (.BoolOp .And (a :: b :: rest) pos) (fAnd f g) :=
  ⟨PW.imp (pw_and ha.pt hb.pw) fun σ H Q ⟨B, ow, s, w, d, w', m, e, k⟩ => by
    obtain ⟨a1, w1, e1, e⟩ := bnd_inv e
    cases a1 with
    | bl t => cases t with
      | true => exact ⟨B, ow, s, w, true, w1, m, e1, fun H1 p1 => iteT (⟨B, ow, s, w1, d, w', m.post p1, e, fun H2 p2 => k H2 (p1.trans p2)⟩)⟩
      | false => cases e; exact ⟨B, ow, s, w, false, _, m, e1, fun H1 p1 => iteF (k H1 p1)⟩
    | _ => cases e⟩
theorem qw_or {rest : List Expr} (ha : QT X a f) (hb : QW X (.BoolOp .Or (b :: rest) pos) g) : QW X (.BoolOp .Or (a :: b :: rest) pos) (fOr f g) :=
  ⟨PW.imp (pw_or ha.pt hb.pw) fun σ H Q ⟨B, ow, s, w, d, w', m, e, k⟩ => by
    obtain ⟨a1, w1, e1, e⟩ := bnd_inv e
    cases a1 with
    | bl t => cases t with
      | false => exact ⟨B, ow, s, w, false, w1, m, e1, fun H1 p1 => iteF (⟨B, ow, s, w1, d, w', m.post p1, e, fun H2 p2 => k H2 (p1.trans p2)⟩)⟩
      | true => cases e; exact ⟨B, ow, s, w, true, _, m, e1, fun H1 p1 => iteT (k H1 p1)⟩
    | _ => cases e⟩
theorem qt_not (ha : QT X a f) : QT X (.UnaryOp .Not a pos) (fNot f) :=
  ⟨PT.imp (pt_not ha.pt) fun σ H Q ⟨B, ow, s, w, d, w', m, e, k⟩ => by
    obtain ⟨a1, w1, e1, e⟩ := bnd_inv e
    obtain ⟨e3, rfl⟩ := opt_inv e
    cases a1 with
    | bl t => cases e3; exact ⟨B, ow, s, w, t, _, m, e1, k⟩
    | _ => cases e3⟩
theorem q_one {op} {f : S → W → R D} (ha : QE X x a f) : QE X x (.BoolOp op [a] pos) f := ⟨pe_one ha.pe⟩
theorem q_and {rest : List Expr} (ha : QE X x a f) (hb : QE X y (.BoolOp .And (b :: rest) pos) g) : QE X y (.BoolOp .And (a :: b :: rest) pos) (fAnd f g) :=
  ⟨PE.imp (pe_and ha.pe hb.pe) fun σ H Q ⟨B, ow, s, w, d, w', m, e, k⟩ => by
    obtain ⟨a1, w1, e1, e⟩ := bnd_inv e
    cases a1 with
    | bl t => cases t with
      | true => exact ⟨B, ow, s, w, .bl true, w1, m, e1, fun v H1 p1 h1 => ⟨true, h1.bl_inv, iteT (⟨B, ow, s, w1, d, w', m.post p1, e, fun v H2 p2 => k v H2 (p1.trans p2)⟩)⟩⟩
      | false => cases e; exact ⟨B, ow, s, w, .bl false, _, m, e1, fun v H1 p1 h1 => ⟨false, h1.bl_inv, iteF (k _ H1 p1 (Vw.dn (.bl false)))⟩⟩
    | _ => cases e⟩
theorem q_or {rest : List Expr} (ha : QE X x a f) (hb : QE X y (.BoolOp .Or (b :: rest) pos) g) : QE X y (.BoolOp .Or (a :: b :: rest) pos) (fOr f g) :=
  ⟨PE.imp (pe_or ha.pe hb.pe) fun σ H Q ⟨B, ow, s, w, d, w', m, e, k⟩ => by
    obtain ⟨a1, w1, e1, e⟩ := bnd_inv e
    cases a1 with
    | bl t => cases t with
      | false => exact ⟨B, ow, s, w, .bl false, w1, m, e1, fun v H1 p1 h1 => ⟨false, h1.bl_inv, iteF (⟨B, ow, s, w1, d, w', m.post p1, e, fun v H2 p2 => k v H2 (p1.trans p2)⟩)⟩⟩
      | true => cases e; exact ⟨B, ow, s, w, .bl true, _, m, e1, fun v H1 p1 h1 => ⟨true, h1.bl_inv, iteT (k _ H1 p1 (Vw.dn (.bl true)))⟩⟩
    | _ => cases e⟩
theorem q_not (ha : QE X x a f) : QE X y (.UnaryOp .Not a pos) (fNot f) :=
  ⟨PE.imp (pe_not ha.pe) fun σ H Q ⟨B, ow, s, w, d, w', m, e, k⟩ => by
    obtain ⟨a1, w1, e1, e⟩ := bnd_inv e
    obtain ⟨e3, rfl⟩ := opt_inv e
    cases a1 with
    | bl t => cases e3; exact ⟨B, ow, s, w, .bl t, _, m, e1, fun v H1 p1 h1 => ⟨t, h1.bl_inv, k _ H1 p1 (Vw.dn (.bl _))⟩⟩
    | _ => cases e3⟩
theorem q_if (hc : QT X c h) (ha : QE X x a f) (hb : QE X x b g) : QE X x (.IfExp c a b pos) (fIf h f g) :=
  ⟨PE.imp (pe_ifExp hc.pt ha.pe hb.pe) fun σ H Q ⟨B, ow, s, w, d, w', m, e, k⟩ => by
    obtain ⟨a1, w1, e1, e⟩ := bnd_inv e
    cases a1 with
    | bl t => cases t with
      | true => exact ⟨B, ow, s, w, true, w1, m, e1, fun H1 p1 => iteT (⟨B, ow, s, w1, d, w', m.post p1, e, fun v H2 p2 => k v H2 (p1.trans p2)⟩)⟩
      | false => exact ⟨B, ow, s, w, false, w1, m, e1, fun H1 p1 => iteF (⟨B, ow, s, w1, d, w', m.post p1, e, fun v H2 p2 => k v H2 (p1.trans p2)⟩)⟩
    | _ => cases e⟩
/-- a op b op' c -/
def fCh (o o' : D → D → Option D) (f g h : S → W → R D) : S → W → R D := fun s w => bnd (f s w) fun a w1 => bnd (g s w1) fun b w2 => bnd (opt (o a b) w2) fun d w3 => match d with
  | .bl true => bnd (h s w3) fun c w4 => opt (o' b c) w4
  | .bl false => .ok (.bl false) w3
  | _ => .no
theorem ch_tr {K : PySem.W.Frag} {r r' : R2} {o o' : D → D → Option D} (hr : Op2 K r o) (hr' : Op2 K r' o') {σ : St} {H : Hp} {Q : VK} (t : trE K z (fCh o o' f g h) σ H Q) : tChain r r' (trE K false f) (trE K false g) (trE K false h) σ H Q := by
  obtain ⟨B, ow, s, w, d, w', m, e, k⟩ := t
  obtain ⟨a, w1, e1, e⟩ := bnd_inv e
  obtain ⟨b, w2, e2, e⟩ := bnd_inv e
  obtain ⟨t, w3, e3, e⟩ := bnd_inv e
  obtain ⟨e3', rfl⟩ := opt_inv e3
  refine ⟨B, ow, s, w, a, w1, m, e1, fun u H1 p1 h1 => ⟨B, ow, s, w1, b, w3, m.post p1, e2, fun v H2 p2 h2 => ?_⟩⟩
  refine hr B.po (hid B ow) H2 u v a b t (hid_live ((m.post p1).post p2)) (h1.post p2).up h2.up e3' _ fun v' H3 le hd => ?_
  have p3 : Post B.po w3 H2 H3 := Post.le p2.pot le
  cases t with
  | bl t =>
    refine ⟨t, hd.bl_inv, ?_⟩
    cases t with
    | false => cases e; rw [if_neg Bool.false_ne_true]; exact k _ H3 ((p1.trans p2).trans p3) (Vw.dn (.bl false))
    | true =>
      obtain ⟨c, w4, e4, e⟩ := bnd_inv e
      obtain ⟨e5, rfl⟩ := opt_inv e
      rw [if_pos rfl]
      refine ⟨B, ow, s, w3, c, w', ((m.post p1).post p2).post p3, e4, fun u' H4 p4 h4 => ?_⟩
      refine hr' B.po (hid B ow) H4 v u' b c d (hid_live ((((m.post p1).post p2).post p3).post p4)) ((h2.post p3).post p4).up h4.up e5 _ fun v5 H5 le5 hd5 => ?_
      exact k v5 H5 ((((p1.trans p2).trans p3).trans p4).trans (Post.le p4.pot le5)) (Vw.dn hd5)
  | _ => cases e
theorem q_chain {op op' : CmpOp} {r r' : R2} {o o' : D → D → Option D} (ho : OpR X (compareOp op) r) (ho' : OpR X (compareOp op') r') (hr : Op2 X.K r o) (hr' : Op2 X.K r' o') (ha : QE X false a f) (hb : QE X false b g) (hc : QE X false c h)
    (hm : lastMarks [op, op'] [b, c] = false) : QE X z (.Compare a [op, op'] [b, c] pos) (fCh o o' f g h) := ⟨PE.imp (pe_chain ho ho' ha.pe hb.pe hc.pe hm) fun _ _ _ t => ch_tr hr hr' t⟩
theorem qt_chain {op op' : CmpOp} {r r' : R2} {o o' : D → D → Option D} (ho : OpR X (compareOp op) r) (ho' : OpR X (compareOp op') r') (hr : Op2 X.K r o) (hr' : Op2 X.K r' o') (ha : QE X false a f) (hb : QE X false b g) (hc : QE X false c h)
    (hm : lastMarks [op, op'] [b, c] = false) : QT X (.Compare a [op, op'] [b, c] pos) (fCh o o' f g h) := ⟨PT.imp (pt_chain ho ho' ha.pe hb.pe hc.pe hm) fun σ H Q ⟨B, ow, s, w, d, w', m, e1, k⟩ =>
      ch_tr hr hr' (z := false) ⟨B, ow, s, w, .bl d, w', m, e1, fun v H' p q => ⟨d, q.bl_inv, k H' p⟩⟩⟩

/-! ### slices -/
def trO (K : PySem.W.Frag) (f : S → W → R (Option Int)) : TO := fun σ H Q => ∃ (B : Bs) (ow : Ow) (s : S) (w : W) (d : Option Int) (w' : W),
  Sim K B ow s w σ H ∧ f s w = .ok d w' ∧ ∀ H', Post B.po w' H H' → Q d H'
structure QO (X : Cx) (e : Option Expr) (f : S → W → R (Option Int)) : Prop where
  po : PO X e (trO X.K f)
def oNone : S → W → R (Option Int) := fun _ w => .ok none w
def oSome (f : S → W → R D) : S → W → R (Option Int) := fun s w => bnd (f s w) fun d w1 => match d with
  | .int i => .ok (some i) w1
  | _ => .no
theorem PO.imp {e : Option Expr} {t t' : TO} (h : PO X e t) (i : ∀ σ H Q, t' σ H Q → t σ H Q) : PO X e t' := ⟨fun pins s σ H Q I hw => h.run pins s σ H Q I (i _ _ _ hw)⟩
theorem qo_none : QO X none oNone := ⟨PO.imp po_none fun σ H Q ⟨B, ow, s, w, d, w', m, e, k⟩ => by cases e; exact k H m.here⟩
theorem qo_some (ha : QE X x a f) : QO X (some a) (oSome f) := ⟨PO.imp (po_some ha.pe) fun σ H Q ⟨B, ow, s, w, d, w', m, e, k⟩ => by
    obtain ⟨a1, w1, e1, e⟩ := bnd_inv e
    cases a1 with
    | int i =>
      cases e
      refine ⟨B, ow, s, w, .int i, _, m, e1, fun v H1 p1 h1 => ⟨i, ?_, k H1 p1⟩⟩
      cases x with
      | true => have h1 : Dn X.K B.po (mask (hid B ow) H1) v (.int i) := h1; cases h1; rfl
      | false => have h1 : Dn X.K B.po (mask (hid B ow) H1) v (.int i) := h1; cases h1; rfl
    | _ => cases e⟩
def OpS (K : PySem.W.Frag) (r : V → Option Int → Option Int → Hp → VK → Prop) (o : D → Option Int → Option Int → Option D) : Prop := ∀ (po : Option Addr) (P : Addr → Prop) (H : Hp) (u : V) (a d : D) (lo hi : Option Int), (∀ c, P c → H c ≠ none) → Sh K po P H u a → o a lo hi = some d →
  ∀ Q : VK, (∀ z H', Le H H' → Dn K po (mask P H') z d → Q z H') → r u lo hi H Q
def fSl (o : D → Option Int → Option Int → Option D) (f : S → W → R D) (fl fh : S → W → R (Option Int)) : S → W → R D := fun s w => bnd (f s w) fun a w1 => bnd (fl s w1) fun lo w2 => bnd (fh s w2) fun hi w3 => opt (o a lo hi) w3
theorem q_slice {r : V → Option Int → Option Int → Hp → VK → Prop} {o : D → Option Int → Option Int → Option D} {lo hi : Option Expr} {fl fh : S → W → R (Option Int)} {p2 : Pos} (hr : SlR X r) (hs : OpS X.K r o) (he : QE X x a f) (hl : QO X lo fl) (hu : QO X hi fh) :
    QE X z (.Subscript a (.Slice lo hi none p2) pos) (fSl o f fl fh) := ⟨PE.imp (pe_slice hr he.pe hl.po hu.po) fun σ H Q ⟨B, ow, s, w, d, w', m, e, k⟩ => by
    obtain ⟨a1, w1, e1, e⟩ := bnd_inv e
    obtain ⟨l, w2, e2, e⟩ := bnd_inv e
    obtain ⟨u, w3, e3, e⟩ := bnd_inv e
    obtain ⟨e4, rfl⟩ := opt_inv e
    refine ⟨B, ow, s, w, a1, w1, m, e1, fun v H1 p1 h1 => ⟨B, ow, s, w1, l, w2, m.post p1, e2, fun H2 p2 => ⟨B, ow, s, w2, u, w', (m.post p1).post p2, e3, fun H3 p3 => ?_⟩⟩⟩
    refine hs B.po (hid B ow) H3 v a1 d l u (hid_live (((m.post p1).post p2).post p3)) ((h1.post p2).post p3).up e4 Q fun v' H' le hd => ?_
    exact k v' H' (((p1.trans p2).trans p3).trans (Post.le p3.pot le)) (Vw.dn hd)⟩
end
end Rf
namespace Rf
open PySem L2 PySem.Spec PyProof.Rows
/-! ## defs -/
structure Rm (k : Nat) (A : Around) : Prop where
  r : Room k A
  g : A.guards = some []
theorem Rm.mono {j k : Nat} {A : Around} (h : Rm k A) (l : j ≤ k) : Rm j A := ⟨h.r.mono l, h.g⟩
theorem Rm.deeper {k : Nat} {A : Around} (h : Rm (k + 1) A) (env : Env) : Rm k (A.deeper env) := ⟨h.r.deeper env, h.g⟩
/-- as the hand layer's promise of a def, where no repr is under way -/
structure FnG (P : Program) (w : World) (K : PySem.W.Frag) (mg : Str → Option Value) (base : Heap) (k : Nat) (f : Addr) (fd : FuncData) (ps : List Str) (sp : Sp) : Prop where
  len : ∀ vs H Q E, sp vs H Q E → vs.length = ps.length
  go : ∀ (A : Around) (outer : List Env) (s : Shared) (H : Hp) (args : Args) (us : List Value) (vs : List V) (Q : VK) (E : XK),
    Rm k A → Env0 P w K mg base A outer s H → BindsTo s fd args (ps.zip us) → Vals vs us → sp vs H Q E →
      codeAny (model P w) A (.call (.ref f) args) (CR CX0 outer P w H s Q E) s
section
variable {P : Program} {w : World} {K : PySem.W.Frag} {mg : Str → Option Value} {base : Heap} {k : Nat} {f : Addr} {fd : FuncData} {ps : List Str} {sp sp' : Sp}
theorem FnG.mono {j : Nat} (F : FnG P w K mg base j f fd ps sp) (h : j ≤ k) : FnG P w K mg base k f fd ps sp :=
  ⟨F.len, fun A outer s H args us vs Q E hr => F.go A outer s H args us vs Q E (hr.mono h)⟩
theorem FnG.imp (F : FnG P w K mg base k f fd ps sp) (h : ∀ vs H Q E, sp' vs H Q E → sp vs H Q E) : FnG P w K mg base k f fd ps sp' :=
  ⟨fun vs H Q E q => F.len vs H Q E (h _ _ _ _ q), fun A outer s H args us vs Q E hr he hb hv hs => F.go A outer s H args us vs Q E hr he hb hv (h _ _ _ _ hs)⟩
theorem FnG.of (F : FnOk P w K mg base CX0 k f fd ps sp) : FnG P w K mg base k f fd ps sp := ⟨F.len, fun A outer s H args us vs Q E hr => F.run A outer s H args us vs Q E hr.r⟩
/-- a def of the text keeps its promise by its body -/
theorem fn_g {x qual : Str} {params : Arguments} {body : List Stmt} {scope : Scope} {kws : List (Str × V)} {dvs : List V} {N : List Str} (F : FunD K x qual params body scope dvs kws f fd) (S : FnScope N ps scope)
    (len : ∀ vs H Q E, sp vs H Q E → vs.length = ps.length)
    (hb : ∀ (cdv : Value) (A : Around) (outer : List Env) (s : Shared) (H : Hp) (vs : List V) (Q : VK) (E : XK), Rm k (A.deeper (envOfC qual scope s.heap.objs.size f cdv)) → sp vs H Q E →
      ∃ t, PSs (cxOf CX0 P w K mg base N qual scope f cdv A outer s H E).nox body t ∧ t { nx := fun _ H' => Q .non H', rt := Q } (start N vs) H) :
    FnG P w K mg base (k + 1) f fd ps sp := by
  obtain ⟨oc, od, dV, kV, doc, pm, an, cdv, ct, osl, rfl, lk, hcd, _, _⟩ := F.ex
  constructor
  · exact len
  intro A outer s H args us vs Q E hr e0 hbd r hsp
  have hl := len _ _ _ _ hsp
  have keep0 : ∀ b o, base.get? b = some o → s.heap.get? b = some o := fun b o e => (e0.bs b o e).1
  have KX : K.In s.heap := e0.mod.kin.keeps keep0
  have lim : s.heap.NoLimit := e0.mod.nolimit.keeps keep0
  have kinds : ∀ y ∈ ps.zip us, scope.names.lookup y.1 = some .local ∨
      (scope.names.lookup y.1 = some .cell ∧ ((cellsFrom (s.heap.objs.size + 1) scope.names []).lookup y.1).isSome = true) := by
    intro y hy
    rcases S.par y.1 (List.of_mem_zip (a := y.1) (b := y.2) hy).1 with q | q
    · exact Or.inl q
    · exact Or.inr ⟨q, PySem.W.cellsFrom_some _ _ _ (Or.inl q)⟩
  refine codeAny_call_function hr.r.depth (KX _ _ lk) rfl S.co S.gen rfl (PySem.W.codeRec_of KX hcd) (hbd _ _ _ _ ?_)
  refine wpAny_newFunctionEnv_cells S.kind kinds fun env he s1 x1 => ?_
  subst he
  refine ⟨lim.keeps x1.toInCall.keep, codeAny_func ?_⟩
  obtain ⟨t, ht, hq⟩ := hb cdv A outer s H vs Q E (hr.deeper _) hsp
  have I0 := inv_start (CX := CX0) (E := E) S hr.r.hd e0 hl r x1
  refine wpAny_mono (ht.nox.run [] s1 (start N vs) H _ I0 hq) (fun fl s' hs => ?_) (fun _ _ hs => hs)
  have done : ∀ {σ' : L2.St} {H' : Hp} {v : V} {u : Value}, Inv (cxOf CX0 P w K mg base N qual scope f cdv A outer s H E) [] σ' H' s' → RelV v u → Q v H' → CE outer P w H s Q u s' := by
    intro σ' H' v u J rv q
    exact ⟨v, H', J.os, J.bare, J.base, J.hok, rv, q⟩
  match fl, hs with
  | .ret u, ⟨v, σ', H', J, rv, q⟩ => exact done J rv q
  | .next, ⟨σ', H', J, q⟩ => exact done (v := V.non) (u := Value.none) J rfl q
  | .brk, ⟨_, _, _, q⟩ => exact q.elim
  | .cont, ⟨_, _, _, q⟩ => exact q.elim
end
section
variable {X : Cx} {k : Nat} {f : Addr} {fd : FuncData} {ps : List Str} {sp : Sp} {x : Str} {p pos : Pos} {e : Expr} {es : List Expr} {t : TA}
theorem run_g {pins : List (Addr × Obj)} {σ : L2.St} {H : Hp} {s : Shared} {Q : VK} {us : List Value} {vs : List V} (F : FnG X.prog X.w X.K X.mg X.base k f fd ps sp) (hr : Rm k X.A) (hb : Binds X.K fd ps [])
    (I : Inv X pins σ H s) (r : Vals vs us) (h : sp vs H Q E0) : wpAny (model X.prog X.w) X.A (call (.ref f) us) (EP X pins σ Q) X.xe s := by
  have hl : (us ++ []).length = ps.length := by rw [List.append_nil, ← r.length]; exact F.len _ _ _ _ h
  have hb' : BindsTo s fd ⟨us, []⟩ (ps.zip us) := by have := hb s us I.kIn hl; rwa [List.append_nil] at this
  refine wpAny_call (codeAny_mono (F.go X.A X.stack s H ⟨us, []⟩ us vs Q E0 hr I.env0 hb' r h) fun res s' hq => ?_)
  match res, hq with
  | .error e, hq => exact hq.elim
  | .ok (.ret u), hq => exact I.after hq
  | .ok .next, hq => exact hq.elim
  | .ok .brk, hq => exact hq.elim
  | .ok .cont, hq => exact hq.elim
def tCg (sp : Sp) (t : TA) : TE := fun σ H Q => t σ H fun vs H1 => sp vs H1 Q E0
theorem pe_g (F : FnG X.prog X.w X.K X.mg X.base k f fd ps sp) (hr : Rm k X.A) (hg : Gl X x) (hm : X.mg x = some (.ref f)) (hk : PySem.W.keepIn X.K (.ref f) = true) (hb : Binds X.K fd ps [])
    (ha : PA X (e :: es) t) (hdb : (x == ("__debug__" : Str)) = false) (he : starEach (e :: es) X.env = (false, eval e X.env) :: starEach es X.env) (hpl : (backTo pos (starEach es X.env)).any (·.1) = false) :
    PE X (.Call (.Name x p) (e :: es) [] pos) (tCg sp t) := by
  constructor
  intro pins s σ H Q I h
  refine wpAny_Call_Name_kw (ld_glob I hg hm ?_ hdb)
  refine PySem.W.callWith_K (h₀ := X.base) I.ok.mod.kin hk (thn (ha.run pos pins s σ H _ I h) ?_) he hpl
  rintro us s1 ⟨vs, H1, I1, r, q⟩
  exact ⟨I1.kIn, run_g F hr hb I1 r q⟩
theorem pe_g0 (F : FnG X.prog X.w X.K X.mg X.base k f fd ps sp) (hr : Rm k X.A) (hg : Gl X x) (hm : X.mg x = some (.ref f)) (hk : PySem.W.keepIn X.K (.ref f) = true) (hb : Binds X.K fd ps [])
    (hdb : (x == ("__debug__" : Str)) = false) : PE X (.Call (.Name x p) [] [] pos) (tCg sp tNil) := by
  constructor
  intro pins s σ H Q I h
  exact wpAny_Call_Name_kw (ld_glob I hg hm (PySem.W.callWith_K0 I.kIn hk (run_g (us := []) F hr hb I .nil h)) hdb)
end
/-! ## what a def of data promises -/
def spF (K : PySem.W.Frag) (F : List D → W → R D) (n : Nat) : Sp := fun vs H Q _ => ∃ (O : Addr → Prop) (po : Option Addr) (ds : List D) (w : W) (r : D) (w' : W),
  vs.length = n ∧ (∀ a, O a → H a ≠ none) ∧ (∀ a, po = some a → ¬ O a ∧ H a ≠ none) ∧ DnAll K po (mask (hid0 O po) H) vs ds ∧ PotIs po w H ∧ F ds w = .ok r w' ∧
    ∀ v H', Post po w' H H' → Dn K po (mask (hid0 O po) H') v r → Q v H'
/-- a def of the module, by its name -/
structure Fd (P : Program) (w : World) (K : PySem.W.Frag) (mg : Str → Option Value) (base : Heap) (k : Nat) (x : Str) (n : Nat) (F : List D → W → R D) : Prop where
  ex : ∃ (f : Addr) (fd : FuncData) (ps : List Str), FnG P w K mg base k f fd ps (spF K F n) ∧ mg x = some (.ref f) ∧ PySem.W.keepIn K (.ref f) = true ∧ Binds K fd ps []
theorem Fd.mono {P : Program} {w : World} {K : PySem.W.Frag} {mg : Str → Option Value} {base : Heap} {j k n : Nat} {x : Str} {F : List D → W → R D} (h : Fd P w K mg base j x n F) (l : j ≤ k) : Fd P w K mg base k x n F := by
  obtain ⟨f, fd, ps, a, r⟩ := h.ex
  exact ⟨f, fd, ps, a.mono l, r⟩
/-- the length of the arguments is asked for here -/
def fCall (F : List D → W → R D) (n : Nat) (fa : S → W → R (List D)) : S → W → R D := fun s w => bnd (fa s w) fun ds w1 => if ds.length = n then F ds w1 else .no
section
variable {X : Cx} {k : Nat} {x : Str} {F : List D → W → R D} {p pos : Pos} {e : Expr} {es : List Expr} {fa : S → W → R (List D)} {z : Bool}
theorem call_tr {n : Nat} {σ : L2.St} {H : Hp} {Q : VK} {K : PySem.W.Frag} (t : trE K z (fCall F n fa) σ H Q) : tCg (spF K F n) (trA K false fa) σ H Q := by
  obtain ⟨B, ow, s, w, d, w', m, e, q⟩ := t
  obtain ⟨ds, w1, e1, e⟩ := bnd_inv e
  split at e
  · rename_i hn
    refine ⟨B, ow, s, w, ds, w1, m, e1, fun vs H1 p1 h1 => ?_⟩
    have m1 := m.post p1
    have hl := hid_live m1
    refine ⟨fun a => B.O a ∨ ∃ i, ow i = some a, B.po, ds, w1, d, w', ?_, fun a ha => hl a (.inl ha), fun a ha => ⟨?_, (m1.pO a ha).2.2⟩, h1.dn, p1.pot, e, fun v H' p' h' => ?_⟩
    · rw [h1.dn.length, hn]
    · rintro (h | ⟨i, h⟩)
      · exact (m1.pO a ha).1 h
      · exact (m1.own i a h).2.2 ha
    · exact q v H' (p1.trans p') (Vw.dn h')
  · cases e
theorem q_call {n : Nat} (h : Fd X.prog X.w X.K X.mg X.base k x n F) (hr : Rm k X.A) (hg : Gl X x)
    (ha : QA X false (e :: es) fa) (hdb : (x == ("__debug__" : Str)) = false) (he : starEach (e :: es) X.env = (false, eval e X.env) :: starEach es X.env) (hpl : (backTo pos (starEach es X.env)).any (·.1) = false) :
    QE X z (.Call (.Name x p) (e :: es) [] pos) (fCall F n fa) := by
  obtain ⟨f, fd, ps, hF, hm, hk, hb⟩ := h.ex
  exact ⟨PE.imp (pe_g hF hr hg hm hk hb ha.pa hdb he hpl) fun _ _ _ t => call_tr t⟩
end
end Rf
namespace Rf
open PySem L2 PySem.Spec PyProof.Rows
/-! ## what is walked -/
/-- J gives the data ds, in turn; lp: also while a loop's body changes the def's own lists -/
def WalkD (lp : Bool) (B : Bs) (ow : Ow) (K : PySem.W.Frag) (J : It) (ds : List D) (H : Hp) : Prop := ∃ (G : Hp → Prop) (Y : Nat → Hp → V → Hp → Prop),
  Walk J ds.length G Y ∧ G H ∧
  (match lp with
    | true => ∀ ow1 H1, Le (Mk B ow H) (Mk B ow1 H1) → G H1
    | false => ∀ w1 H1, Post B.po w1 H H1 → G H1) ∧
  (∀ i H1 v H2 ow1, Le (Mk B ow H) (Mk B ow1 H1) → (∀ c, hid B ow1 c → H1 c ≠ none) → G H1 → i < ds.length → Y i H1 v H2 → Le H1 H2 ∧ ∃ d, ds[i]? = some d ∧ Dn K B.po (Mk B ow1 H2) v d)
def trI (K : PySem.W.Frag) (lp : Bool) (f : S → W → R (List D)) : TI := fun σ H Q => ∃ (B : Bs) (ow : Ow) (s : S) (w : W) (ds : List D) (w' : W),
  Sim K B ow s w σ H ∧ f s w = .ok ds w' ∧ ∀ J H', Post B.po w' H H' → WalkD lp B ow K J ds H' → Q J H'
structure QI (X : Cx) (lp : Bool) (tg iter : Expr) (f : S → W → R (List D)) : Prop where
  pi : PI X tg iter (trI X.K lp f)
theorem PI.imp {X : Cx} {tg iter : Expr} {t t' : TI} (h : PI X tg iter t) (i : ∀ σ H Q, t' σ H Q → t σ H Q) : PI X tg iter t' := ⟨fun pins s σ H Q I hw => h.run pins s σ H Q I (i _ _ _ hw)⟩
/-- the walk of a value that has come -/
def PV (X : Cx) (tg : Expr) (r : V → Hp → (It → Hp → Prop) → Prop) : Prop := ∀ (pins : List (Addr × Obj)) (s : Shared) (σ : L2.St) (H : Hp) (x : V) (v : Value) (Q : It → Hp → Prop), Inv X pins σ H s → RelV x v → r x H Q →
  wpAny (model X.prog X.w) X.A (pyIter v) (PIE X pins σ tg Q) X.xe s
section
variable {X : Cx} {tg e : Expr}
theorem pi_pv {te : TE} {r : V → Hp → (It → Hp → Prop) → Prop} (he : PE X e te) (hv : PV X tg r) : PI X tg e (fun σ H Q => te σ H fun x H1 => r x H1 Q) :=
  ⟨fun pins s σ H Q I h => thn (he.run pins s σ H _ I h) fun v s1 ⟨x, H1, I1, r1, q1⟩ => hv pins s1 σ H1 x v Q I1 r1 q1⟩
theorem pv_list : PV X tg fun x H Q => ∃ a xs, x = .ref a ∧ SqL X.K H a xs ∧ Q (Itl X.K a) H := by
  rintro pins s σ H x v Q I r ⟨a, xs, rfl, hq, q⟩
  cases r
  obtain ⟨its, rv, p, hz⟩ := I.list hq
  refine wpAny_pyIter_list p.isList ⟨s.heap.objs.size, [s.heap.objs.size], _, _, H, rfl, I.kept (t' := s.toks) fun b o e => Heap.get?_push_of_some _ e, turn_list a _, ⟨_, Heap.get?_push_size _ rfl, rfl, rfl⟩, fun b hb => ?_, q⟩
  rw [List.mem_singleton.mp hb]
  exact I.fpOk (Nat.le_refl _) (I.hok.fresh (Nat.le_refl _))
theorem pv_tup : PV X tg fun x H Q => ∃ a xs, x = .ref a ∧ SqT X.K H a xs ∧ Q (Itt X.K a) H := by
  rintro pins s σ H x v Q I r ⟨a, xs, rfl, hq, q⟩
  cases r
  obtain ⟨its, rv, p, hz⟩ := I.tuple hq
  refine wpAny_pyIter_tuple (show s.heap.IsTuple a its.toArray from p) ⟨s.heap.objs.size, [s.heap.objs.size], _, _, H, rfl, I.kept (t' := s.toks) fun b o e => Heap.get?_push_of_some _ e, turn_tuple a _, ⟨_, Heap.get?_push_size _ rfl, rfl, rfl⟩, fun b hb => ?_, q⟩
  rw [List.mem_singleton.mp hb]
  exact I.fpOk (Nat.le_refl _) (I.hok.fresh (Nat.le_refl _))
theorem pv_str : PV X tg fun x H Q => ∃ z, x = .str z ∧ Q (Its z) H := by
  rintro pins s σ H x v Q I r ⟨z, rfl, q⟩
  obtain ⟨t, rfl⟩ := r
  cases ha : z.cps.all (· < 128)
  · exact wpAny_pyIter_wide ha (pi_one (tk := s.toks) I _ (turn_str _ z t "str_iterator" (.inr rfl)) ⟨_, Heap.get?_push_size _ rfl, rfl, rfl⟩ q)
  · exact wpAny_pyIter_ascii ha (pi_one (tk := s.toks) I _ (turn_str _ z t "str_ascii_iterator" (.inl rfl)) ⟨_, Heap.get?_push_size _ rfl, rfl, rfl⟩ q)
/-- a list, a tuple, a text -/
def rSeq (K : PySem.W.Frag) : V → Hp → (It → Hp → Prop) → Prop := fun x H Q => (∃ a xs, x = .ref a ∧ SqL K H a xs ∧ Q (Itl K a) H) ∨ (∃ a xs, x = .ref a ∧ SqT K H a xs ∧ Q (Itt K a) H) ∨ ∃ z, x = .str z ∧ Q (Its z) H
theorem pv_seq : PV X tg (rSeq X.K) := by
  rintro pins s σ H x v Q I r (h | h | h)
  · exact pv_list pins s σ H x v Q I r h
  · exact pv_tup pins s σ H x v Q I r h
  · exact pv_str pins s σ H x v Q I r h
def signs (z : Str) : List D := z.cps.toList.map fun c => .str ⟨#[c]⟩
/-- the items of a datum -/
def itemsD : D → Option (List D)
  | .lst xs => some xs
  | .tup xs => some xs
  | .str z => some (signs z)
  | _ => none
def fIt (f : S → W → R D) : S → W → R (List D) := fun s w => bnd (f s w) fun d w1 => opt (itemsD d) w1
theorem walkL {lp : Bool} {B : Bs} {ow : Ow} {K : PySem.W.Frag} {a : Addr} {xs : List V} {ds : List D} {H : Hp} (h : H a = some (.lst xs)) (hd : DnAll K B.po (Mk B ow H) xs ds)
    (hs : match lp with | true => ¬ hid B ow a | false => B.po ≠ some a) : WalkD lp B ow K (Itl K a) ds H := by
  refine ⟨fun H => SqL K H a xs, YAt xs, by rw [← hd.length]; exact walk_list, .inl (.inl h), ?_, ?_⟩
  · cases lp with
    | true => exact fun ow1 H1 le => .inl (.inl (mask_inv (le a _ (mask_some h hs))).1)
    | false => exact fun w1 H1 p => .inl (.inl (p.keep a _ h hs))
  · rintro i H1 v H2 ow1 le hl g hi ⟨rfl, hv⟩
    have hi2 : i < ds.length := hi
    obtain ⟨v', e1, e2⟩ := hd.get (i := i) (d := ds[i]) (by simp [hi2])
    rw [hv] at e1; cases e1
    exact ⟨Le.refl _, _, by simp [hi2], e2.mono le⟩
theorem walkT {lp : Bool} {B : Bs} {ow : Ow} {K : PySem.W.Frag} {a : Addr} {xs : List V} {ds : List D} {H : Hp} (h : SqT K (Mk B ow H) a xs) (hd : DnAll K B.po (Mk B ow H) xs ds) : WalkD lp B ow K (Itt K a) ds H := by
  refine ⟨fun H => SqT K H a xs, YAt xs, by rw [← hd.length]; exact walk_tup, (mask_le _ _).sqT h, ?_, ?_⟩
  · cases lp with
    | true => exact fun ow1 H1 le => ((le.trans (mask_le _ _)).sqT h)
    | false => exact fun w1 H1 p => (p.msk.trans (mask_le _ _)).sqT h
  · rintro i H1 v H2 ow1 le hl g hi ⟨rfl, hv⟩
    have hi2 : i < ds.length := hi
    obtain ⟨v', e1, e2⟩ := hd.get (i := i) (d := ds[i]) (by simp [hi2])
    rw [hv] at e1; cases e1
    exact ⟨Le.refl _, _, by simp [hi2], e2.mono le⟩
theorem walkS {lp : Bool} {B : Bs} {ow : Ow} {K : PySem.W.Frag} {z : Str} {H : Hp} : WalkD lp B ow K (Its z) (signs z) H := by
  refine ⟨fun _ => True, _, by rw [show (signs z).length = z.cps.size by simp [signs]]; exact walk_str, trivial, ?_, ?_⟩
  · cases lp with
    | true => exact fun _ _ _ => trivial
    | false => exact fun _ _ _ => trivial
  · rintro i H1 v H2 ow1 le hl g hi ⟨rfl, c, hc, rfl⟩
    refine ⟨Le.refl _, .str ⟨#[c]⟩, ?_, .str _⟩
    unfold signs
    rw [List.getElem?_map, Array.getElem?_toList, hc]
    rfl
theorem walk_seq {x lp : Bool} {B : Bs} {ow : Ow} {K : PySem.W.Frag} {H : Hp} {v : V} {d : D} {ds : List D} (hx : x = true → lp = false) (h : Vw x K B.po (hid B ow) H v d) (e : itemsD d = some ds) {Q : It → Hp → Prop}
    (k : ∀ J, WalkD lp B ow K J ds H → Q J H) : rSeq K v H Q := by
  cases d with
  | lst xs =>
    obtain rfl : xs = ds := Option.some.inj e
    cases x with
    | true =>
      obtain rfl := hx rfl
      obtain ⟨a, vs, rfl, h1, h2, h3⟩ := h
      refine .inl ⟨a, vs, rfl, .inl (.inl h1), k _ (walkL h1 h3 (show B.po ≠ some a from ?_))⟩
      rcases h2 with h2 | h2
      · exact fun z => h2 (.inr z)
      · exact h2
    | false =>
      have h : Dn K B.po (Mk B ow H) v (.lst xs) := h
      cases h with
      | lst h1 h2 =>
        refine .inl ⟨_, _, rfl, .inl (.inl (mask_inv h1).1), k _ (walkL (mask_inv h1).1 h2 ?_)⟩
        cases lp with
        | true => exact (mask_inv h1).2
        | false => exact fun z => (mask_inv h1).2 (.inr z)
  | tup xs =>
    obtain rfl : xs = ds := Option.some.inj e
    have h : Dn K B.po (Mk B ow H) v (.tup xs) := by cases x <;> exact h
    cases h with
    | tup h1 h2 => exact .inr (.inl ⟨_, _, rfl, (mask_le _ _).sqT h1, k _ (walkT h1 h2)⟩)
  | str z =>
    cases e
    have h : Dn K B.po (Mk B ow H) v (.str z) := by cases x <;> exact h
    cases h
    exact .inr (.inr ⟨z, rfl, k _ walkS⟩)
  | _ => cases e
theorem qi_seq {x lp : Bool} {f : S → W → R D} (hx : x = true → lp = false) (he : QE X x e f) : QI X lp tg e (fIt f) := ⟨PI.imp (pi_pv he.pe pv_seq) fun σ H Q ⟨B, ow, s, w, ds, w', m, e, k⟩ => by
    obtain ⟨d, w1, e1, e⟩ := bnd_inv e
    obtain ⟨e2, rfl⟩ := opt_inv e
    exact ⟨B, ow, s, w, d, w', m, e1, fun v H1 p1 h1 => walk_seq hx h1 e2 fun J hJ => k J H1 p1 hJ⟩⟩
/-! ### ranges -/
def rngD (lo : Int) (n : Nat) : List D := (List.range n).map fun i => .int (lo + (i : Nat))
def rangeD1 : D → Option (List D)
  | .int j => if -(2 ^ 62) ≤ j ∧ j < 2 ^ 62 then some (rngD 0 j.toNat) else none
  | _ => none
def rangeD2 : D → D → Option (List D)
  | .int i, .int j => if -(2 ^ 62) ≤ i ∧ i < 2 ^ 62 ∧ -(2 ^ 62) ≤ j ∧ j < 2 ^ 62 then some (rngD i (j - i).toNat) else none
  | _, _ => none
theorem walkR {lp : Bool} {B : Bs} {ow : Ow} {K : PySem.W.Frag} {lo : Int} {n : Nat} {H : Hp} : WalkD lp B ow K (Itr lo n) (rngD lo n) H := by
  refine ⟨fun _ => True, _, by rw [show (rngD lo n).length = n by simp [rngD]]; exact walk_range, trivial, ?_, ?_⟩
  · cases lp with
    | true => exact fun _ _ _ => trivial
    | false => exact fun _ _ _ => trivial
  · rintro i H1 v H2 ow1 le hl g hi ⟨rfl, rfl⟩
    have hi2 : i < n := by simpa [rngD] using hi
    exact ⟨Le.refl _, .int (lo + i), by simp [rngD, hi2], .int _⟩
def fRng1 (f : S → W → R D) : S → W → R (List D) := fun s w => bnd (f s w) fun d w1 => opt (rangeD1 d) w1
def fRng2 (f g : S → W → R D) : S → W → R (List D) := fun s w => bnd (f s w) fun d w1 => bnd (g s w1) fun c w2 => opt (rangeD2 d c) w2
theorem Vw.int_inv {x : Bool} {K : PySem.W.Frag} {po : Option Addr} {P : Addr → Prop} {H : Hp} {v : V} {i : Int} (h : Vw x K po P H v (.int i)) : v = .int i := by
  cases x with
  | true => have h : Dn K po (mask P H) v (.int i) := h; cases h; rfl
  | false => have h : Dn K po (mask P H) v (.int i) := h; cases h; rfl
theorem Vw.str_inv {x : Bool} {K : PySem.W.Frag} {po : Option Addr} {P : Addr → Prop} {H : Hp} {v : V} {i : Str} (h : Vw x K po P H v (.str i)) : v = .str i := by
  cases x with
  | true => have h : Dn K po (mask P H) v (.str i) := h; cases h; rfl
  | false => have h : Dn K po (mask P H) v (.str i) := h; cases h; rfl
theorem qi_rng1 {lp : Bool} {a : Expr} {f : S → W → R D} {p pos : Pos} (hg : Gl X "range") (hm : X.mg "range" = none) (ha : QE X true a f) (hs : starEach [a] X.env = [(false, eval a X.env)]) (h0 : starEach ([] : List Expr) X.env = []) : QI X lp tg (.Call (.Name "range" p) [a] [] pos) (fRng1 f) :=
  ⟨PI.imp (pi_range1 hg hm (pa_cons ha.pe pa_nil (by rw [hs, h0])) hs) fun σ H Q ⟨B, ow, s, w, ds, w', m, e, k⟩ => by
    obtain ⟨d, w1, e1, e⟩ := bnd_inv e
    obtain ⟨e2, rfl⟩ := opt_inv e
    refine ⟨B, ow, s, w, d, w', m, e1, fun v H1 p1 h1 => ?_⟩
    unfold rangeD1 at e2
    split at e2
    · split at e2
      · rename_i hb
        cases e2
        exact ⟨_, by rw [h1.int_inv], hb.1, hb.2, k _ H1 p1 walkR⟩
      · cases e2
    · cases e2⟩
theorem qi_rng2 {lp : Bool} {a b : Expr} {f g : S → W → R D} {p pos : Pos} (hg : Gl X "range") (hm : X.mg "range" = none) (ha : QE X true a f) (hb : QE X true b g) (hs : starEach [a, b] X.env = [(false, eval a X.env), (false, eval b X.env)]) (hs2 : starEach [b] X.env = [(false, eval b X.env)]) (h0 : starEach ([] : List Expr) X.env = []) :
    QI X lp tg (.Call (.Name "range" p) [a, b] [] pos) (fRng2 f g) :=
  ⟨PI.imp (pi_range2 hg hm (pa_cons ha.pe (pa_cons hb.pe pa_nil (by rw [hs2, h0])) (by rw [hs, hs2])) hs hs2) fun σ H Q ⟨B, ow, s, w, ds, w', m, e, k⟩ => by
    obtain ⟨d, w1, e1, e⟩ := bnd_inv e
    obtain ⟨c, w2, e2, e⟩ := bnd_inv e
    obtain ⟨e3, rfl⟩ := opt_inv e
    refine ⟨B, ow, s, w, d, w1, m, e1, fun v H1 p1 h1 => ⟨B, ow, s, w1, c, w', m.post p1, e2, fun u H2 p2 h2 => ?_⟩⟩
    unfold rangeD2 at e3
    split at e3
    · split at e3
      · rename_i hb
        cases e3
        exact ⟨_, _, by rw [h1.int_inv, h2.int_inv], hb, k _ H2 (p1.trans p2) walkR⟩
      · cases e3
    · cases e3⟩
end
end Rf
namespace Rf
open PySem L2 PySem.Spec PyProof.Rows
/-! ## targets -/
/-- slot i gets a value: what the def owned there is let go -/
def Ow.del (ow : Ow) (i : Nat) : Ow := fun j => if j = i then none else ow j
theorem Ow.del_le {B : Bs} {ow : Ow} {i : Nat} {H : Hp} : Le (Mk B ow H) (Mk B (ow.del i) H) := mask_mono fun a o e n => ⟨e, fun z => n (by
  rcases z with (z | ⟨j, z⟩) | z
  · exact .inl (.inl z)
  · unfold Ow.del at z; split at z
    · cases z
    · exact .inl (.inr ⟨j, z⟩)
  · exact .inr z)⟩
theorem Sim.put {K : PySem.W.Frag} {B : Bs} {ow : Ow} {s : S} {w : W} {σ : L2.St} {H : Hp} {i : Nat} {v : V} {d : D} (m : Sim K B ow s w σ H) (h : Dn K B.po (Mk B ow H) v d) : Sim K B (ow.del i) (s.set i (.v d)) w (σ.set i (some v)) H where
  keep := m.keep
  live := m.live
  pO := m.pO
  len := by simp [m.len]
  slot := fun j x e => by
    by_cases hj : i = j
    · subst hj
      have hi : i < s.length := by
        have := (List.getElem?_eq_some_iff.mp e).1
        simpa using this
      rw [List.getElem?_set_self hi] at e
      cases e
      exact ⟨by simp [Ow.del], v, by rw [List.getElem?_set_self (by rw [m.len]; exact hi)], h.mono Ow.del_le⟩
    · rw [List.getElem?_set_ne hj] at e
      have q := m.slot j x e
      have ej : ow.del i j = ow j := by unfold Ow.del; rw [if_neg fun z => hj z.symm]
      cases x with
      | e => exact ej.trans q
      | v d' => obtain ⟨q1, u, q2, q3⟩ := q; exact ⟨ej.trans q1, u, by rw [List.getElem?_set_ne hj]; exact q2, q3.mono Ow.del_le⟩
      | o xs => obtain ⟨p, vs, q1, q2, q3, q4⟩ := q; exact ⟨p, vs, ej.trans q1, by rw [List.getElem?_set_ne hj]; exact q2, q3, q4.mono Ow.del_le⟩
  out := fun j e => by
    have e' : s[j]? = none := by simpa using e
    unfold Ow.del; split
    · rfl
    · exact m.out j e'
  own := fun j p e => m.own j p (by unfold Ow.del at e; split at e; cases e; exact e)
  inj := fun j k p e1 e2 => m.inj j k p (by unfold Ow.del at e1; split at e1; cases e1; exact e1) (by unfold Ow.del at e2; split at e2; cases e2; exact e2)
  pot := m.pot
def trG (K : PySem.W.Frag) (vs : List Nat) (b : D → S → Option S) : TG := fun v σ H Q => ∃ (B : Bs) (ow : Ow) (s : S) (w : W) (d : D) (s' : S), Sim K B ow s w σ H ∧ Dn K B.po (Mk B ow H) v d ∧ b d s = some s' ∧
  ∀ ow' σ', Le (Mk B ow H) (Mk B ow' H) → Sim K B ow' s' w σ' H → σ'.length = σ.length → (∀ j, j ∉ vs → σ'[j]? = σ[j]? ∧ ow' j = ow j) → Q σ' H
def trGs (K : PySem.W.Frag) (vs : List Nat) (b : List D → S → Option S) : TGs := fun us σ H Q => ∃ (B : Bs) (ow : Ow) (s : S) (w : W) (ds : List D) (s' : S), Sim K B ow s w σ H ∧ DnAll K B.po (Mk B ow H) us ds ∧ b ds s = some s' ∧
  ∀ ow' σ', Le (Mk B ow H) (Mk B ow' H) → Sim K B ow' s' w σ' H → σ'.length = σ.length → (∀ j, j ∉ vs → σ'[j]? = σ[j]? ∧ ow' j = ow j) → Q σ' H
structure QG (X : Cx) (vs : List Nat) (tg : Expr) (b : D → S → Option S) : Prop where
  pg : PG X tg (trG X.K vs b)
structure QGs (X : Cx) (vs : List Nat) (tgs : List Expr) (b : List D → S → Option S) : Prop where
  pgs : PGs X tgs (trGs X.K vs b)
def bName (i : Nat) : D → S → Option S := fun d s => some (s.set i (.v d))
def bTup (n : Nat) (b : List D → S → Option S) : D → S → Option S := fun d s => match d with
  | .tup ds => if ds.length = n then b ds s else none
  | _ => none
def bNil : List D → S → Option S := fun ds s => match ds with
  | [] => some s
  | _ => none
def bCons (b : D → S → Option S) (c : List D → S → Option S) : List D → S → Option S := fun ds s => match ds with
  | d :: ds => (b d s).bind (c ds)
  | [] => none
section
variable {X : Cx} {tg e : Expr} {es : List Expr} {pos : Pos} {vs us : List Nat}
theorem PG.imp {t t' : TG} (h : PG X tg t) (i : ∀ v σ H Q, t' v σ H Q → t v σ H Q) : PG X tg t' := ⟨fun pins s σ H v u Q I r hw => h.run pins s σ H v u Q I r (i _ _ _ _ hw)⟩
theorem PGs.imp {t t' : TGs} (h : PGs X es t) (i : ∀ v σ H Q, t' v σ H Q → t v σ H Q) : PGs X es t' := ⟨fun pins s σ H v u Q I r hw => h.run pins s σ H v u Q I r (i _ _ _ _ hw)⟩
theorem qg_name {i : Nat} {x : Str} (hN : X.N.Nodup) (hi : X.N[i]? = some x) (hx : Loc X.env.scope x) (hf : X.fn x = true ∨ X.env.scope.names.lookup x = some .local) : QG X [i] (.Name x pos) (bName i) :=
  ⟨PG.imp (pg_name hN hi hx hf) fun v σ H Q ⟨B, ow, s, w, d, s', m, h, e, k⟩ => by
    cases e
    refine k (ow.del i) _ Ow.del_le (m.put h) (by simp) fun j hj => ⟨?_, ?_⟩
    · rw [List.getElem?_set_ne]; simpa using fun z => hj (by simp [z])
    · unfold Ow.del; rw [if_neg]; simpa using hj⟩
theorem qgs_nil : QGs X [] [] bNil := ⟨PGs.imp pgs_nil fun v σ H Q ⟨B, ow, s, w, d, s', m, h, e, k⟩ => by
    cases d with
    | nil => cases e; cases h; exact ⟨rfl, k ow σ (Le.refl _) m rfl fun _ _ => ⟨rfl, rfl⟩⟩
    | cons _ _ => cases e⟩
theorem qgs_cons {b : D → S → Option S} {c : List D → S → Option S} (h1 : QG X vs e b) (h2 : QGs X us es c) (hs : (assignEach (e :: es) X.env).map (·.2) = assign e X.env :: (assignEach es X.env).map (·.2)) : QGs X (vs ++ us) (e :: es) (bCons b c) :=
  ⟨PGs.imp (pgs_cons h1.pg h2.pgs hs) fun v σ H Q ⟨B, ow, s, w, d, s', m, h, e, k⟩ => by
    cases h with
    | nil => cases e
    | cons ha hr =>
      obtain ⟨s1, e1, e2⟩ := Option.bind_eq_some_iff.mp e
      refine ⟨_, _, rfl, B, ow, s, w, _, s1, m, ha, e1, fun ow1 σ1 le1 m1 l1 q1 => ⟨B, ow1, s1, w, _, s', m1, hr.mono le1, e2, fun ow2 σ2 le2 m2 l2 q2 => ?_⟩⟩
      refine k ow2 σ2 (le1.trans le2) m2 (l2.trans l1) fun j hj => ?_
      obtain ⟨a1, a2⟩ := q2 j fun z => hj (List.mem_append_right _ z)
      obtain ⟨b1, b2⟩ := q1 j fun z => hj (List.mem_append_left _ z)
      exact ⟨a1.trans b1, a2.trans b2⟩⟩
theorem qg_tup {n k : Nat} {b : List D → S → Option S} (hc : X.calm = true) (h : QGs X vs es b) (hn : (assignEach es X.env).length = n) (hst : (assignEach es X.env).findIdx? (·.1) = none) : QG X vs (.Tuple es k pos) (bTup n b) :=
  ⟨PG.imp (pg_tup hc h.pgs hn hst) fun v σ H Q ⟨B, ow, s, w, d, s', m, hd, e, k⟩ => by
    unfold bTup at e
    split at e
    · split at e
      · rename_i hn
        cases hd with
        | tup h1 h2 => exact ⟨_, _, rfl, (mask_le _ _).sqT h1, by rw [h2.length]; exact hn, B, ow, s, w, _, s', m, h2, e, k⟩
      · cases e
    · cases e⟩
end
/-! ## list comprehensions -/
theorem wipe_get {vs : List Nat} : ∀ {σ : L2.St} {j : Nat}, (wipe σ vs)[j]? = if j ∈ vs ∧ j < σ.length then some none else σ[j]? := by
  induction vs with
  | nil => intro σ j; simp [wipe]
  | cons v vs ih =>
    intro σ j
    show ((wipe σ vs).set v none)[j]? = _
    by_cases hv : v = j
    · subst hv
      by_cases hl : v < σ.length
      · rw [List.getElem?_set_self (by rw [wipe_length]; exact hl), if_pos ⟨by simp, hl⟩]
      · rw [List.getElem?_eq_none (by simp [wipe_length]; omega), if_neg fun z => hl z.2, List.getElem?_eq_none (by omega)]
    · rw [List.getElem?_set_ne hv, ih]
      by_cases hm : j ∈ vs ∧ j < σ.length
      · rw [if_pos hm, if_pos ⟨List.mem_cons_of_mem _ hm.1, hm.2⟩]
      · rw [if_neg hm, if_neg fun z => hm ⟨by
          rcases List.mem_cons.mp z.1 with e | e
          · exact absurd e.symm hv
          · exact e, z.2⟩]
theorem wipe_ext {vs : List Nat} {σ σ' : L2.St} (hl : σ.length = σ'.length) (h : ∀ j, j ∉ vs → σ[j]? = σ'[j]?) : wipe σ vs = wipe σ' vs := by
  apply List.ext_getElem?
  intro j
  rw [wipe_get, wipe_get, hl]
  by_cases hj : j ∈ vs
  · by_cases hl2 : j < σ'.length
    · rw [if_pos ⟨hj, hl2⟩, if_pos ⟨hj, hl2⟩]
    · rw [if_neg fun z => hl2 z.2, if_neg fun z => hl2 z.2, List.getElem?_eq_none (by omega), List.getElem?_eq_none (by omega)]
  · rw [if_neg fun z => hj z.1, if_neg fun z => hj z.1, h j hj]
/-- the slots of vs hold nothing -/
def bare (vs : List Nat) (s : S) : Bool := vs.all fun i => match s[i]? with
  | some .e => true
  | none => true
  | _ => false
theorem Sim.wipe {K : PySem.W.Frag} {B : Bs} {ow : Ow} {s : S} {w : W} {σ : L2.St} {H : Hp} {vs : List Nat} (m : Sim K B ow s w σ H) (hb : bare vs s = true) : Sim K B ow s w (wipe σ vs) H where
  keep := m.keep
  live := m.live
  pO := m.pO
  len := by rw [wipe_length]; exact m.len
  slot := fun j x e => by
    have q := m.slot j x e
    have hj : x ≠ .e → j ∉ vs := fun hx hm => by
      have := List.all_eq_true.mp hb j hm
      rw [e] at this
      cases x with
      | e => exact hx rfl
      | v d => cases this
      | o xs => cases this
    cases x with
    | e => exact q
    | v d => obtain ⟨q1, u, q2, q3⟩ := q; exact ⟨q1, u, by rw [wipe_get, if_neg fun z => hj (by simp) z.1]; exact q2, q3⟩
    | o xs => obtain ⟨p, us, q1, q2, q3, q4⟩ := q; exact ⟨p, us, q1, by rw [wipe_get, if_neg fun z => hj (by simp) z.1]; exact q2, q3, q4⟩
  out := m.out
  own := m.own
  inj := m.inj
  pot := m.pot
def compL (b : D → S → Option S) (fc fe : S → W → R D) (s : S) : List D → W → R (List D)
  | [], w => .ok [] w
  | d :: ds, w => match b d s with
    | none => .no
    | some s' => bnd (fc s' w) fun c w1 => match c with
      | .bl true => bnd (fe s' w1) fun x w2 => bnd (compL b fc fe s ds w2) fun xs w3 => .ok (x :: xs) w3
      | .bl false => compL b fc fe s ds w1
      | _ => .no
def fComp (vs : List Nat) (fi : S → W → R (List D)) (b : D → S → Option S) (fc fe : S → W → R D) : S → W → R (List D) := fun s w =>
  if bare vs s = true then bnd (fi s w) fun ds w1 => if ds.length < sizeLine then compL b fc fe s ds w1 else .no else .no
/-- a new list: its own address, its items, which do not hang on it -/
def trF (K : PySem.W.Frag) (f : S → W → R (List D)) : TE := fun σ H Q => ∃ (B : Bs) (ow : Ow) (s : S) (w : W) (ds : List D) (w' : W),
  Sim K B ow s w σ H ∧ f s w = .ok ds w' ∧ ∀ p vs H', Post B.po w' H H' → H p = none → H' p = some (.lst vs) → DnAll K B.po (mask (fun a => hid B ow a ∨ a = p) H') vs ds → Q (.ref p) H'
structure QF (X : Cx) (e : Expr) (f : S → W → R (List D)) : Prop where
  pe : PE X e (trF X.K f)
def fL (f : S → W → R (List D)) : S → W → R D := fun s w => bnd (f s w) fun ds w1 => .ok (.lst ds) w1
theorem QF.qe {X : Cx} {e : Expr} {f : S → W → R (List D)} (h : QF X e f) {z : Bool} : QE X z e (fL f) := ⟨PE.imp h.pe fun σ H Q ⟨B, ow, s, w, d, w', m, e, k⟩ => by
  obtain ⟨ds, w1, e1, e⟩ := bnd_inv e
  cases e
  refine ⟨B, ow, s, w, ds, _, m, e1, fun p vs H' p1 hp h1 h2 => k _ H' p1 (Vw.dn (.lst (mask_some h1 fun z => hid_live m p z hp) (h2.mono (mask_mono fun a o e n => ⟨e, fun z => n (.inl z)⟩))))⟩⟩
theorem compL_len {b : D → S → Option S} {fc fe : S → W → R D} {s : S} : ∀ {ds : List D} {w w' : W} {out : List D}, compL b fc fe s ds w = .ok out w' → out.length ≤ ds.length
  | [], _, _, _, h => by cases h; exact Nat.le_refl _
  | d :: ds, w, w', out, h => by
    unfold compL at h
    split at h
    · cases h
    · obtain ⟨c, w1, e1, h⟩ := bnd_inv h
      split at h
      · obtain ⟨x, w2, e2, h⟩ := bnd_inv h
        obtain ⟨xs, w3, e3, h⟩ := bnd_inv h
        cases h
        exact Nat.succ_le_succ (compL_len e3)
      · exact Nat.le_succ_of_le (compL_len h)
      · cases h
/-- the def's state within a comprehension's turn: the new list is hidden -/
theorem Sim.within {K : PySem.W.Frag} {B : Bs} {ow : Ow} {s : S} {w w1 : W} {σ : L2.St} {H H1 : Hp} {L : Addr} {o : HO} (m : Sim K B ow s w σ H) (p : Post B.po w1 H H1) (hL : H L = none) (hL1 : H1 L = some o) :
    Sim K ⟨mask (fun a => ∃ i, ow i = some a) H1, fun a => B.O a ∨ a = L, B.po⟩ ow s w1 σ H1 := by
  have m1 := m.post p
  have hl := hid_live m
  have hl1 := hid_live m1
  have nL : ∀ a, hid B ow a → a ≠ L := fun a h e => hl a h (e ▸ hL)
  have le : Le (Mk B ow H) (Mk ⟨mask (fun a => ∃ i, ow i = some a) H1, fun a => B.O a ∨ a = L, B.po⟩ ow H1) := mask_mono fun a o e n => by
    have hp : B.po ≠ some a := fun z => n (.inr z)
    refine ⟨p.keep a o e hp, ?_⟩
    rintro ((( z | z) | z) | z)
    · exact n (.inl (.inl z))
    · subst z; rw [hL] at e; cases e
    · exact n (.inl (.inr z))
    · exact n (.inr z)
  constructor
  · exact fun a o e _ => (mask_inv (P := fun a => ∃ i, ow i = some a) (H := H1) e).1
  · rintro a (h | rfl)
    · have := hl1 a (.inl (.inl h))
      intro z
      cases q : H1 a with
      | none => exact this q
      | some u =>
        have := mask_some (P := fun a => ∃ i, ow i = some a) q (by rintro ⟨i, hi⟩; exact (m.own i a hi).2.1 h)
        cases this.symm.trans z
    · intro z
      have := mask_some (P := fun a => ∃ i, ow i = some a) hL1 (by rintro ⟨i, hi⟩; exact nL _ (.inl (.inr ⟨i, hi⟩)) rfl)
      cases this.symm.trans z
  · intro a ha
    refine ⟨?_, ?_, (m1.pO a ha).2.2⟩
    · rintro (h | rfl)
      · exact (m.pO a ha).1 h
      · exact nL _ (.inr ha) rfl
    · intro z
      cases q : H1 a with
      | none => exact (m1.pO a ha).2.2 q
      | some u =>
        have := mask_some (P := fun a => ∃ i, ow i = some a) q (by rintro ⟨i, hi⟩; exact (m.own i a hi).2.2 ha)
        cases this.symm.trans z
  · exact m.len
  · intro i x e
    have q := m.slot i x e
    cases x with
    | e => exact q
    | v d => obtain ⟨q1, u, q2, q3⟩ := q; exact ⟨q1, u, q2, q3.mono le⟩
    | o xs => obtain ⟨a, us, q1, q2, q3, q4⟩ := q; exact ⟨a, us, q1, q2, p.keep a _ q3 (m.own i a q1).2.2, q4.mono le⟩
  · exact m.out
  · intro i a e
    refine ⟨?_, ?_, (m.own i a e).2.2⟩
    · show mask (fun a => ∃ i, ow i = some a) H1 a = none
      unfold mask; exact if_pos ⟨i, e⟩
    · rintro (h | rfl)
      · exact (m.own i a e).2.1 h
      · exact nL _ (.inl (.inr ⟨i, e⟩)) rfl
  · exact m.inj
  · exact p.pot
end Rf
namespace Rf
open PySem L2 PySem.Spec PyProof.Rows
structure QTs (X : Cx) (ifs : List Expr) (f : S → W → R D) : Prop where
  pts : PTs X ifs (trB X.K f)
theorem PTs.imp {X : Cx} {ifs : List Expr} {t t' : TT} (h : PTs X ifs t) (i : ∀ σ H Q, t' σ H Q → t σ H Q) : PTs X ifs t' := ⟨fun pins s σ H Q I hw => h.run pins s σ H Q I (i _ _ _ hw)⟩
def fYes : S → W → R D := fun _ w => .ok (.bl true) w
theorem qts_nil {X : Cx} : QTs X [] fYes := ⟨PTs.imp pts_nil fun σ H Q ⟨B, ow, s, w, d, w', m, e, k⟩ => by cases e; exact k H m.here⟩
theorem qts_one {X : Cx} {c : Expr} {f : S → W → R D} (h : QT X c f) : QTs X [c] f := ⟨pts_one h.pt⟩
theorem comp_tr {K : PySem.W.Frag} {σ : L2.St} {H : Hp} {Q : VK} {vs us : List Nat} {fi : S → W → R (List D)} {b : D → S → Option S} {fc fe : S → W → R D} (hus : ∀ j ∈ us, j ∈ vs)
    (t : trF K (fComp vs fi b fc fe) σ H Q) : tLc (trI K false fi) (trG K us b) (trB K fc) (trE K false fe) vs σ H Q := by
  obtain ⟨B, ow, s, w, out, w', m, e, k⟩ := t
  unfold fComp at e
  split at e
  rotate_left
  · cases e
  rename_i hbare
  obtain ⟨ds, w1, e1, e⟩ := bnd_inv e
  split at e
  rotate_left
  · cases e
  rename_i hsz
  refine ⟨B, ow, s, w, ds, w1, m, e1, fun J H1 p1 hJ L hL => ?_⟩
  obtain ⟨G, Y, wk, g1, stab, yl⟩ := hJ
  have m1 := m.post p1
  have hl1 := hid_live m1
  have nL : ∀ a, hid B ow a → a ≠ L := fun a h z => hl1 a h (z ▸ hL)
  have hLs : H L = none := by
    cases q : H L with
    | none => rfl
    | some o => exact absurd hL (p1.there L (by rw [q]; simp))
  -- the word of the turns
  refine lc_it wk (fun i H2 => ∃ acc wi accD rest, H2 L = some (.lst acc) ∧ Post B.po wi H1 H2 ∧ DnAll K B.po (mask (fun a => hid B ow a ∨ a = L) H2) acc accD ∧
    compL b fc fe s (ds.drop i) wi = .ok rest w' ∧ accD ++ rest = out ∧ accD.length ≤ i) ⟨[], w1, [], out, upd_same, Post.le p1.pot (Le.new hL), .nil, by simpa using e, rfl, Nat.zero_le _⟩ ?_ ?_ ?_
  · rintro i H2 hi ⟨acc, wi, accD, rest, h1, h2, h3, h4, h5⟩
    exact stab wi H2 h2
  · rintro i v H2 H3 hi ⟨acc, wi, accD, rest, h1, h2, h3, h4, h5, h6⟩ hy
    have ow1 : ∃ ow1 : Ow, ∀ a, hid B ow1 a ↔ (hid B ow a ∨ a = L) := by
      refine ⟨fun j => if j = s.length then some L else ow j, fun a => ⟨?_, ?_⟩⟩
      · rintro ((z | ⟨j, z⟩) | z)
        · exact .inl (.inl (.inl z))
        · have z : (if j = s.length then some L else ow j) = some a := z
          split at z
          · cases z; exact .inr rfl
          · exact .inl (.inl (.inr ⟨j, z⟩))
        · exact .inl (.inr z)
      · rintro (((z | ⟨j, z⟩) | z) | z)
        · exact .inl (.inl z)
        · refine .inl (.inr ⟨j, ?_⟩)
          have : j ≠ s.length := fun q => by rw [q, m.out s.length (by simp)] at z; cases z
          exact (if_neg this).trans z
        · exact .inr z
        · exact .inl (.inr ⟨s.length, (if_pos rfl).trans (by rw [z])⟩)
    obtain ⟨ow1, how⟩ := ow1
    have hm1 : ∀ H', Le (Mk B ow1 H') (mask (fun a => hid B ow a ∨ a = L) H') ∧ Le (mask (fun a => hid B ow a ∨ a = L) H') (Mk B ow1 H') := fun H' =>
      ⟨mask_mono fun a o e n => ⟨e, fun z => n ((how a).mpr z)⟩, mask_mono fun a o e n => ⟨e, fun z => n ((how a).mp z)⟩⟩
    have le12 : Le (Mk B ow H1) (Mk B ow1 H2) := mask_mono fun a o e n => ⟨h2.keep a o e fun z => n (.inr z), fun z => by
      rcases (how a).mp z with z | z
      · exact n z
      · rw [z, hL] at e; cases e⟩
    obtain ⟨le23, d, hd, hv⟩ := yl i H2 v H3 ow1 le12 (fun c hc => by
      rcases (how c).mp hc with z | z
      · exact hid_live (m1.post h2) c z
      · rw [z, h1]; simp) (stab wi H2 h2) hi hy
    have p3 : Post B.po wi H1 H3 := h2.trans (Post.le h2.pot le23)
    have hL3 : H3 L = some (.lst acc) := le23 _ _ h1
    -- the turn's state
    have mw := (m1.within (w1 := wi) p3 hL hL3)
    generalize hB2 : (⟨mask (fun a => ∃ i, ow i = some a) H3, fun a => B.O a ∨ a = L, B.po⟩ : Bs) = B2 at mw
    have hpo : B2.po = B.po := by rw [← hB2]
    have hmk : ∀ a, hid B2 ow a ↔ (hid B ow a ∨ a = L) := by
      intro a; rw [← hB2]
      constructor
      · rintro (((z | z) | z) | z)
        · exact .inl (.inl (.inl z))
        · exact .inr z
        · exact .inl (.inl (.inr z))
        · exact .inl (.inr z)
      · rintro (((z | z) | z) | z)
        · exact .inl (.inl (.inl z))
        · exact .inl (.inr z)
        · exact .inr z
        · exact .inl (.inl (.inr z))
    have toB : ∀ H', Le (Mk B2 ow H') (mask (fun a => hid B ow a ∨ a = L) H') := fun H' => mask_mono fun a o e n => ⟨e, fun z => n ((hmk a).mpr z)⟩
    have ofB : ∀ H', Le (mask (fun a => hid B ow a ∨ a = L) H') (Mk B2 ow H') := fun H' => mask_mono fun a o e n => ⟨e, fun z => n ((hmk a).mp z)⟩
    rw [List.drop_eq_getElem_cons hi] at h4
    have hd' : ds[i] = d := by rw [List.getElem?_eq_getElem hi] at hd; exact Option.some.inj hd
    rw [hd'] at h4
    unfold compL at h4
    cases hb : b d s with
    | none => rw [hb] at h4; cases h4
    | some s' =>
      rw [hb] at h4
      obtain ⟨c, w2, e2, h4⟩ := bnd_inv h4
      have hbow : ∀ j ∈ vs, ow j = none := fun j hj => by
        have := List.all_eq_true.mp hbare j hj
        cases q : s[j]? with
        | none => exact m.out j q
        | some x =>
          rw [q] at this
          cases x with
          | e => exact m.slot j _ q
          | v _ => cases this
          | o _ => cases this
      refine ⟨B2, ow, s, wi, d, s', mw.wipe hbare, by rw [hpo]; exact (hv.mono ((hm1 H3).1.trans (ofB H3))), hb, fun ow2 σ2 le2 m2 l2 q2 => ⟨?_, ?_⟩⟩
      · refine wipe_ext (by rw [l2, wipe_length]) fun j hj => ?_
        rw [(q2 j fun z => hj (hus j z)).1, wipe_get, if_neg fun z => hj z.1]
      · have back : ∀ H', Le (Mk B2 ow2 H') (mask (fun a => hid B ow a ∨ a = L) H') := fun H' => mask_mono fun a o e n => ⟨e, fun z => n (by
          rcases (hmk a).mpr z with (z | ⟨j, z⟩) | z
          · exact .inl (.inl z)
          · refine .inl (.inr ⟨j, ?_⟩)
            have hj : j ∉ us := fun hj => by rw [hbow j (hus j hj)] at z; cases z
            rw [(q2 j hj).2]; exact z
          · exact .inr z)⟩
        refine ⟨B2, ow2, s', wi, (match c with | .bl b => b | _ => false), w2, m2, ?_, fun H4 p4 => ?_⟩
        · cases c with
          | bl _ => exact e2
          | _ => cases h4
        have p4' : Post B.po w2 H3 H4 := by rw [← hpo]; exact p4
        have nP : B.po ≠ some L := fun z => nL L (.inr z) rfl
        have hL4 : H4 L = some (.lst acc) := p4'.keep L _ hL3 nP
        have mono34 : Le (mask (fun a => hid B ow a ∨ a = L) H2) (mask (fun a => hid B ow a ∨ a = L) H4) := mask_mono fun a o e n => ⟨p4'.keep a o (le23 a o e) fun z => n (.inl (.inr z)), n⟩
        cases c with
        | bl c =>
          cases c with
          | false =>
            refine iteF ⟨acc, w2, accD, rest, hL4, p3.trans p4', h3.mono mono34, h4, h5, Nat.le_succ_of_le h6⟩
          | true =>
            obtain ⟨y, w3, e3, h4⟩ := bnd_inv h4
            obtain ⟨ys, w4, e4, h4⟩ := bnd_inv h4
            cases h4
            refine iteT ⟨B2, ow2, s', w2, y, w3, m2.post p4, e3, fun yv H5 p5 h5v => ?_⟩
            have p5' : Post B.po w3 H4 H5 := by rw [← hpo]; exact p5
            have hL5 : H5 L = some (.lst acc) := p5'.keep L _ hL4 nP
            have lenA : acc.length = accD.length := h3.length
            have hyv : Dn K B.po (mask (fun a => hid B ow a ∨ a = L) H5) yv y := by
              have := Dn.mono (back H5) h5v
              rwa [hpo] at this
            have mono45 : Le (mask (fun a => hid B ow a ∨ a = L) H4) (mask (fun a => hid B ow a ∨ a = L) H5) := mask_mono fun a o e n => ⟨p5'.keep a o e fun z => n (.inl (.inr z)), n⟩
            have mono56 : Le (mask (fun a => hid B ow a ∨ a = L) H5) (mask (fun a => hid B ow a ∨ a = L) (upd H5 L (.lst (acc ++ [yv])))) := mask_mono fun a o e n => ⟨by rw [upd_ne fun z => n (.inr z)]; exact e, n⟩
            refine ⟨acc, hL5, by omega, acc ++ [yv], w3, accD ++ [y], ys, upd_same, ?_, ?_, e4, by rw [List.append_assoc]; exact h5, by simp; omega⟩
            · have q := (p3.trans p4').trans p5'
              refine ⟨fun a o e n => ?_, fun a h => ?_, ?_⟩
              · rw [upd_ne fun z => by rw [z, hL] at e; cases e]; exact q.keep a o e n
              · by_cases z : a = L
                · rw [z, upd_same]; simp
                · rw [upd_ne z]; exact q.there a h
              · have qp := q.pot
                cases w3 with
                | none => trivial
                | some ns =>
                  obtain ⟨a, a1, a2⟩ := qp
                  exact ⟨a, a1, (upd_ne (fun z => nP (by rw [← z]; exact a1))).trans a2⟩
            · exact (((h3.mono mono34).mono mono45).mono mono56).append (.cons (hyv.mono mono56) .nil)
        | _ => cases h4
  · rintro H2 ⟨acc, wi, accD, rest, h1, h2, h3, h4, h5, h6⟩
    rw [List.drop_length] at h4
    cases h4
    have h5 : accD = out := by simpa using h5
    subst h5
    exact k L acc H2 (p1.trans h2) hLs h1 h3
theorem qf_comp {X : Cx} {elt tg iter : Expr} {ifs : List Expr} {scope : Scope} {own : List (Str × Nat)} {pos : Pos} {us : List Nat} {fi : S → W → R (List D)} {b : D → S → Option S} {fc fe : S → W → R D}
    (hc : X.calm = true) (hN : X.N.Nodup) (hi : QI X false tg iter fi) (ok : BlkOk X.N X.env.scope scope own) (hus : ∀ j ∈ us, j ∈ own.map (·.2))
    (hg : ∀ (s : Shared) (H : Hp) (C : Addr) (cl : List (Str × Addr)) (fp : List Addr), QG (X.blk s H scope (compEnvC scope cl C X.env) fp) us tg b)
    (ht : ∀ (s : Shared) (H : Hp) (C : Addr) (cl : List (Str × Addr)) (fp : List Addr), QTs (X.blk s H scope (compEnvC scope cl C X.env) fp) ifs fc)
    (he : ∀ (s : Shared) (H : Hp) (C : Addr) (cl : List (Str × Addr)) (fp : List Addr), QE (X.blk s H scope (compEnvC scope cl C X.env) fp) false elt fe)
    (hs : ∀ x, foldedSetIterable iter X.env x = pure x) : QF X (.ListComp elt [⟨tg, iter, ifs, 0⟩] scope pos) (fComp (own.map (·.2)) fi b fc fe) :=
  ⟨PE.imp (pe_lc hc hN hi.pi ok (fun s H C cl fp => (hg s H C cl fp).pg) (fun s H C cl fp => (ht s H C cl fp).pts) (fun s H C cl fp => (he s H C cl fp).pe) hs) fun _ _ _ t => comp_tr hus t⟩
end Rf
namespace Rf
open PySem L2 PySem.Spec PyProof.Rows
/-! ## statements -/
inductive Fl where
  | nx (s : S) | bk (s : S) | ct (s : S) | rt (d : D)
def EndsOk (K : PySem.W.Frag) (B : Bs) (ow : Ow) (H : Hp) (E : Ends) (w' : W) : Fl → Prop
  | .nx s' => ∀ ow' σ' H', Le (Mk B ow H) (Mk B ow' H') → Sim K B ow' s' w' σ' H' → E.nx σ' H'
  | .bk s' => ∀ ow' σ' H', Le (Mk B ow H) (Mk B ow' H') → Sim K B ow' s' w' σ' H' → E.bk σ' H'
  | .ct s' => ∀ ow' σ' H', Le (Mk B ow H) (Mk B ow' H') → Sim K B ow' s' w' σ' H' → E.ct σ' H'
  | .rt d => ∀ v ow' s' σ' H', Le (Mk B ow H) (Mk B ow' H') → Sim K B ow' s' w' σ' H' → Dn K B.po (Mk B ow' H') v d → E.rt v H'
theorem EndsOk.le {K : PySem.W.Frag} {B : Bs} {ow ow1 : Ow} {H H1 : Hp} {E : Ends} {w' : W} {fl : Fl} (h : EndsOk K B ow H E w' fl) (l : Le (Mk B ow H) (Mk B ow1 H1)) : EndsOk K B ow1 H1 E w' fl := by
  cases fl with
  | nx s => exact fun ow' σ' H' l' => h ow' σ' H' (l.trans l')
  | bk s => exact fun ow' σ' H' l' => h ow' σ' H' (l.trans l')
  | ct s => exact fun ow' σ' H' l' => h ow' σ' H' (l.trans l')
  | rt d => exact fun v ow' s' σ' H' l' => h v ow' s' σ' H' (l.trans l')
def trS (K : PySem.W.Frag) (g : S → W → R Fl) : TS := fun E σ H => ∃ (B : Bs) (ow : Ow) (s : S) (w : W) (fl : Fl) (w' : W), Sim K B ow s w σ H ∧ g s w = .ok fl w' ∧ EndsOk K B ow H E w' fl
structure QS (X : Cx) (st : Stmt) (g : S → W → R Fl) : Prop where
  ps : PS X st (trS X.K g)
structure QSs (X : Cx) (st : List Stmt) (g : S → W → R Fl) : Prop where
  pss : PSs X st (trS X.K g)
section
variable {X : Cx} {st : Stmt} {sts : List Stmt} {g h : S → W → R Fl} {f : S → W → R D} {e : Expr} {pos : Pos} {x : Bool}
theorem PS.imp {t t' : TS} (h : PS X st t) (i : ∀ E σ H, t' E σ H → t E σ H) : PS X st t' := ⟨fun pins s σ H E I hw => h.run pins s σ H E I (i _ _ _ hw)⟩
theorem PSs.imp {t t' : TS} (h : PSs X sts t) (i : ∀ E σ H, t' E σ H → t E σ H) : PSs X sts t' := ⟨fun pins s σ H E I hw => h.run pins s σ H E I (i _ _ _ hw)⟩
def fSkip : S → W → R Fl := fun s w => .ok (.nx s) w
def fSeq (g h : S → W → R Fl) : S → W → R Fl := fun s w => bnd (g s w) fun fl w1 => match fl with
  | .nx s1 => h s1 w1
  | .bk s1 => .ok (.bk s1) w1
  | .ct s1 => .ok (.ct s1) w1
  | .rt d => .ok (.rt d) w1
theorem qss_nil : QSs X [] fSkip := ⟨PSs.imp pss_nil fun E σ H ⟨B, ow, s, w, fl, w', m, e, k⟩ => by cases e; exact k ow σ H (Le.refl _) m⟩
theorem seq_tr {K : PySem.W.Frag} {E : Ends} {σ : L2.St} {H : Hp} (t : trS K (fSeq g h) E σ H) : tSeq (trS K g) (trS K h) E σ H := by
  obtain ⟨B, ow, s, w, fl, w', m, e, k⟩ := t
  obtain ⟨f1, w1, e1, e⟩ := bnd_inv e
  refine ⟨B, ow, s, w, f1, w1, m, e1, ?_⟩
  cases f1 with
  | nx s1 => exact fun ow' σ' H' l m' => ⟨B, ow', s1, w1, fl, w', m', e, k.le l⟩
  | bk s1 => cases e; exact k
  | ct s1 => cases e; exact k
  | rt d => cases e; exact k
theorem qss_cons (h1 : QS X st g) (h2 : QSs X sts h) : QSs X (st :: sts) (fSeq g h) := ⟨PSs.imp (pss_cons h1.ps h2.pss) fun _ _ _ t => seq_tr t⟩
theorem qs_pass : QS X (.Pass pos) fSkip := ⟨PS.imp ps_pass fun E σ H ⟨B, ow, s, w, fl, w', m, e, k⟩ => by cases e; exact k ow σ H (Le.refl _) m⟩
theorem qs_break : QS X (.Break pos) (fun s w => .ok (.bk s) w) := ⟨PS.imp ps_break fun E σ H ⟨B, ow, s, w, fl, w', m, e, k⟩ => by cases e; exact k ow σ H (Le.refl _) m⟩
theorem qs_cont : QS X (.Continue pos) (fun s w => .ok (.ct s) w) := ⟨PS.imp ps_continue fun E σ H ⟨B, ow, s, w, fl, w', m, e, k⟩ => by cases e; exact k ow σ H (Le.refl _) m⟩
/-- a statement that is not reached -/
theorem qs_never : QS X st (fun _ _ => .no) := ⟨PS.imp ps_never fun E σ H ⟨B, ow, s, w, fl, w', m, e, k⟩ => by cases e⟩
theorem qs_ret (he : QE X false e f) : QS X (.Return (some e) pos) (fun s w => bnd (f s w) fun d w1 => .ok (.rt d) w1) := ⟨PS.imp (ps_ret he.pe) fun E σ H ⟨B, ow, s, w, fl, w', m, e, k⟩ => by
    obtain ⟨d, w1, e1, e⟩ := bnd_inv e
    cases e
    exact ⟨B, ow, s, w, d, _, m, e1, fun v H1 p1 h1 => k v ow s σ H1 p1.msk (m.post p1) h1⟩⟩
theorem qs_retN : QS X (.Return none pos) (fun s w => .ok (.rt .non) w) := ⟨PS.imp ps_retN fun E σ H ⟨B, ow, s, w, fl, w', m, e, k⟩ => by cases e; exact k _ ow s σ H (Le.refl _) m .non⟩
def fIfS (f : S → W → R D) (g h : S → W → R Fl) : S → W → R Fl := fun s w => bnd (f s w) fun c w1 => match c with
  | .bl true => g s w1
  | .bl false => h s w1
  | _ => .no
theorem qs_if {a b : List Stmt} (hc : QT X e f) (ha : QSs X a g) (hb : QSs X b h) : QS X (.If e a b pos) (fIfS f g h) := ⟨PS.imp (ps_if hc.pt ha.pss hb.pss) fun E σ H ⟨B, ow, s, w, fl, w', m, e, k⟩ => by
    obtain ⟨c, w1, e1, e⟩ := bnd_inv e
    cases c with
    | bl c =>
      cases c with
      | true => exact ⟨B, ow, s, w, true, w1, m, e1, fun H1 p1 => iteT (⟨B, ow, s, w1, fl, w', m.post p1, e, k.le p1.msk⟩)⟩
      | false => exact ⟨B, ow, s, w, false, w1, m, e1, fun H1 p1 => iteF (⟨B, ow, s, w1, fl, w', m.post p1, e, k.le p1.msk⟩)⟩
    | _ => cases e⟩
def fAsg (f : S → W → R D) (b : D → S → Option S) : S → W → R Fl := fun s w => bnd (f s w) fun d w1 => match b d s with
  | some s' => .ok (.nx s') w1
  | none => .no
theorem asg_tr {K : PySem.W.Frag} {vs : List Nat} {b : D → S → Option S} {E : Ends} {σ : L2.St} {H : Hp} (t : trS K (fAsg f b) E σ H) : tAsg (trE K false f) (trG K vs b) E σ H := by
  obtain ⟨B, ow, s, w, fl, w', m, e, k⟩ := t
  obtain ⟨d, w1, e1, e⟩ := bnd_inv e
  split at e
  · rename_i s' hs
    cases e
    exact ⟨B, ow, s, w, d, _, m, e1, fun v H1 p1 h1 => ⟨B, ow, s, _, d, s', m.post p1, h1, hs, fun ow' σ' l m' _ _ => k ow' σ' H1 (p1.msk.trans l) m'⟩⟩
  · cases e
theorem qs_set {i : Nat} {n : Str} {p : Pos} (hN : X.N.Nodup) (hi : X.N[i]? = some n) (hx : Loc X.env.scope n) (he : QE X false e f) (hs : swapsWith e (some (.Name n p)) pos.line X.env = pure false) (hf : X.fn n = true ∨ X.env.scope.names.lookup n = some .local) :
    QS X (.Assign [.Name n p] e pos) (fAsg f (bName i)) := ⟨PS.imp (ps_set hN hi hx he.pe hs hf) fun E σ H t => by
      obtain ⟨B, ow, s, w, fl, w', m, e, k⟩ := t
      obtain ⟨d, w1, e1, e⟩ := bnd_inv e
      cases e
      exact ⟨B, ow, s, w, d, _, m, e1, fun v H1 p1 h1 => k (ow.del i) _ H1 (p1.msk.trans Ow.del_le) ((m.post p1).put h1)⟩⟩
theorem qs_asg {tg : Expr} {vs : List Nat} {b : D → S → Option S} (he : QE X false e f) (hg : QG X vs tg b) (hs : swapsWithSole [tg] e pos.line X.env = pure false) (hw : swappedStores [tg] e X.env = pure none) (h1 : (assignEach [tg] X.env).map (·.2) = [assign tg X.env]) :
    QS X (.Assign [tg] e pos) (fAsg f b) := ⟨PS.imp (ps_asg he.pe hg.pg hs hw h1) fun _ _ _ t => asg_tr t⟩
def fExp (f : S → W → R D) : S → W → R Fl := fun s w => bnd (f s w) fun _ w1 => .ok (.nx s) w1
theorem qs_exp (he : QE X false e f) (hs : swapsWith e none pos.line X.env = pure false) : QS X (.Expr e pos) (fExp f) := ⟨PS.imp (ps_expr he.pe hs) fun E σ H ⟨B, ow, s, w, fl, w', m, e, k⟩ => by
    obtain ⟨d, w1, e1, e⟩ := bnd_inv e
    cases e
    exact ⟨B, ow, s, w, d, w', m, e1, fun v H1 p1 h1 => k ow σ H1 p1.msk (m.post p1)⟩⟩
/-! ### loops -/
def whileL (fc : S → W → R D) (fb : S → W → R Fl) : Nat → S → W → R Fl
  | 0, _, _ => .no
  | n + 1, s, w => bnd (fc s w) fun c w1 => match c with
    | .bl false => .ok (.nx s) w1
    | .bl true => bnd (fb s w1) fun fl w2 => match fl with
      | .nx s' => whileL fc fb n s' w2
      | .ct s' => whileL fc fb n s' w2
      | .bk s' => .ok (.nx s') w2
      | .rt d => .ok (.rt d) w2
    | _ => .no
def fWhile (n : S → W → Nat) (fc : S → W → R D) (fb : S → W → R Fl) : S → W → R Fl := fun s w => whileL fc fb (n s w) s w
theorem while_tr {K : PySem.W.Frag} {n : S → W → Nat} {fc : S → W → R D} {fb : S → W → R Fl} {E : Ends} {σ : L2.St} {H : Hp} (t : trS K (fWhile n fc fb) E σ H) : tWhile (trB K fc) (trS K fb) E σ H := by
  obtain ⟨B, ow, s, w, fl, w', m, e, k⟩ := t
  refine ⟨fun j σ1 H1 => ∃ ow1 s1 w1, Sim K B ow1 s1 w1 σ1 H1 ∧ Le (Mk B ow H) (Mk B ow1 H1) ∧ whileL fc fb j s1 w1 = .ok fl w', ⟨n s w, ow, s, w, m, Le.refl _, e⟩, ?_⟩
  rintro j σ1 H1 ⟨ow1, s1, w1, m1, l1, e1⟩
  cases j with
  | zero => cases e1
  | succ j =>
    unfold whileL at e1
    obtain ⟨c, w2, e2, e1⟩ := bnd_inv e1
    cases c with
    | bl c =>
      cases c with
      | false =>
        cases e1
        exact ⟨B, ow1, s1, w1, false, _, m1, e2, fun H2 p2 => iteF (k ow1 σ1 H2 (l1.trans p2.msk) (m1.post p2))⟩
      | true =>
        obtain ⟨f3, w3, e3, e1⟩ := bnd_inv e1
        refine ⟨B, ow1, s1, w1, true, w2, m1, e2, fun H2 p2 => iteT ⟨fun σ' H' => ∃ ow1 s1 w1, Sim K B ow1 s1 w1 σ' H' ∧ Le (Mk B ow H) (Mk B ow1 H') ∧ whileL fc fb j s1 w1 = .ok fl w', fun σ' H' q => ⟨j, Nat.lt_succ_self j, q⟩, B, ow1, s1, w2, f3, w3, m1.post p2, e3, ?_⟩⟩
        cases f3 with
        | nx s' => exact fun ow' σ' H' l m' => ⟨ow', s', w3, m', (l1.trans p2.msk).trans l, e1⟩
        | ct s' => exact fun ow' σ' H' l m' => ⟨ow', s', w3, m', (l1.trans p2.msk).trans l, e1⟩
        | bk s' => cases e1; exact fun ow' σ' H' l m' => k ow' σ' H' ((l1.trans p2.msk).trans l) m'
        | rt d => cases e1; exact fun v ow' s' σ' H' l m' hv => k v ow' s' σ' H' ((l1.trans p2.msk).trans l) m' hv
    | _ => cases e1
theorem qs_while {n : S → W → Nat} {fc : S → W → R D} {body : List Stmt} (hp : PassesOwn (model X.prog X.w) X.A X.env X.xe) (hc : QT X e fc) (hb : QSs X body g) : QS X (.While e body [] pos) (fWhile n fc g) := ⟨PS.imp (ps_while hp hc.pt hb.pss) fun _ _ _ t => while_tr t⟩
def forL (b : D → S → Option S) (fb : S → W → R Fl) : List D → S → W → R Fl
  | [], s, w => .ok (.nx s) w
  | d :: ds, s, w => match b d s with
    | none => .no
    | some s1 => bnd (fb s1 w) fun fl w2 => match fl with
      | .nx s' => forL b fb ds s' w2
      | .ct s' => forL b fb ds s' w2
      | .bk s' => .ok (.nx s') w2
      | .rt d => .ok (.rt d) w2
def fFor (fi : S → W → R (List D)) (b : D → S → Option S) (fb : S → W → R Fl) : S → W → R Fl := fun s w => bnd (fi s w) fun ds w1 => forL b fb ds s w1
theorem for_tr {K : PySem.W.Frag} {fi : S → W → R (List D)} {vs : List Nat} {b : D → S → Option S} {fb : S → W → R Fl} {E : Ends} {σ : L2.St} {H : Hp} (t : trS K (fFor fi b fb) E σ H) : tFor (trI K true fi) (trG K vs b) (trS K fb) E σ H := by
  obtain ⟨B, ow, s, w, fl, w', m, e, k⟩ := t
  obtain ⟨ds, w1, e1, e⟩ := bnd_inv e
  refine ⟨B, ow, s, w, ds, w1, m, e1, fun J H1 p1 hJ => ?_⟩
  obtain ⟨G, Y, wk, g1, stab, yl⟩ := hJ
  have m1 := m.post p1
  -- W by the turn: what is left of the data does the rest
  refine ⟨fun i j σ2 H2 => j = ds.length - i ∧ i ≤ ds.length ∧ ∃ ow2 s2 w2, Sim K B ow2 s2 w2 σ2 H2 ∧ Le (Mk B ow H1) (Mk B ow2 H2) ∧ forL b fb (ds.drop i) s2 w2 = .ok fl w', ⟨ds.length, rfl, Nat.zero_le _, ow, s, w1, m1, Le.refl _, by simpa using e⟩, ?_⟩
  rintro i j σ2 H2 ⟨rfl, hi, ow2, s2, w2, m2, l2, e2⟩
  by_cases hlt : i < ds.length
  · rw [List.drop_eq_getElem_cons hlt] at e2
    unfold forL at e2
    split at e2
    · cases e2
    rename_i s3 hb
    obtain ⟨f3, w3, e3, e2⟩ := bnd_inv e2
    have gg := stab ow2 H2 l2
    refine .inr ⟨wk.goes i H2 hlt gg, fun σ' H' => ∃ ow2 s2 w2, Sim K B ow2 s2 w2 σ' H' ∧ Le (Mk B ow H1) (Mk B ow2 H') ∧ forL b fb (ds.drop (i + 1)) s2 w2 = .ok fl w', fun σ' H' q => ⟨ds.length - (i + 1), by omega, rfl, hlt, q⟩, fun v H3 y => ?_⟩
    obtain ⟨le3, d, hd, hv⟩ := yl i H2 v H3 ow2 l2 (hid_live m2) gg hlt (wk.yields i H2 v H3 hlt gg y)
    have hd' : ds[i] = d := by rw [List.getElem?_eq_getElem hlt] at hd; exact Option.some.inj hd
    subst hd'
    have p3 : Post B.po w2 H2 H3 := Post.le m2.pot le3
    refine ⟨B, ow2, s2, w2, _, s3, m2.post p3, hv, hb, fun ow4 σ4 l4 m4 _ _ => ⟨B, ow4, s3, w2, f3, w3, m4, e3, ?_⟩⟩
    have l5 : Le (Mk B ow H1) (Mk B ow4 H3) := (l2.trans p3.msk).trans l4
    cases f3 with
    | nx s' => exact fun ow' σ' H' l m' => ⟨ow', s', w3, m', l5.trans l, e2⟩
    | ct s' => exact fun ow' σ' H' l m' => ⟨ow', s', w3, m', l5.trans l, e2⟩
    | bk s' => cases e2; exact fun ow' σ' H' l m' => k ow' σ' H' ((p1.msk.trans l5).trans l) m'
    | rt d => cases e2; exact fun v ow' s' σ' H' l m' hv => k v ow' s' σ' H' ((p1.msk.trans l5).trans l) m' hv
  · have hi' : i = ds.length := by omega
    subst hi'
    rw [List.drop_length] at e2
    cases e2
    exact .inl ⟨wk.stops H2 (stab ow2 H2 l2), k ow2 σ2 H2 (p1.msk.trans l2) m2⟩
theorem qs_for {tg iter : Expr} {vs : List Nat} {b : D → S → Option S} {fi : S → W → R (List D)} {body : List Stmt} (hp : PassesOwn (model X.prog X.w) X.A X.env X.xe) (hc : X.calm = true) (hi : QI X true tg iter fi) (hg : QG X vs tg b) (hb : QSs X body g)
    (hs : ∀ x, foldedSetIterable iter X.env x = pure x) : QS X (.For tg iter body [] pos) (fFor fi b g) := ⟨PS.imp (ps_for hp hc hi.pi hg.pg hb.pss hs) fun _ _ _ t => for_tr t⟩
end
end Rf
namespace Rf
open PySem L2 PySem.Spec PyProof.Rows
/-! ## the def's own lists -/
theorem upd_at {H : Hp} {p a : Addr} {u o : HO} (e : H a = some o) (n : a ≠ p) : upd H p u a = some o := (upd_ne n).trans e
def Ow.add (ow : Ow) (i : Nat) (p : Addr) : Ow := fun j => if j = i then some p else ow j
theorem Sim.own_new {K : PySem.W.Frag} {B : Bs} {ow : Ow} {s : S} {w w' : W} {σ : L2.St} {H H' : Hp} {i : Nat} {p : Addr} {vs : List V} {ds : List D} (m : Sim K B ow s w σ H) (hi : i < s.length) (pp : Post B.po w' H H') (hp : H p = none) (h1 : H' p = some (.lst vs))
    (h2 : DnAll K B.po (mask (fun a => hid B ow a ∨ a = p) H') vs ds) : Sim K B (ow.add i p) (s.set i (.o ds)) w' (σ.set i (some (.ref p))) H' ∧ Le (Mk B ow H) (Mk B (ow.add i p) H') := by
  have hl := hid_live m
  have np : ∀ a, hid B ow a → a ≠ p := fun a h e => hl a h (e ▸ hp)
  have hidA : ∀ a, hid B (ow.add i p) a → hid B ow a ∨ a = p := by
    rintro a ((z | ⟨j, z⟩) | z)
    · exact .inl (.inl (.inl z))
    · have z : (if j = i then some p else ow j) = some a := z
      split at z
      · cases z; exact .inr rfl
      · exact .inl (.inl (.inr ⟨j, z⟩))
    · exact .inl (.inr z)
  have le : Le (Mk B ow H) (Mk B (ow.add i p) H') := mask_mono fun a o e n => ⟨pp.keep a o e fun z => n (.inr z), fun z => by
    rcases hidA a z with z | z
    · exact n z
    · rw [z, hp] at e; cases e⟩
  have m' := m.post pp
  refine ⟨⟨m'.keep, m.live, m'.pO, by simp [m.len], fun j x e => ?_, fun j e => ?_, fun j a e => ?_, fun j k a e1 e2 => ?_, pp.pot⟩, le⟩
  · by_cases hj : i = j
    · subst hj
      rw [List.getElem?_set_self hi] at e
      cases e
      exact ⟨p, vs, if_pos rfl, List.getElem?_set_self (by rw [m.len]; exact hi), h1, h2.mono (mask_mono fun a o e n => ⟨e, fun z => n (hidA a z)⟩)⟩
    · rw [List.getElem?_set_ne hj] at e
      have ej : ow.add i p j = ow j := if_neg fun z => hj z.symm
      have q := m.slot j x e
      cases x with
      | e => exact ej.trans q
      | v d => obtain ⟨q1, u, q2, q3⟩ := q; exact ⟨ej.trans q1, u, by rw [List.getElem?_set_ne hj]; exact q2, q3.mono le⟩
      | o xs => obtain ⟨a, us, q1, q2, q3, q4⟩ := q; exact ⟨a, us, ej.trans q1, by rw [List.getElem?_set_ne hj]; exact q2, pp.keep a _ q3 (m.own j a q1).2.2, q4.mono le⟩
  · have e' : s[j]? = none := by simpa using e
    have : j ≠ i := fun z => by rw [z, List.getElem?_eq_none_iff] at e'; omega
    exact (if_neg this).trans (m.out j e')
  · have e : (if j = i then some p else ow j) = some a := e
    split at e
    · cases e
      refine ⟨?_, fun z => ?_, fun z => ?_⟩
      · cases q : B.H0 p with
        | none => rfl
        | some o =>
          by_cases z : B.po = some p
          · exact absurd hp (m.pO p z).2.2
          · rw [m.keep p o q z] at hp; cases hp
      · exact np p (.inl (.inl z)) rfl
      · exact np p (.inr z) rfl
    · exact m.own j a e
  · have e1 : (if j = i then some p else ow j) = some a := e1
    have e2 : (if k = i then some p else ow k) = some a := e2
    split at e1
    · split at e2
      · rename_i h1 h2; rw [h1, h2]
      · cases e1; exact absurd rfl (np p (.inl (.inr ⟨k, e2⟩)))
    · split at e2
      · cases e2; exact absurd rfl (np p (.inl (.inr ⟨j, e1⟩)))
      · exact m.inj j k a e1 e2
theorem Sim.mut {K : PySem.W.Frag} {B : Bs} {ow : Ow} {s : S} {w : W} {σ : L2.St} {H : Hp} {i : Nat} {p : Addr} {vs' : List V} {xs xs' : List D} (m : Sim K B ow s w σ H) (hs : s[i]? = some (.o xs)) (ho : ow i = some p)
    (h2 : DnAll K B.po (Mk B ow H) vs' xs') : Sim K B ow (s.set i (.o xs')) w σ (upd H p (.lst vs')) ∧ Le (Mk B ow H) (Mk B ow (upd H p (.lst vs'))) := by
  obtain ⟨p', us, q1, q2, q3, q4⟩ := m.slot i _ hs
  rw [ho] at q1; cases q1
  have hi : i < s.length := (List.getElem?_eq_some_iff.mp hs).1
  have le : Le (Mk B ow H) (Mk B ow (upd H p (.lst vs'))) := mask_mono fun a o e n => ⟨upd_at e fun z => n (by rw [z]; exact .inl (.inr ⟨i, ho⟩)), n⟩
  have hne := m.own i p ho
  refine ⟨⟨fun a o e n => ?_, m.live, fun a e => ⟨(m.pO a e).1, (m.pO a e).2.1, ?_⟩, by simp [m.len], fun j x e => ?_, fun j e => m.out j (by simpa using e), m.own, m.inj, ?_⟩, le⟩
  · exact upd_at (m.keep a o e n) fun z => by rw [z, hne.1] at e; cases e
  · intro z
    have hz : a ≠ p := fun q => hne.2.2 (by rw [← q]; exact e)
    exact (m.pO a e).2.2 ((upd_ne hz).symm.trans z)
  · by_cases hj : i = j
    · subst hj
      rw [List.getElem?_set_self hi] at e
      cases e
      exact ⟨p, vs', ho, q2, upd_same, h2.mono le⟩
    · rw [List.getElem?_set_ne hj] at e
      have q := m.slot j x e
      cases x with
      | e => exact q
      | v d => obtain ⟨q1, u, q2, q3⟩ := q; exact ⟨q1, u, q2, q3.mono le⟩
      | o ys => obtain ⟨a, ws, q1, q2, q3, q4⟩ := q; exact ⟨a, ws, q1, q2, upd_at q3 fun z => hj (m.inj i j p ho (by rw [← z]; exact q1)), q4.mono le⟩
  · have qp := m.pot
    cases w with
    | none => trivial
    | some ns =>
      obtain ⟨a, a1, a2⟩ := qp
      exact ⟨a, a1, upd_at a2 fun z => hne.2.2 (by rw [← z]; exact a1)⟩
/-- an own list is never changed again -/
theorem Sim.freeze {K : PySem.W.Frag} {B : Bs} {ow : Ow} {s : S} {w : W} {σ : L2.St} {H : Hp} {i : Nat} {xs : List D} (m : Sim K B ow s w σ H) (hs : s[i]? = some (.o xs)) : Sim K B (ow.del i) (s.set i (.v (.lst xs))) w σ H := by
  obtain ⟨p, us, q1, q2, q3, q4⟩ := m.slot i _ hs
  have hi : i < s.length := (List.getElem?_eq_some_iff.mp hs).1
  have hn : ¬ hid B (ow.del i) p := by
    rintro ((z | ⟨j, z⟩) | z)
    · exact (m.own i p q1).2.1 z
    · have z : (if j = i then none else ow j) = some p := z
      split at z
      · cases z
      · rename_i hj; exact hj (m.inj j i p z q1)
    · exact (m.own i p q1).2.2 z
  have h : Dn K B.po (Mk B (ow.del i) H) (.ref p) (.lst xs) := .lst (mask_some q3 hn) (q4.mono Ow.del_le)
  refine ⟨m.keep, m.live, m.pO, by simp [m.len], fun j x e => ?_, fun j e => ?_, fun j p e => m.own j p (by unfold Ow.del at e; split at e; cases e; exact e), fun j k p e1 e2 => m.inj j k p (by unfold Ow.del at e1; split at e1; cases e1; exact e1) (by unfold Ow.del at e2; split at e2; cases e2; exact e2), m.pot⟩
  · by_cases hj : i = j
    · subst hj
      rw [List.getElem?_set_self hi] at e
      cases e
      exact ⟨by simp [Ow.del], _, q2, h⟩
    · rw [List.getElem?_set_ne hj] at e
      have ej : ow.del i j = ow j := if_neg fun z => hj z.symm
      have q := m.slot j x e
      cases x with
      | e => exact ej.trans q
      | v d => obtain ⟨q1, u, q2, q3⟩ := q; exact ⟨ej.trans q1, u, q2, q3.mono Ow.del_le⟩
      | o ys => obtain ⟨a, ws, q1, q2, q3, q4⟩ := q; exact ⟨a, ws, ej.trans q1, q2, q3, q4.mono Ow.del_le⟩
  · have e' : s[j]? = none := by simpa using e
    unfold Ow.del; split
    · rfl
    · exact m.out j e'
def fOwn (i : Nat) (f : S → W → R (List D)) : S → W → R Fl := fun s w => bnd (f s w) fun ds w1 => if i < s.length then .ok (.nx (s.set i (.o ds))) w1 else .no
def fFz (i : Nat) : S → W → R Fl := fun s w => match s[i]? with
  | some (.o xs) => .ok (.nx (s.set i (.v (.lst xs)))) w
  | _ => .no
def ownD (s : S) (i : Nat) : Option (List D) := match s[i]? with
  | some (.o xs) => some xs
  | _ => none
theorem ownD_some {s : S} {i : Nat} {xs : List D} (h : ownD s i = some xs) : s[i]? = some (.o xs) := by
  unfold ownD at h; split at h
  · cases h; assumption
  · cases h
def fApp (i : Nat) (f : S → W → R D) : S → W → R Fl := fun s w => bnd (f s w) fun d w1 => match ownD s i with
  | some xs => if xs.length < sizeLine then .ok (.nx (s.set i (.o (xs ++ [d])))) w1 else .no
  | none => .no
def fExt (i : Nat) (f : S → W → R D) : S → W → R Fl := fun s w => bnd (f s w) fun d w1 => match ownD s i, d with
  | some xs, .lst zs => if xs.length + zs.length ≤ sizeLine then .ok (.nx (s.set i (.o (xs ++ zs)))) w1 else .no
  | _, _ => .no
def fSetIx (i : Nat) (f g : S → W → R D) : S → W → R Fl := fun s w => bnd (f s w) fun d w1 => bnd (g s w1) fun k w2 => match ownD s i, k with
  | some xs, .int k => match ixN xs.length k with
    | some j => .ok (.nx (s.set i (.o (xs.set j d)))) w2
    | none => .no
  | _, _ => .no
section
variable {X : Cx} {f g : S → W → R D} {ff : S → W → R (List D)} {e k : Expr} {i : Nat} {n : Str} {p pos apos cpos : Pos} {x : Bool}
theorem own_tr {K : PySem.W.Frag} {E : Ends} {σ : L2.St} {H : Hp} (t : trS K (fOwn i ff) E σ H) : tAsg (trF K ff) (gName i) E σ H := by
  obtain ⟨B, ow, s, w, fl, w', m, e, k⟩ := t
  obtain ⟨d, w1, e1, e⟩ := bnd_inv e
  split at e
  · rename_i hi
    cases e
    refine ⟨B, ow, s, w, d, _, m, e1, fun p vs H' p1 hp h1 h2 => ?_⟩
    obtain ⟨m', l⟩ := m.own_new hi p1 hp h1 h2
    exact k _ _ H' l m'
  · cases e
theorem qs_own (hN : X.N.Nodup) (hi : X.N[i]? = some n) (hx : Loc X.env.scope n) (he : QF X e ff) (hs : swapsWith e (some (.Name n p)) pos.line X.env = pure false) (hf : X.fn n = true ∨ X.env.scope.names.lookup n = some .local) :
    QS X (.Assign [.Name n p] e pos) (fOwn i ff) := ⟨PS.imp (ps_set hN hi hx he.pe hs hf) fun _ _ _ t => own_tr t⟩
/-- name = [..] on one line, the name a local -/
theorem qs_ownLc {elt tg iter : Expr} {ifs : List Expr} {scope : Scope} {own : List (Str × Nat)} {us : List Nat} {fi : S → W → R (List D)} {b : D → S → Option S} {fc fe : S → W → R D} {lpos : Pos}
    (hc : X.calm = true) (hN : X.N.Nodup) (hy : X.N[i]? = some n) (hyl : X.env.scope.names.lookup n = some .local) (hsw : swapsWith (.ListComp elt [⟨tg, iter, ifs, 0⟩] scope lpos) (some (.Name n p)) pos.line X.env = pure true)
    (hi : QI X false tg iter fi) (ok : BlkOk X.N X.env.scope scope own) (hus : ∀ j ∈ us, j ∈ own.map (·.2))
    (hg : ∀ (s : Shared) (H : Hp) (C : Addr) (cl : List (Str × Addr)) (fp : List Addr), QG (X.blk s H scope (compEnvC scope cl C X.env) fp) us tg b)
    (ht : ∀ (s : Shared) (H : Hp) (C : Addr) (cl : List (Str × Addr)) (fp : List Addr), QTs (X.blk s H scope (compEnvC scope cl C X.env) fp) ifs fc)
    (he : ∀ (s : Shared) (H : Hp) (C : Addr) (cl : List (Str × Addr)) (fp : List Addr), QE (X.blk s H scope (compEnvC scope cl C X.env) fp) false elt fe)
    (hs : ∀ x, foldedSetIterable iter X.env x = pure x) : QS X (.Assign [.Name n p] (.ListComp elt [⟨tg, iter, ifs, 0⟩] scope lpos) pos) (fOwn i (fComp (own.map (·.2)) fi b fc fe)) :=
  ⟨PS.imp (ps_setLc hc hN hy hyl hsw hi.pi ok (fun s H C cl fp => (hg s H C cl fp).pg) (fun s H C cl fp => (ht s H C cl fp).pts) (fun s H C cl fp => (he s H C cl fp).pe) hs) fun E σ H t => by
    have q := own_tr t
    obtain ⟨B, ow, s, w, d, w', m, e1, k⟩ := q
    exact comp_tr hus ⟨B, ow, s, w, d, w', m, e1, k⟩⟩
theorem qss_fz {sts : List Stmt} {h : S → W → R Fl} (hq : QSs X sts h) : QSs X sts (fSeq (fFz i) h) := ⟨PSs.imp hq.pss fun E σ H ⟨B, ow, s, w, fl, w', m, e, k⟩ => by
    obtain ⟨f1, w1, e1, e⟩ := bnd_inv e
    unfold fFz at e1
    split at e1
    · rename_i xs hs
      cases e1
      exact ⟨B, ow.del i, _, _, fl, w', m.freeze hs, e, k.le Ow.del_le⟩
    · cases e1⟩
theorem tyV_own {K : PySem.W.Frag} {q : Addr} {vs : List V} {H : Hp} (h : H q = some (.lst vs)) : tyV K "list" (.ref q) H := .inl ⟨rfl, vs, .inl (.inl h)⟩
theorem own_at {K : PySem.W.Frag} {B : Bs} {ow : Ow} {s : S} {w : W} {σ : L2.St} {H : Hp} {xs : List D} (m : Sim K B ow s w σ H) (h : ownD s i = some xs) : ∃ q vs, ow i = some q ∧ σ[i]? = some (some (.ref q)) ∧ H q = some (.lst vs) ∧ DnAll K B.po (Mk B ow H) vs xs :=
  m.slot i _ (ownD_some h)
theorem qs_app (hN : X.N[i]? = some n) (hv : Vis X.env.scope n) (hd : (n == ("__debug__" : Str)) = false) (hcd : (n == ("__classdict__" : Str)) = false) (he : QE X false e f) (hs1 : starEach [e] X.env = [(false, eval e X.env)]) (h0 : starEach ([] : List Expr) X.env = [])
    (hbase : attributeBase (.Name n p) "append" X.env (eval (.Name n p) X.env) = eval (.Name n p) X.env)
    (hfew : ((backTo cpos (starEach [e] X.env)).all (fun x => !x.1) && (backToKw cpos (keywordEach [] X.env)).all (fun x => x.1.isSome) && decide (([e] : List Expr).length + ([] : List Keyword).length + (if ([] : List Keyword).isEmpty then 0 else 1) < 30)) = true)
    (hline : (apos.endLine == cpos.line) = true) (hpl : (backTo cpos (starEach ([] : List Expr) X.env)).any (·.1) = false) (hsw : swapsWith (.Call (.Attribute (.Name n p) "append" apos) [e] [] cpos) none pos.line X.env = pure false) :
    QS X (.Expr (.Call (.Attribute (.Name n p) "append" apos) [e] [] cpos) pos) (fApp i f) :=
  ⟨PS.imp (ps_expr (pe_bm PySem.F.plainAttrs_list PySem.F.slot_list_append PySem.F.type_list_append mt_append (pe_var hN hv hd hcd) (pa_cons he.pe pa_nil (by rw [hs1, h0])) hbase hfew hline (by rw [hs1, h0]) hpl) hsw) fun E σ H ⟨B, ow, s, w, fl, w', m, e, k⟩ => by
    obtain ⟨d, w1, e1, e⟩ := bnd_inv e
    split at e
    · rename_i xs hxs
      split at e
      · rename_i hsz
        cases e
        obtain ⟨q, vs, q1, q2, q3, q4⟩ := own_at m hxs
        refine ⟨_, q2, tyV_own q3, B, ow, s, w, d, _, m, e1, fun v H1 p1 h1 => ?_⟩
        have m1 := m.post p1
        obtain ⟨q', vs', q1', q2', q3', q4'⟩ := own_at m1 hxs
        rw [q1] at q1'; cases q1'
        obtain ⟨m2, l2⟩ := m1.mut (ownD_some hxs) q1 (q4'.append (.cons h1 .nil))
        exact ⟨q, vs', v, rfl, rfl, q3', by rw [q4'.length]; exact hsz, k ow σ _ (p1.msk.trans l2) m2⟩
      · cases e
    · cases e⟩
theorem qs_ext (hN : X.N[i]? = some n) (hv : Vis X.env.scope n) (hd : (n == ("__debug__" : Str)) = false) (hcd : (n == ("__classdict__" : Str)) = false) (he : QE X x e f) (hs1 : starEach [e] X.env = [(false, eval e X.env)]) (h0 : starEach ([] : List Expr) X.env = [])
    (hbase : attributeBase (.Name n p) "extend" X.env (eval (.Name n p) X.env) = eval (.Name n p) X.env)
    (hfew : ((backTo cpos (starEach [e] X.env)).all (fun x => !x.1) && (backToKw cpos (keywordEach [] X.env)).all (fun x => x.1.isSome) && decide (([e] : List Expr).length + ([] : List Keyword).length + (if ([] : List Keyword).isEmpty then 0 else 1) < 30)) = true)
    (hline : (apos.endLine == cpos.line) = true) (hpl : (backTo cpos (starEach ([] : List Expr) X.env)).any (·.1) = false) (hsw : swapsWith (.Call (.Attribute (.Name n p) "extend" apos) [e] [] cpos) none pos.line X.env = pure false) :
    QS X (.Expr (.Call (.Attribute (.Name n p) "extend" apos) [e] [] cpos) pos) (fExt i f) :=
  ⟨PS.imp (ps_expr (pe_bm PySem.F.plainAttrs_list PySem.F.slot_list_extend PySem.F.type_list_extend mt_extend (pe_var hN hv hd hcd) (pa_cons he.pe pa_nil (by rw [hs1, h0])) hbase hfew hline (by rw [hs1, h0]) hpl) hsw) fun E σ H ⟨B, ow, s, w, fl, w', m, e, k⟩ => by
    obtain ⟨d, w1, e1, e⟩ := bnd_inv e
    split at e
    · rename_i xs zs hxs
      split at e
      · rename_i hsz
        cases e
        obtain ⟨q, vs, q1, q2, q3, q4⟩ := own_at m hxs
        refine ⟨_, q2, tyV_own q3, B, ow, s, w, _, _, m, e1, fun v H1 p1 h1 => ?_⟩
        have m1 := m.post p1
        obtain ⟨q', vs', q1', q2', q3', q4'⟩ := own_at m1 hxs
        rw [q1] at q1'; cases q1'
        obtain ⟨b, zv, rfl, z1, z2, z3⟩ := h1.up
        obtain ⟨m2, l2⟩ := m1.mut (ownD_some hxs) q1 (q4'.append z3)
        exact ⟨q, b, vs', zv, rfl, rfl, q3', z1, by rw [q4'.length, z3.length]; exact hsz, k ow σ _ (p1.msk.trans l2) m2⟩
      · cases e
    · cases e⟩
theorem qs_setIx {kpos : Pos} (hN : X.N[i]? = some n) (hv : Vis X.env.scope n) (hd : (n == ("__debug__" : Str)) = false) (hcd : (n == ("__classdict__" : Str)) = false) (he : QE X false e f) (hk : QE X x k g)
    (ha : ∀ v, assign (.Subscript (.Name n p) k kpos) X.env v = (do
      let ov ← holding [v] (eval (.Name n p) X.env)
      let iv ← holding [v, ov] (eval k X.env)
      standAt kpos
      holding [v, ov, iv] (setItem ov iv v)
      release [v, ov, iv] []))
    (hs : swapsWithSole [.Subscript (.Name n p) k kpos] e pos.line X.env = pure false) (hw : swappedStores [.Subscript (.Name n p) k kpos] e X.env = pure none) (h1 : (assignEach [.Subscript (.Name n p) k kpos] X.env).map (·.2) = [assign (.Subscript (.Name n p) k kpos) X.env]) :
    QS X (.Assign [.Subscript (.Name n p) k kpos] e pos) (fSetIx i f g) :=
  ⟨PS.imp (ps_asg he.pe (pg_sub (pe_var hN hv hd hcd) hk.pe set_list ha) hs hw h1) fun E σ H ⟨B, ow, s, w, fl, w', m, e, kk⟩ => by
    obtain ⟨d, w1, e1, e⟩ := bnd_inv e
    obtain ⟨c, w2, e2, e⟩ := bnd_inv e
    split at e
    · rename_i xs ki hxs
      split at e
      · rename_i j hj
        cases e
        refine ⟨B, ow, s, w, d, w1, m, e1, fun v H1 p1 h1 => ?_⟩
        have m1 := m.post p1
        obtain ⟨q, vs, q1, q2, q3, q4⟩ := own_at m1 hxs
        refine ⟨_, q2, B, ow, s, w1, _, _, m1, e2, fun u H2 p2 h2 => ?_⟩
        have m2 := m1.post p2
        obtain ⟨q', vs', q1', q2', q3', q4'⟩ := own_at m2 hxs
        rw [q1] at q1'; cases q1'
        have h1' : Dn X.K B.po (Mk B ow H2) v d := Dn.mono p2.msk h1
        obtain ⟨m3, l3⟩ := m2.mut (ownD_some hxs) q1 (q4'.set h1' j)
        exact ⟨q, vs', ki, j, rfl, h2.int_inv, q3', by rw [q4'.length]; exact hj, kk ow σ _ ((p1.msk.trans p2.msk).trans l3) m3⟩
      · cases e
    · cases e⟩
/-! ### the pot -/
def potD (s : S) (w : W) (i : Nat) : Option (List Int) := match s[i]?, w with
  | some (.v .pot), some ns => some ns
  | _, _ => none
theorem pot_at {K : PySem.W.Frag} {B : Bs} {ow : Ow} {s : S} {w : W} {σ : L2.St} {H : Hp} {ns : List Int} (m : Sim K B ow s w σ H) (h : potD s w i = some ns) : ∃ q, B.po = some q ∧ σ[i]? = some (some (.ref q)) ∧ H q = some (.lst (ns.map V.int)) ∧ w = some ns := by
  unfold potD at h
  split at h
  · rename_i ns' h1
    cases h
    obtain ⟨_, v, h2, h3⟩ := m.slot i _ h1
    obtain ⟨a, a1, a2⟩ := m.pot
    cases h3 with
    | pot h4 => rw [a1] at h4; cases h4; exact ⟨_, a1, h2, a2, rfl⟩
  · cases h
def fPget (i : Nat) (j : Int) : S → W → R D := fun s w => match potD s w i with
  | some ns => match atI ns j with
    | some v => .ok (.int v) w
    | none => .no
  | none => .no
theorem atI_map {α β : Type} (h : α → β) {xs : List α} {i : Int} {v : α} (e : atI xs i = some v) : atI (xs.map h) i = some (h v) := by
  unfold atI at e ⊢
  rw [List.length_map]
  cases q : ixN xs.length i with
  | none => rw [q] at e; cases e
  | some j =>
    rw [q] at e
    simp only [Option.bind_some] at e ⊢
    rw [List.getElem?_map, e]; rfl
theorem q_pget {j : Int} {c : Nat} {kp : Pos} (hN : X.N[i]? = some n) (hv : Vis X.env.scope n) (hd : (n == ("__debug__" : Str)) = false) (hcd : (n == ("__classdict__" : Str)) = false) (hk : QE X false k (fC (.int j))) (hs : PlainIx k) {z : Bool} : QE X z (.Subscript (.Name n p) k pos) (fPget i j) :=
  ⟨PE.imp (pe_ix ix_list (pe_var hN hv hd hcd) hk.pe hs) fun σ H Q ⟨B, ow, s, w, d, w', m, e, kk⟩ => by
    unfold fPget at e
    split at e
    · rename_i ns hns
      split at e
      · rename_i v hv
        cases e
        obtain ⟨q, q1, q2, q3, q4⟩ := pot_at m hns
        refine ⟨_, q2, B, ow, s, _, .int j, _, m, rfl, fun u H1 p1 h1 => ?_⟩
        obtain ⟨q', r1, r2, r3, r4⟩ := pot_at (m.post p1) hns
        rw [q1] at r1; cases r1
        exact ⟨q, _, j, .int v, rfl, h1.int_inv, .inl (.inl r3), atI_map V.int hv, kk _ H1 p1 (Vw.dn (.int v))⟩
      · cases e
    · cases e⟩
def fPset (i : Nat) (j : Int) (f : S → W → R D) : S → W → R Fl := fun s w => bnd (f s w) fun d w1 => match d, potD s w1 i with
  | .int v, some ns => match ixN ns.length j with
    | some k => .ok (.nx s) (some (ns.set k v))
    | none => .no
  | _, _ => .no
theorem qs_pset {j : Int} {kpos : Pos} (hN : X.N[i]? = some n) (hv : Vis X.env.scope n) (hd : (n == ("__debug__" : Str)) = false) (hcd : (n == ("__classdict__" : Str)) = false) (he : QE X false e f) (hk : QE X false k (fC (.int j)))
    (ha : ∀ v, assign (.Subscript (.Name n p) k kpos) X.env v = (do
      let ov ← holding [v] (eval (.Name n p) X.env)
      let iv ← holding [v, ov] (eval k X.env)
      standAt kpos
      holding [v, ov, iv] (setItem ov iv v)
      release [v, ov, iv] []))
    (hs : swapsWithSole [.Subscript (.Name n p) k kpos] e pos.line X.env = pure false) (hw : swappedStores [.Subscript (.Name n p) k kpos] e X.env = pure none) (h1 : (assignEach [.Subscript (.Name n p) k kpos] X.env).map (·.2) = [assign (.Subscript (.Name n p) k kpos) X.env]) :
    QS X (.Assign [.Subscript (.Name n p) k kpos] e pos) (fPset i j f) :=
  ⟨PS.imp (ps_asg he.pe (pg_sub (pe_var hN hv hd hcd) hk.pe set_list ha) hs hw h1) fun E σ H ⟨B, ow, s, w, fl, w', m, e, kk⟩ => by
    obtain ⟨d, w1, e1, e⟩ := bnd_inv e
    split at e
    · rename_i v ns hns
      split at e
      · rename_i c hc
        cases e
        refine ⟨B, ow, s, w, _, w1, m, e1, fun u H1 p1 h1 => ?_⟩
        have m1 := m.post p1
        obtain ⟨q, q1, q2, q3, q4⟩ := pot_at m1 hns
        refine ⟨_, q2, B, ow, s, w1, .int j, _, m1, rfl, fun y H2 p2 h2 => ?_⟩
        obtain ⟨q', r1, r2, r3, r4⟩ := pot_at (m1.post p2) hns
        rw [q1] at r1; cases r1
        have hu : u = .int v := Vw.int_inv (x := false) h1
        subst hu
        have p3 : Post B.po (some (ns.set c v)) H2 (upd H2 q (.lst ((ns.map V.int).set c (.int v)))) := by
          refine ⟨fun a o e n => upd_at e fun z => n (by rw [z]; exact q1), fun a h => ?_, q, q1, by rw [upd_same, List.map_set]⟩
          by_cases z : a = q
          · rw [z, upd_same]; simp
          · rw [upd_ne z]; exact h
        exact ⟨q, _, j, c, rfl, h2.int_inv, r3, by rw [List.length_map]; exact hc, kk ow σ _ ((p1.msk.trans p2.msk).trans p3.msk) ((m1.post p2).post p3)⟩
      · cases e
    · cases e⟩
end
end Rf
namespace Rf
open PySem L2 PySem.Spec PyProof.Rows
/-! ## what the operators do with data -/
mutual
def toPy : D → Option PyData
  | .non => some .none
  | .bl b => some (.bool b)
  | .int i => some (.int i)
  | .str x => some (.str x)
  | .tup xs => (toPyAll xs).map .tuple
  | .lst xs => (toPyAll xs).map .list
  | .dic _ => none
  | .pot => none
  | .scr _ => none
  | .fn _ => none
def toPyAll : List D → Option (List PyData)
  | [] => some []
  | d :: ds => match toPy d, toPyAll ds with
    | some p, some ps => some (p :: ps)
    | _, _ => none
end
section
variable {K : PySem.W.Frag} {po : Option Addr} {H : Hp}
mutual
theorem Dn.dp : ∀ {d : D} {v : V} {p : PyData}, Dn K po H v d → toPy d = some p → Dp K H v p
  | .non, _, _, h, e => by cases h; unfold toPy at e; cases e; exact .non
  | .bl b, _, _, h, e => by cases h; unfold toPy at e; cases e; exact .bl b
  | .int i, _, _, h, e => by cases h; unfold toPy at e; cases e; exact .int i
  | .str x, _, _, h, e => by cases h; unfold toPy at e; cases e; exact .str x
  | .tup ds, _, _, h, e => by
    cases h with
    | tup h1 h2 =>
      unfold toPy at e
      obtain ⟨ps, e1, rfl⟩ := Option.map_eq_some_iff.mp e
      exact .tup h1 (DnAll.dp h2 e1)
  | .lst ds, _, _, h, e => by
    cases h with
    | lst h1 h2 =>
      unfold toPy at e
      obtain ⟨ps, e1, rfl⟩ := Option.map_eq_some_iff.mp e
      exact .lst (.inl (.inl h1)) (DnAll.dp h2 e1)
  | .dic _, _, _, _, e => by unfold toPy at e; cases e
  | .pot, _, _, _, e => by unfold toPy at e; cases e
  | .scr _, _, _, _, e => by unfold toPy at e; cases e
  | .fn _, _, _, _, e => by unfold toPy at e; cases e
theorem DnAll.dp : ∀ {ds : List D} {vs : List V} {ps : List PyData}, DnAll K po H vs ds → toPyAll ds = some ps → DpAll K H vs ps
  | [], _, _, h, e => by cases h; unfold toPyAll at e; cases e; exact .nil
  | d :: ds, _, _, h, e => by
    cases h with
    | cons h1 h2 =>
      unfold toPyAll at e
      cases e1 : toPy d with
      | none => rw [e1] at e; cases e
      | some q =>
        cases e2 : toPyAll ds with
        | none => rw [e1, e2] at e; cases e
        | some qs => rw [e1, e2] at e; cases e; exact .cons (Dn.dp h1 e1) (DnAll.dp h2 e2)
end
end
theorem Sh.dp {K : PySem.W.Frag} {po : Option Addr} {P : Addr → Prop} {H : Hp} {v : V} {d : D} {p : PyData} (h : Sh K po P H v d) (e : toPy d = some p) : Dp K H v p := by
  cases d with
  | lst ds =>
    obtain ⟨a, xs, rfl, h1, _, h2⟩ := h
    unfold toPy at e
    obtain ⟨ps, e1, rfl⟩ := Option.map_eq_some_iff.mp e
    exact .lst (.inl (.inl h1)) (DnAll.dp (h2.mono (mask_le _ _)) e1)
  | _ => exact Dn.dp (Dn.mono (mask_le _ _) (show Dn K po (mask P H) v _ from h)) e
mutual
theorem plain_of : ∀ {d : D} {p : PyData}, toPy d = some p → p.plain = true
  | .non, _, e => by unfold toPy at e; cases e; rfl
  | .bl b, _, e => by unfold toPy at e; cases e; rfl
  | .int i, _, e => by unfold toPy at e; cases e; rfl
  | .str x, _, e => by unfold toPy at e; cases e; rfl
  | .tup ds, _, e => by
    unfold toPy at e
    obtain ⟨ps, e1, rfl⟩ := Option.map_eq_some_iff.mp e
    simp only [PyData.plain]
    exact plainAll_of e1
  | .lst ds, _, e => by
    unfold toPy at e
    obtain ⟨ps, e1, rfl⟩ := Option.map_eq_some_iff.mp e
    simp only [PyData.plain]
    exact plainAll_of e1
  | .dic _, _, e => by unfold toPy at e; cases e
  | .pot, _, e => by unfold toPy at e; cases e
  | .scr _, _, e => by unfold toPy at e; cases e
  | .fn _, _, e => by unfold toPy at e; cases e
theorem plainAll_of : ∀ {ds : List D} {ps : List PyData}, toPyAll ds = some ps → PyData.plainAll ps = true
  | [], _, e => by unfold toPyAll at e; cases e; rfl
  | d :: ds, _, e => by
    unfold toPyAll at e
    cases e1 : toPy d with
    | none => rw [e1] at e; cases e
    | some q =>
      cases e2 : toPyAll ds with
      | none => rw [e1, e2] at e; cases e
      | some qs => rw [e1, e2] at e; cases e; simp only [PyData.plainAll, plain_of e1, plainAll_of e2, Bool.and_self]
end
def eqD0 (a b : D) : Option D := match toPy a, toPy b with
  | some p, some q => if min p.depth q.depth ≤ 64 then some (.bl (PyData.eqv p q)) else none
  | _, _ => none
def neD0 (a b : D) : Option D := match toPy a, toPy b with
  | some p, some q => if min p.depth q.depth ≤ 64 then some (.bl (!PyData.eqv p q)) else none
  | _, _ => none
/-- two data without dicts -/
def rDat2 (K : PySem.W.Frag) (f : PyData → PyData → Bool) : R2 := fun x y H Q => ∃ p q, Dp K H x p ∧ Dp K H y q ∧ p.plain = true ∧ q.plain = true ∧ min p.depth q.depth ≤ 64 ∧ Q (.bl (f p q)) H
section
variable {X : Cx} (hu : X.A.units + 65 < cLine)
include hu
theorem op_eqP : OpR X (compareOp .Eq) (rDat2 X.K PyData.eqv) := by
  rintro pins s σ H x y v u Q I rx ry ⟨p, q, h1, h2, h3, h4, h5, k⟩
  obtain ⟨as, r1⟩ := Dp.reads I p x v h1 rx
  obtain ⟨bs, r2⟩ := Dp.reads I q y u h2 ry
  exact SeqAt.eq_plain r1 r2 h3 h4 (by omega) ⟨.bl _, H, I, rfl, k⟩
theorem op_neP : OpR X (compareOp .NotEq) (rDat2 X.K fun p q => !PyData.eqv p q) := by
  rintro pins s σ H x y v u Q I rx ry ⟨p, q, h1, h2, h3, h4, h5, k⟩
  obtain ⟨as, r1⟩ := Dp.reads I p x v h1 rx
  obtain ⟨bs, r2⟩ := Dp.reads I q y u h2 ry
  exact SeqAt.ne_plain r1 r2 h3 h4 (by omega) ⟨.bl _, H, I, rfl, k⟩
end
section
variable {K : PySem.W.Frag} {po : Option Addr} {P : Addr → Prop} {H : Hp} {v : V}
theorem Sh.int_inv {i : Int} (h : Sh K po P H v (.int i)) : v = .int i := by have h : Dn K po (mask P H) v (.int i) := h; cases h; rfl
theorem Sh.str_inv {i : Str} (h : Sh K po P H v (.str i)) : v = .str i := by have h : Dn K po (mask P H) v (.str i) := h; cases h; rfl
theorem Sh.bl_inv {i : Bool} (h : Sh K po P H v (.bl i)) : v = .bl i := by have h : Dn K po (mask P H) v (.bl i) := h; cases h; rfl
theorem Sh.tup_inv {ds : List D} (h : Sh K po P H v (.tup ds)) : ∃ a xs, v = .ref a ∧ SqT K (mask P H) a xs ∧ DnAll K po (mask P H) xs ds := by have h : Dn K po (mask P H) v (.tup ds) := h; cases h with | tup h1 h2 => exact ⟨_, _, rfl, h1, h2⟩
end
theorem o_eq0 {K : PySem.W.Frag} : Op2 K (rDat2 K PyData.eqv) eqD0 := by
  intro po P H u v a b d hl h1 h2 e Q k
  unfold eqD0 at e
  split at e
  · rename_i p q e1 e2
    split at e
    · rename_i hs
      cases e
      exact ⟨p, q, h1.dp e1, h2.dp e2, plain_of e1, plain_of e2, hs, k _ H (Le.refl _) (.bl _)⟩
    · cases e
  · cases e
theorem o_ne0 {K : PySem.W.Frag} : Op2 K (rDat2 K fun p q => !PyData.eqv p q) neD0 := by
  intro po P H u v a b d hl h1 h2 e Q k
  unfold neD0 at e
  split at e
  · rename_i p q e1 e2
    split at e
    · rename_i hs
      cases e
      exact ⟨p, q, h1.dp e1, h2.dp e2, plain_of e1, plain_of e2, hs, k _ H (Le.refl _) (.bl _)⟩
    · cases e
  · cases e
/-- two texts are compared sign by sign, whatever they are -/
def eqD : D → D → Option D
  | .str x, .str y => some (.bl (decide (x = y)))
  | a, b => eqD0 a b
def neD : D → D → Option D
  | .str x, .str y => some (.bl (!decide (x = y)))
  | a, b => neD0 a b
theorem o_eq {K : PySem.W.Frag} : Op2 K (fun x y H Q => rEq x y H Q ∨ rDat2 K PyData.eqv x y H Q) eqD := by
  intro po P H u v a b d hl h1 h2 e Q k
  unfold eqD at e
  split at e
  · rename_i x y
    cases e
    refine .inl ⟨by rw [h1.str_inv, h2.str_inv]; rfl, ?_⟩
    rw [h1.str_inv, h2.str_inv, show decide (V.str x = V.str y) = decide (x = y) by rw [Bool.eq_iff_iff]; simp]
    exact k _ H (Le.refl _) (.bl _)
  · exact .inr (o_eq0 po P H u v _ _ d hl h1 h2 e Q k)
theorem o_ne {K : PySem.W.Frag} : Op2 K (fun x y H Q => rNe x y H Q ∨ rDat2 K (fun p q => !PyData.eqv p q) x y H Q) neD := by
  intro po P H u v a b d hl h1 h2 e Q k
  unfold neD at e
  split at e
  · rename_i x y
    cases e
    refine .inl ⟨by rw [h1.str_inv, h2.str_inv]; rfl, ?_⟩
    rw [h1.str_inv, h2.str_inv, show decide (V.str x = V.str y) = decide (x = y) by rw [Bool.eq_iff_iff]; simp]
    exact k _ H (Le.refl _) (.bl _)
  · exact .inr (o_ne0 po P H u v _ _ d hl h1 h2 e Q k)
/-! ### + -/
def addD : D → D → Option D
  | .int i, .int j => some (.int (i + j))
  | .str x, .str y => if x.length + y.length ≤ sizeLine then some (.str (x ++ y)) else none
  | .lst xs, .lst ys => if xs.length + ys.length ≤ sizeLine then some (.lst (xs ++ ys)) else none
  | .tup xs, .tup ys => if xs.length + ys.length ≤ sizeLine then some (.tup (xs ++ ys)) else none
  | _, _ => none
def rAddK (K : PySem.W.Frag) : R2 := fun x y H Q => (rI0 fun i j => .int (i + j)) x y H Q ∨ (∃ i j, x = .str i ∧ y = .str j ∧ i.length + j.length ≤ sizeLine ∧ Q (.str (i ++ j)) H) ∨ rCat x y H Q ∨ rCatA K x y H Q
theorem or_add {X : Cx} : OpR X (binaryOp .Add) (rAddK X.K) := op_add.or (op_add_str.or (op_cat.or op_catA))
theorem o_add {K : PySem.W.Frag} : Op2 K (rAddK K) addD := by
  intro po P H u v a b d hl h1 h2 e Q k
  unfold addD at e
  split at e
  · cases e
    exact .inl ⟨_, _, h1.int_inv, h2.int_inv, k _ H (Le.refl _) (.int _)⟩
  · split at e
    · rename_i hs
      cases e
      exact .inr (.inl ⟨_, _, h1.str_inv, h2.str_inv, hs, k _ H (Le.refl _) (.str _)⟩)
    · cases e
  · split at e
    · rename_i hs
      cases e
      obtain ⟨a, xs, rfl, a1, _, a2⟩ := h1
      obtain ⟨b, ys, rfl, b1, _, b2⟩ := h2
      refine .inr (.inr (.inl ⟨a, b, xs, ys, rfl, rfl, a1, b1, by rw [a2.length, b2.length]; exact hs, fun p hp => k _ _ (Le.new hp) (newL hl hp (a2.append b2))⟩))
    · cases e
  · split at e
    · rename_i hs
      cases e
      obtain ⟨a, xs, rfl, a1, a2⟩ := h1.tup_inv
      obtain ⟨b, ys, rfl, b1, b2⟩ := h2.tup_inv
      refine .inr (.inr (.inr ⟨a, b, xs, ys, rfl, rfl, (mask_le _ _).sqT a1, (mask_le _ _).sqT b1, by rw [a2.length, b2.length]; exact hs, fun h => ?_, fun h h' => ?_, fun _ _ p hp => k _ _ (Le.new hp) (newT hl hp (a2.append b2))⟩))
      · subst h; cases a2; exact k _ H (Le.refl _) (.tup b1 b2)
      · subst h'; cases b2; rw [List.append_nil] at k; exact k _ H (Le.refl _) (.tup a1 a2)
    · cases e
  · cases e
def subD : D → D → Option D
  | .int i, .int j => some (.int (i - j))
  | _, _ => none
theorem o_sub {K : PySem.W.Frag} : Op2 K (rI0 fun i j => .int (i - j)) subD := by
  intro po P H u v a b d hl h1 h2 e Q k
  unfold subD at e; split at e
  · cases e; exact ⟨_, _, h1.int_inv, h2.int_inv, k _ H (Le.refl _) (.int _)⟩
  · cases e
instance (i j : Int) : Decidable (CMulW i j) := by unfold CMulW; infer_instance
instance (i j : Int) : Decidable (CDivW i j) := by unfold CDivW; infer_instance
def mulD : D → D → Option D
  | .int i, .int j => if CMulW i j then some (.int (i * j)) else none
  | .lst xs, .int k => if -(2 ^ 63) ≤ k ∧ k < 2 ^ 63 ∧ xs.length * k.toNat ≤ sizeLine then some (.lst (List.replicate k.toNat xs).flatten) else none
  | _, _ => none
def rMulK : R2 := fun x y H Q => (rI CMulW fun i j => .int (i * j)) x y H Q ∨ rRep x y H Q
theorem or_mul {X : Cx} : OpR X (binaryOp .Mult) rMulK := op_mulW.or op_rep
theorem DnAll.flat {K : PySem.W.Frag} {po : Option Addr} {H : Hp} {vs : List V} {ds : List D} (h : DnAll K po H vs ds) : ∀ n : Nat, DnAll K po H (List.replicate n vs).flatten (List.replicate n ds).flatten
  | 0 => .nil
  | n + 1 => by rw [List.replicate_succ, List.replicate_succ, List.flatten_cons, List.flatten_cons]; exact h.append (DnAll.flat h n)
theorem o_mul {K : PySem.W.Frag} : Op2 K rMulK mulD := by
  intro po P H u v a b d hl h1 h2 e Q k
  unfold mulD at e; split at e
  · split at e
    · cases e; exact .inl ⟨_, _, h1.int_inv, h2.int_inv, by assumption, k _ H (Le.refl _) (.int _)⟩
    · cases e
  · split at e
    · rename_i hs
      cases e
      obtain ⟨a, xs, rfl, a1, _, a2⟩ := h1
      exact .inr ⟨a, _, xs, rfl, h2.int_inv, a1, hs.1, hs.2.1, by rw [a2.length]; exact hs.2.2, fun p hp => k _ _ (Le.new hp) (newL hl hp (a2.flat _))⟩
    · cases e
  · cases e
def fdivD : D → D → Option D
  | .int i, .int j => if CDivW i j then some (.int (i / j)) else none
  | _, _ => none
theorem o_fdiv {K : PySem.W.Frag} : Op2 K (rI CDivW fun i j => .int (i / j)) fdivD := by
  intro po P H u v a b d hl h1 h2 e Q k
  unfold fdivD at e; split at e
  · split at e
    · cases e; exact ⟨_, _, h1.int_inv, h2.int_inv, by assumption, k _ H (Le.refl _) (.int _)⟩
    · cases e
  · cases e
def modD : D → D → Option D
  | .int i, .int j => if 0 < j then some (.int (i % j)) else none
  | _, _ => none
theorem o_mod {K : PySem.W.Frag} : Op2 K (rI (fun _ j => 0 < j) fun i j => .int (i % j)) modD := by
  intro po P H u v a b d hl h1 h2 e Q k
  unfold modD at e; split at e
  · split at e
    · cases e; exact ⟨_, _, h1.int_inv, h2.int_inv, by assumption, k _ H (Le.refl _) (.int _)⟩
    · cases e
  · cases e
def CPowW (i j : Int) : Prop := 0 ≤ j ∧ (Builtin.Int.intBits i : Int) * j ≤ 2 ^ 27
instance (i j : Int) : Decidable (CPowW i j) := by unfold CPowW; infer_instance
theorem op_powW {X : Cx} : OpR X (binaryOp .Pow) (rI CPowW fun i j => .int (i ^ j.toNat)) := opI fun _ _ _ _ _ _ _ hc q => pow_int hc.1 hc.2 q
def powD : D → D → Option D
  | .int i, .int j => if CPowW i j then some (.int (i ^ j.toNat)) else none
  | _, _ => none
theorem o_pow {K : PySem.W.Frag} : Op2 K (rI CPowW fun i j => .int (i ^ j.toNat)) powD := by
  intro po P H u v a b d hl h1 h2 e Q k
  unfold powD at e; split at e
  · split at e
    · cases e; exact ⟨_, _, h1.int_inv, h2.int_inv, by assumption, k _ H (Le.refl _) (.int _)⟩
    · cases e
  · cases e
def negD : D → Option D
  | .int i => some (.int (-i))
  | _ => none
theorem o_neg {K : PySem.W.Frag} : Op1 K (rU fun i => .int (-i)) negD := by
  intro po P H u a d hl h1 e Q k
  unfold negD at e; split at e
  · cases e; exact ⟨_, h1.int_inv, k _ H (Le.refl _) (.int _)⟩
  · cases e
/-! ### order -/
def someB : PyData → Bool
  | .none => false
  | _ => true
theorem someB_ne {p : PyData} (h : someB p = true) : p ≠ .none := by rintro rfl; cases h
/-- two data that are alike, place by place -/
def cmpDat (f : PyData → PyData → Bool) (a b : D) : Option D := match toPy a, toPy b with
  | some p, some q => if PySem.W.alike p q = true ∧ someB p = true ∧ min p.depth q.depth ≤ 64 then some (.bl (f p q)) else none
  | _, _ => none
def rCmpDat (K : PySem.W.Frag) (f : PyData → PyData → Bool) : R2 := fun x y H Q => ∃ p q, Dp K H x p ∧ Dp K H y q ∧ PySem.W.alike p q = true ∧ p ≠ .none ∧ min p.depth q.depth ≤ 64 ∧ Q (.bl (f p q)) H
theorem o_cmpDat {K : PySem.W.Frag} {f : PyData → PyData → Bool} {po : Option Addr} {P : Addr → Prop} {H : Hp} {u v : V} {a b d : D} (h1 : Sh K po P H u a) (h2 : Sh K po P H v b) (e : cmpDat f a b = some d) {Q : VK} (k : ∀ z H', Le H H' → Dn K po (mask P H') z d → Q z H') : rCmpDat K f u v H Q := by
  unfold cmpDat at e
  split at e
  · rename_i p q e1 e2
    split at e
    · rename_i hs
      cases e
      exact ⟨p, q, h1.dp e1, h2.dp e2, hs.1, someB_ne hs.2.1, hs.2.2, k _ H (Le.refl _) (.bl _)⟩
    · cases e
  · cases e
section
variable {X : Cx} (hu : X.A.units + 65 < cLine)
include hu
theorem op_ltDat : OpR X (compareOp .Lt) (rCmpDat X.K PySem.W.dataLt) := by
  rintro pins s σ H x y v u Q I rx ry ⟨p, q, h1, h2, h3, h4, h5, k⟩
  obtain ⟨as, r1⟩ := Dp.reads I p x v h1 rx
  obtain ⟨bs, r2⟩ := Dp.reads I q y u h2 ry
  exact PySem.W.lt_data r1 r2 h3 h4 (by omega) ⟨.bl _, H, I, rfl, k⟩
theorem op_gtDat : OpR X (compareOp .Gt) (rCmpDat X.K fun p q => PySem.W.dataLt q p) := by
  rintro pins s σ H x y v u Q I rx ry ⟨p, q, h1, h2, h3, h4, h5, k⟩
  obtain ⟨as, r1⟩ := Dp.reads I p x v h1 rx
  obtain ⟨bs, r2⟩ := Dp.reads I q y u h2 ry
  exact PySem.W.gt_data r1 r2 h3 h4 (by omega) ⟨.bl _, H, I, rfl, k⟩
theorem op_leDat : OpR X (compareOp .LtE) (rCmpDat X.K fun p q => !PySem.W.dataLt q p) := by
  rintro pins s σ H x y v u Q I rx ry ⟨p, q, h1, h2, h3, h4, h5, k⟩
  obtain ⟨as, r1⟩ := Dp.reads I p x v h1 rx
  obtain ⟨bs, r2⟩ := Dp.reads I q y u h2 ry
  exact PySem.W.le_data r1 r2 h3 h4 (by omega) ⟨.bl _, H, I, rfl, k⟩
theorem op_geDat : OpR X (compareOp .GtE) (rCmpDat X.K fun p q => !PySem.W.dataLt p q) := by
  rintro pins s σ H x y v u Q I rx ry ⟨p, q, h1, h2, h3, h4, h5, k⟩
  obtain ⟨as, r1⟩ := Dp.reads I p x v h1 rx
  obtain ⟨bs, r2⟩ := Dp.reads I q y u h2 ry
  exact PySem.W.ge_data r1 r2 h3 h4 (by omega) ⟨.bl _, H, I, rfl, k⟩
end
def ltD : D → D → Option D
  | .int i, .int j => some (.bl (decide (i < j)))
  | .str x, .str y => some (.bl (decide (x.cps.toList < y.cps.toList)))
  | a, b => cmpDat PySem.W.dataLt a b
def leD : D → D → Option D
  | .int i, .int j => some (.bl (decide (i ≤ j)))
  | a, b => cmpDat (fun p q => !PySem.W.dataLt q p) a b
def gtD : D → D → Option D
  | .int i, .int j => some (.bl (decide (j < i)))
  | a, b => cmpDat (fun p q => PySem.W.dataLt q p) a b
def geD : D → D → Option D
  | .int i, .int j => some (.bl (decide (j ≤ i)))
  | a, b => cmpDat (fun p q => !PySem.W.dataLt p q) a b
def rLtK : R2 := fun x y H Q => (rI0 fun i j => .bl (decide (i < j))) x y H Q ∨ (∃ i j, x = .str i ∧ y = .str j ∧ Q (.bl (decide (i.cps.toList < j.cps.toList))) H)
theorem or_lt {X : Cx} (hu : X.A.units + 65 < cLine) : OpR X (compareOp .Lt) (fun x y H Q => rLtK x y H Q ∨ rCmpDat X.K PySem.W.dataLt x y H Q) := (op_lt.or op_lt_str).or (op_ltDat hu)
theorem o_lt {K : PySem.W.Frag} : Op2 K (fun x y H Q => rLtK x y H Q ∨ rCmpDat K PySem.W.dataLt x y H Q) ltD := by
  intro po P H u v a b d hl h1 h2 e Q k
  unfold ltD at e; split at e
  · cases e; exact .inl (.inl ⟨_, _, h1.int_inv, h2.int_inv, k _ H (Le.refl _) (.bl _)⟩)
  · cases e; exact .inl (.inr ⟨_, _, h1.str_inv, h2.str_inv, k _ H (Le.refl _) (.bl _)⟩)
  · exact .inr (o_cmpDat h1 h2 e k)
theorem o_le {K : PySem.W.Frag} : Op2 K (fun x y H Q => (rI0 fun i j => .bl (decide (i ≤ j))) x y H Q ∨ rCmpDat K (fun p q => !PySem.W.dataLt q p) x y H Q) leD := by
  intro po P H u v a b d hl h1 h2 e Q k
  unfold leD at e; split at e
  · cases e; exact .inl ⟨_, _, h1.int_inv, h2.int_inv, k _ H (Le.refl _) (.bl _)⟩
  · exact .inr (o_cmpDat h1 h2 e k)
theorem o_gt {K : PySem.W.Frag} : Op2 K (fun x y H Q => (rI0 fun i j => .bl (decide (j < i))) x y H Q ∨ rCmpDat K (fun p q => PySem.W.dataLt q p) x y H Q) gtD := by
  intro po P H u v a b d hl h1 h2 e Q k
  unfold gtD at e; split at e
  · cases e; exact .inl ⟨_, _, h1.int_inv, h2.int_inv, k _ H (Le.refl _) (.bl _)⟩
  · exact .inr (o_cmpDat h1 h2 e k)
theorem o_ge {K : PySem.W.Frag} : Op2 K (fun x y H Q => (rI0 fun i j => .bl (decide (j ≤ i))) x y H Q ∨ rCmpDat K (fun p q => !PySem.W.dataLt p q) x y H Q) geD := by
  intro po P H u v a b d hl h1 h2 e Q k
  unfold geD at e; split at e
  · cases e; exact .inl ⟨_, _, h1.int_inv, h2.int_inv, k _ H (Le.refl _) (.bl _)⟩
  · exact .inr (o_cmpDat h1 h2 e k)
/-! ### is -/
def isNon : D → Bool
  | .non => true
  | _ => false
def isD : D → D → Option D
  | a, .non => some (.bl (isNon a))
  | .bl a, .bl b => some (.bl (decide (a = b)))
  | _, _ => none
def isntD : D → D → Option D
  | a, .non => some (.bl (!isNon a))
  | .bl a, .bl b => some (.bl (!decide (a = b)))
  | _, _ => none
theorem Sh.isNon {K : PySem.W.Frag} {po : Option Addr} {P : Addr → Prop} {H : Hp} {v : V} {d : D} (h : Sh K po P H v d) : decide (v = .non) = isNon d := by
  cases d with
  | lst ds => obtain ⟨a, xs, rfl, _⟩ := h; rfl
  | _ =>
    have h : Dn K po (mask P H) v _ := h
    cases h <;> rfl
def rIsK : R2 := fun x y H Q => (y = .non ∧ Q (.bl (decide (x = .non))) H) ∨ rIsB x y H Q
def rIsntK : R2 := fun x y H Q => (y = .non ∧ Q (.bl (!decide (x = .non))) H) ∨ rNotB x y H Q
theorem or_is {X : Cx} : OpR X (compareOp .Is) rIsK := op_isN.or op_isBl
theorem or_isnt {X : Cx} : OpR X (compareOp .IsNot) rIsntK := op_notN.or op_notBl
theorem o_is {K : PySem.W.Frag} : Op2 K rIsK isD := by
  intro po P H u v a b d hl h1 h2 e Q k
  unfold isD at e; split at e
  · cases e
    have h2 : Dn K po (mask P H) v .non := h2
    cases h2
    exact .inl ⟨rfl, by rw [h1.isNon]; exact k _ H (Le.refl _) (.bl _)⟩
  · cases e; exact .inr ⟨_, _, h1.bl_inv, h2.bl_inv, k _ H (Le.refl _) (.bl _)⟩
  · cases e
theorem o_isnt {K : PySem.W.Frag} : Op2 K rIsntK isntD := by
  intro po P H u v a b d hl h1 h2 e Q k
  unfold isntD at e; split at e
  · cases e
    have h2 : Dn K po (mask P H) v .non := h2
    cases h2
    exact .inl ⟨rfl, by rw [h1.isNon]; exact k _ H (Le.refl _) (.bl _)⟩
  · cases e; exact .inr ⟨_, _, h1.bl_inv, h2.bl_inv, k _ H (Le.refl _) (.bl _)⟩
  · cases e
end Rf
namespace Rf
open PySem L2 PySem.Spec PyProof.Rows
section
variable {prog : Program} {w : World} {A : Around} {E : Value → Shared → Prop} {s : Shared}
/-- all of a row can be compared -/
def alikesB (ps : List PyData) : Bool := ps.all fun p => someB p && ps.all fun q => PySem.W.alike p q
theorem alikesB_ok {ps : List PyData} (h : alikesB ps = true) : PySem.W.AlikeAll ps := by
  unfold alikesB at h
  simp only [List.all_eq_true, Bool.and_eq_true] at h
  exact ⟨fun x hx y hy => (h x hx).2 y hy, fun x hx => someB_ne (h x hx).1⟩
theorem pair_tup {a b : Value} : (s.heap.push { cls := .type "tuple", data := .seq #[a, b] }).IsTuple s.heap.objs.size #[a, b] := ⟨_, Heap.get?_push_size _ rfl, rfl, 0, rfl⟩
theorem min2_data {a b : Value} {p q : PyData} {as bs : List Addr} {Q : Value → Shared → Prop} (hh : A.handled = none) (ra : Reads s.heap a p as) (rb : Reads s.heap b q bs) (ha : alikesB [p, q] = true) (hu : A.units + 1 + PyData.depthAll [p, q] < cLine)
    (h : ∀ h' tk, (∀ c o, s.heap.get? c = some o → h'.get? c = some o) → Q (if PySem.W.dataLt q p = true then b else a) { s with heap := h', toks := tk }) :
    wpAny (model prog w) A (call (.builtin "min") [a, b]) Q E s := by
  have nm : (toString "min" ++ toString ".loop" : String) = "min.loop" := by decide
  have hk0 : ∀ c o, s.heap.get? c = some o → (s.heap.push { cls := .type "tuple", data := .seq #[a, b] }).get? c = some o := fun c o e => Heap.get?_push_of_some _ e
  refine call_function_tree F.kind_min F.plain_min F.entry_min (F.args_min2 _ _) ?_
  show wpAny _ A.in1 (Builtin.Builtins.bindParams "min" ["key", "default"] 0 ⟨[], []⟩ >>= _) _ _ s
  refine wpAny_bind (wpAny_of_eq (show Builtin.Builtins.bindParams "min" ["key", "default"] 0 ⟨[], []⟩ = pure [none, none] from rfl) ?_)
  show wpAny _ A.in1 (newTuple [a, b] >>= _) _ _ s
  refine wpAny_bind (wpAny_newObj_type (wpAny_bind (PySem.W.iter_tupleW (A := A.in1) hh pair_tup fun s2 e W st hfp hw hk => ?_)))
  have rr : ReadsAll (s.heap.push { cls := .type "tuple", data := .seq #[a, b] }) (#[a, b] : Array Value).toList [p, q] (as ++ (bs ++ [])) := .cons (PySem.W.reads_keeps hk0 ra) (.cons (PySem.W.reads_keeps hk0 rb) .nil)
  have hcmp := PySem.W.cmpIn_lt (prog := prog) (w := w) (A := A.in1) (s := { s with heap := s.heap.push { cls := .type "tuple", data := .seq #[a, b] } }) rr (alikesB_ok ha) (by show A.units + 1 + _ < _; exact hu)
  refine wpAny_bind (wpAny_newObj_type ?_)
  rw [nm]
  refine wpAny_pure ⟨plainId_quiet F.plain_min_loop _, PySem.codeAny_min_loop_firstH W _ hw _ hcmp s2.heap.objs.size (fun hm => Nat.lt_irrefl _ (hfp _ hm)) (PySem.fresh_in hk) _ (by show 0 < 2; decide) (fun c o e => Heap.get?_push_of_some _ (hk c o e)) (W.frame 0 s2 _ s2.toks st (Nat.le_refl _) fun c _ o e => Heap.get?_push_of_some _ e) (Heap.get?_push_size _ rfl) fun v s' hP hm => ?_⟩
  obtain ⟨h', tk, rfl, hk'⟩ := PySem.W.moved_old e rfl (PySem.Moved.drop_new (tk := s2.toks) hm (Nat.le_refl _))
  have hq := h h' tk fun c o eo => hk' c o (hk0 c o eo)
  have hv : v = if PySem.W.dataLt q p = true then b else a := by
    cases hc : PySem.W.dataLt q p <;> simp [argBest, hc] at hP <;> simp [hP]
  rw [hv]; exact hq
theorem max2_data {a b : Value} {p q : PyData} {as bs : List Addr} {Q : Value → Shared → Prop} (hh : A.handled = none) (ra : Reads s.heap a p as) (rb : Reads s.heap b q bs) (ha : alikesB [p, q] = true) (hu : A.units + 1 + PyData.depthAll [p, q] < cLine)
    (h : ∀ h' tk, (∀ c o, s.heap.get? c = some o → h'.get? c = some o) → Q (if PySem.W.dataLt p q = true then b else a) { s with heap := h', toks := tk }) :
    wpAny (model prog w) A (call (.builtin "max") [a, b]) Q E s := by
  have nm : (toString "max" ++ toString ".loop" : String) = "max.loop" := by decide
  have hk0 : ∀ c o, s.heap.get? c = some o → (s.heap.push { cls := .type "tuple", data := .seq #[a, b] }).get? c = some o := fun c o e => Heap.get?_push_of_some _ e
  refine call_function_tree F.kind_max F.plain_max F.entry_max (F.args_max2 _ _) ?_
  show wpAny _ A.in1 (Builtin.Builtins.bindParams "max" ["key", "default"] 0 ⟨[], []⟩ >>= _) _ _ s
  refine wpAny_bind (wpAny_of_eq (show Builtin.Builtins.bindParams "max" ["key", "default"] 0 ⟨[], []⟩ = pure [none, none] from rfl) ?_)
  show wpAny _ A.in1 (newTuple [a, b] >>= _) _ _ s
  refine wpAny_bind (wpAny_newObj_type (wpAny_bind (PySem.W.iter_tupleW (A := A.in1) hh pair_tup fun s2 e W st hfp hw hk => ?_)))
  have rr : ReadsAll (s.heap.push { cls := .type "tuple", data := .seq #[a, b] }) (#[a, b] : Array Value).toList [p, q] (as ++ (bs ++ [])) := .cons (PySem.W.reads_keeps hk0 ra) (.cons (PySem.W.reads_keeps hk0 rb) .nil)
  have hcmp := PySem.W.cmpIn_gt (prog := prog) (w := w) (A := A.in1) (s := { s with heap := s.heap.push { cls := .type "tuple", data := .seq #[a, b] } }) rr (alikesB_ok ha) (by show A.units + 1 + _ < _; exact hu)
  refine wpAny_bind (wpAny_newObj_type ?_)
  rw [nm]
  refine wpAny_pure ⟨plainId_quiet F.plain_max_loop _, PySem.codeAny_max_loop_firstH W _ hw _ hcmp s2.heap.objs.size (fun hm => Nat.lt_irrefl _ (hfp _ hm)) (PySem.fresh_in hk) _ (by show 0 < 2; decide) (fun c o e => Heap.get?_push_of_some _ (hk c o e)) (W.frame 0 s2 _ s2.toks st (Nat.le_refl _) fun c _ o e => Heap.get?_push_of_some _ e) (Heap.get?_push_size _ rfl) fun v s' hP hm => ?_⟩
  obtain ⟨h', tk, rfl, hk'⟩ := PySem.W.moved_old e rfl (PySem.Moved.drop_new (tk := s2.toks) hm (Nat.le_refl _))
  have hq := h h' tk fun c o eo => hk' c o (hk0 c o eo)
  have hv : v = if PySem.W.dataLt p q = true then b else a := by
    cases hc : PySem.W.dataLt p q <;> simp [argBest, hc] at hP <;> simp [hP]
  rw [hv]; exact hq
end
/-- the less, the greater of two tuples of data -/
def best2 (f : PyData → PyData → Bool) (a b : D) : Option D := match toPy a, toPy b with
  | some p, some q => if alikesB [p, q] = true ∧ PyData.depthAll [p, q] ≤ 60 then some (if f p q = true then b else a) else none
  | _, _ => none
def rBest2 (K : PySem.W.Frag) (f : PyData → PyData → Bool) : List V → Hp → VK → Prop := fun vs H Q => ∃ u v p q, vs = [u, v] ∧ Dp K H u p ∧ Dp K H v q ∧ alikesB [p, q] = true ∧ PyData.depthAll [p, q] ≤ 60 ∧ Q (if f p q = true then v else u) H
theorem call_minD {X : Cx} (hc : X.calm = true) (hu : X.A.units + 65 < cLine) : CallR X (.builtin "min") (rBest2 X.K fun p q => PySem.W.dataLt q p) := by
  rintro pins s σ H vs us Q I r ⟨u, v, p, q, rfl, h1, h2, h3, h4, k⟩
  obtain ⟨a, b, rfl, r1, r2⟩ := vals2 r
  obtain ⟨as, e1⟩ := Dp.reads I p u a h1 r1
  obtain ⟨bs, e2⟩ := Dp.reads I q v b h2 r2
  refine min2_data (I.ok.hd hc) e1 e2 h3 (by omega) fun h' tk kp => ⟨_, H, I.kept kp, ?_, k⟩
  split <;> assumption
theorem call_maxD {X : Cx} (hc : X.calm = true) (hu : X.A.units + 65 < cLine) : CallR X (.builtin "max") (rBest2 X.K fun p q => PySem.W.dataLt p q) := by
  rintro pins s σ H vs us Q I r ⟨u, v, p, q, rfl, h1, h2, h3, h4, k⟩
  obtain ⟨a, b, rfl, r1, r2⟩ := vals2 r
  obtain ⟨as, e1⟩ := Dp.reads I p u a h1 r1
  obtain ⟨bs, e2⟩ := Dp.reads I q v b h2 r2
  refine max2_data (I.ok.hd hc) e1 e2 h3 (by omega) fun h' tk kp => ⟨_, H, I.kept kp, ?_, k⟩
  split <;> assumption
end Rf
namespace Rf
open PySem L2 PySem.Spec PyProof.Rows
def OpD (X : Cx) (f : Value → Value → Sem Value) (o : D → D → Option D) : Prop := ∃ r, OpR X f r ∧ Op2 X.K r o
def CallD (X : Cx) (f : Value) (o : List D → Option D) : Prop := ∃ r, CallR X f r ∧ OpN X.K r o
/-! ### subscripts, slices -/
def ixD : D → D → Option D
  | .lst xs, .int i => atI xs i
  | .tup xs, .int i => atI xs i
  | .scr ns, .int i => (atI ns i).map .int
  | .str z, .int i => if z.length ≤ sizeLine then (atI z.cps.toList i).map fun c => .str ⟨#[c]⟩ else none
  | _, _ => none
theorem DnAll.atI {K : PySem.W.Frag} {po : Option Addr} {H : Hp} {vs : List V} {ds : List D} {i : Int} {d : D} (h : DnAll K po H vs ds) (e : atI ds i = some d) : ∃ v, atI vs i = some v ∧ Dn K po H v d := by
  unfold L2.atI at e ⊢
  rw [h.length]
  cases q : ixN ds.length i with
  | none => rw [q] at e; cases e
  | some j => rw [q] at e; exact h.get e
theorem o_ix {K : PySem.W.Frag} : Op2 K (rIx K) ixD := by
  intro po P H u v a b d hl h1 h2 e Q k
  unfold ixD at e
  split at e
  · obtain ⟨p, xs, rfl, a1, _, a2⟩ := h1
    obtain ⟨z, e1, e2⟩ := a2.atI e
    exact .inl ⟨p, xs, _, z, rfl, h2.int_inv, .inl (.inl a1), e1, k z H (Le.refl _) e2⟩
  · obtain ⟨p, xs, rfl, a1, a2⟩ := h1.tup_inv
    obtain ⟨z, e1, e2⟩ := a2.atI e
    exact .inr (.inl ⟨p, xs, _, z, rfl, h2.int_inv, (mask_le _ _).sqT a1, e1, k z H (Le.refl _) e2⟩)
  · rename_i ns i
    obtain ⟨n, e1, rfl⟩ := Option.map_eq_some_iff.mp e
    have h1 : Dn K po (mask P H) u (.scr ns) := h1
    cases h1 with
    | scr q => exact .inl ⟨_, _, _, .int n, rfl, h2.int_inv, (mask_le _ _).sqL q, atI_map V.int e1, k _ H (Le.refl _) (.int n)⟩
  · split at e
    · rename_i hs
      obtain ⟨c, e1, rfl⟩ := Option.map_eq_some_iff.mp e
      exact .inr (.inr ⟨_, _, c, h1.str_inv, h2.int_inv, hs, e1, k _ H (Le.refl _) (.str _)⟩)
    · cases e
  · cases e
def cutD (xs : List D) (lo hi : Option Int) : List D := (xs.drop (HT.sIx xs.length 0 lo)).take (HT.sIx xs.length xs.length hi - HT.sIx xs.length 0 lo)
theorem DnAll.cut {K : PySem.W.Frag} {po : Option Addr} {H : Hp} {vs : List V} {ds : List D} (h : DnAll K po H vs ds) (lo hi : Option Int) : DnAll K po H (cutV vs lo hi) (cutD ds lo hi) := by
  unfold cutV cutD
  rw [h.length]
  exact (h.drop _).take _
def slD : D → Option Int → Option Int → Option D
  | .lst xs, lo, hi => some (.lst (cutD xs lo hi))
  | .tup xs, lo, hi => some (.tup (cutD xs lo hi))
  | .str z, lo, hi => if z.length ≤ sizeLine then some (.str (cutS z lo hi)) else none
  | .scr ns, lo, hi => some (.lst ((cutD (ns.map .int) lo hi)))
  | _, _, _ => none
def rSlK (K : PySem.W.Frag) : V → Option Int → Option Int → Hp → VK → Prop := fun x lo hi H Q => rSlL K x lo hi H Q ∨ (rSlA K x lo hi H Q ∨ rSlS x lo hi H Q)
theorem or_sl {X : Cx} : SlR X (rSlK X.K) := sl_list.or (sl_tupA.or sl_str)
theorem o_sl {K : PySem.W.Frag} : OpS K (rSlK K) slD := by
  intro po P H u a d lo hi hl h1 e Q k
  unfold slD at e
  split at e
  · cases e
    obtain ⟨p, xs, rfl, a1, _, a2⟩ := h1
    exact .inl ⟨p, xs, rfl, .inl (.inl a1), fun q hq => k _ _ (Le.new hq) (newL hl hq (a2.cut lo hi))⟩
  · cases e
    obtain ⟨p, xs, rfl, a1, a2⟩ := h1.tup_inv
    refine .inr (.inl ⟨p, xs, rfl, (mask_le _ _).sqT a1, fun hw => ?_, fun _ q hq => k _ _ (Le.new hq) (newT hl hq (a2.cut lo hi))⟩)
    have hx := a2.cut lo hi
    have e1 : cutV xs lo hi = xs := by unfold cutV; rw [hw.1, hw.2]; simp
    rw [e1] at hx
    exact k _ H (Le.refl _) (.tup a1 hx)
  · split at e
    · rename_i hs
      cases e
      exact .inr (.inr ⟨_, h1.str_inv, hs, k _ H (Le.refl _) (.str _)⟩)
    · cases e
  · rename_i ns
    cases e
    have h1 : Dn K po (mask P H) u (.scr ns) := h1
    cases h1 with
    | scr q => exact .inl ⟨_, _, rfl, (mask_le _ _).sqL q, fun p hp => k _ _ (Le.new hp) (newL hl hp (DnAll.ints.cut lo hi))⟩
  · cases e
/-! ### in -/
def inD : D → D → Option D
  | .str x, .str z => some (.bl (!(Builtin.Str.occurrences z x 0 z.length 1).isEmpty))
  | d, .lst ds => match toPy d, toPyAll ds with
    | some p, some qs => if min (PyData.depthAll qs) p.depth ≤ 60 then some (.bl (qs.any fun q => PyData.eqv q p)) else none
    | _, _ => none
  | d, .tup ds => match toPy d, toPyAll ds with
    | some p, some qs => if min (PyData.depthAll qs) p.depth ≤ 60 then some (.bl (qs.any fun q => PyData.eqv q p)) else none
    | _, _ => none
  | _, _ => none
def notD : Option D → Option D
  | some (.bl b) => some (.bl (!b))
  | _ => none
def ninD (a b : D) : Option D := notD (inD a b)
def rInT (K : PySem.W.Frag) (neg : Bool) : R2 := fun x y H Q => ∃ d ds, Dp K H x d ∧ Dp K H y (.tuple ds) ∧ d.plain = true ∧ PyData.plainAll ds = true ∧ min (PyData.depthAll ds) d.depth ≤ 60 ∧ Q (.bl (if neg = true then !(ds.any fun z => PyData.eqv z d) else ds.any fun z => PyData.eqv z d)) H
def rInL (K : PySem.W.Frag) (neg : Bool) : R2 := fun x y H Q => ∃ d ds, Dp K H x d ∧ Dp K H y (.list ds) ∧ d.plain = true ∧ PyData.plainAll ds = true ∧ min (PyData.depthAll ds) d.depth ≤ 60 ∧ Q (.bl (if neg = true then !(ds.any fun z => PyData.eqv z d) else ds.any fun z => PyData.eqv z d)) H
section
variable {X : Cx} (hu : X.A.units + 65 < cLine)
include hu
theorem op_inT : OpR X (compareOp .In) (rInT X.K false) := by
  rintro pins s σ H x y v u Q I rx ry ⟨d, ds, hd, he, sd, se, sz, q⟩
  obtain ⟨as, r1⟩ := Dp.reads I d x v hd rx
  obtain ⟨bs, r2⟩ := Dp.reads I (.tuple ds) y u he ry
  exact SeqAt.in_tuple_data r2 r1 se sd (by omega) ⟨.bl _, H, I, rfl, q⟩
theorem op_notInT : OpR X (compareOp .NotIn) (rInT X.K true) := by
  rintro pins s σ H x y v u Q I rx ry ⟨d, ds, hd, he, sd, se, sz, q⟩
  obtain ⟨as, r1⟩ := Dp.reads I d x v hd rx
  obtain ⟨bs, r2⟩ := Dp.reads I (.tuple ds) y u he ry
  exact SeqAt.notIn_tuple_data r2 r1 se sd (by omega) ⟨.bl _, H, I, rfl, q⟩
theorem op_inL : OpR X (compareOp .In) (rInL X.K false) := by
  rintro pins s σ H x y v u Q I rx ry ⟨d, ds, hd, he, sd, se, sz, q⟩
  obtain ⟨as, r1⟩ := Dp.reads I d x v hd rx
  obtain ⟨bs, r2⟩ := Dp.reads I (.list ds) y u he ry
  exact SeqAt.in_list_data r2 r1 se sd (by omega) ⟨.bl _, H, I, rfl, q⟩
theorem op_notInL : OpR X (compareOp .NotIn) (rInL X.K true) := by
  rintro pins s σ H x y v u Q I rx ry ⟨d, ds, hd, he, sd, se, sz, q⟩
  obtain ⟨as, r1⟩ := Dp.reads I d x v hd rx
  obtain ⟨bs, r2⟩ := Dp.reads I (.list ds) y u he ry
  exact SeqAt.notIn_list_data r2 r1 se sd (by omega) ⟨.bl _, H, I, rfl, q⟩
end
def rInK (K : PySem.W.Frag) : R2 := fun x y H Q => (∃ i j, x = .str i ∧ y = .str j ∧ Q (.bl (!(Builtin.Str.occurrences j i 0 j.length 1).isEmpty)) H) ∨ (rInL K false x y H Q ∨ rInT K false x y H Q)
def rNinK (K : PySem.W.Frag) : R2 := fun x y H Q => (∃ i j, x = .str i ∧ y = .str j ∧ Q (.bl (!(!(Builtin.Str.occurrences j i 0 j.length 1).isEmpty))) H) ∨ (rInL K true x y H Q ∨ rInT K true x y H Q)
theorem or_in {X : Cx} (hu : X.A.units + 65 < cLine) : OpR X (compareOp .In) (rInK X.K) := op_in_str.or ((op_inL hu).or (op_inT hu))
theorem or_nin {X : Cx} (hu : X.A.units + 65 < cLine) : OpR X (compareOp .NotIn) (rNinK X.K) := op_notin_str.or ((op_notInL hu).or (op_notInT hu))
theorem toPy_lst {ds : List D} {qs : List PyData} (e : toPyAll ds = some qs) : toPy (.lst ds) = some (.list qs) := by unfold toPy; rw [e]; rfl
theorem toPy_tup {ds : List D} {qs : List PyData} (e : toPyAll ds = some qs) : toPy (.tup ds) = some (.tuple qs) := by unfold toPy; rw [e]; rfl
theorem o_in {K : PySem.W.Frag} : Op2 K (rInK K) inD := by
  intro po P H u v a b d hl h1 h2 e Q k
  unfold inD at e
  split at e
  · cases e; exact .inl ⟨_, _, h1.str_inv, h2.str_inv, k _ H (Le.refl _) (.bl _)⟩
  · split at e
    · rename_i p qs e1 e2
      split at e
      · rename_i hs
        cases e
        exact .inr (.inl ⟨p, qs, h1.dp e1, h2.dp (toPy_lst e2), plain_of e1, plainAll_of e2, hs, k _ H (Le.refl _) (.bl _)⟩)
      · cases e
    · cases e
  · split at e
    · rename_i p qs e1 e2
      split at e
      · rename_i hs
        cases e
        exact .inr (.inr ⟨p, qs, h1.dp e1, h2.dp (toPy_tup e2), plain_of e1, plainAll_of e2, hs, k _ H (Le.refl _) (.bl _)⟩)
      · cases e
    · cases e
  · cases e
theorem o_nin {K : PySem.W.Frag} : Op2 K (rNinK K) ninD := by
  intro po P H u v a b d hl h1 h2 e Q k
  unfold ninD at e
  cases q : inD a b with
  | none => rw [q] at e; cases e
  | some c =>
    rw [q] at e
    cases c with
    | bl t =>
      cases e
      unfold inD at q
      split at q
      · cases q; exact .inl ⟨_, _, h1.str_inv, h2.str_inv, k _ H (Le.refl _) (.bl _)⟩
      · split at q
        · rename_i p qs e1 e2
          split at q
          · rename_i hs
            cases q
            exact .inr (.inl ⟨p, qs, h1.dp e1, h2.dp (toPy_lst e2), plain_of e1, plainAll_of e2, hs, k _ H (Le.refl _) (.bl _)⟩)
          · cases q
        · cases q
      · split at q
        · rename_i p qs e1 e2
          split at q
          · rename_i hs
            cases q
            exact .inr (.inr ⟨p, qs, h1.dp e1, h2.dp (toPy_tup e2), plain_of e1, plainAll_of e2, hs, k _ H (Le.refl _) (.bl _)⟩)
          · cases q
        · cases q
      · cases q
    | _ => cases e
/-! ### built-in functions -/
theorem VwAll.one {x : Bool} {K : PySem.W.Frag} {po : Option Addr} {P : Addr → Prop} {H : Hp} {vs : List V} {d : D} (h : VwAll x K po P H vs [d]) : ∃ v, vs = [v] ∧ Sh K po P H v d := by
  cases h with
  | cons h q => cases q; exact ⟨_, rfl, h.up⟩
theorem VwAll.two {x : Bool} {K : PySem.W.Frag} {po : Option Addr} {P : Addr → Prop} {H : Hp} {vs : List V} {d e : D} (h : VwAll x K po P H vs [d, e]) : ∃ v u, vs = [v, u] ∧ Sh K po P H v d ∧ Sh K po P H u e := by
  cases h with
  | cons h q => cases q with
    | cons h' q' => cases q'; exact ⟨_, _, rfl, h.up, h'.up⟩
def lenD : List D → Option D
  | [.str z] => if z.length ≤ sizeLine then some (.int (z.length : Nat)) else none
  | [.lst xs] => some (.int (xs.length : Nat))
  | [.tup xs] => some (.int (xs.length : Nat))
  | [.scr xs] => some (.int (xs.length : Nat))
  | _ => none
theorem c_len {X : Cx} : CallD X (.builtin "len") lenD := ⟨_, call_len, by
  intro po P H us as d hl h e Q k
  unfold lenD at e
  split at e
  · split at e
    · rename_i hs
      cases e
      obtain ⟨v, rfl, h1⟩ := h.one
      exact ⟨_, _, rfl, by rw [h1.str_inv]; exact ⟨hs, rfl⟩, k _ H (Le.refl _) (.int _)⟩
    · cases e
  · cases e
    obtain ⟨v, rfl, a, xs, rfl, a1, _, a2⟩ := h.one
    exact ⟨_, _, rfl, .inl ⟨xs, .inl (.inl a1), rfl⟩, by rw [a2.length]; exact k _ H (Le.refl _) (.int _)⟩
  · cases e
    obtain ⟨v, rfl, h1⟩ := h.one
    obtain ⟨a, xs, rfl, a1, a2⟩ := h1.tup_inv
    exact ⟨_, _, rfl, .inr ⟨xs, (mask_le _ _).sqT a1, rfl⟩, by rw [a2.length]; exact k _ H (Le.refl _) (.int _)⟩
  · cases e
    obtain ⟨v, rfl, h1⟩ := h.one
    rename_i xs
    have h1 : Dn X.K po (mask P H) v (.scr xs) := h1
    cases h1 with
    | scr q => exact ⟨_, _, rfl, .inl ⟨_, (mask_le _ _).sqL q, rfl⟩, by rw [List.length_map]; exact k _ H (Le.refl _) (.int _)⟩
  · cases e⟩
def absD : List D → Option D
  | [.int i] => some (.int (if i < 0 then -i else i))
  | _ => none
theorem c_abs {X : Cx} : CallD X (.builtin "abs") absD := ⟨_, call_abs, by
  intro po P H us as d hl h e Q k
  unfold absD at e; split at e
  · cases e; obtain ⟨v, rfl, h1⟩ := h.one; exact ⟨_, by rw [h1.int_inv], k _ H (Le.refl _) (.int _)⟩
  · cases e⟩
def intD : List D → Option D
  | [.int i] => some (.int i)
  | [.bl b] => some (.int (if b = true then 1 else 0))
  | _ => none
theorem c_int {X : Cx} : CallD X (.type "int") intD := ⟨_, call_int1, by
  intro po P H us as d hl h e Q k
  unfold intD at e; split at e
  · cases e; obtain ⟨v, rfl, h1⟩ := h.one; exact .inl ⟨_, by rw [h1.int_inv], k _ H (Le.refl _) (.int _)⟩
  · cases e; obtain ⟨v, rfl, h1⟩ := h.one; exact .inr ⟨_, by rw [h1.bl_inv], k _ H (Le.refl _) (.int _)⟩
  · cases e⟩
def maxI : Int → List Int → Int
  | a, [] => a
  | a, b :: r => maxI (if a < b then b else a) r
def minI : Int → List Int → Int
  | a, [] => a
  | a, b :: r => minI (if b < a then b else a) r
theorem maxI_spec : ∀ (r : List Int) (a : Int), (maxI a r = a ∨ maxI a r ∈ r) ∧ a ≤ maxI a r ∧ ∀ y ∈ r, y ≤ maxI a r
  | [], a => ⟨.inl rfl, Int.le_refl _, fun _ h => by cases h⟩
  | b :: r, a => by
    obtain ⟨h1, h2, h3⟩ := maxI_spec r (if a < b then b else a)
    have hm : maxI a (b :: r) = maxI (if a < b then b else a) r := rfl
    rw [hm]
    refine ⟨?_, ?_, fun y hy => ?_⟩
    · rcases h1 with h1 | h1
      · rw [h1]; split
        · exact .inr (List.mem_cons_self ..)
        · exact .inl rfl
      · exact .inr (List.mem_cons_of_mem _ h1)
    · refine Int.le_trans ?_ h2; split <;> omega
    · rcases List.mem_cons.mp hy with rfl | hy
      · refine Int.le_trans ?_ h2; split <;> omega
      · exact h3 y hy
theorem minI_spec : ∀ (r : List Int) (a : Int), (minI a r = a ∨ minI a r ∈ r) ∧ minI a r ≤ a ∧ ∀ y ∈ r, minI a r ≤ y
  | [], a => ⟨.inl rfl, Int.le_refl _, fun _ h => by cases h⟩
  | b :: r, a => by
    obtain ⟨h1, h2, h3⟩ := minI_spec r (if b < a then b else a)
    have hm : minI a (b :: r) = minI (if b < a then b else a) r := rfl
    rw [hm]
    refine ⟨?_, ?_, fun y hy => ?_⟩
    · rcases h1 with h1 | h1
      · rw [h1]; split
        · exact .inr (List.mem_cons_self ..)
        · exact .inl rfl
      · exact .inr (List.mem_cons_of_mem _ h1)
    · refine Int.le_trans h2 ?_; split <;> omega
    · rcases List.mem_cons.mp hy with rfl | hy
      · refine Int.le_trans h2 ?_; split <;> omega
      · exact h3 y hy
/-- the ints of a list of ints -/
def intsD : List D → Option (List Int)
  | [] => some []
  | d :: ds => match d with
    | .int i => (intsD ds).map (i :: ·)
    | _ => none
theorem intsD_eq : ∀ {ds : List D} {ns : List Int}, intsD ds = some ns → ds = ns.map D.int
  | [], ns, h => by unfold intsD at h; cases h; rfl
  | d :: ds, ns, h => by
    unfold intsD at h
    split at h
    · obtain ⟨ms, e, rfl⟩ := Option.map_eq_some_iff.mp h
      rw [intsD_eq e]; rfl
    · cases h
def blsD : List D → Option (List Bool)
  | [] => some []
  | d :: ds => match d with
    | .bl i => (blsD ds).map (i :: ·)
    | _ => none
theorem blsD_eq : ∀ {ds : List D} {ns : List Bool}, blsD ds = some ns → ds = ns.map D.bl
  | [], ns, h => by unfold blsD at h; cases h; rfl
  | d :: ds, ns, h => by
    unfold blsD at h
    split at h
    · obtain ⟨ms, e, rfl⟩ := Option.map_eq_some_iff.mp h
      rw [blsD_eq e]; rfl
    · cases h
def strsD : List D → Option (List Str)
  | [] => some []
  | d :: ds => match d with
    | .str i => (strsD ds).map (i :: ·)
    | _ => none
theorem strsD_eq : ∀ {ds : List D} {ns : List Str}, strsD ds = some ns → ds = ns.map D.str
  | [], ns, h => by unfold strsD at h; cases h; rfl
  | d :: ds, ns, h => by
    unfold strsD at h
    split at h
    · obtain ⟨ms, e, rfl⟩ := Option.map_eq_some_iff.mp h
      rw [strsD_eq e]; rfl
    · cases h
def maxD : List D → Option D
  | [.int i, .int j] => some (.int (if i < j then j else i))
  | [.lst xs] => match intsD xs with
    | some (a :: r) => some (.int (maxI a r))
    | _ => none
  | [.tup xs, .tup ys] => best2 PySem.W.dataLt (.tup xs) (.tup ys)
  | _ => none
def minD : List D → Option D
  | [.int i, .int j] => some (.int (if j < i then j else i))
  | [.lst xs] => match intsD xs with
    | some (a :: r) => some (.int (minI a r))
    | _ => none
  | [.tup xs, .tup ys] => best2 (fun p q => PySem.W.dataLt q p) (.tup xs) (.tup ys)
  | _ => none
theorem c_max {X : Cx} (hc : X.calm = true) (hu : X.A.units + 65 < cLine) : CallD X (.builtin "max") maxD := ⟨_, ((call_max2 hc).or (cr_max hc)).or (call_maxD hc hu), by
  intro po P H us as d hl h e Q k
  unfold maxD at e; split at e
  · cases e; obtain ⟨v, u, rfl, h1, h2⟩ := h.two; exact .inl (.inl ⟨_, _, by rw [h1.int_inv, h2.int_inv], k _ H (Le.refl _) (.int _)⟩)
  · split at e
    · rename_i a r hr
      cases e
      obtain ⟨v, rfl, p, xs, rfl, a1, _, a2⟩ := h.one
      have hx := intsD_eq hr
      rw [hx] at a2
      have := a2.ints_inv
      subst this
      obtain ⟨m1, m2, m3⟩ := maxI_spec r a
      refine .inl (.inr ⟨p, a :: r, rfl, .inl (.inl a1), by simp, fun m hm hy => ?_⟩)
      have : m = maxI a r := by
        apply Int.le_antisymm
        · rcases List.mem_cons.mp hm with rfl | hm
          · exact m2
          · exact m3 m hm
        · refine hy _ ?_
          rcases m1 with m1 | m1
          · rw [m1]; exact List.mem_cons_self ..
          · exact List.mem_cons_of_mem _ m1
      rw [this]; exact k _ H (Le.refl _) (.int _)
    · cases e
  · rename_i xs ys
    obtain ⟨v, u, rfl, h1, h2⟩ := h.two
    unfold best2 at e
    split at e
    · rename_i p q e1 e2
      split at e
      · rename_i hs
        refine .inr ⟨v, u, p, q, rfl, h1.dp e1, h2.dp e2, hs.1, hs.2, ?_⟩
        have e := Option.some.inj e
        rw [← e] at k
        split
        · rename_i c
          simp only at c
          rw [if_pos c] at k
          exact k _ H (Le.refl _) h2
        · rename_i c
          simp only at c
          rw [if_neg c] at k
          exact k _ H (Le.refl _) h1
      · cases e
    · cases e
  · cases e⟩
theorem c_min {X : Cx} (hc : X.calm = true) (hu : X.A.units + 65 < cLine) : CallD X (.builtin "min") minD := ⟨_, ((call_min2 hc).or (cr_min hc)).or (call_minD hc hu), by
  intro po P H us as d hl h e Q k
  unfold minD at e; split at e
  · cases e; obtain ⟨v, u, rfl, h1, h2⟩ := h.two; exact .inl (.inl ⟨_, _, by rw [h1.int_inv, h2.int_inv], k _ H (Le.refl _) (.int _)⟩)
  · split at e
    · rename_i a r hr
      cases e
      obtain ⟨v, rfl, p, xs, rfl, a1, _, a2⟩ := h.one
      have hx := intsD_eq hr
      rw [hx] at a2
      have := a2.ints_inv
      subst this
      obtain ⟨m1, m2, m3⟩ := minI_spec r a
      refine .inl (.inr ⟨p, a :: r, rfl, .inl (.inl a1), by simp, fun m hm hy => ?_⟩)
      have : m = minI a r := by
        apply Int.le_antisymm
        · refine hy _ ?_
          rcases m1 with m1 | m1
          · rw [m1]; exact List.mem_cons_self ..
          · exact List.mem_cons_of_mem _ m1
        · rcases List.mem_cons.mp hm with rfl | hm
          · exact m2
          · exact m3 m hm
      rw [this]; exact k _ H (Le.refl _) (.int _)
    · cases e
  · rename_i xs ys
    obtain ⟨v, u, rfl, h1, h2⟩ := h.two
    unfold best2 at e
    split at e
    · rename_i p q e1 e2
      split at e
      · rename_i hs
        refine .inr ⟨v, u, p, q, rfl, h1.dp e1, h2.dp e2, hs.1, hs.2, ?_⟩
        have e := Option.some.inj e
        rw [← e] at k
        split
        · rename_i c
          simp only at c
          rw [if_pos c] at k
          exact k _ H (Le.refl _) h2
        · rename_i c
          simp only at c
          rw [if_neg c] at k
          exact k _ H (Le.refl _) h1
      · cases e
    · cases e
  · cases e⟩
def allD : List D → Option D
  | [.lst xs] => (blsD xs).map fun bs => .bl (bs.all id)
  | _ => none
def anyD : List D → Option D
  | [.lst xs] => (blsD xs).map fun bs => .bl (bs.any id)
  | _ => none
def sumD : List D → Option D
  | [.lst xs] => (intsD xs).map fun bs => .int bs.sum
  | _ => none
theorem c_all {X : Cx} (hc : X.calm = true) : CallD X (.builtin "all") allD := ⟨_, cr_all hc, by
  intro po P H us as d hl h e Q k
  unfold allD at e; split at e
  · obtain ⟨bs, e1, rfl⟩ := Option.map_eq_some_iff.mp e
    obtain ⟨v, rfl, p, xs, rfl, a1, _, a2⟩ := h.one
    rw [blsD_eq e1] at a2
    have := a2.bls_inv
    subst this
    exact ⟨p, bs, rfl, .inl (.inl a1), k _ H (Le.refl _) (.bl _)⟩
  · cases e⟩
theorem c_any {X : Cx} (hc : X.calm = true) : CallD X (.builtin "any") anyD := ⟨_, cr_any hc, by
  intro po P H us as d hl h e Q k
  unfold anyD at e; split at e
  · obtain ⟨bs, e1, rfl⟩ := Option.map_eq_some_iff.mp e
    obtain ⟨v, rfl, p, xs, rfl, a1, _, a2⟩ := h.one
    rw [blsD_eq e1] at a2
    have := a2.bls_inv
    subst this
    exact ⟨p, bs, rfl, .inl (.inl a1), k _ H (Le.refl _) (.bl _)⟩
  · cases e⟩
theorem c_sum {X : Cx} (hc : X.calm = true) : CallD X (.builtin "sum") sumD := ⟨_, cr_sum hc, by
  intro po P H us as d hl h e Q k
  unfold sumD at e; split at e
  · obtain ⟨bs, e1, rfl⟩ := Option.map_eq_some_iff.mp e
    obtain ⟨v, rfl, p, xs, rfl, a1, _, a2⟩ := h.one
    rw [intsD_eq e1] at a2
    have := a2.ints_inv
    subst this
    exact ⟨p, bs, rfl, .inl (.inl a1), k _ H (Le.refl _) (.int _)⟩
  · cases e⟩
def tupleD : List D → Option D
  | [.lst xs] => some (.tup xs)
  | [.tup xs] => some (.tup xs)
  | _ => none
theorem c_tuple {X : Cx} : CallD X (.type "tuple") tupleD := ⟨_, call_tuple_of, by
  intro po P H us as d hl h e Q k
  unfold tupleD at e; split at e
  · cases e
    obtain ⟨v, rfl, p, xs, rfl, a1, _, a2⟩ := h.one
    exact ⟨p, xs, rfl, .inl ⟨.inl (.inl a1), fun q hq => k _ _ (Le.new hq) (newT hl hq a2)⟩⟩
  · cases e
    obtain ⟨v, rfl, h1⟩ := h.one
    obtain ⟨a, xs, rfl, a1, a2⟩ := h1.tup_inv
    exact ⟨a, xs, rfl, .inr ⟨(mask_le _ _).sqT a1, k _ H (Le.refl _) (.tup a1 a2)⟩⟩
  · cases e⟩
def gcdD : List D → Option D
  | [.int a, .int b] => some (.int ((Nat.gcd a.natAbs b.natAbs : Nat) : Int))
  | _ => none
theorem o_gcd {K : PySem.W.Frag} : OpN K rGcd gcdD := by
  intro po P H us as d hl h e Q k
  unfold gcdD at e; split at e
  · cases e; obtain ⟨v, u, rfl, h1, h2⟩ := h.two; exact ⟨_, _, by rw [h1.int_inv, h2.int_inv], k _ H (Le.refl _) (.int _)⟩
  · cases e
end Rf
namespace Rf
open PySem L2 PySem.Spec PyProof.Rows
/-! ### isinstance of a built-in class -/
def tyD : D → String
  | .non => "NoneType"
  | .bl _ => "bool"
  | .int _ => "int"
  | .str _ => "str"
  | .tup _ => "tuple"
  | .lst _ => "list"
  | .dic _ => "dict"
  | .pot => "list"
  | .scr _ => "list"
  | .fn _ => "function"
inductive Ty where
  | int | bool | str | tuple | list | dict
def Ty.nm : Ty → String
  | .int => "int" | .bool => "bool" | .str => "str" | .tuple => "tuple" | .list => "list" | .dict => "dict"
def isi (T : Ty) : D → Bool
  | .bl _ => match T with | .int => true | .bool => true | _ => false
  | .int _ => match T with | .int => true | _ => false
  | .str _ => match T with | .str => true | _ => false
  | .tup _ => match T with | .tuple => true | _ => false
  | .lst _ => match T with | .list => true | _ => false
  | .pot => match T with | .list => true | _ => false
  | .scr _ => match T with | .list => true | _ => false
  | .dic _ => match T with | .dict => true | _ => false
  | .non => false
  | .fn _ => false
def plainD : D → Bool
  | .pot => false
  | .fn _ => false
  | _ => true
theorem isi_kit (T : Ty) (d : D) (h : plainD d = true) : kitB (tyD d) T.nm = some (isi T d) := by
  cases T <;> cases d <;> first | (cases h; done) | (show kitB _ _ = some _; first | (simp only [tyD, Ty.nm, isi]; decide +kernel))
theorem tyX_dn {K : PySem.W.Frag} {po : Option Addr} {H : Hp} {v : V} {d : D} (hpot : plainD d = true) (h : Dn K po H v d) : TyX K H v (.type (tyD d)) := by
  cases h with
  | non => exact .base .non
  | bl b => exact .base (.bl b)
  | int i => exact .base (.int i)
  | str x => exact .base (.str x)
  | dic h1 _ => exact .base (.dK h1)
  | pot _ => cases hpot
  | fn _ => cases hpot
  | lst h1 _ => exact .base (.lst h1)
  | tup h1 _ =>
    rcases h1 with (h1 | ⟨o, h1⟩) | ⟨o, its, n, h1, h2, _⟩
    · exact .base (.tup h1)
    · exact .fTuple h1
    · exact .kTuple h1 h2
  | scr h1 =>
    rcases h1 with (h1 | ⟨o, h1⟩) | ⟨o, its, n, h1, h2, _⟩
    · exact .base (.lst h1)
    · exact .base (.frz h1)
    · exact .kList h1 h2
theorem tyX_of {K : PySem.W.Frag} {po : Option Addr} {P : Addr → Prop} {H : Hp} {v : V} {d : D} (hpot : plainD d = true) (h : Sh K po P H v d) : TyX K H v (.type (tyD d)) := by
  cases d with
  | lst ds => obtain ⟨a, xs, rfl, h1, _⟩ := h; exact .base (.lst h1)
  | _ => exact tyX_dn hpot (Dn.mono (mask_le _ _) (show Dn K po (mask P H) v _ from h))
def isiD (T : Ty) : D → Option D
  | .pot => none
  | .fn _ => none
  | d => some (.bl (isi T d))
section
variable {X : Cx} {e : Expr} {f : S → W → R D} {x : Bool} {pos : Pos}
theorem q_isi {T : Ty} {t : Str} {p p2 : Pos} (hg : Gl X "isinstance") (hm : X.mg "isinstance" = none) (hg2 : Gl X t) (hm2 : X.mg t = none) (hv2 : bootBuiltins t = some (.type T.nm)) (hn2 : t ≠ "__name__") (hd2 : (t == ("__debug__" : Str)) = false) (ha : QE X x e f)
    (hs : starEach [e, .Name t p2] X.env = [(false, eval e X.env), (false, eval (.Name t p2) X.env)]) (hs2 : starEach [.Name t p2] X.env = [(false, eval (.Name t p2) X.env)]) (h0 : starEach ([] : List Expr) X.env = []) (hpl : (backTo pos (starEach [.Name t p2] X.env)).any (·.1) = false) {z : Bool} :
    QE X z (.Call (.Name "isinstance" p) [e, .Name t p2] [] pos) (f1 (isiD T) f) :=
  ⟨PE.imp (pe_callB call_isi hg hm (by decide +kernel) (pa_cons ha.pe (pa_cons (pe_bltn (v := .ty T.nm) hg2 hm2 hv2 rfl hn2 hd2) pa_nil (by rw [hs2, h0])) (by rw [hs, hs2])) (by decide) (by decide) (by rw [hs, hs2]) hpl) fun σ H Q ⟨B, ow, s, w, d, w', m, e, k⟩ => by
    obtain ⟨d1, w1, e1, e⟩ := bnd_inv e
    obtain ⟨e2, rfl⟩ := opt_inv e
    have hd1 : plainD d1 = true := by cases d1 <;> first | rfl | (cases e2; done)
    have e3 : d = .bl (isi T d1) := by
      cases d1 <;> first | exact (Option.some.inj e2).symm | (cases hd1; done)
    refine ⟨B, ow, s, w, d1, w', m, e1, fun v H1 p1 h1 => ⟨v, _, _, _, isi T d1, rfl, .ty T.nm, tyX_of hd1 h1.up, kit_ty (isi_kit T d1 hd1), ?_⟩⟩
    rw [e3] at k
    exact k _ H1 p1 (Vw.dn (.bl _))⟩
end
/-! ### new lists -/
def OpF2 (K : PySem.W.Frag) (r : R2) (o : D → D → Option (List D)) : Prop := ∀ (po : Option Addr) (P : Addr → Prop) (H : Hp) (u v : V) (a b : D) (ds : List D), Sh K po P H u a → Sh K po P H v b → o a b = some ds →
  ∀ Q : VK, (∀ p vs, H p = none → DnAll K po (mask P H) vs ds → Q (.ref p) (upd H p (.lst vs))) → r u v H Q
def OpFN (K : PySem.W.Frag) (r : List V → Hp → VK → Prop) (o : List D → Option (List D)) : Prop := ∀ (po : Option Addr) (P : Addr → Prop) (H : Hp) (us : List V) (as : List D) (ds : List D), VwAll true K po P H us as → o as = some ds →
  ∀ Q : VK, (∀ p vs, H p = none → DnAll K po (mask P H) vs ds → Q (.ref p) (upd H p (.lst vs))) → r us H Q
def g2 (o : D → D → Option (List D)) (f g : S → W → R D) : S → W → R (List D) := fun s w => bnd (f s w) fun a w1 => bnd (g s w1) fun b w2 => opt (o a b) w2
def gN (o : List D → Option (List D)) (f : S → W → R (List D)) : S → W → R (List D) := fun s w => bnd (f s w) fun a w1 => opt (o a) w1
theorem fresh_post {K : PySem.W.Frag} {B : Bs} {ow : Ow} {w : W} {H H1 : Hp} {p : Addr} {vs : List V} {ds : List D} {Q : VK} (pp : Post B.po w H H1) (hp : H1 p = none) (hd : DnAll K B.po (Mk B ow H1) vs ds)
    (k : ∀ p vs H', Post B.po w H H' → H p = none → H' p = some (.lst vs) → DnAll K B.po (mask (fun a => hid B ow a ∨ a = p) H') vs ds → Q (.ref p) H') : Q (.ref p) (upd H1 p (.lst vs)) := by
  refine k p vs _ (pp.trans (Post.le pp.pot (Le.new hp))) ?_ upd_same (hd.mono (mask_mono fun a o e n => ?_))
  · cases q : H p with
    | none => rfl
    | some o => exact absurd hp (pp.there p (by rw [q]; simp))
  · have ne : a ≠ p := fun z => by rw [z, hp] at e; cases e
    exact ⟨upd_at e ne, fun z => by
      rcases z with z | z
      · exact n z
      · exact ne z⟩
section
variable {X : Cx} {e a b : Expr} {es : List Expr} {f g : S → W → R D} {fa : S → W → R (List D)} {x y : Bool} {pos : Pos}
theorem qf_bin {op : Operator} {r : R2} {o : D → D → Option (List D)} (ho : OpR X (binaryOp op) r) (h : OpF2 X.K r o) (ha : QE X x a f) (hb : QE X y b g) : QF X (.BinOp a op b pos) (g2 o f g) :=
  ⟨PE.imp (pe_op ho ha.pe hb.pe) fun σ H Q t => by
    obtain ⟨B, ow, s, w, d, w', m, e, k⟩ := t
    obtain ⟨a, w1, e1, e⟩ := bnd_inv e
    obtain ⟨b, w2, e2, e⟩ := bnd_inv e
    obtain ⟨e3, rfl⟩ := opt_inv e
    refine ⟨B, ow, s, w, a, w1, m, e1, fun u H1 p1 h1 => ⟨B, ow, s, w1, b, w', m.post p1, e2, fun v H2 p2 h2 => ?_⟩⟩
    exact h B.po (hid B ow) H2 u v a b d (h1.post p2).up h2.up e3 Q fun p vs hp hd => fresh_post (p1.trans p2) hp hd k⟩
theorem qf_callTy {n : Str} {T : String} {r : List V → Hp → VK → Prop} {o : List D → Option (List D)} {p : Pos} (hc : CallR X (.type T) r) (h : OpFN X.K r o) (hg : Gl X n) (hm : X.mg n = none) (hv : bootBuiltins n = some (.type T)) (ha : QA X x (e :: es) fa) (hn : n ≠ "__name__") (hdb : (n == ("__debug__" : Str)) = false)
    (he : starEach (e :: es) X.env = (false, eval e X.env) :: starEach es X.env) (hpl : (backTo pos (starEach es X.env)).any (·.1) = false) : QF X (.Call (.Name n p) (e :: es) [] pos) (gN o fa) :=
  ⟨PE.imp (pe_callTy hc hg hm hv ha.pa hn hdb he hpl) fun σ H Q t => by
    obtain ⟨B, ow, s, w, d, w', m, e, k⟩ := t
    obtain ⟨a, w1, e1, e⟩ := bnd_inv e
    obtain ⟨e3, rfl⟩ := opt_inv e
    refine ⟨B, ow, s, w, a, w', m, e1, fun u H1 p1 h1 => ?_⟩
    exact h B.po (hid B ow) H1 u a d h1.up e3 Q fun p vs hp hd => fresh_post p1 hp hd k⟩
theorem qf_lst (ha : QA X false es fa) : QF X (.List es pos) (fun s w => bnd (fa s w) fun ds w1 => if ds.length ≤ sizeLine then .ok ds w1 else .no) := ⟨PE.imp (pe_lst ha.pa) fun σ H Q ⟨B, ow, s, w, d, w', m, e, k⟩ => by
    obtain ⟨a, w1, e1, e⟩ := bnd_inv e
    split at e
    · rename_i hs
      cases e
      exact ⟨B, ow, s, w, _, _, m, e1, fun u H1 p1 h1 => ⟨by rw [h1.dn.length]; exact hs, fun p hp => fresh_post p1 hp h1.dn k⟩⟩
    · cases e⟩
end
def catF : D → D → Option (List D)
  | .lst xs, .lst ys => if xs.length + ys.length ≤ sizeLine then some (xs ++ ys) else none
  | _, _ => none
theorem o_catF {K : PySem.W.Frag} : OpF2 K rCat catF := by
  intro po P H u v a b d h1 h2 e Q k
  unfold catF at e; split at e
  · split at e
    · rename_i hs
      cases e
      obtain ⟨a, xs, rfl, a1, _, a2⟩ := h1
      obtain ⟨b, ys, rfl, b1, _, b2⟩ := h2
      exact ⟨a, b, xs, ys, rfl, rfl, a1, b1, by rw [a2.length, b2.length]; exact hs, fun p hp => k p _ hp (a2.append b2)⟩
    · cases e
  · cases e
def repF : D → D → Option (List D)
  | .lst xs, .int k => if -(2 ^ 63) ≤ k ∧ k < 2 ^ 63 ∧ xs.length * k.toNat ≤ sizeLine then some (List.replicate k.toNat xs).flatten else none
  | _, _ => none
theorem o_repF {K : PySem.W.Frag} : OpF2 K rRep repF := by
  intro po P H u v a b d h1 h2 e Q k
  unfold repF at e; split at e
  · split at e
    · rename_i hs
      cases e
      obtain ⟨a, xs, rfl, a1, _, a2⟩ := h1
      exact ⟨a, _, xs, rfl, h2.int_inv, a1, hs.1, hs.2.1, by rw [a2.length]; exact hs.2.2, fun p hp => k p _ hp (a2.flat _)⟩
    · cases e
  · cases e
/-- list(a list), list(a tuple) -/
def listF : List D → Option (List D)
  | [.lst xs] => some xs
  | [.tup xs] => some xs
  | _ => none
def rListK (K : PySem.W.Frag) : List V → Hp → VK → Prop := fun xs H Q => ∃ p ys, xs = [.ref p] ∧ (SqL K H p ys ∨ SqT K H p ys) ∧ ∀ l, H l = none → Q (.ref l) (upd H l (.lst ys))
theorem o_listF {K : PySem.W.Frag} : OpFN K (rListK K) listF := by
  intro po P H us as d h e Q k
  unfold listF at e; split at e
  · cases e
    obtain ⟨v, rfl, p, xs, rfl, a1, _, a2⟩ := h.one
    exact ⟨p, xs, rfl, .inl (.inl (.inl a1)), fun l hl => k l _ hl a2⟩
  · cases e
    obtain ⟨v, rfl, h1⟩ := h.one
    obtain ⟨a, xs, rfl, a1, a2⟩ := h1.tup_inv
    exact ⟨a, xs, rfl, .inr ((mask_le _ _).sqT a1), fun l hl => k l _ hl a2⟩
  · cases e
/-! ### a, b = x, y -/
inductive Cp where
  | v (f : S → W → R D) | f (f : S → W → R (List D))
def trC (K : PySem.W.Frag) : Cp → TE
  | .v f => trE K false f
  | .f f => trF K f
def taC (K : PySem.W.Frag) : List Cp → TA
  | [] => tNil
  | c :: cs => tCons (trC K c) (taC K cs)
def parL : List (Nat × Cp) → S → S → W → R S
  | [], _, s', w => .ok s' w
  | (i, .v f) :: r, s, s', w => bnd (f s w) fun d w1 => parL r s (s'.set i (.v d)) w1
  | (i, .f f) :: r, s, s', w => bnd (f s w) fun ds w1 => if i < s'.length then parL r s (s'.set i (.o ds)) w1 else .no
def setAll : L2.St → List Nat → List V → L2.St
  | σ, i :: is, v :: vs => setAll (σ.set i (some v)) is vs
  | σ, _, _ => σ
theorem par_tr {K : PySem.W.Frag} {B : Bs} {σ : L2.St} {s : S} {Hs : Hp} {ow0 : Ow} : ∀ (l : List (Nat × Cp)) (Bk : Bs) (ow ow' : Ow) (s' : S) (w : W) (σ' : L2.St) (H : Hp) (s2 : S) (w2 : W) (Q : List V → Hp → Prop),
    Sim K Bk ow s w σ H → Sim K B ow' s' w σ' H → Bk.po = B.po → (∀ a, hid B ow' a → hid Bk ow a) → Le (Mk B ow0 Hs) (Mk B ow' H) → parL l s s' w = .ok s2 w2 →
    (∀ vs H2 ow2, vs.length = l.length → Sim K B ow2 s2 w2 (setAll σ' (l.map (·.1)) vs) H2 → Le (Mk B ow0 Hs) (Mk B ow2 H2) → Q vs H2) → taC K (l.map (·.2)) σ H Q
  | [], Bk, ow, ow', s', w, σ', H, s2, w2, Q, m, m', hpo, hh, le, e, k => by
    cases e
    exact k [] H ow' rfl m' le
  | (i, .v f) :: r, Bk, ow, ow', s', w, σ', H, s2, w2, Q, m, m', hpo, hh, le, e, k => by
    obtain ⟨d, w1, e1, e⟩ := bnd_inv e
    refine ⟨Bk, ow, s, w, d, w1, m, e1, fun v H1 p1 h1 => ?_⟩
    have p1' : Post B.po w1 H H1 := by rw [← hpo]; exact p1
    have h1' : Dn K B.po (Mk B ow' H1) v d := by
      have : Dn K Bk.po (Mk Bk ow H1) v d := h1
      rw [hpo] at this
      exact this.mono (mask_mono fun a o e n => ⟨e, fun z => n (hh a z)⟩)
    refine par_tr r Bk ow (ow'.del i) (s'.set i (.v d)) w1 (σ'.set i (some v)) H1 s2 w2 _ (m.post p1) ((m'.post p1').put h1') hpo (fun a z => hh a ?_) ((le.trans p1'.msk).trans Ow.del_le) e fun vs H2 ow2 hl m2 l2 => k (v :: vs) H2 ow2 (by simp [hl]) m2 l2
    rcases z with (z | ⟨j, z⟩) | z
    · exact .inl (.inl z)
    · unfold Ow.del at z; split at z
      · cases z
      · exact .inl (.inr ⟨j, z⟩)
    · exact .inr z
  | (i, .f f) :: r, Bk, ow, ow', s', w, σ', H, s2, w2, Q, m, m', hpo, hh, le, e, k => by
    obtain ⟨ds, w1, e1, e⟩ := bnd_inv e
    split at e
    rotate_left
    · cases e
    rename_i hi
    refine ⟨Bk, ow, s, w, ds, w1, m, e1, fun p vs1 H1 p1 hp h1 h2 => ?_⟩
    have p1' : Post B.po w1 H H1 := by rw [← hpo]; exact p1
    have h2' : DnAll K B.po (mask (fun a => hid B ow' a ∨ a = p) H1) vs1 ds := by
      rw [hpo] at h2
      refine h2.mono (mask_mono fun a o e n => ⟨e, fun z => n ?_⟩)
      rcases z with z | z
      · exact .inl (hh a z)
      · exact .inr z
    obtain ⟨m1, l1⟩ := m'.own_new hi p1' hp h1 h2'
    have mw := m.within (w1 := w1) p1 hp h1
    refine par_tr r _ ow (ow'.add i p) (s'.set i (.o ds)) w1 (σ'.set i (some (.ref p))) H1 s2 w2 _ mw m1 hpo (fun a z => ?_) (le.trans l1) e fun vs H2 ow2 hl m2 l2 => k (.ref p :: vs) H2 ow2 (by simp [hl]) m2 l2
    have low : hid Bk ow a ∨ a = p → hid ⟨mask (fun a => ∃ i, ow i = some a) H1, fun a => Bk.O a ∨ a = p, Bk.po⟩ ow a := by
      rintro (((z | z) | z) | z)
      · exact .inl (.inl (.inl z))
      · exact .inl (.inr z)
      · exact .inr z
      · exact .inl (.inl (.inr z))
    apply low
    rcases z with (z | ⟨j, z⟩) | z
    · exact .inl (hh a (.inl (.inl z)))
    · have z : (if j = i then some p else ow' j) = some a := z
      split at z
      · cases z; exact .inr rfl
      · exact .inl (hh a (.inl (.inr ⟨j, z⟩)))
    · exact .inl (hh a (.inr z))
def fPar (l : List (Nat × Cp)) : S → W → R Fl := fun s w => bnd (parL l s s w) fun s' w' => .ok (.nx s') w'
structure QC (X : Cx) (e : Expr) (c : Cp) : Prop where
  pe : PE X e (trC X.K c)
theorem QE.qc {X : Cx} {e : Expr} {f : S → W → R D} (h : QE X false e f) : QC X e (.v f) := ⟨h.pe⟩
theorem QF.qc {X : Cx} {e : Expr} {f : S → W → R (List D)} (h : QF X e f) : QC X e (.f f) := ⟨h.pe⟩
section
variable {X : Cx}
theorem qs_par2 {i j : Nat} {x y : Str} {a b : Expr} {c1 c2 : Cp} {px py pt pos : Pos} {kt k2 : Nat} {pt2 : Pos} (hc : X.calm = true) (hN : X.N.Nodup) (hi : X.N[i]? = some x) (hj : X.N[j]? = some y) (hij : i ≠ j)
    (hx : X.env.scope.names.lookup x = some .local) (hy : X.env.scope.names.lookup y = some .local) (h1 : QC X a c1) (h2 : QC X b c2)
    (hs1 : starEach [a, b] X.env = [(false, eval a X.env), (false, eval b X.env)]) (hs2 : starEach [b] X.env = [(false, eval b X.env)]) (h0 : starEach ([] : List Expr) X.env = [])
    (hw : swappedStores [.Tuple [.Name x px, .Name y py] kt pt] (.Tuple [a, b] k2 pt2) X.env = pure (some [x, y]))
    (hs : swapsWithSole [.Tuple [.Name x px, .Name y py] kt pt] (.Tuple [a, b] k2 pt2) pos.line X.env = pure false) :
    QS X (.Assign [.Tuple [.Name x px, .Name y py] kt pt] (.Tuple [a, b] k2 pt2) pos) (fPar [(i, c1), (j, c2)]) :=
  ⟨PS.imp (ps_par hc hN hi hj hij hx hy (pa_cons h1.pe (pa_cons h2.pe pa_nil (by rw [hs2, h0])) (by rw [hs1, hs2])) hw hs) fun E σ H ⟨B, ow, s, w, fl, w', m, e, k⟩ => by
    obtain ⟨s', w1, e1, e⟩ := bnd_inv e
    cases e
    refine par_tr (B := B) (s := s) (ow0 := ow) (Hs := H) [(i, c1), (j, c2)] B ow ow s w σ H s' _ _ m m rfl (fun _ z => z) (Le.refl _) e1 fun vs H2 ow2 hl m2 l2 => ?_
    match vs, hl with
    | [v, u], _ => exact ⟨v, u, rfl, k ow2 _ H2 l2 m2⟩⟩
theorem qs_par3 {i j l : Nat} {x y z : Str} {a b c : Expr} {c1 c2 c3 : Cp} {px py pz pt pos : Pos} {kt k2 : Nat} {pt2 : Pos} (hc : X.calm = true) (hN : X.N.Nodup) (hi : X.N[i]? = some x) (hj : X.N[j]? = some y) (hl : X.N[l]? = some z) (hij : i ≠ j) (hil : i ≠ l) (hjl : j ≠ l)
    (hx : X.env.scope.names.lookup x = some .local) (hy : X.env.scope.names.lookup y = some .local) (hz : X.env.scope.names.lookup z = some .local) (h1 : QC X a c1) (h2 : QC X b c2) (h3 : QC X c c3)
    (hs1 : starEach [a, b, c] X.env = [(false, eval a X.env), (false, eval b X.env), (false, eval c X.env)]) (hs2 : starEach [b, c] X.env = [(false, eval b X.env), (false, eval c X.env)]) (hs3 : starEach [c] X.env = [(false, eval c X.env)]) (h0 : starEach ([] : List Expr) X.env = [])
    (hw : swappedStores [.Tuple [.Name x px, .Name y py, .Name z pz] kt pt] (.Tuple [a, b, c] k2 pt2) X.env = pure (some [x, y, z]))
    (hs : swapsWithSole [.Tuple [.Name x px, .Name y py, .Name z pz] kt pt] (.Tuple [a, b, c] k2 pt2) pos.line X.env = pure false) :
    QS X (.Assign [.Tuple [.Name x px, .Name y py, .Name z pz] kt pt] (.Tuple [a, b, c] k2 pt2) pos) (fPar [(i, c1), (j, c2), (l, c3)]) :=
  ⟨PS.imp (ps_par3 hc hN hi hj hl hij hil hjl hx hy hz (pa_cons h1.pe (pa_cons h2.pe (pa_cons h3.pe pa_nil (by rw [hs3, h0])) (by rw [hs2, hs3])) (by rw [hs1, hs2])) hw hs) fun E σ H ⟨B, ow, s, w, fl, w', m, e, k⟩ => by
    obtain ⟨s', w1, e1, e⟩ := bnd_inv e
    cases e
    refine par_tr (B := B) (s := s) (ow0 := ow) (Hs := H) [(i, c1), (j, c2), (l, c3)] B ow ow s w σ H s' _ _ m m rfl (fun _ z => z) (Le.refl _) e1 fun vs H2 ow2 hl m2 l2 => ?_
    match vs, hl with
    | [v, u, t], _ => exact ⟨v, u, t, rfl, k ow2 _ H2 l2 m2⟩⟩
end
end Rf
namespace Rf
open PySem L2 PySem.Spec PyProof.Rows
/-! ## zip, enumerate of lists, tuples, texts in any mix -/
inductive Src where
  | lst (a : Addr) | tup (a : Addr) | txt (x : Str)
def Src.v : Src → V
  | .lst a => .ref a
  | .tup a => .ref a
  | .txt x => .str x
def Src.has (K : PySem.W.Frag) (H : Hp) : Src → List V → Prop
  | .lst a, xs => SqL K H a xs
  | .tup a, xs => SqT K H a xs
  | .txt x, xs => xs = x.cps.toList.map fun c => V.str ⟨#[c]⟩
def Src.it (h : Heap) (i : Addr) (k : Nat) : Src → Prop
  | .lst a => h.IsListIter i a k
  | .tup a => h.IsTupleIter i a k
  | .txt x => ∃ t, h.IsStrIter i (strIterType x) x t k
def Src.ad : Src → List Addr
  | .lst a => [a]
  | .tup a => [a]
  | .txt _ => []
theorem Src.it_at {src : Src} {h h' : Heap} {i : Addr} {k : Nat} (st : src.it h i k) (hk : ∀ o, h.get? i = some o → h'.get? i = some o) : src.it h' i k := by
  cases src with
  | lst a => exact Heap.IsListIter.at (h := h) st hk
  | tup a => exact Heap.IsTupleIter.at (h := h) st hk
  | txt x => obtain ⟨t, o, ho, r⟩ := st; exact ⟨t, o, hk o ho, r⟩
theorem Src.it_obj {src : Src} {h : Heap} {i : Addr} {k : Nat} (st : src.it h i k) : ∃ o, h.get? i = some o ∧ ∀ v, o.data ≠ .cell v := by
  cases src with
  | lst a => obtain ⟨o, e, _, d⟩ := st; exact ⟨o, e, fun v q => by rw [d] at q; cases q⟩
  | tup a => obtain ⟨o, e, _, d⟩ := st; exact ⟨o, e, fun v q => by rw [d] at q; cases q⟩
  | txt x => obtain ⟨t, o, e, _, d⟩ := st; exact ⟨o, e, fun v q => by rw [d] at q; cases q⟩
theorem Src.has_inj {X : Cx} {pins : List (Addr × Obj)} {σ : L2.St} {H : Hp} {s : Shared} (I : Inv X pins σ H s) {src : Src} {xs ys : List V} (h : src.has X.K H xs) (h' : src.has X.K H ys) : xs = ys := by
  cases src with
  | lst a => exact I.list_inj h h'
  | tup a => exact I.tuple_inj h h'
  | txt x => exact Eq.trans (b := _) h (Eq.symm h')
theorem vals_rev {xs : List V} {us : List Value} (r : Vals xs us) {j : Nat} {v : Value} (h : us.toArray[j]? = some v) : ∃ x, xs[j]? = some x ∧ RelV x v := by
  have h : us[j]? = some v := by simpa using h
  have hj : j < us.length := by
    by_cases q : j < us.length
    · exact q
    · rw [List.getElem?_eq_none (by omega)] at h; cases h
  have hj' : j < xs.length := by rw [r.length]; exact hj
  obtain ⟨u, e1, e2⟩ := r.get (List.getElem?_eq_getElem hj')
  rw [h] at e1; cases e1
  exact ⟨_, List.getElem?_eq_getElem hj', e2⟩
/-- what such an iterator draws, at a state -/
structure Drw (P : Program) (w : World) (A : Around) (K : PySem.W.Frag) (src : Src) (xs : List V) (s : Shared) (it : Addr) (i : Nat) : Prop where
  ex : ∃ (Pv : Nat → Value → Prop) (St : Nat → Heap → Prop), Draws P w A it (it :: src.ad) xs.length Pv St ∧ St i s.heap ∧ (∀ j v, Pv j v → ∃ x, xs[j]? = some x ∧ RelV x v) ∧ ∀ j h', St j h' → src.it h' it j
theorem Src.draws {X : Cx} {pins : List (Addr × Obj)} {σ : L2.St} {H : Hp} {s : Shared} (I : Inv X pins σ H s) {src : Src} {xs : List V} {it : Addr} {i : Nat} {A : Around} (hh : A.handled = none) (h : src.has X.K H xs) (st : src.it s.heap it i) (hne : ∀ a ∈ src.ad, a ≠ it) :
    Drw X.prog X.w A X.K src xs s it i := by
  cases src with
  | lst a =>
    obtain ⟨its, rv, p, _⟩ := I.list h
    have D := Draws.list (prog := X.prog) (w := X.w) hh it a (hne a (List.mem_singleton.mpr rfl)) its.toArray
    rw [show its.toArray.size = xs.length by simp [rv.length]] at D
    exact ⟨_, _, D, ⟨st, p.isList⟩, fun j v q => vals_rev rv q, fun j h' q => q.1⟩
  | tup a =>
    obtain ⟨its, rv, p, _⟩ := I.tuple h
    have D := Draws.tuple (prog := X.prog) (w := X.w) hh it a (hne a (List.mem_singleton.mpr rfl)) its.toArray
    rw [show its.toArray.size = xs.length by simp [rv.length]] at D
    exact ⟨_, _, D, ⟨st, (show s.heap.IsTuple a its.toArray from p)⟩, fun j v q => vals_rev rv q, fun j h' q => q.1⟩
  | txt x =>
    obtain ⟨t, st⟩ := st
    have h : xs = x.cps.toList.map fun c => V.str ⟨#[c]⟩ := h
    subst h
    have D := Draws.text (prog := X.prog) (w := X.w) hh it x t
    rw [show x.cps.size = (x.cps.toList.map fun c => V.str ⟨#[c]⟩).length by simp] at D
    exact ⟨_, _, D, st, fun j v ⟨c, u, e1, e2⟩ => ⟨.str ⟨#[c]⟩, by rw [List.getElem?_map, Array.getElem?_toList, e1]; rfl, u, e2⟩, fun j h' q => ⟨t, q⟩⟩
def Itzz (K : PySem.W.Frag) (s1 s2 : Src) : L2.It :=
  ⟨fun i H => ∃ xs ys, s1.has K H xs ∧ s2.has K H ys ∧ i < xs.length ∧ i < ys.length,
    fun i H v H' => ∃ T x y, v = .ref T ∧ H T = none ∧ H' = upd H T (.tup [x, y]) ∧ (∀ xs, s1.has K H xs → xs[i]? = some x) ∧ ∀ ys, s2.has K H ys → ys[i]? = some y,
    fun i H => ∃ xs ys, s1.has K H xs ∧ s2.has K H ys ∧ i ≤ xs.length ∧ i ≤ ys.length ∧ (i = xs.length ∨ i = ys.length)⟩
def zFp (n : Nat) : List Addr := [n + 4, n + 2, n + 3, n, n + 1]
def zSt (s1 s2 : Src) (n : Nat) (i : Nat) (h : Heap) : Prop := IsZip h (n + 4) (n + 2) (n + 3) .none ∧ IsTupOf2 h (n + 2) (.ref n) (.ref (n + 1)) ∧ (∃ x y, IsTupOf2 h (n + 3) x y) ∧ s1.it h n i ∧ s2.it h (n + 1) i
theorem neA {a b : Nat} (h : a ≠ b) : @Ne Addr a b := h
theorem zSep {s1 s2 : Src} {n : Nat} (h1 : ∀ a : Nat, a ∈ s1.ad → a < n) (h2 : ∀ a : Nat, a ∈ s2.ad → a < n) : ZipSep2 (n + 4) (n + 2) (n + 3) n (n + 1) (n :: s1.ad) ((n + 1) :: s2.ad) := by
  have k1 : ∀ j : Nat, n ≤ j → j ∉ s1.ad := fun j q z => by have := h1 _ z; omega
  have k2 : ∀ j : Nat, n ≤ j → j ∉ s2.ad := fun j q z => by have := h2 _ z; omega
  have c1 : ∀ j : Nat, n ≤ j → j ≠ n → j ∉ n :: s1.ad := fun j q q2 z => (List.mem_cons.mp z).elim q2 (k1 j q)
  have c2 : ∀ j : Nat, n ≤ j → j ≠ n + 1 → j ∉ (n + 1) :: s2.ad := fun j q q2 z => (List.mem_cons.mp z).elim q2 (k2 j q)
  exact ⟨neA (by omega), neA (by omega), neA (by omega), neA (by omega), List.mem_cons_self .., c1 _ (by omega) (by omega), c1 _ (by omega) (by omega), neA (by omega), List.mem_cons_self .., c2 _ (by omega) (by omega), c2 _ (by omega) (by omega), c2 _ (by omega) (by omega), c1 _ (by omega) (by omega)⟩
theorem mem_zFp {n c : Nat} : c ∈ zFp n → c = n + 4 ∨ c = n + 2 ∨ c = n + 3 ∨ c = n ∨ c = n + 1 := fun h => by simpa [zFp] using h
theorem turn_zz {P : Program} {w : World} {K : PySem.W.Frag} {elts : List Expr} {kk : Nat} {tpos : Pos} {s1 s2 : Src} {n : Nat} (h1 : ∀ a : Nat, a ∈ s1.ad → a < n) (h2 : ∀ a : Nat, a ∈ s2.ad → a < n) :
    Turn P w K (.Tuple elts kk tpos) (Itzz K s1 s2) (zFp n) (n + 4) (zSt s1 s2 n) where
  mem := by simp [zFp]
  obj := fun i h st c hc => by
    obtain ⟨a1, a2, ⟨x, y, a3⟩, a4, a5⟩ := st
    rcases mem_zFp hc with q | q | q | q | q <;> subst q
    · exact ⟨_, a1, fun v q => nomatch q⟩
    · exact ⟨_, a2, fun v q => nomatch q⟩
    · exact ⟨_, a3, fun v q => nomatch q⟩
    · exact Src.it_obj a4
    · exact Src.it_obj a5
  keep := fun i h h' st k => by
    obtain ⟨a1, a2, ⟨x, y, a3⟩, a4, a5⟩ := st
    exact ⟨k _ (by simp [zFp]) _ a1, k _ (by simp [zFp]) _ a2, ⟨x, y, k _ (by simp [zFp]) _ a3⟩, Src.it_at a4 fun o q => k _ (by simp [zFp]) o q, Src.it_at a5 fun o q => k _ (by simp [zFp]) o q⟩
  item := by
    intro X hP hw hK hc i pins s σ H E I hf st hg
    subst hP hw hK
    obtain ⟨a1, a2, ⟨x0, y0, a3⟩, a4, a5⟩ := st
    obtain ⟨xs, ys, q1, q2, l1, l2⟩ := hg
    have hh : X.A.in1.handled = none := I.ok.hd hc
    obtain ⟨P1, S1, D1, t1, v1, e1⟩ := (Src.draws I hh q1 a4 fun a ha => neA (Nat.ne_of_lt (h1 a ha))).ex
    obtain ⟨P2, S2, D2, t2, v2, e2⟩ := (Src.draws I hh q2 a5 fun a ha => neA (Nat.ne_of_lt (Nat.lt_succ_of_lt (h2 a ha)))).ex
    refine wpAny_pyNext_zipD2_item (zSep h1 h2) D1 D2 a1 a2 a3 t1 t2 l1 l2 fun x1 x2 h' tk p1 p2 z' TO' st1 st2 hT hsz hk => ?_
    obtain ⟨x, hx, rx⟩ := v1 _ _ p1
    obtain ⟨y, hy, ry⟩ := v2 _ _ p2
    have hzl : n + 4 < s.heap.objs.size := Heap.lt_size a1
    refine ⟨_, rfl, wpAny_letOwnedTupleGo_zip (s := { s with heap := h', toks := tk }) z' fun h'' z'' sb => ?_⟩
    have hT2 : h''.get? s.heap.objs.size = some { cls := .type "tuple", data := .seq #[x1, x2] } := (sb.2 _ (Nat.ne_of_gt hzl)).trans hT
    have new : ObjOk X.prog X.w (upd H s.heap.objs.size (.tup [x, y])) h'' s.heap.objs.size (.tup [x, y]) := ⟨by show 2 ≤ sizeLine; decide, [x1, x2], .cons rx (.cons ry .nil), ⟨_, hT2, rfl, _, rfl⟩⟩
    have up : ∀ c o, c ∉ zFp n → s.heap.get? c = some o → h''.get? c = some o := fun c o hb q =>
      (sb.2 c (fun q' => hb (by simp [zFp, q']))).trans (hk c o (fun q' => hb (by simp [zFp, q'])) (fun q' => hb (by simp [zFp, q'])) (fun q' => hb (by simp [zFp, q'])) (fun q' => hb (by simp [zFp, q'])) q)
    refine ⟨.ref s.heap.objs.size, _, I.turnedNew (t' := tk) (ch := zFp n) up hf (Nat.le_refl _) new, rfl, ⟨_, x, y, rfl, I.hok.fresh (Nat.le_refl _), rfl, fun l hl => ?_, fun l hl => ?_⟩, ⟨z'', ?_, ⟨x1, x2, ?_⟩, ?_, ?_⟩, fun c hcm => ?_⟩
    · rw [Src.has_inj I hl q1]; exact hx
    · rw [Src.has_inj I hl q2]; exact hy
    · exact (sb.2 _ (neA (by omega))).trans (hk _ _ (neA (by omega)) (neA (by omega)) (neA (by omega)) (neA (by omega)) a2)
    · exact (sb.2 _ (neA (by omega))).trans TO'
    · exact Src.it_at (e1 _ _ st1) fun o q => (sb.2 _ (neA (by omega))).trans q
    · exact Src.it_at (e2 _ _ st2) fun o q => (sb.2 _ (neA (by omega))).trans q
    · have hlt : c < s.heap.objs.size := by
        have hz : ∀ m : Nat, m ≤ n + 4 → m < s.heap.objs.size := fun m q => Nat.lt_of_le_of_lt q hzl
        rcases mem_zFp hcm with q | q | q | q | q <;> rw [q] <;> exact hz _ (by omega)
      rw [upd_ne (Nat.ne_of_lt hlt)]
      exact (hf c hcm).1
  done := by
    intro X hP hw hK hc i pins s σ H E I hf st hg
    subst hP hw hK
    obtain ⟨a1, a2, ⟨x0, y0, a3⟩, a4, a5⟩ := st
    obtain ⟨xs, ys, q1, q2, l1, l2, l3⟩ := hg
    have hh : X.A.in1.handled = none := I.ok.hd hc
    obtain ⟨P1, S1, D1, t1, v1, e1⟩ := (Src.draws I hh q1 a4 fun a ha => neA (Nat.ne_of_lt (h1 a ha))).ex
    obtain ⟨P2, S2, D2, t2, v2, e2⟩ := (Src.draws I hh q2 a5 fun a ha => neA (Nat.ne_of_lt (Nat.lt_succ_of_lt (h2 a ha)))).ex
    exact wpAny_pyNext_zipD2_end (zSep h1 h2) D1 D2 a1 a2 a3 t1 t2 l1 l2 l3 fun h' tk hk => ⟨rfl, I.turnedL (t' := tk) (ch := zFp n) (fun c o hb q =>
      hk c o (fun q' => hb (by simp [zFp, q'])) (fun q' => hb (by simp [zFp, q'])) (fun q' => hb (by simp [zFp, q'])) (fun q' => hb (by simp [zFp, q'])) q) hf⟩
  self := fun A i s Q E st h => wpAny_pyIter_zip st.1 h
end Rf
namespace Rf
open PySem L2 PySem.Spec PyProof.Rows
/-- how iter(v) starts -/
structure Bgn (K : PySem.W.Frag) (src : Src) (u : Value) (s : Shared) : Prop where
  ex : ∃ (o : Obj) (Hh : Heap → Prop), Begins u o Hh ∧ Hh s.heap ∧ (∀ (h' : Heap) (i : Addr), h'.get? i = some o → src.it h' i 0) ∧ ∀ a : Nat, a ∈ src.ad → a < s.heap.objs.size
theorem Src.begins {X : Cx} {pins : List (Addr × Obj)} {σ : L2.St} {H : Hp} {s : Shared} (I : Inv X pins σ H s) {src : Src} {xs : List V} {u : Value} (h : src.has X.K H xs) (r : RelV src.v u) : Bgn X.K src u s := by
  cases src with
  | lst a =>
    cases r
    obtain ⟨its, rv, p, _⟩ := I.list h
    refine ⟨_, _, begins_list a its.toArray, p.isList, fun h' i e => ⟨_, e, rfl, rfl⟩, fun b hb => ?_⟩
    rw [List.mem_singleton.mp hb]; exact p.lt
  | tup a =>
    cases r
    obtain ⟨its, rv, p, _⟩ := I.tuple h
    refine ⟨_, _, begins_tuple a its.toArray, (show s.heap.IsTuple a its.toArray from p), fun h' i e => ⟨_, e, rfl, rfl⟩, fun b hb => ?_⟩
    rw [List.mem_singleton.mp hb]
    obtain ⟨o, ho, _⟩ := p
    exact Heap.lt_size ho
  | txt x =>
    obtain ⟨t, rfl⟩ := r
    exact ⟨_, _, begins_text x t, trivial, fun h' i e => ⟨t, _, e, rfl, rfl⟩, fun b hb => nomatch hb⟩
def iZz (K : PySem.W.Frag) (ta : TA) : TI := fun σ H R => ta σ H fun vs H1 => ∃ s1 s2 xs ys, vs = [Src.v s1, Src.v s2] ∧ s1.has K H1 xs ∧ s2.has K H1 ys ∧ R (Itzz K s1 s2) H1
theorem pi_zz {X : Cx} {e e2 : Expr} {ta : TA} {p pos tpos : Pos} {elts : List Expr} {kk : Nat} (hg : Gl X "zip") (hm : X.mg "zip" = none) (ha : PA X [e, e2] ta)
    (hs : starEach [e, e2] X.env = (false, eval e X.env) :: starEach [e2] X.env) (hpl : (backTo pos (starEach [e2] X.env)).any (·.1) = false) :
    PI X (.Tuple elts kk tpos) (.Call (.Name "zip" p) [e, e2] [] pos) (iZz X.K ta) := by
  refine ⟨fun pins s σ H R I h => ?_⟩
  refine Call_ (ld_blt I hg hm PyProof.Rows.boot_zip (PyProof.Rows.callWith_type1 (thn (ha.run pos pins s σ H _ I h) fun us s1 ⟨vs, H1, I1, r1, q1⟩ => ?_) hs hpl))
  obtain ⟨a, b, xs, ys, rfl, qx, qy, q⟩ := q1
  cases r1 with
  | cons r rr =>
    cases rr with
    | cons r' rr =>
      cases rr
      obtain ⟨o1, F1, B1, f1, g1, l1⟩ := (Src.begins I1 qx r).ex
      obtain ⟨o2, F2, B2, f2, g2, l2⟩ := (Src.begins I1 qy r').ex
      refine zip_begins2 B1 B2 f1 f2 fun h' hz hTI hTO h1 h2 hsz hk => wpAny_pyIter_zip hz ?_
      have I2 : Inv X pins σ H1 { s1 with heap := h' } := I1.kept (t' := s1.toks) hk
      refine ⟨s1.heap.objs.size + 4, zFp s1.heap.objs.size, _, _, H1, rfl, I2, turn_zz l1 l2, ⟨hz, hTI, ⟨_, _, hTO⟩, g1 _ _ h1, g2 _ _ h2⟩, fun c hcm => ?_, q⟩
      have hle : s1.heap.objs.size ≤ c := by
        rcases mem_zFp hcm with z | z | z | z | z <;> rw [z]
        · exact Nat.le_add_right _ _
        · exact Nat.le_add_right _ _
        · exact Nat.le_add_right _ _
        · exact Nat.le_refl _
        · exact Nat.le_add_right _ _
      exact I1.fpOk hle (I1.hok.fresh hle)
/-- a source of data -/
structure SrcD (lp : Bool) (B : Bs) (ow : Ow) (K : PySem.W.Frag) (src : Src) (ds : List D) (H : Hp) : Prop where
  ex : ∃ xs, src.has K H xs ∧ DnAll K B.po (Mk B ow H) xs ds ∧ (match lp with
    | true => ∀ ow1 H1, Le (Mk B ow H) (Mk B ow1 H1) → src.has K H1 xs
    | false => ∀ w1 H1, Post B.po w1 H H1 → src.has K H1 xs)
theorem dn_signs {K : PySem.W.Frag} {po : Option Addr} {H : Hp} (z : Str) : DnAll K po H (z.cps.toList.map fun c => V.str ⟨#[c]⟩) (signs z) := by
  unfold signs
  induction z.cps.toList with
  | nil => exact .nil
  | cons c r ih => exact .cons (.str _) ih
theorem src_of {x lp : Bool} {B : Bs} {ow : Ow} {K : PySem.W.Frag} {H : Hp} {v : V} {d : D} {ds : List D} (hx : x = true → lp = false) (h : Vw x K B.po (hid B ow) H v d) (e : itemsD d = some ds) : ∃ src : Src, v = src.v ∧ SrcD lp B ow K src ds H := by
  cases d with
  | lst xs =>
    obtain rfl : xs = ds := Option.some.inj e
    cases x with
    | true =>
      obtain rfl := hx rfl
      obtain ⟨a, vs, rfl, h1, h2, h3⟩ := h
      refine ⟨.lst a, rfl, vs, .inl (.inl h1), h3, fun w1 H1 p => .inl (.inl (p.keep a _ h1 ?_))⟩
      rcases h2 with h2 | h2
      · exact fun z => h2 (.inr z)
      · exact h2
    | false =>
      have h : Dn K B.po (Mk B ow H) v (.lst xs) := h
      cases h with
      | lst h1 h2 =>
        rename_i a vs
        refine ⟨.lst a, rfl, vs, .inl (.inl (mask_inv h1).1), h2, ?_⟩
        cases lp with
        | true => exact fun ow1 H1 le => .inl (.inl (mask_inv (le a _ h1)).1)
        | false => exact fun w1 H1 p => .inl (.inl (p.keep a _ (mask_inv h1).1 fun z => (mask_inv h1).2 (.inr z)))
  | tup xs =>
    obtain rfl : xs = ds := Option.some.inj e
    have h : Dn K B.po (Mk B ow H) v (.tup xs) := by cases x <;> exact h
    cases h with
    | tup h1 h2 =>
      rename_i a vs
      refine ⟨.tup a, rfl, vs, (mask_le _ _).sqT h1, h2, ?_⟩
      cases lp with
      | true => exact fun ow1 H1 le => (le.trans (mask_le _ _)).sqT h1
      | false => exact fun w1 H1 p => (p.msk.trans (mask_le _ _)).sqT h1
  | str z =>
    cases e
    have h : Dn K B.po (Mk B ow H) v (.str z) := by cases x <;> exact h
    cases h
    refine ⟨.txt z, rfl, _, rfl, dn_signs z, ?_⟩
    cases lp with
    | true => exact fun _ _ _ => rfl
    | false => exact fun _ _ _ => rfl
  | _ => cases e
def zipD : List D → List D → List D
  | x :: xs, y :: ys => .tup [x, y] :: zipD xs ys
  | _, _ => []
theorem DnAll.at {K : PySem.W.Frag} {po : Option Addr} {H : Hp} {vs : List V} {ds : List D} {i : Nat} {v : V} (h : DnAll K po H vs ds) (e : vs[i]? = some v) : ∃ d, ds[i]? = some d ∧ Dn K po H v d := by
  have hl := h.length
  by_cases q : i < ds.length
  · obtain ⟨v', e1, e2⟩ := h.get (List.getElem?_eq_getElem q)
    rw [e] at e1; cases e1
    exact ⟨_, List.getElem?_eq_getElem q, e2⟩
  · rw [List.getElem?_eq_none (by omega)] at e; cases e
theorem zipD_length : ∀ (xs ys : List D), (zipD xs ys).length = min xs.length ys.length
  | [], [] => rfl
  | [], _ :: _ => by simp [zipD]
  | _ :: _, [] => by simp [zipD]
  | x :: xs, y :: ys => by simp only [zipD, List.length_cons, zipD_length xs ys]; omega
theorem zipD_get : ∀ {xs ys : List D} {i : Nat} {x y : D}, xs[i]? = some x → ys[i]? = some y → (zipD xs ys)[i]? = some (.tup [x, y])
  | a :: xs, b :: ys, 0, x, y, h, h' => by cases h; cases h'; rfl
  | a :: xs, b :: ys, i + 1, x, y, h, h' => by
    rw [List.getElem?_cons_succ] at h h'
    show (_ :: zipD xs ys)[i + 1]? = _
    rw [List.getElem?_cons_succ]
    exact zipD_get h h'
  | [], _, _, _, _, h, _ => by simp at h
  | _ :: _, [], _, _, _, _, h => by simp at h
theorem sqT_new {K : PySem.W.Frag} {B : Bs} {ow : Ow} {H : Hp} {T : Addr} {xs : List V} (hn : H T = none) (hl : ∀ c, hid B ow c → H c ≠ none) : SqT K (Mk B ow (upd H T (.tup xs))) T xs :=
  .inl (.inl (mask_some upd_same fun z => hl T z hn))
theorem walkZ {lp : Bool} {B : Bs} {ow : Ow} {K : PySem.W.Frag} {s1 s2 : Src} {ds es : List D} {H : Hp} (h1 : SrcD lp B ow K s1 ds H) (h2 : SrcD lp B ow K s2 es H) : WalkD lp B ow K (Itzz K s1 s2) (zipD ds es) H := by
  obtain ⟨xs, a1, a2, a3⟩ := h1.ex
  obtain ⟨ys, b1, b2, b3⟩ := h2.ex
  have la := a2.length
  have lb := b2.length
  refine ⟨fun H => s1.has K H xs ∧ s2.has K H ys, fun i H v H' => ∃ T x y, v = .ref T ∧ H T = none ∧ H' = upd H T (.tup [x, y]) ∧ xs[i]? = some x ∧ ys[i]? = some y, ⟨?_, ?_, ?_⟩, ⟨a1, b1⟩, ?_, ?_⟩
  · rintro i H1 hi ⟨g1, g2⟩
    rw [zipD_length] at hi
    exact ⟨xs, ys, g1, g2, by omega, by omega⟩
  · rintro H1 ⟨g1, g2⟩
    rw [zipD_length]
    exact ⟨xs, ys, g1, g2, by omega, by omega, by omega⟩
  · rintro i H1 v H2 hi ⟨g1, g2⟩ ⟨T, x, y, e1, e2, e3, e4, e5⟩
    exact ⟨T, x, y, e1, e2, e3, e4 _ g1, e5 _ g2⟩
  · cases lp with
    | true => exact fun ow1 H1 le => ⟨a3 ow1 H1 le, b3 ow1 H1 le⟩
    | false => exact fun w1 H1 p => ⟨a3 w1 H1 p, b3 w1 H1 p⟩
  · rintro i H1 v H2 ow1 le hl g hi ⟨T, x, y, rfl, hn, rfl, e1, e2⟩
    rw [zipD_length] at hi
    obtain ⟨d, f1, f2⟩ := (a2.at e1)
    obtain ⟨d', f1', f2'⟩ := (b2.at e2)
    have up : Le (Mk B ow1 H1) (Mk B ow1 (upd H1 T (.tup [x, y]))) := mask_le2 (Le.new hn)
    exact ⟨Le.new hn, _, zipD_get f1 f1', .tup (sqT_new hn hl) (.cons (f2.mono (le.trans up)) (.cons (f2'.mono (le.trans up)) .nil))⟩
def zipI : D → D → Option (List D) := fun a b => match itemsD a, itemsD b with
  | some xs, some ys => some (zipD xs ys)
  | _, _ => none
def fZip (f g : S → W → R D) : S → W → R (List D) := fun s w => bnd (f s w) fun a w1 => bnd (g s w1) fun b w2 => opt (zipI a b) w2
theorem qi_zip {X : Cx} {x lp : Bool} {a b : Expr} {f g : S → W → R D} {p pos tpos : Pos} {elts : List Expr} {kk : Nat} (hx : x = true → lp = false) (hg : Gl X "zip") (hm : X.mg "zip" = none) (ha : QE X x a f) (hb : QE X x b g)
    (h1 : ∀ es, starEach (a :: es) X.env = (false, eval a X.env) :: starEach es X.env) (h2 : ∀ es, starEach (b :: es) X.env = (false, eval b X.env) :: starEach es X.env) : QI X lp (.Tuple elts kk tpos) (.Call (.Name "zip" p) [a, b] [] pos) (fZip f g) :=
  ⟨PI.imp (pi_zz hg hm (qa_cons ha (qa_cons hb qa_nil (h2 _)) (h1 _)).pa (h1 _) (by rw [h2]; rfl)) fun σ H Q ⟨B, ow, s, w, ds, w', m, e, k⟩ => by
    obtain ⟨d, w1, e1, e⟩ := bnd_inv e
    obtain ⟨c, w2, e2, e⟩ := bnd_inv e
    obtain ⟨e3, rfl⟩ := opt_inv e
    refine ⟨B, ow, s, w, [d, c], w', m, ?_, fun vs H1 p1 hv => ?_⟩
    · show bnd (f s w) _ = _
      rw [e1]
      show bnd (bnd (g s w1) _) _ = _
      rw [e2]; rfl
    · cases hv with
      | cons v1 hv =>
        cases hv with
        | cons v2 hv =>
          cases hv
          unfold zipI at e3
          split at e3
          · rename_i xs ys i1 i2
            cases e3
            obtain ⟨s1, q1, q2⟩ := src_of (lp := lp) hx v1 i1
            obtain ⟨s2, q3, q4⟩ := src_of (lp := lp) hx v2 i2
            obtain ⟨us, u1, _, _⟩ := id q2.ex
            obtain ⟨us', u1', _, _⟩ := id q4.ex
            exact ⟨s1, s2, us, us', by rw [q1, q3], u1, u1', k _ H1 p1 (walkZ q2 q4)⟩
          · cases e3⟩
end Rf
namespace Rf
open PySem L2 PySem.Spec PyProof.Rows
/-! ## repr -/
def shownD (p : PyData) : Option D := if p.showable = true ∧ p.hasDict = false ∧ p.depth ≤ 64 ∧ p.shown.length ≤ sizeLine then some (.str p.shown) else none
def reprD : List D → Option D
  | [d] => (toPy d).bind shownD
  | _ => none
theorem cr_repr {X : Cx} (hg : X.A.guards = some []) (hu : X.A.units + 66 < cLine) :
    CallR X (.builtin "repr") (fun xs H Q => ∃ v p, xs = [v] ∧ Dp X.K H v p ∧ p.showable = true ∧ p.hasDict = false ∧ p.depth ≤ 64 ∧ p.shown.length ≤ sizeLine ∧ Q (.str p.shown) H) := by
  intro pins s σ H xs us Q I r h
  obtain ⟨v, p, rfl, hd, h1, h2, h3, h4, q⟩ := h
  cases r with
  | cons r rr =>
    cases rr
    obtain ⟨as, rd⟩ := Dp.reads I p v _ hd r
    have fin : ∀ (t : Tok), EP X pins σ Q (.str p.shown t) { s with toks := s.toks + 1 } := fun t => ⟨.str _, H, I.tok _, ⟨_, rfl⟩, q⟩
    cases p with
    | none => cases rd; exact PySem.P.repr_of_none (fin _)
    | bool b =>
      cases rd
      refine PySem.P.repr_of_bool ?_
      have := fin s.toks
      unfold PyData.shown at this
      cases b <;> exact this
    | int i =>
      cases rd
      have h1' : i.natAbs.log2 < 1920 := by unfold PyData.showable at h1; exact of_decide_eq_true h1
      exact PySem.P.repr_of_int h1' (fin _)
    | str x =>
      cases rd
      have h4' : (reprText x).length ≤ sizeLine := by unfold PyData.shown at h4; exact h4
      exact PySem.P.repr_of_str (fin _) h4'
    | list ps =>
      cases hd with
      | lst d1 d2 =>
        cases r
        exact repr_of_reads' rd h1 (PyData.noDict_hsm h2) hg (by omega) (fun _ _ e => e) (fun h' u tk hk => ⟨.str _, H, I.kept (t' := tk) hk, ⟨_, rfl⟩, q⟩) h4
    | tuple ps =>
      cases hd with
      | tup d1 d2 =>
        cases r
        exact repr_of_reads' rd h1 (PyData.noDict_hsm h2) hg (by omega) (fun _ _ e => e) (fun h' u tk hk => ⟨.str _, H, I.kept (t' := tk) hk, ⟨_, rfl⟩, q⟩) h4
    | dict kvs => cases hd
theorem c_repr {X : Cx} (hg : X.A.guards = some []) (hu : X.A.units + 66 < cLine) : CallD X (.builtin "repr") reprD := by
  refine ⟨_, cr_repr hg hu, ?_⟩
  intro po P H us as d hl h e Q k
  unfold reprD at e
  split at e
  · rename_i d0
    cases h with
    | cons h1 hr =>
      cases hr
      cases q : toPy d0 with
      | none => rw [q] at e; cases e
      | some p =>
        rw [q] at e
        have e : shownD p = some d := e
        unfold shownD at e
        split at e
        · rename_i hc
          cases e
          exact ⟨_, p, rfl, Sh.dp (d := d0) h1 q, hc.1, hc.2.1, hc.2.2.1, hc.2.2.2, k _ H (Le.refl _) (.str _)⟩
        · cases e
  · cases e
/-! ## * in a display -/
def starD : D → Option (List D)
  | .lst xs => some xs
  | .tup xs => some xs
  | _ => none
def aStar (f : S → W → R D) (g : S → W → R (List D)) : S → W → R (List D) := fun s w => bnd (f s w) fun d w1 => bnd (g s w1) fun ys w2 => opt ((starD d).map (· ++ ys)) w2
theorem VwAll.append {x : Bool} {K : PySem.W.Frag} {po : Option Addr} {P : Addr → Prop} {H : Hp} : ∀ {vs us : List V} {ds es : List D}, VwAll x K po P H vs ds → VwAll x K po P H us es → VwAll x K po P H (vs ++ us) (ds ++ es)
  | _, _, _, _, .nil, s => s
  | _, _, _, _, .cons h q, s => .cons h (VwAll.append q s)
theorem DnAll.vw {x : Bool} {K : PySem.W.Frag} {po : Option Addr} {P : Addr → Prop} {H : Hp} : ∀ {vs : List V} {ds : List D}, DnAll K po (mask P H) vs ds → VwAll x K po P H vs ds
  | _, _, .nil => .nil
  | _, _, .cons h q => .cons (Vw.dn h) (DnAll.vw q)
theorem qa_star {X : Cx} {x : Bool} {e : Expr} {es : List Expr} {f : S → W → R D} {fa : S → W → R (List D)} {p : Pos} (ha : QE X true e f) (hr : QA X x es fa) : QA X x (.Starred e p :: es) (aStar f fa) :=
  ⟨PA.imp (StX.pa_star ha.pe hr.pa) fun σ H Q ⟨B, ow, s, w, d, w', m, e, k⟩ => by
    obtain ⟨a, w1, e1, e⟩ := bnd_inv e
    obtain ⟨ys, w2, e3, e⟩ := bnd_inv e
    obtain ⟨e4, rfl⟩ := opt_inv e
    clear e
    obtain ⟨xs, e2, rfl⟩ := Option.map_eq_some_iff.mp e4
    clear e4
    refine ⟨B, ow, s, w, a, w1, m, e1, fun u H1 p1 h1 => ?_⟩
    have go : ∀ q vs, u = .ref q → (SqT X.K H1 q vs ∨ SqL X.K H1 q vs) → DnAll X.K B.po (Mk B ow H1) vs xs → ∃ q vs, u = V.ref q ∧ (SqT X.K H1 q vs ∨ SqL X.K H1 q vs) ∧ trA X.K x fa σ H1 fun us H2 => Q (vs ++ us) H2 := fun q vs eq hs hd =>
      ⟨q, vs, eq, hs, B, ow, s, w1, ys, w', m.post p1, e3, fun us H2 p2 h2 => k _ H2 (p1.trans p2) (.append (DnAll.vw (hd.mono p2.msk)) h2)⟩
    unfold starD at e2
    split at e2
    · obtain rfl := Option.some.inj e2
      obtain ⟨q, vs, rfl, g1, _, g2⟩ := h1
      exact go _ _ rfl (.inr (.inl (.inl g1))) g2
    · obtain rfl := Option.some.inj e2
      have h1 : Dn X.K B.po (Mk B ow H1) u (.tup _) := h1
      cases h1 with
      | tup g1 g2 => exact go _ _ rfl (.inl ((mask_le _ _).sqT g1)) g2
    · cases e2⟩
/-! ## xs[::-1] of a list -/
def revD : D → Option (List D)
  | .lst xs => some xs.reverse
  | _ => none
theorem DnAll.rev {K : PySem.W.Frag} {po : Option Addr} {H : Hp} : ∀ {vs : List V} {ds : List D}, DnAll K po H vs ds → DnAll K po H vs.reverse ds.reverse
  | _, _, .nil => .nil
  | _, _, .cons h q => by
    rw [List.reverse_cons, List.reverse_cons]
    exact (DnAll.rev q).append (.cons h .nil)
def gRev (f : S → W → R D) : S → W → R (List D) := fun s w => bnd (f s w) fun a w1 => opt (revD a) w1
theorem qf_rev {X : Cx} {e : Expr} {f : S → W → R D} {k : Nat} {p1 p2 p3 pos : Pos} (he : QE X true e f) : QF X (.Subscript e (.Slice none none (some (.UnaryOp .USub (.Constant (.int 1) k p1) p2)) p3) pos) (gRev f) :=
  ⟨PE.imp (pe_revL he.pe) fun σ H Q ⟨B, ow, s, w, d, w', m, e, k⟩ => by
    obtain ⟨a, w1, e1, e⟩ := bnd_inv e
    obtain ⟨e2, rfl⟩ := opt_inv e
    refine ⟨B, ow, s, w, a, w', m, e1, fun u H1 p1 h1 => ?_⟩
    unfold revD at e2
    split at e2
    · cases e2
      obtain ⟨q, vs, rfl, g1, _, g2⟩ := h1
      exact ⟨q, vs, rfl, .inl (.inl g1), fun p hp => fresh_post p1 hp (DnAll.rev g2) k⟩
    · cases e2⟩
/-! ## list(range(n)) -/
def lr1D : D → Option (List D)
  | .int n => if -(2 ^ 62) ≤ n ∧ n ≤ 2 ^ 24 then some (rngD 0 n.toNat) else none
  | _ => none
def gLr1 (f : S → W → R D) : S → W → R (List D) := fun s w => bnd (f s w) fun a w1 => opt (lr1D a) w1
theorem dn_rng {K : PySem.W.Frag} {po : Option Addr} {H : Hp} (n : Int) : DnAll K po H (rgV 0 n) (rngD 0 n.toNat) := by
  unfold rgV rngD
  rw [show (n - 0).toNat = n.toNat by congr 1; omega]
  induction List.range n.toNat with
  | nil => exact .nil
  | cons c r ih => exact .cons (.int _) ih
theorem qf_lr1 {X : Cx} {e : Expr} {f : S → W → R D} {p p2 pos pos2 : Pos} (hc : X.calm = true) (hg : Gl X "list") (hm : X.mg "list" = none) (hg2 : Gl X "range") (hm2 : X.mg "range" = none) (he : QE X true e f)
    (h1 : starEach [e] X.env = (false, eval e X.env) :: starEach [] X.env) : QF X (.Call (.Name "list" p) [.Call (.Name "range" p2) [e] [] pos2] [] pos) (gLr1 f) :=
  ⟨PE.imp (pe_listRg hc hg hm (prg_1 hg2 hm2 he.pe h1) rfl) fun σ H Q ⟨B, ow, s, w, d, w', m, e, k⟩ => by
    obtain ⟨a, w1, e1, e⟩ := bnd_inv e
    obtain ⟨e2, rfl⟩ := opt_inv e
    refine ⟨B, ow, s, w, a, w', m, e1, fun u H1 p1 h1 => ?_⟩
    unfold lr1D at e2
    split at e2
    · rename_i n
      split at e2
      · rename_i hn
        cases e2
        refine ⟨n, h1.int_inv, ⟨by omega, by omega, hn.1, by omega, by omega⟩, fun p hp => fresh_post p1 hp (dn_rng n) k⟩
      · cases e2
    · cases e2⟩
end Rf
namespace Rf
open PySem L2 PySem.Spec PyProof.Rows
/-! ## enumerate of a list, a tuple, a text -/
abbrev enO (i : Addr) : Obj := { cls := .type "enumerate", data := .fields #[.none, .bool false, .ref i, rawInt 0, .none, .none] }
theorem enum_new {v : Value} {o : Obj} {Hh : Heap → Prop} (B : Begins v o Hh) : Meets (Builtin.«enumerate.__new__» ⟨[.type "enumerate", v], []⟩) (fun _ R s => Hh s.heap ∧ R (.ok (.ret (.ref (s.heap.push o).objs.size))) { s with heap := (s.heap.push o).push (enO s.heap.objs.size) }) :=
  .of_wp fun prog w A R s hh => by
    obtain ⟨hp, g, d, tk, os⟩ := s
    obtain ⟨f, h⟩ := hh
    have hsub := sub_enumerate
    have q : ∀ {A' : Around} {E' : Value → Shared → Prop} {Q' : Value → Shared → Prop}, Q' (.ref hp.objs.size) ⟨hp.push o, g, d, tk, os⟩ → wpAny (model prog w) A' (pyIter v) Q' E' ⟨hp, g, d, tk, os⟩ := fun k => B.iter prog w _ _ _ _ f k
    wp_walk using q
    refine wpAny_stack_any fun st => wpAny_pure ?_
    split
    · rename_i c _ _ _ _ _
      cases (c == Value.type "enumerate") <;> (wp_walk using q; exact ⟨_, rfl, h⟩)
    · wp_walk using q
      exact ⟨_, rfl, h⟩
theorem enum_go {prog : Program} {w : World} {A : Around} {E : Value → Shared → Prop} {s : Shared} {v : Value} {o : Obj} {Hh : Heap → Prop} {Q : Value → Shared → Prop} (B : Begins v o Hh) (f : Hh s.heap)
    (h : ∀ h', IsEnum h' (s.heap.objs.size + 1) s.heap.objs.size 0 .none → h'.get? s.heap.objs.size = some o → h'.objs.size = s.heap.objs.size + 2 → (∀ b u, s.heap.get? b = some u → h'.get? b = some u) → Q (.ref (s.heap.objs.size + 1)) { s with heap := h' }) :
    wpAny (model prog w) A (call (.type "enumerate") [v]) Q E s := by
  refine callType_new F.called_enumerate (by decide) (F.typeCall_enumerate_1 _) (F.newCall_enumerate_1 _) (fun obj => F.args_object_init_2 obj _) F.entry_enumerate_new (enum_new B) ⟨f, ?_⟩
  have z : (s.heap.push o).objs.size = s.heap.objs.size + 1 := Heap.size_push ..
  have e : IsEnum ((s.heap.push o).push (enO s.heap.objs.size)) (s.heap.objs.size + 1) s.heap.objs.size 0 .none := by
    have := Heap.get?_push_size (s.heap.push o) (o := enO s.heap.objs.size) rfl
    rwa [z] at this
  show _ ∧ _
  rw [z]
  exact ⟨⟨_, e, rfl⟩, h _ e (Heap.get?_push_of_some _ (Heap.get?_push_size _ B.free)) (by rw [Heap.size_push, z]) fun b u x => Heap.get?_push_of_some _ (Heap.get?_push_of_some _ x)⟩
def Iten (K : PySem.W.Frag) (src : Src) : L2.It :=
  ⟨fun i H => ∃ xs, src.has K H xs ∧ i < xs.length,
    fun i H v H' => ∃ T x, v = .ref T ∧ H T = none ∧ H' = upd H T (.tup [.int (i : Nat), x]) ∧ ∀ xs, src.has K H xs → xs[i]? = some x,
    fun i H => ∃ xs, src.has K H xs ∧ i = xs.length⟩
def nFp (n : Nat) : List Addr := [n + 1, n]
def nSt (src : Src) (n : Nat) (i : Nat) (h : Heap) : Prop := (∃ old, IsEnum h (n + 1) n ((i : Nat) : Int) old) ∧ src.it h n i
theorem mem_nFp {n c : Nat} : c ∈ nFp n → c = n + 1 ∨ c = n := fun h => by simpa [nFp] using h
theorem turn_nn {P : Program} {w : World} {K : PySem.W.Frag} {elts : List Expr} {kk : Nat} {tpos : Pos} {src : Src} {n : Nat} (h1 : ∀ a : Nat, a ∈ src.ad → a < n) :
    Turn P w K (.Tuple elts kk tpos) (Iten K src) (nFp n) (n + 1) (nSt src n) where
  mem := by simp [nFp]
  obj := fun i h st c hc => by
    obtain ⟨⟨old, a1⟩, a2⟩ := st
    rcases mem_nFp hc with q | q <;> subst q
    · exact ⟨_, a1, fun v q => nomatch q⟩
    · exact Src.it_obj a2
  keep := fun i h h' st k => by
    obtain ⟨⟨old, a1⟩, a2⟩ := st
    exact ⟨⟨old, k _ (by simp [nFp]) _ a1⟩, Src.it_at a2 fun o q => k _ (by simp [nFp]) o q⟩
  item := by
    intro X hP hw hK hc i pins s σ H E I hf st hg
    subst hP hw hK
    obtain ⟨⟨old, a1⟩, a2⟩ := st
    obtain ⟨xs, q1, l1⟩ := hg
    have hh : X.A.in1.handled = none := I.ok.hd hc
    obtain ⟨P1, S1, D1, t1, v1, e1⟩ := (Src.draws I hh q1 a2 fun a ha => neA (Nat.ne_of_lt (h1 a ha))).ex
    have nn : (n + 1 : Nat) ∉ n :: src.ad := fun z => (List.mem_cons.mp z).elim (fun q => by have q' : (n + 1 : Nat) = n := q; omega) fun q => by have := h1 _ q; omega
    refine wpAny_pyNext_enum_itemC D1 a1 t1 l1 (neA (by omega)) nn fun x1 h' tk p1 ho st1 hT hsz hk => ?_
    obtain ⟨x, hx, rx⟩ := v1 _ _ p1
    have hzl : n + 1 < s.heap.objs.size := Heap.lt_size a1
    refine ⟨_, rfl, wpAny_letOwnedTupleGo_enum (s := { s with heap := h', toks := tk + 1 }) ho fun h'' z'' sb => ?_⟩
    have hT2 : h''.get? s.heap.objs.size = some { cls := .type "tuple", data := .seq #[.int ((i : Nat) : Int) tk, x1] } := (sb.2 _ (Nat.ne_of_gt hzl)).trans hT
    have new : ObjOk X.prog X.w (upd H s.heap.objs.size (.tup [.int ((i : Nat) : Int), x])) h'' s.heap.objs.size (.tup [.int ((i : Nat) : Int), x]) := ⟨by show 2 ≤ sizeLine; decide, [.int ((i : Nat) : Int) tk, x1], .cons ⟨tk, rfl⟩ (.cons rx .nil), ⟨_, hT2, rfl, _, rfl⟩⟩
    have up : ∀ c o, c ∉ nFp n → s.heap.get? c = some o → h''.get? c = some o := fun c o hb q => (sb.2 c (fun q' => hb (by simp [nFp, q']))).trans (hk c o (fun q' => hb (by simp [nFp, q'])) (fun q' => hb (by simp [nFp, q'])) q)
    refine ⟨.ref s.heap.objs.size, _, I.turnedNew (t' := tk + 1) (ch := nFp n) up hf (Nat.le_refl _) new, rfl, ⟨_, x, rfl, I.hok.fresh (Nat.le_refl _), rfl, fun l hl => by rw [Src.has_inj I hl q1]; exact hx⟩, ⟨⟨x1, ?_⟩, ?_⟩, fun c hcm => ?_⟩
    · rw [show ((i + 1 : Nat) : Int) = (i : Int) + 1 by omega]; exact z''
    · exact Src.it_at (e1 _ _ st1) fun o q => (sb.2 _ (neA (by omega))).trans q
    · have hlt : c < s.heap.objs.size := by
        rcases mem_nFp hcm with q | q <;> rw [q]
        · exact hzl
        · exact Nat.lt_of_succ_lt hzl
      rw [upd_ne (Nat.ne_of_lt hlt)]
      exact (hf c hcm).1
  done := by
    intro X hP hw hK hc i pins s σ H E I hf st hg
    subst hP hw hK
    obtain ⟨⟨old, a1⟩, a2⟩ := st
    obtain ⟨xs, q1, l1⟩ := hg
    have hh : X.A.in1.handled = none := I.ok.hd hc
    obtain ⟨P1, S1, D1, t1, v1, e1⟩ := (Src.draws I hh q1 a2 fun a ha => neA (Nat.ne_of_lt (h1 a ha))).ex
    subst l1
    exact wpAny_pyNext_enum_endD D1 a1 t1 fun h' hk => ⟨rfl, I.turnedL (t' := s.toks) (ch := nFp n) (fun c o hb q => hk c o (fun q' => hb (by simp [nFp, q'])) q) hf⟩
  self := fun A i s Q E st h => by
    obtain ⟨⟨old, a1⟩, _⟩ := st
    exact wpAny_pyIter_enum a1 h

def iNn (K : PySem.W.Frag) (ta : TA) : TI := fun σ H R => ta σ H fun vs H1 => ∃ s1 xs, vs = [Src.v s1] ∧ s1.has K H1 xs ∧ R (Iten K s1) H1
theorem pi_nn {X : Cx} {e : Expr} {ta : TA} {p pos tpos : Pos} {elts : List Expr} {kk : Nat} (hg : Gl X "enumerate") (hm : X.mg "enumerate" = none) (ha : PA X [e] ta) (hs : starEach [e] X.env = [(false, eval e X.env)]) :
    PI X (.Tuple elts kk tpos) (.Call (.Name "enumerate" p) [e] [] pos) (iNn X.K ta) := by
  refine ⟨fun pins s σ H R I h => ?_⟩
  refine Call_ (ld_blt I hg hm boot_enumerate (PyProof.Rows.callWith_type1 (thn (ha.run pos pins s σ H _ I h) fun us s1 ⟨vs, H1, I1, r1, q1⟩ => ?_) hs rfl))
  obtain ⟨a, xs, rfl, qx, q⟩ := q1
  cases r1 with
  | cons r rr =>
    cases rr
    obtain ⟨o1, F1, B1, f1, g1, l1⟩ := (Src.begins I1 qx r).ex
    refine enum_go B1 f1 fun h' he h1 hsz hk => wpAny_pyIter_enum he ?_
    have I2 : Inv X pins σ H1 { s1 with heap := h' } := I1.kept (t' := s1.toks) hk
    refine ⟨s1.heap.objs.size + 1, nFp s1.heap.objs.size, _, _, H1, rfl, I2, turn_nn l1, ⟨⟨.none, he⟩, g1 _ _ h1⟩, fun c hcm => ?_, q⟩
    have hle : s1.heap.objs.size ≤ c := by
      rcases mem_nFp hcm with z | z <;> rw [z]
      · exact Nat.le_add_right _ _
      · exact Nat.le_refl _
    exact I1.fpOk hle (I1.hok.fresh hle)
def enumFrom : Nat → List D → List D
  | _, [] => []
  | i, d :: ds => .tup [.int (i : Nat), d] :: enumFrom (i + 1) ds
theorem enumFrom_length : ∀ (ds : List D) (i : Nat), (enumFrom i ds).length = ds.length
  | [], _ => rfl
  | _ :: ds, i => by simp only [enumFrom, List.length_cons, enumFrom_length ds]
theorem enumFrom_get : ∀ {ds : List D} {k i : Nat} {d : D}, ds[i]? = some d → (enumFrom k ds)[i]? = some (.tup [.int ((k + i : Nat) : Int), d])
  | a :: ds, k, 0, d, h => by cases h; rfl
  | a :: ds, k, i + 1, d, h => by
    rw [List.getElem?_cons_succ] at h
    show (_ :: enumFrom (k + 1) ds)[i + 1]? = _
    rw [List.getElem?_cons_succ, enumFrom_get (k := k + 1) h, show k + 1 + i = k + (i + 1) by omega]
  | [], _, _, _, h => by simp at h
theorem walkN {lp : Bool} {B : Bs} {ow : Ow} {K : PySem.W.Frag} {s1 : Src} {ds : List D} {H : Hp} (h1 : SrcD lp B ow K s1 ds H) : WalkD lp B ow K (Iten K s1) (enumFrom 0 ds) H := by
  obtain ⟨xs, a1, a2, a3⟩ := h1.ex
  have la := a2.length
  refine ⟨fun H => s1.has K H xs, fun i H v H' => ∃ T x, v = .ref T ∧ H T = none ∧ H' = upd H T (.tup [.int (i : Nat), x]) ∧ xs[i]? = some x, ⟨?_, ?_, ?_⟩, a1, ?_, ?_⟩
  · intro i H1 hi g1
    rw [enumFrom_length] at hi
    exact ⟨xs, g1, by omega⟩
  · intro H1 g1
    rw [enumFrom_length]
    exact ⟨xs, g1, la.symm⟩
  · rintro i H1 v H2 hi g1 ⟨T, x, e1, e2, e3, e4⟩
    exact ⟨T, x, e1, e2, e3, e4 _ g1⟩
  · cases lp with
    | true => exact fun ow1 H1 le => a3 ow1 H1 le
    | false => exact fun w1 H1 p => a3 w1 H1 p
  · rintro i H1 v H2 ow1 le hl g hi ⟨T, x, rfl, hn, rfl, e1⟩
    obtain ⟨d, f1, f2⟩ := a2.at e1
    have up : Le (Mk B ow1 H1) (Mk B ow1 (upd H1 T (.tup [.int (i : Nat), x]))) := mask_le2 (Le.new hn)
    refine ⟨Le.new hn, _, enumFrom_get f1, .tup (sqT_new hn hl) ?_⟩
    rw [Nat.zero_add]
    exact .cons (.int _) (.cons (f2.mono (le.trans up)) .nil)
def enumI (a : D) : Option (List D) := (itemsD a).map (enumFrom 0)
def fEnum (f : S → W → R D) : S → W → R (List D) := fun s w => bnd (f s w) fun a w1 => opt (enumI a) w1
theorem qi_enum {X : Cx} {x lp : Bool} {a : Expr} {f : S → W → R D} {p pos tpos : Pos} {elts : List Expr} {kk : Nat} (hx : x = true → lp = false) (hg : Gl X "enumerate") (hm : X.mg "enumerate" = none) (ha : QE X x a f)
    (h1 : ∀ es, starEach (a :: es) X.env = (false, eval a X.env) :: starEach es X.env) : QI X lp (.Tuple elts kk tpos) (.Call (.Name "enumerate" p) [a] [] pos) (fEnum f) :=
  ⟨PI.imp (pi_nn hg hm (qa_cons ha qa_nil (h1 _)).pa (h1 _)) fun σ H Q ⟨B, ow, s, w, ds, w', m, e, k⟩ => by
    obtain ⟨d, w1, e1, e⟩ := bnd_inv e
    obtain ⟨e3, rfl⟩ := opt_inv e
    refine ⟨B, ow, s, w, [d], w', m, ?_, fun vs H1 p1 hv => ?_⟩
    · show bnd (f s w) _ = _
      rw [e1]; rfl
    · cases hv with
      | cons v1 hv =>
        cases hv
        obtain ⟨xs, i1, rfl⟩ := Option.map_eq_some_iff.mp e3
        obtain ⟨s1, q1, q2⟩ := src_of (lp := lp) hx v1 i1
        obtain ⟨us, u1, _, _⟩ := id q2.ex
        exact ⟨s1, us, by rw [q1], u1, k _ H1 p1 (walkN q2)⟩⟩
end Rf
namespace Rf
open PySem L2 PySem.Spec PyProof.Rows
/-! ## sorted(a list of data) -/
def pyOf (d : D) : PyData := (toPy d).getD .none
def leDat (a b : D) : Bool := !PySem.W.dataLt (pyOf b) (pyOf a)
def tup1 : PyData → Bool
  | .tuple (_ :: _) => true
  | _ => false
def noTupB : PyData → Bool
  | .tuple _ => false
  | .none => false
  | _ => true
/-- the data of ds can be put in order -/
def sortableB (ps : List PyData) : Bool := (ps.all fun p => ps.all fun q => PySem.W.alike p q) && (ps.all tup1 || ps.all noTupB) && ps.all fun p => decide (p.depth ≤ 64)
def sortF : List D → Option (List D)
  | [.lst ds] => match toPyAll ds with
    | some ps => if sortableB ps = true then some (ds.mergeSort leDat) else none
    | none => none
  | _ => none
theorem toPyAll_pyOf : ∀ {ds : List D} {ps : List PyData}, toPyAll ds = some ps → ps = ds.map pyOf
  | [], ps, h => by unfold toPyAll at h; cases h; rfl
  | d :: ds, ps, h => by
    unfold toPyAll at h
    cases e1 : toPy d with
    | none => rw [e1] at h; cases h
    | some q =>
      cases e2 : toPyAll ds with
      | none => rw [e1, e2] at h; cases h
      | some qs =>
        rw [e1, e2] at h; cases h
        rw [List.map_cons, ← toPyAll_pyOf e2]
        show q :: qs = (toPy d).getD .none :: qs
        rw [e1]; rfl
/-- what is asked of the call -/
def rSortD (K : PySem.W.Frag) : List V → Hp → VK → Prop := fun vs H Q => ∃ (a : Addr) (xs : List V) (ds : List D) (ps : List PyData), vs = [.ref a] ∧ SqL K H a xs ∧ xs.length = ds.length ∧ DpAll K H xs ps ∧ toPyAll ds = some ps ∧ sortableB ps = true ∧
  ∀ p, H p = none → Q (.ref p) (upd H p (.lst (((xs.zip ds).mergeSort fun a b => leDat a.2 b.2).map (·.1))))
theorem vals_each {xs : List V} {us : List Value} (r : Vals xs us) : ∀ {ds : List D}, xs.length = ds.length → PySem.W.EachIs (fun (u : Value) (b : V × D) => RelV b.1 u) us (xs.zip ds) := by
  induction r with
  | nil => intro ds h; cases ds with
    | nil => exact .nil
    | cons _ _ => cases h
  | cons r0 r1 ih => intro ds h; cases ds with
    | nil => cases h
    | cons d ds => exact .cons r0 (ih (by simpa using h))
theorem each_vals {us : List Value} {bs : List (V × D)} (h : PySem.W.EachIs (fun (u : Value) (b : V × D) => RelV b.1 u) us bs) : Vals (bs.map (·.1)) us := by
  induction h with
  | nil => exact .nil
  | cons h0 h1 ih => exact .cons h0 ih
theorem each_reads {X : Cx} {pins : List (Addr × Obj)} {σ : L2.St} {H : Hp} {s : Shared} (I : Inv X pins σ H s) : ∀ {xs : List V} {us : List Value} {ds : List D} {ps : List PyData}, Vals xs us → DpAll X.K H xs ps → ps = ds.map pyOf →
    PySem.W.EachIs (fun (u : Value) (b : V × D) => ∃ as, Reads s.heap u (pyOf b.2) as) us (xs.zip ds)
  | [], _, ds, _, r, h, e => by cases r; cases h; cases ds with
    | nil => exact .nil
    | cons _ _ => cases e
  | x :: xs, _, [], _, r, h, e => by cases h; cases e
  | x :: xs, _, d :: ds, _, r, h, e => by
    cases r with
    | cons r0 r1 =>
      cases h with
      | cons h0 h1 =>
        rw [List.map_cons] at e
        obtain ⟨e1, e2⟩ := List.cons.inj e
        subst e1
        exact .cons (Dp.reads I _ _ _ h0 r0) (each_reads I r1 h1 e2)
theorem cr_sortD {X : Cx} (hu : X.A.units + 67 < cLine) : CallR X (.builtin "sorted") (rSortD X.K) := by
  rintro pins s σ H vs us Q I r ⟨a, xs, ds, ps, rfl, hs, hl, hd, hp, hb, q⟩
  obtain ⟨u, rfl, ru⟩ := vals1 r
  obtain rfl : u = Value.ref a := ru
  obtain ⟨its, rv, pl, hz⟩ := I.list hs
  have ep := toPyAll_pyOf hp
  have e0 := vals_each rv hl
  have e1 := each_reads I rv hd ep
  have em : (xs.zip ds).map (fun b => pyOf b.2) = ps := by
    rw [ep, show (fun b : V × D => pyOf b.2) = pyOf ∘ Prod.snd from rfl, ← List.map_map, List.map_snd_zip (by omega)]
  unfold sortableB at hb
  simp only [Bool.and_eq_true, Bool.or_eq_true, List.all_eq_true, decide_eq_true_eq] at hb
  obtain ⟨⟨b1, b2⟩, b3⟩ := hb
  refine PySem.W.sorted_data (bs := xs.zip ds) (enc := fun b => pyOf b.2) pl.isList e0 e1 (by rw [em]; exact fun d hd d' hd' => b1 d hd d' hd') (by
    rw [em]
    rcases b2 with b2 | b2
    · refine .inl fun d hd => ?_
      have := b2 d hd
      unfold tup1 at this
      split at this
      · exact ⟨_, _, rfl⟩
      · cases this
    · refine .inr fun d hd => ?_
      have := b2 d hd
      unfold noTupB at this
      split at this
      · cases this
      · cases this
      · rename_i n1 n2; exact ⟨n2, n1⟩) (by rw [List.length_zip]; exact Nat.le_trans (Nat.min_le_left _ _) hz) (fun b hb => ?_) fun out ho eo => ?_
  · have hm : pyOf b.2 ∈ ps := by rw [← em]; exact List.mem_map.mpr ⟨b, hb, rfl⟩
    have := b3 _ hm
    show X.A.units + 2 + (pyOf b.2).depth < cLine
    omega
  · obtain ⟨c, hc⟩ := sortedAll_at s.heap its out.toArray
    have hv := each_vals eo
    have hle : (PySem.W.dataLe false fun b : V × D => pyOf b.2) = fun a b => leDat a.2 b.2 := rfl
    rw [hle] at hv
    have hsz : s.heap.objs.size ≤ s.heap.objs.size + 1 := Nat.le_succ _
    refine ⟨.ref (s.heap.objs.size + 1), _, I.laid (t' := s.toks) (h' := sortedAll s.heap its out.toArray) (fun b o e => sortedAll_old e) hsz (o := .lst (((xs.zip ds).mergeSort fun a b => leDat a.2 b.2).map (·.1))) ?_, rfl, q _ (I.hok.fresh hsz)⟩
    refine ⟨?_, out, c, hv, ?_⟩
    · rw [List.length_map, List.length_mergeSort, List.length_zip]
      exact Nat.le_trans (Nat.min_le_left _ _) hz
    · exact hc
theorem DnAll.zip {K : PySem.W.Frag} {po : Option Addr} {H : Hp} : ∀ {xs : List V} {ds : List D}, DnAll K po H xs ds → ∀ p ∈ xs.zip ds, Dn K po H p.1 p.2
  | _, _, .nil, p, hm => by cases hm
  | _, _, .cons h0 h1, p, hm => by
    rw [List.zip_cons_cons] at hm
    rcases List.mem_cons.mp hm with rfl | hm
    · exact h0
    · exact DnAll.zip h1 p hm
theorem sortVD {K : PySem.W.Frag} {po : Option Addr} {H : Hp} {xs : List V} {ds : List D} (h : DnAll K po H xs ds) : DnAll K po H (((xs.zip ds).mergeSort fun a b => leDat a.2 b.2).map (·.1)) (ds.mergeSort leDat) := by
  have e : ds.mergeSort leDat = ((xs.zip ds).mergeSort fun a b => leDat a.2 b.2).map (·.2) := by
    rw [List.map_mergeSort (s := leDat) (fun a _ b _ => rfl), List.map_snd_zip (by rw [h.length]; exact Nat.le_refl _)]
  rw [e]
  have hp := List.mergeSort_perm (xs.zip ds) fun a b => leDat a.2 b.2
  have : ∀ p ∈ (xs.zip ds).mergeSort (fun a b => leDat a.2 b.2), Dn K po H p.1 p.2 := fun p hm => DnAll.zip h p (hp.mem_iff.mp hm)
  clear hp e
  generalize (xs.zip ds).mergeSort (fun a b => leDat a.2 b.2) = l at *
  induction l with
  | nil => exact .nil
  | cons p l ih => exact .cons (this p (List.mem_cons_self ..)) (ih fun q hq => this q (List.mem_cons_of_mem _ hq))
end Rf
namespace Rf
open PySem L2 PySem.Spec PyProof.Rows
/-! ## sorted -/
theorem o_sortF {K : PySem.W.Frag} : OpFN K (rSortD K) sortF := by
  intro po P H us as d h e Q k
  unfold sortF at e; split at e
  · split at e
    · rename_i ps e1
      split at e
      · rename_i hb
        cases e
        obtain ⟨v, rfl, p, xs, rfl, a1, _, a2⟩ := h.one
        exact ⟨p, xs, _, ps, rfl, .inl (.inl a1), a2.length, DnAll.dp (a2.mono (mask_le _ _)) e1, e1, hb, fun l hl => k l _ hl (sortVD a2)⟩
      · cases e
    · cases e
  · cases e
section
variable {X : Cx} {e a b : Expr} {es : List Expr} {f g : S → W → R D} {fa : S → W → R (List D)} {x y z : Bool} {pos : Pos}
theorem qf_callB {n : Str} {id : String} {r : List V → Hp → VK → Prop} {o : List D → Option (List D)} {p : Pos} (hc : CallR X (.builtin id) r) (h : OpFN X.K r o) (hg : Gl X n) (hm : X.mg n = none) (hv : bootBuiltins n = some (.builtin id)) (ha : QA X x (e :: es) fa) (hn : n ≠ "__name__") (hdb : (n == ("__debug__" : Str)) = false)
    (he : starEach (e :: es) X.env = (false, eval e X.env) :: starEach es X.env) (hpl : (backTo pos (starEach es X.env)).any (·.1) = false) : QF X (.Call (.Name n p) (e :: es) [] pos) (gN o fa) :=
  ⟨PE.imp (pe_callB hc hg hm hv ha.pa hn hdb he hpl) fun σ H Q t => by
    obtain ⟨B, ow, s, w, d, w', m, e, k⟩ := t
    obtain ⟨a, w1, e1, e⟩ := bnd_inv e
    obtain ⟨e3, rfl⟩ := opt_inv e
    refine ⟨B, ow, s, w, a, w', m, e1, fun u H1 p1 h1 => ?_⟩
    exact h B.po (hid B ow) H1 u a d h1.up e3 Q fun p vs hp hd => fresh_post p1 hp hd k⟩
theorem PE.or {t t' : TE} (h : PE X e t) (h' : PE X e t') : PE X e (fun σ H Q => t σ H Q ∨ t' σ H Q) := ⟨fun pins s σ H Q I q => q.elim (h.run pins s σ H Q I) (h'.run pins s σ H Q I)⟩
/-! ## d[k], d.get(k), d.get(k, v), k in d -/
def keyD : D → Option Key
  | .int i => some (.inl i)
  | .str x => some (.inr x)
  | _ => none
def valD (kvs : List (Key × D)) (k : Key) : Option D := (kvs.find? fun kv => decide (kv.1 = k)).map (·.2)
theorem key_inv {K : PySem.W.Frag} {po : Option Addr} {P : Addr → Prop} {H : Hp} {v : V} {d : D} {q : Key} (h : Sh K po P H v d) (e : keyD d = some q) : v = kV q := by
  unfold keyD at e; split at e
  · cases e; exact h.int_inv
  · cases e; exact h.str_inv
  · cases e
theorem DnKV.get {K : PySem.W.Frag} {po : Option Addr} {H : Hp} {q : Key} : ∀ {xs : List (Key × V)} {ds : List (Key × D)}, DnKV K po H xs ds → (valD ds q = none ∧ valV xs q = none) ∨ ∃ d v, valD ds q = some d ∧ valV xs q = some v ∧ Dn K po H v d
  | _, _, .nil => .inl ⟨rfl, rfl⟩
  | _, _, .cons (k := k) h0 h1 => by
    unfold valD valV
    rw [List.find?_cons, List.find?_cons]
    by_cases hk : k = q
    · simp only [hk, decide_true]
      exact .inr ⟨_, _, rfl, rfl, h0⟩
    · simp only [hk, decide_false]
      exact DnKV.get h1
def dgetD : D → D → Option D
  | .dic kvs, k => (keyD k).bind (valD kvs)
  | _, _ => none
theorem Sh.dic_inv {K : PySem.W.Frag} {po : Option Addr} {P : Addr → Prop} {H : Hp} {v : V} {ds : List (Key × D)} (h : Sh K po P H v (.dic ds)) : ∃ a xs, v = .ref a ∧ mask P H a = some (.dK xs) ∧ DnKV K po (mask P H) xs ds := by
  have h : Dn K po (mask P H) v (.dic ds) := h
  cases h with
  | dic h1 h2 => exact ⟨_, _, rfl, h1, h2⟩
/-- a[b]: of a list, a tuple, a text, a dict -/
def ixD2 : D → D → Option D
  | .dic kvs, k => (keyD k).bind (valD kvs)
  | a, b => ixD a b
theorem q_ix2 (hu : X.A.units + 65 < cLine) (ha : QE X x a f) (hb : QE X y b g) (hs : PlainIx b) (hn : NoSl b) : QE X z (.Subscript a b pos) (f2 ixD2 f g) :=
  ⟨PE.imp (PE.or (q_ix (z := z) (pos := pos) ix_seq o_ix ha hb hs).pe (pe_dget (pos := pos) (by omega) ha.pe hb.pe hn)) fun σ H Q t => by
    obtain ⟨B, ow, s, w, d, w', m, e, k⟩ := t
    obtain ⟨a1, w1, e1, e⟩ := bnd_inv e
    obtain ⟨b1, w2, e2, e⟩ := bnd_inv e
    obtain ⟨e3, rfl⟩ := opt_inv e
    unfold ixD2 at e3
    split at e3
    · rename_i kvs
      obtain ⟨q, eq, ed⟩ := Option.bind_eq_some_iff.mp e3
      refine .inr ⟨B, ow, s, w, _, w1, m, e1, fun u H1 p1 h1 => ⟨B, ow, s, w1, b1, _, m.post p1, e2, fun v H2 p2 h2 => ?_⟩⟩
      obtain ⟨p, xs, rfl, g1, g2⟩ := (h1.post p2).up.dic_inv
      obtain rfl := key_inv h2.up eq
      rcases DnKV.get (q := q) g2 with ⟨q1, q2⟩ | ⟨d', v', q1, q2, q3⟩
      · rw [q1] at ed; cases ed
      · rw [q1] at ed; cases ed
        exact ⟨p, v', rfl, .inl ⟨xs, q, .inl (mask_inv g1).1, rfl, q2.symm⟩, k v' H2 (p1.trans p2) (Vw.dn q3)⟩
    · refine .inl ⟨B, ow, s, w, d, _, m, ?_, k⟩
      show bnd (f s w) _ = _
      rw [e1]
      show bnd (g s w1) _ = _
      rw [e2]
      show opt (ixD a1 b1) _ = _
      rw [e3]; rfl⟩
def dget1D : D → D → Option D
  | .dic kvs, k => (keyD k).map fun q => (valD kvs q).getD .non
  | _, _ => none
def f3 (o : D → D → D → Option D) (f g h : S → W → R D) : S → W → R D := fun s w => bnd (f s w) fun a w1 => bnd (g s w1) fun b w2 => bnd (h s w2) fun c w3 => opt (o a b c) w3
def dget2D : D → D → D → Option D
  | .dic kvs, k, c => (keyD k).map fun q => (valD kvs q).getD c
  | _, _, _ => none
theorem q_dget1 {apos cpos : Pos} (hu : X.A.units + 65 < cLine) (ha : QE X x a f) (hb : QE X y b g) (m : M1 X a "get" apos b cpos) : QE X z (.Call (.Attribute a "get" apos) [b] [] cpos) (f2 dget1D f g) :=
  ⟨PE.imp (pe_dget1 (by omega) ha.pe hb.pe m) fun σ H Q t => by
    obtain ⟨B, ow, s, w, d, w', m, e, k⟩ := t
    obtain ⟨a1, w1, e1, e⟩ := bnd_inv e
    obtain ⟨b1, w2, e2, e⟩ := bnd_inv e
    obtain ⟨e3, rfl⟩ := opt_inv e
    unfold dget1D at e3
    split at e3
    · rename_i kvs
      obtain ⟨q, eq, ed⟩ := Option.map_eq_some_iff.mp e3
      refine ⟨B, ow, s, w, _, w1, m, e1, fun u H1 p1 h1 => ?_⟩
      obtain ⟨p, xs, rfl, g1, g2⟩ := h1.up.dic_inv
      refine ⟨p, rfl, .inl ⟨xs, .inl (mask_inv g1).1⟩, B, ow, s, w1, b1, _, m.post p1, e2, fun v H2 p2 h2 => ?_⟩
      obtain ⟨p', xs', ep, g1, g2⟩ := (h1.post p2).up.dic_inv
      cases ep
      obtain rfl := key_inv h2.up eq
      refine ⟨valV xs' q, .inl ⟨xs', q, .inl (mask_inv g1).1, rfl, rfl⟩, ?_⟩
      rcases DnKV.get (q := q) g2 with ⟨q1, q2⟩ | ⟨d', v', q1, q2, q3⟩
      · rw [q1] at ed; subst ed; rw [q2]; exact k _ H2 (p1.trans p2) (Vw.dn .non)
      · rw [q1] at ed; subst ed; rw [q2]; exact k v' H2 (p1.trans p2) (Vw.dn q3)
    · cases e3⟩
theorem q_dget2 {c : Expr} {h : S → W → R D} {apos cpos : Pos} (hu : X.A.units + 65 < cLine) (ha : QE X x a f) (hb : QE X y b g) (hc : QE X false c h) (m : M2 X a "get" apos b c cpos) : QE X z (.Call (.Attribute a "get" apos) [b, c] [] cpos) (f3 dget2D f g h) :=
  ⟨PE.imp (pe_dget2 (by omega) ha.pe hb.pe hc.pe m) fun σ H Q t => by
    obtain ⟨B, ow, s, w, d, w', m, e, k⟩ := t
    obtain ⟨a1, w1, e1, e⟩ := bnd_inv e
    obtain ⟨b1, w2, e2, e⟩ := bnd_inv e
    obtain ⟨c1, w3, e3, e⟩ := bnd_inv e
    obtain ⟨e4, rfl⟩ := opt_inv e
    unfold dget2D at e4
    split at e4
    · rename_i kvs
      obtain ⟨q, eq, ed⟩ := Option.map_eq_some_iff.mp e4
      refine ⟨B, ow, s, w, _, w1, m, e1, fun u H1 p1 h1 => ?_⟩
      obtain ⟨p, xs, rfl, g1, g2⟩ := h1.up.dic_inv
      refine ⟨p, rfl, .inl ⟨xs, .inl (mask_inv g1).1⟩, B, ow, s, w1, b1, w2, m.post p1, e2, fun v H2 p2 h2 => ⟨B, ow, s, w2, c1, _, (m.post p1).post p2, e3, fun t H3 p3 h3 => ?_⟩⟩
      obtain ⟨p', xs', ep, g1, g2⟩ := ((h1.post p2).post p3).up.dic_inv
      cases ep
      obtain rfl := key_inv (h2.post p3).up eq
      refine ⟨valV xs' q, .inl ⟨xs', q, .inl (mask_inv g1).1, rfl, rfl⟩, ?_⟩
      rcases DnKV.get (q := q) g2 with ⟨q1, q2⟩ | ⟨d', v', q1, q2, q3⟩
      · rw [q1] at ed; subst ed; rw [q2]; exact k _ H3 ((p1.trans p2).trans p3) (Vw.dn h3)
      · rw [q1] at ed; subst ed; rw [q2]; exact k v' H3 ((p1.trans p2).trans p3) (Vw.dn q3)
    · cases e4⟩
/-! ## x.join(ys) -/
def joinD : D → D → Option D
  | .str x, .lst ys => match strsD ys with
    | some zs => if (zs.map (·.length)).sum + zs.length * x.length ≤ 16777216 then some (.str (Txt.join x zs)) else none
    | none => none
  | .str x, .tup ys => match strsD ys with
    | some zs => if (zs.map (·.length)).sum + zs.length * x.length ≤ 16777216 then some (.str (Txt.join x zs)) else none
    | none => none
  | _, _ => none
theorem q_join {apos cpos : Pos} (ha : QE X x a f) (hb : QE X y b g) (hs : starEach [b] X.env = [(false, eval b X.env)]) (hbase : attributeBase a "join" X.env (eval a X.env) = eval a X.env) (hline : (apos.endLine == cpos.line) = true) :
    QE X z (.Call (.Attribute a "join" apos) [b] [] cpos) (f2 joinD f g) :=
  ⟨PE.imp (pe_join ha.pe hb.pe hs hbase hline) fun σ H Q t => by
    obtain ⟨B, ow, s, w, d, w', m, e, k⟩ := t
    obtain ⟨a1, w1, e1, e⟩ := bnd_inv e
    obtain ⟨b1, w2, e2, e⟩ := bnd_inv e
    obtain ⟨e3, rfl⟩ := opt_inv e
    unfold joinD at e3
    split at e3
    · split at e3
      · rename_i zs hz
        split at e3
        · rename_i hl
          cases e3
          refine ⟨B, ow, s, w, _, w1, m, e1, fun u H1 p1 h1 => ⟨⟨_, h1.str_inv⟩, B, ow, s, w1, _, _, m.post p1, e2, fun v H2 p2 h2 => ?_⟩⟩
          obtain ⟨p, xs, rfl, g1, _, g2⟩ := h2.up
          rw [strsD_eq hz] at g2
          obtain rfl := g2.strs_inv
          exact ⟨_, p, zs, h1.str_inv, rfl, .inl (.inl (.inl g1)), hl, k _ H2 (p1.trans p2) (Vw.dn (.str _))⟩
        · cases e3
      · cases e3
    · split at e3
      · rename_i zs hz
        split at e3
        · rename_i hl
          cases e3
          refine ⟨B, ow, s, w, _, w1, m, e1, fun u H1 p1 h1 => ⟨⟨_, h1.str_inv⟩, B, ow, s, w1, _, _, m.post p1, e2, fun v H2 p2 h2 => ?_⟩⟩
          obtain ⟨p, xs, rfl, g1, g2⟩ := h2.up.tup_inv
          rw [strsD_eq hz] at g2
          obtain rfl := g2.strs_inv
          exact ⟨_, p, zs, h1.str_inv, rfl, .inr ((mask_le _ _).sqT g1), hl, k _ H2 (p1.trans p2) (Vw.dn (.str _))⟩
        · cases e3
      · cases e3
    · cases e3⟩
/-! ## range(a, b, c) -/
instance (i j c : Int) (n : Nat) : Decidable (RgC i j c n) := by unfold RgC; infer_instance
def rngCD (lo c : Int) (n : Nat) : List D := (List.range n).map fun i => .int (lo + (i : Nat) * c)
def rangeD3 : D → D → D → Option (List D)
  | .int i, .int j, .int c => if RgC i j c (Builtin.Range.rangeSize i j c).toNat then some (rngCD i c (Builtin.Range.rangeSize i j c).toNat) else none
  | _, _, _ => none
theorem walkRC {lp : Bool} {B : Bs} {ow : Ow} {K : PySem.W.Frag} {lo c : Int} {n : Nat} {H : Hp} : WalkD lp B ow K (Itc lo c n) (rngCD lo c n) H := by
  refine ⟨fun _ => True, _, by rw [show (rngCD lo c n).length = n by simp [rngCD]]; exact walk_rangeC, trivial, ?_, ?_⟩
  · cases lp with
    | true => exact fun _ _ _ => trivial
    | false => exact fun _ _ _ => trivial
  · rintro i H1 v H2 ow1 le hl g hi ⟨rfl, rfl⟩
    have hi2 : i < n := by simpa [rngCD] using hi
    exact ⟨Le.refl _, .int (lo + i * c), by simp [rngCD, hi2], .int _⟩
def fRng3 (f g h : S → W → R D) : S → W → R (List D) := fun s w => bnd (f s w) fun d w1 => bnd (g s w1) fun c w2 => bnd (h s w2) fun t w3 => opt (rangeD3 d c t) w3
theorem qi_rng3 {lp : Bool} {tg c : Expr} {h : S → W → R D} {p pos : Pos} (hg : Gl X "range") (hm : X.mg "range" = none) (ha : QE X true a f) (hb : QE X true b g) (hc : QE X true c h)
    (hs : ∀ es, starEach (a :: es) X.env = (false, eval a X.env) :: starEach es X.env) (hs2 : ∀ es, starEach (b :: es) X.env = (false, eval b X.env) :: starEach es X.env) (hs3 : ∀ es, starEach (c :: es) X.env = (false, eval c X.env) :: starEach es X.env) :
    QI X lp tg (.Call (.Name "range" p) [a, b, c] [] pos) (fRng3 f g h) :=
  ⟨PI.imp (pi_range3 hg hm (qa_cons ha (qa_cons hb (qa_cons hc qa_nil (hs3 _)) (hs2 _)) (hs _)).pa (hs _) (by rw [hs2, hs3]; rfl)) fun σ H Q ⟨B, ow, s, w, ds, w', m, e, k⟩ => by
    obtain ⟨d, w1, e1, e⟩ := bnd_inv e
    obtain ⟨c, w2, e2, e⟩ := bnd_inv e
    obtain ⟨t, w3, e3, e⟩ := bnd_inv e
    obtain ⟨e4, hw⟩ := opt_inv e
    subst hw
    refine ⟨B, ow, s, w, [d, c, t], w', m, ?_, fun vs H1 p1 hv => ?_⟩
    · show bnd (f s w) _ = _
      rw [e1]
      show bnd (bnd (g s w1) _) _ = _
      rw [e2]
      show bnd (bnd (bnd (h s w2) _) _) _ = _
      rw [e3]; rfl
    unfold rangeD3 at e4
    split at e4
    · split at e4
      · rename_i hb
        cases e4
        cases hv with
        | cons v1 hv => cases hv with
          | cons v2 hv => cases hv with
            | cons v3 hv =>
              cases hv
              exact ⟨_, _, _, _, by rw [v1.int_inv, v2.int_inv, v3.int_inv], hb, k _ H1 p1 walkRC⟩
      · cases e4
    · cases e4⟩
end
/-! ## pops -/
/-- found.append(left.pop(e)) -/
def fPopApp (i j : Nat) (f : S → W → R D) : S → W → R Fl := fun s w => bnd (f s w) fun d w1 => match ownD s i, ownD s j, d with
  | some xs, some ys, .int z => match seqIndex? z ys.length with
    | some c => match ys[c]? with
      | some y => if xs.length < sizeLine ∧ -(2 ^ 63) ≤ z ∧ z < 2 ^ 63 then .ok (.nx ((s.set j (.o (ys.eraseIdx c))).set i (.o (xs ++ [y])))) w1 else .no
      | none => .no
    | none => .no
  | _, _, _ => .no
/-- t = xs.pop() -/
def fPopTo (i : Nat) (b : D → S → Option S) : S → W → R Fl := fun s w => match ownD s i with
  | some xs => match xs[xs.length - 1]? with
    | some d => match b d (s.set i (.o xs.dropLast)) with
      | some s' => .ok (.nx s') w
      | none => .no
    | none => .no
  | none => .no
theorem DnAll.dropLast {K : PySem.W.Frag} {po : Option Addr} {H : Hp} {vs : List V} {ds : List D} (h : DnAll K po H vs ds) : DnAll K po H vs.dropLast ds.dropLast := by
  rw [List.dropLast_eq_take, List.dropLast_eq_take, h.length]
  exact h.take _
section
variable {X : Cx} {f g : S → W → R D} {e : Expr} {i j : Nat} {n n2 : Str} {p p2 pos apos cpos apos2 cpos2 : Pos} {x : Bool}
theorem qs_popApp (hij : i ≠ j) (hN : X.N[i]? = some n) (hv : Vis X.env.scope n) (hd : (n == ("__debug__" : Str)) = false) (hcd : (n == ("__classdict__" : Str)) = false) (hN2 : X.N[j]? = some n2) (hv2 : Vis X.env.scope n2) (hd2 : (n2 == ("__debug__" : Str)) = false) (hcd2 : (n2 == ("__classdict__" : Str)) = false)
    (he : QE X x e f) (hs1 : starEach [e] X.env = [(false, eval e X.env)]) (h0 : starEach ([] : List Expr) X.env = [])
    (hb1 : attributeBase (.Name n p) "append" X.env (eval (.Name n p) X.env) = eval (.Name n p) X.env) (hb2 : attributeBase (.Name n2 p2) "pop" X.env (eval (.Name n2 p2) X.env) = eval (.Name n2 p2) X.env)
    (hf1 : ((backTo cpos (starEach [.Call (.Attribute (.Name n2 p2) "pop" apos2) [e] [] cpos2] X.env)).all (fun x => !x.1) && (backToKw cpos (keywordEach [] X.env)).all (fun x => x.1.isSome) && decide (([Expr.Call (.Attribute (.Name n2 p2) "pop" apos2) [e] [] cpos2] : List Expr).length + ([] : List Keyword).length + (if ([] : List Keyword).isEmpty then 0 else 1) < 30)) = true)
    (hf2 : ((backTo cpos2 (starEach [e] X.env)).all (fun x => !x.1) && (backToKw cpos2 (keywordEach [] X.env)).all (fun x => x.1.isSome) && decide (([e] : List Expr).length + ([] : List Keyword).length + (if ([] : List Keyword).isEmpty then 0 else 1) < 30)) = true)
    (hl1 : (apos.endLine == cpos.line) = true) (hl2 : (apos2.endLine == cpos2.line) = true)
    (hsc : starEach [Expr.Call (.Attribute (.Name n2 p2) "pop" apos2) [e] [] cpos2] X.env = [(false, eval (.Call (.Attribute (.Name n2 p2) "pop" apos2) [e] [] cpos2) X.env)])
    (hsw : swapsWith (.Call (.Attribute (.Name n p) "append" apos) [.Call (.Attribute (.Name n2 p2) "pop" apos2) [e] [] cpos2] [] cpos) none pos.line X.env = pure false) :
    QS X (.Expr (.Call (.Attribute (.Name n p) "append" apos) [.Call (.Attribute (.Name n2 p2) "pop" apos2) [e] [] cpos2] [] cpos) pos) (fPopApp i j f) :=
  ⟨PS.imp (ps_expr (pe_bm PySem.F.plainAttrs_list PySem.F.slot_list_append PySem.F.type_list_append mt_append (pe_var hN hv hd hcd)
      (pa_cons (pe_bm PySem.F.plainAttrs_list PySem.F.slot_list_pop PySem.F.type_list_pop mt_popAt (pe_var hN2 hv2 hd2 hcd2) (pa_cons he.pe pa_nil (by rw [hs1, h0])) hb2 hf2 hl2 (by rw [hs1, h0]) (by rw [h0]; rfl)) pa_nil (by rw [hsc, h0])) hb1 hf1 hl1 (by rw [hsc, h0]) (by rw [h0]; rfl)) hsw) fun E σ H ⟨B, ow, s, w, fl, w', m, e, k⟩ => by
    obtain ⟨d, w1, e1, e⟩ := bnd_inv e
    split at e
    · rename_i xs ys z hxs hys
      split at e
      · rename_i c hc
        split at e
        · rename_i y hy
          split at e
          · rename_i hz
            cases e
            obtain ⟨q, vs, q1, q2, q3, q4⟩ := own_at m hxs
            obtain ⟨r, us, r1, r2, r3, r4⟩ := own_at m hys
            refine ⟨_, q2, tyV_own q3, _, r2, tyV_own r3, B, ow, s, w, _, _, m, e1, fun v H1 p1 h1 => ?_⟩
            have m1 := m.post p1
            obtain ⟨r', us', r1', r2', r3', r4'⟩ := own_at m1 hys
            rw [r1] at r1'; cases r1'
            obtain ⟨yv, g1, g2⟩ := r4'.get hy
            have iv : v = .int z := h1.int_inv
            obtain ⟨m2, l2⟩ := m1.mut (ownD_some hys) r1 (r4'.eraseIdx c)
            refine ⟨r, us', z, c, yv, rfl, by rw [iv], r3', hz.2.1, hz.2.2, by rw [r4'.length]; exact hc, g1, ?_⟩
            have hxs2 : ownD (s.set j (.o (ys.eraseIdx c))) i = some xs := by
              unfold ownD
              rw [List.getElem?_set_ne fun z => hij z.symm, ownD_some hxs]
            obtain ⟨q', vs', q1', q2', q3', q4'⟩ := own_at m2 hxs2
            rw [q1] at q1'; cases q1'
            obtain ⟨m3, l3⟩ := m2.mut (ownD_some hxs2) q1 (q4'.append (.cons (g2.mono l2) .nil))
            exact ⟨q, vs', yv, rfl, rfl, q3', by rw [q4'.length]; exact hz.1, k ow σ _ ((p1.msk.trans l2).trans l3) m3⟩
          · cases e
        · cases e
      · cases e
    · cases e⟩
theorem qs_popTo {tg : Expr} {vs : List Nat} {b : D → S → Option S} (hN : X.N[i]? = some n) (hv : Vis X.env.scope n) (hd : (n == ("__debug__" : Str)) = false) (hcd : (n == ("__classdict__" : Str)) = false) (hg : QG X vs tg b)
    (hb1 : attributeBase (.Name n p) "pop" X.env (eval (.Name n p) X.env) = eval (.Name n p) X.env) (hl1 : (apos.endLine == cpos.line) = true)
    (hs : swapsWithSole [tg] (.Call (.Attribute (.Name n p) "pop" apos) [] [] cpos) pos.line X.env = pure false) (hw : swappedStores [tg] (.Call (.Attribute (.Name n p) "pop" apos) [] [] cpos) X.env = pure none) (h1 : (assignEach [tg] X.env).map (·.2) = [assign tg X.env]) :
    QS X (.Assign [tg] (.Call (.Attribute (.Name n p) "pop" apos) [] [] cpos) pos) (fPopTo i b) :=
  ⟨PS.imp (ps_asg (pe_bm0 PySem.F.plainAttrs_list PySem.F.slot_list_pop PySem.F.type_list_pop mt_pop (pe_var hN hv hd hcd) hb1 hl1) hg.pg hs hw h1) fun E σ H ⟨B, ow, s, w, fl, w', m, e, k⟩ => by
    unfold fPopTo at e
    split at e
    · rename_i xs hxs
      split at e
      · rename_i d hd
        split at e
        · rename_i s' hs'
          cases e
          obtain ⟨q, us, q1, q2, q3, q4⟩ := own_at m hxs
          obtain ⟨yv, g1, g2⟩ := q4.get hd
          obtain ⟨m2, l2⟩ := m.mut (ownD_some hxs) q1 q4.dropLast
          refine ⟨_, q2, tyV_own q3, q, us, yv, rfl, rfl, q3, by rw [q4.length]; exact g1, ?_⟩
          exact ⟨B, ow, _, _, d, s', m2, g2.mono l2, hs', fun ow' σ' l m' _ _ => k ow' σ' _ (l2.trans l) m'⟩
        · cases e
      · cases e
    · cases e⟩
end
end Rf
namespace Rf
open PySem L2 PySem.Spec PyProof.Rows
/-! ## defs as values -/
abbrev Tbl := List (Str × Nat × (List D → W → R D))
def tblAt : Tbl → Str → Option (Nat × (List D → W → R D))
  | [], _ => none
  | (x, n, F) :: r, y => if x = y then some (n, F) else tblAt r y
/-- a local name that holds a def of the module -/
def fCallV (i : Nat) (tbl : Tbl) (fa : S → W → R (List D)) : S → W → R D := fun s w => match s[i]? with
  | some (.v (.fn x)) => match tblAt tbl x with
    | some (n, F) => fCall F n fa s w
    | none => .no
  | _ => .no
section
variable {X : Cx} {k i : Nat} {x : Str} {p pos : Pos} {e : Expr} {es : List Expr} {t : TA} {fa : S → W → R (List D)} {z : Bool}
def tCv (X : Cx) (k i : Nat) (t : TA) : TE := fun σ H Q => ∃ (f : Addr) (fd : FuncData) (ps : List Str) (sp : Sp), σ[i]? = some (some (.ref f)) ∧ FnG X.prog X.w X.K X.mg X.base k f fd ps sp ∧ PySem.W.keepIn X.K (.ref f) = true ∧ Binds X.K fd ps [] ∧ t σ H fun vs H1 => sp vs H1 Q E0
theorem pe_cv (hr : Rm k X.A) (hN : X.N[i]? = some x) (hv : Vis X.env.scope x) (ha : PA X (e :: es) t) (hdb : (x == ("__debug__" : Str)) = false) (hcd : (x == ("__classdict__" : Str)) = false)
    (he : starEach (e :: es) X.env = (false, eval e X.env) :: starEach es X.env) (hpl : (backTo pos (starEach es X.env)).any (·.1) = false) : PE X (.Call (.Name x p) (e :: es) [] pos) (tCv X k i t) := by
  refine ⟨fun pins s σ H Q I h => ?_⟩
  obtain ⟨f, fd, ps, sp, hs, F, hk, hb, ht⟩ := h
  refine wpAny_Call_Name_kw (thn ((pe_var (pos := p) hN hv hdb hcd).run pins s σ H (fun v H1 => v = .ref f ∧ H1 = H) I ⟨.ref f, hs, rfl, rfl⟩) fun u s1 ⟨v, H1, I1, r1, q1⟩ => ?_)
  obtain ⟨rfl, rfl⟩ := q1
  cases r1
  exact PySem.W.callWith_K (h₀ := X.base) I.ok.mod.kin hk (thn (ha.run pos pins s1 σ _ _ I1 ht) fun us s2 ⟨vs, H2, I2, r, q⟩ => ⟨I2.kIn, run_g F hr hb I2 r q⟩) he hpl
theorem tblAt_mem : ∀ {tbl : Tbl} {x : Str} {n : Nat} {F : List D → W → R D}, tblAt tbl x = some (n, F) → (x, n, F) ∈ tbl
  | [], _, _, _, h => by cases h
  | (y, m, G) :: r, x, n, F, h => by
    unfold tblAt at h; split at h
    · rename_i e; cases h; subst e; exact List.mem_cons_self ..
    · exact List.mem_cons_of_mem _ (tblAt_mem h)
theorem q_callv {tbl : Tbl} (hF : ∀ x n F, (x, n, F) ∈ tbl → Fd X.prog X.w X.K X.mg X.base k x n F ∧ X.mg x = some (.ref (He.ga X.K x))) (hr : Rm k X.A) (hN : X.N[i]? = some x) (hv : Vis X.env.scope x)
    (ha : QA X false (e :: es) fa) (hdb : (x == ("__debug__" : Str)) = false) (hcd : (x == ("__classdict__" : Str)) = false) (he : starEach (e :: es) X.env = (false, eval e X.env) :: starEach es X.env) (hpl : (backTo pos (starEach es X.env)).any (·.1) = false) :
    QE X z (.Call (.Name x p) (e :: es) [] pos) (fCallV i tbl fa) :=
  ⟨PE.imp (pe_cv hr hN hv ha.pa hdb hcd he hpl) fun σ H Q ⟨B, ow, s, w, d, w', m, e, q⟩ => by
    unfold fCallV at e
    split at e
    · rename_i y hs
      split at e
      · rename_i n F ht
        obtain ⟨hf, hm⟩ := hF _ _ _ (tblAt_mem ht)
        obtain ⟨f, fd, ps, h1, h2, h3, h4⟩ := hf.ex
        obtain ⟨_, v, g1, g2⟩ := m.slot i _ hs
        rw [hm] at h2
        cases h2
        have ev : v = .ref (He.ga X.K y) := by cases g2; rfl
        rw [ev] at g1
        exact ⟨_, fd, ps, _, g1, h1, h3, h4, call_tr (z := z) ⟨B, ow, s, w, d, w', m, e, q⟩⟩
      · cases e
    · cases e⟩
/-- a def of the module, told by its name -/
theorem q_fnv (hg : Gl X x) (hm : X.mg x = some (.ref (He.ga X.K x))) (hd : (x == ("__debug__" : Str)) = false) : QE X z (.Name x pos) (fC (.fn x)) :=
  q_g hg hm (v := .ref (He.ga X.K x)) rfl hd (.fn x) fun _ _ _ => .fn x
end
end Rf
namespace Rf
open PySem L2 PySem.Spec PyProof.Rows
/-! ## the sub-language, as trees -/
inductive Kst where
  | non | bl (b : Bool) | int (i : Int) | str (x : Str)
def Kst.d : Kst → D
  | .non => .non | .bl b => .bl b | .int i => .int i | .str x => .str x
inductive Bi where
  | len | abs | int | max | min | all | any | sum | tuple | repr
inductive Tg where
  | n (i : Nat) | t1 (a : Tg) | t2 (a b : Tg) | t3 (a b c : Tg) | t4 (a b c d : Tg)
mutual
inductive E where
  | v (i : Nat) | o (i : Nat) | k (c : Kst) | g (x : Str) (d : D)
  | bin (op : Operator) (a b : E) | neg (a : E) | cmp (op : CmpOp) (a b : E) | ch (o1 o2 : CmpOp) (a b c : E)
  | bo (isAnd : Bool) (es : Es) | not (a : E) | ite (c a b : E)
  | tup (es : Es) | ix (a i : E) | sl (a : E) (lo hi : Eo) | pget (i : Nat) (j : Int)
  | call (x : Str) (n : Nat) (F : List D → W → R D) (es : Es) | bi (b : Bi) (es : Es) | gcd (a b : E) | isi (T : Ty) (a : E)
  | fr (f : Fr)
  | fnv (x : Str) | callv (i : Nat) (tbl : List (Str × Nat × (List D → W → R D))) (es : Es) | join (a b : E) | dg1 (a b : E) | dg2 (a b c : E)
inductive Es where
  | nil | cons (e : E) (es : Es) | star (e : E) (es : Es)
inductive Eo where
  | none | some (e : E)
inductive It where
  | seq (e : E) | r1 (e : E) | r2 (a b : E) | zip (a b : E) | en (e : E) | r3 (a b c : E)
inductive Fr where
  | lst (es : Es) | comp (own : List (Str × Nat)) (tg : Tg) (it : It) (c : Eo) (e : E) | list (e : E) | cat (a b : E) | rep (a b : E) | rev (a : E) | lr1 (a : E) | srt (a : E)
end
def Tg.slots : Tg → List Nat
  | .n i => [i]
  | .t1 a => a.slots ++ []
  | .t2 a b => a.slots ++ (b.slots ++ [])
  | .t3 a b c => a.slots ++ (b.slots ++ (c.slots ++ []))
  | .t4 a b c d => a.slots ++ (b.slots ++ (c.slots ++ (d.slots ++ [])))
def evTg : Tg → D → S → Option S
  | .n i => bName i
  | .t1 a => bTup 1 (bCons (evTg a) bNil)
  | .t2 a b => bTup 2 (bCons (evTg a) (bCons (evTg b) bNil))
  | .t3 a b c => bTup 3 (bCons (evTg a) (bCons (evTg b) (bCons (evTg c) bNil)))
  | .t4 a b c d => bTup 4 (bCons (evTg a) (bCons (evTg b) (bCons (evTg c) (bCons (evTg d) bNil))))
def binD : Operator → D → D → Option D
  | .Add => addD | .Sub => subD | .Mult => mulD | .FloorDiv => fdivD | .Mod => modD | .Pow => powD | _ => fun _ _ => none
def cmpD : CmpOp → D → D → Option D
  | .Eq => eqD | .NotEq => neD | .Lt => ltD | .LtE => leD | .Gt => gtD | .GtE => geD | .Is => isD | .IsNot => isntD | .In => inD | .NotIn => ninD
def biD : Bi → List D → Option D
  | .len => lenD | .abs => absD | .int => intD | .max => maxD | .min => minD | .all => allD | .any => anyD | .sum => sumD | .tuple => tupleD | .repr => reprD
def gcd2 : D → D → Option D := fun a b => gcdD [a, b]
mutual
def ev : E → S → W → R D
  | .v i => fV i
  | .o i => fO i
  | .k c => fC c.d
  | .g _ d => fC d
  | .bin op a b => f2 (binD op) (ev a) (ev b)
  | .neg a => f1 negD (ev a)
  | .cmp op a b => f2 (cmpD op) (ev a) (ev b)
  | .ch o1 o2 a b c => fCh (cmpD o1) (cmpD o2) (ev a) (ev b) (ev c)
  | .bo true es => evAnd es
  | .bo false es => evOr es
  | .not a => fNot (ev a)
  | .ite c a b => fIf (ev c) (ev a) (ev b)
  | .tup es => fTup (evs es)
  | .ix a i => f2 ixD2 (ev a) (ev i)
  | .sl a lo hi => fSl slD (ev a) (evo lo) (evo hi)
  | .pget i j => fPget i j
  | .call _ n F es => fCall F n (evs es)
  | .bi b es => fN (biD b) (evs es)
  | .gcd a b => fN gcdD (aCons (ev a) (aCons (ev b) aNil))
  | .isi T a => f1 (isiD T) (ev a)
  | .fr f => fL (evF f)
  | .fnv x => fC (.fn x)
  | .callv i tbl es => fCallV i tbl (evs es)
  | .join a b => f2 joinD (ev a) (ev b)
  | .dg1 a b => f2 dget1D (ev a) (ev b)
  | .dg2 a b c => f3 dget2D (ev a) (ev b) (ev c)
def evs : Es → S → W → R (List D)
  | .nil => aNil
  | .cons e es => aCons (ev e) (evs es)
  | .star e es => aStar (ev e) (evs es)
def evAnd : Es → S → W → R D
  | .nil => fun _ _ => .no
  | .cons e .nil => ev e
  | .cons e (.cons f es) => fAnd (ev e) (evAnd (.cons f es))
  | .cons _ (.star _ _) => fun _ _ => .no
  | .star _ _ => fun _ _ => .no
def evOr : Es → S → W → R D
  | .nil => fun _ _ => .no
  | .cons e .nil => ev e
  | .cons e (.cons f es) => fOr (ev e) (evOr (.cons f es))
  | .cons _ (.star _ _) => fun _ _ => .no
  | .star _ _ => fun _ _ => .no
def evo : Eo → S → W → R (Option Int)
  | .none => oNone
  | .some e => oSome (ev e)
def evc : Eo → S → W → R D
  | .none => fYes
  | .some e => ev e
def evI : It → S → W → R (List D)
  | .seq e => fIt (ev e)
  | .r1 e => fRng1 (ev e)
  | .r2 a b => fRng2 (ev a) (ev b)
  | .zip a b => fZip (ev a) (ev b)
  | .en e => fEnum (ev e)
  | .r3 a b c => fRng3 (ev a) (ev b) (ev c)
def evF : Fr → S → W → R (List D)
  | .lst es => fun s w => bnd (evs es s w) fun ds w1 => if ds.length ≤ sizeLine then .ok ds w1 else .no
  | .comp own tg it c e => fComp (own.map (·.2)) (evI it) (evTg tg) (evc c) (ev e)
  | .list e => gN listF (aCons (ev e) aNil)
  | .cat a b => g2 catF (ev a) (ev b)
  | .rep a b => g2 repF (ev a) (ev b)
  | .rev a => gRev (ev a)
  | .lr1 a => gLr1 (ev a)
  | .srt a => gN sortF (aCons (ev a) aNil)
end
end Rf
namespace Rf
open PySem L2 PySem.Spec PyProof.Rows
/-! ## the trees against the text -/
def xName : Expr → Option (Str × Pos)
  | .Name n p => some (n, p)
  | _ => none
theorem xName_eq {e : Expr} {t : Str × Pos} (h : xName e = some t) : e = .Name t.1 t.2 := by cases e <;> first | (cases h; rfl) | cases h
def xConst : Expr → Option (Const × Nat × Pos)
  | .Constant c k p => some (c, k, p)
  | _ => none
theorem xConst_eq {e : Expr} {t : Const × Nat × Pos} (h : xConst e = some t) : e = .Constant t.1 t.2.1 t.2.2 := by cases e <;> first | (cases h; rfl) | cases h
def xBin : Expr → Option (Expr × Operator × Expr × Pos)
  | .BinOp a o b p => some (a, o, b, p)
  | _ => none
theorem xBin_eq {e : Expr} {t : Expr × Operator × Expr × Pos} (h : xBin e = some t) : e = .BinOp t.1 t.2.1 t.2.2.1 t.2.2.2 := by cases e <;> first | (cases h; rfl) | cases h
def xUn : Expr → Option (UnaryOp × Expr × Pos)
  | .UnaryOp o a p => some (o, a, p)
  | _ => none
theorem xUn_eq {e : Expr} {t : UnaryOp × Expr × Pos} (h : xUn e = some t) : e = .UnaryOp t.1 t.2.1 t.2.2 := by cases e <;> first | (cases h; rfl) | cases h
def xCmp : Expr → Option (Expr × List CmpOp × List Expr × Pos)
  | .Compare a os bs p => some (a, os, bs, p)
  | _ => none
theorem xCmp_eq {e : Expr} {t : Expr × List CmpOp × List Expr × Pos} (h : xCmp e = some t) : e = .Compare t.1 t.2.1 t.2.2.1 t.2.2.2 := by cases e <;> first | (cases h; rfl) | cases h
def xBool : Expr → Option (BoolOp × List Expr × Pos)
  | .BoolOp o es p => some (o, es, p)
  | _ => none
theorem xBool_eq {e : Expr} {t : BoolOp × List Expr × Pos} (h : xBool e = some t) : e = .BoolOp t.1 t.2.1 t.2.2 := by cases e <;> first | (cases h; rfl) | cases h
def xIf : Expr → Option (Expr × Expr × Expr × Pos)
  | .IfExp c a b p => some (c, a, b, p)
  | _ => none
theorem xIf_eq {e : Expr} {t : Expr × Expr × Expr × Pos} (h : xIf e = some t) : e = .IfExp t.1 t.2.1 t.2.2.1 t.2.2.2 := by cases e <;> first | (cases h; rfl) | cases h
def xTup : Expr → Option (List Expr × Nat × Pos)
  | .Tuple es k p => some (es, k, p)
  | _ => none
theorem xTup_eq {e : Expr} {t : List Expr × Nat × Pos} (h : xTup e = some t) : e = .Tuple t.1 t.2.1 t.2.2 := by cases e <;> first | (cases h; rfl) | cases h
def xLst : Expr → Option (List Expr × Pos)
  | .List es p => some (es, p)
  | _ => none
theorem xLst_eq {e : Expr} {t : List Expr × Pos} (h : xLst e = some t) : e = .List t.1 t.2 := by cases e <;> first | (cases h; rfl) | cases h
def xSub : Expr → Option (Expr × Expr × Pos)
  | .Subscript a i p => some (a, i, p)
  | _ => none
theorem xSub_eq {e : Expr} {t : Expr × Expr × Pos} (h : xSub e = some t) : e = .Subscript t.1 t.2.1 t.2.2 := by cases e <;> first | (cases h; rfl) | cases h
def xSlice : Expr → Option (Option Expr × Option Expr × Option Expr × Pos)
  | .Slice a b c p => some (a, b, c, p)
  | _ => none
theorem xSlice_eq {e : Expr} {t : Option Expr × Option Expr × Option Expr × Pos} (h : xSlice e = some t) : e = .Slice t.1 t.2.1 t.2.2.1 t.2.2.2 := by cases e <;> first | (cases h; rfl) | cases h
/-- f(..) with a plain name, no keywords -/
def xCall : Expr → Option (Str × Pos × List Expr × Pos)
  | .Call (.Name n p) es [] q => some (n, p, es, q)
  | _ => none
theorem xCall_eq {e : Expr} {t : Str × Pos × List Expr × Pos} (h : xCall e = some t) : e = .Call (.Name t.1 t.2.1) t.2.2.1 [] t.2.2.2 := by
  unfold xCall at h; split at h
  · cases h; rfl
  · cases h
/-- o.m(..) -/
def xMeth : Expr → Option (Expr × Str × Pos × List Expr × Pos)
  | .Call (.Attribute o m p) es [] q => some (o, m, p, es, q)
  | _ => none
theorem xMeth_eq {e : Expr} {t : Expr × Str × Pos × List Expr × Pos} (h : xMeth e = some t) : e = .Call (.Attribute t.1 t.2.1 t.2.2.1) t.2.2.2.1 [] t.2.2.2.2 := by
  unfold xMeth at h; split at h
  · cases h; rfl
  · cases h
def xLc : Expr → Option (Expr × Expr × Expr × List Expr × Scope × Pos)
  | .ListComp e [⟨t, i, fs, 0⟩] sc p => some (e, t, i, fs, sc, p)
  | _ => none
theorem xLc_eq {e : Expr} {t : Expr × Expr × Expr × List Expr × Scope × Pos} (h : xLc e = some t) : e = .ListComp t.1 [⟨t.2.1, t.2.2.1, t.2.2.2.1, 0⟩] t.2.2.2.2.1 t.2.2.2.2.2 := by
  unfold xLc at h; split at h
  · cases h; rfl
  · cases h
def xStar : Expr → Option (Expr × Pos)
  | .Starred e p => some (e, p)
  | _ => none
theorem xStar_eq {e : Expr} {t : Expr × Pos} (h : xStar e = some t) : e = .Starred t.1 t.2 := by cases e <;> first | (cases h; rfl) | cases h
/-- x[::-1] -/
def xRev : Expr → Option (Expr × Nat × Pos × Pos × Pos × Pos)
  | .Subscript e (.Slice none none (some (.UnaryOp .USub (.Constant (.int 1) k p1) p2)) p3) p4 => some (e, k, p1, p2, p3, p4)
  | _ => none
theorem xRev_eq {e : Expr} {t : Expr × Nat × Pos × Pos × Pos × Pos} (h : xRev e = some t) : e = .Subscript t.1 (.Slice none none (some (.UnaryOp .USub (.Constant (.int 1) t.2.1 t.2.2.1) t.2.2.2.1)) t.2.2.2.2.1) t.2.2.2.2.2 := by
  unfold xRev at h; split at h
  · cases h; rfl
  · cases h
def noStar : Expr → Bool
  | .Starred .. => false
  | _ => true
theorem star_of {env : Env} {e : Expr} (h : noStar e = true) (es : List Expr) : starEach (e :: es) env = (false, eval e env) :: starEach es env := by
  cases e <;> first | rfl | cases h
theorem star_nil {env : Env} : starEach [] env = [] := rfl
theorem star_plain {env : Env} {pos : Pos} : ∀ {es : List Expr}, es.all noStar = true → (backTo pos (starEach es env)).any (·.1) = false
  | [], _ => rfl
  | e :: es, h => by
    rw [List.all_cons, Bool.and_eq_true] at h
    rw [star_of h.1]
    show (false || (backTo pos (starEach es env)).any (·.1)) = false
    rw [star_plain h.2]; rfl
theorem each_of {env : Env} {t : Expr} (h : noStar t = true) (ts : List Expr) : assignEach (t :: ts) env = (false, assign t env) :: assignEach ts env := by
  cases t <;> first | rfl | cases h
def noSet : Expr → Bool
  | .Set .. => false
  | _ => true
theorem folded_of {env : Env} {e : Expr} (h : noSet e = true) (x : Value) : foldedSetIterable e env x = pure x := by
  cases e <;> first | rfl | cases h
def noSlice : Expr → Bool
  | .Slice .. => false
  | _ => true
theorem plainIx_of {e : Expr} (h : noSlice e = true) : PlainIx e := by
  cases e <;> first | exact fun _ _ => rfl | cases h
/-- no comprehension: nothing is swapped -/
def noComp : Expr → Bool
  | .ListComp .. => false
  | .SetComp .. => false
  | .DictComp .. => false
  | _ => true
theorem swaps_of {env : Env} {e : Expr} (h : noComp e = true) (t : Option Expr) (l : Nat) : swapsWith e t l env = pure false := by
  cases e <;> first | rfl | cases h
theorem behind_of {op : CmpOp} {e : Expr} (h : noSet e = true) : behindInMarks op e = false := by
  cases e <;> first | rfl | cases h
def noTup : Expr → Bool
  | .Tuple .. => false
  | _ => true
/-! ## method calls -/
def noCall0 : Expr → Bool
  | .Call (.Name _ _) [] [] _ => false
  | _ => true
theorem base_of {o : Expr} {m : Str} {env : Env} (h : noCall0 o = true) : attributeBase o m env (eval o env) = eval o env := by
  unfold attributeBase
  split
  · cases h
  · rfl
theorem noSl_of {e : Expr} (h : noSlice e = true) : NoSl e := by
  cases e <;> first | exact fun _ _ => rfl | cases h
theorem m1_of {X : Cx} {o e : Expr} {m : Str} {apos cpos : Pos} (ho : noCall0 o = true) (he : noStar e = true) (hl : (apos.endLine == cpos.line) = true) : M1 X o m apos e cpos :=
  ⟨base_of ho, by rw [star_of he]; rfl, hl, by rw [star_of he]; rfl⟩
theorem m2_of {X : Cx} {o e f : Expr} {m : Str} {apos cpos : Pos} (ho : noCall0 o = true) (he : noStar e = true) (hf : noStar f = true) (hl : (apos.endLine == cpos.line) = true) : M2 X o m apos e f cpos :=
  ⟨base_of ho, by rw [star_of he, star_of hf]; rfl, hl, by rw [star_of he, star_of hf]; rfl⟩
/-- a test that is looked at as a value -/
def asVal : Expr → Bool
  | .UnaryOp .Not _ _ => false
  | .BoolOp .. => false
  | .IfExp .. => false
  | .Compare .. => false
  | _ => true
theorem isTrue_of {env : Env} {e : Expr} (h : asVal e = true) (whole : Sem Value) : isTrue e env whole = (do let v ← whole; standAt e.pos; holding [v] (truthy v)) := by
  cases e with
  | UnaryOp o a p => cases o <;> first | rfl | cases h
  | _ => first | rfl | cases h
def okName (x : Str) : Bool := !(x == ("__debug__" : Str)) && !(x == ("__classdict__" : Str)) && !decide (x = ("__name__" : Str))
theorem okName_1 {x : Str} (h : okName x = true) : (x == ("__debug__" : Str)) = false := by
  unfold okName at h; simp only [Bool.and_eq_true, Bool.not_eq_true'] at h; exact h.1.1
theorem okName_2 {x : Str} (h : okName x = true) : (x == ("__classdict__" : Str)) = false := by
  unfold okName at h; simp only [Bool.and_eq_true, Bool.not_eq_true'] at h; exact h.1.2
theorem okName_3 {x : Str} (h : okName x = true) : x ≠ ("__name__" : Str) := by
  unfold okName at h; simp only [Bool.and_eq_true, Bool.not_eq_true'] at h; exact of_decide_eq_false h.2
def visB (sc : Scope) (x : Str) : Bool := match sc.names.lookup x with
  | some .local => true
  | some .cell => true
  | some .free => true
  | _ => false
theorem visB_ok {sc : Scope} {x : Str} (h : visB sc x = true) : Vis sc x := by
  unfold visB at h; split at h
  · rename_i e; exact .inl e
  · rename_i e; exact .inr (.inl e)
  · rename_i e; exact .inr (.inr e)
  · cases h
def locB (top : Bool) (sc : Scope) (x : Str) : Bool := match sc.names.lookup x with
  | some .local => true
  | some .cell => top
  | _ => false
def glB (sc : Scope) (x : Str) : Bool := match sc.names.lookup x with
  | some .globalImplicit => true
  | _ => false
def atB (N : List Str) (i : Nat) (x : Str) : Bool := match N[i]? with
  | some y => decide (y = x)
  | none => false
theorem atB_ok {N : List Str} {i : Nat} {x : Str} (h : atB N i x = true) : N[i]? = some x := by
  unfold atB at h; split at h
  · rename_i e; rw [e, of_decide_eq_true h]
  · cases h
/-- the context, as far as the text goes -/
structure Cok (X : Cx) (top : Bool) (N : List Str) (sc : Scope) : Prop where
  n : X.N = N
  esc : X.env.scope = sc
  nd : N.Nodup
  calm : X.calm = true
  kind : sc.kind = .function
  fn : top = true → ∀ x, X.fn x = true
  xe : X.xe = fun _ _ => False
  un : X.A.units + 65 < cLine
section
variable {X : Cx} {top : Bool} {N : List Str} {sc : Scope}
theorem Cok.gl (c : Cok X top N sc) {x : Str} (h : glB sc x = true) : Gl X x := by
  show X.env.scope.names.lookup x = _
  rw [c.esc]; unfold glB at h; split at h
  · assumption
  · cases h
theorem Cok.vis (c : Cok X top N sc) {x : Str} (h : visB sc x = true) : Vis X.env.scope x := by rw [c.esc]; exact visB_ok h
theorem Cok.at (c : Cok X top N sc) {i : Nat} {x : Str} (h : atB N i x = true) : X.N[i]? = some x := by rw [c.n]; exact atB_ok h
theorem Cok.loc (c : Cok X top N sc) {x : Str} (h : locB top sc x = true) : Loc X.env.scope x ∧ (X.fn x = true ∨ X.env.scope.names.lookup x = some .local) := by
  rw [c.esc]; unfold locB at h; split at h
  · rename_i e; exact ⟨.inl e, .inr e⟩
  · rename_i e; exact ⟨.inr e, .inl (c.fn h x)⟩
  · cases h
theorem Cok.own (c : Cok X top N sc) : PassesOwn (model X.prog X.w) X.A X.env X.xe := by rw [c.xe]; exact PassesOwn.never
theorem Cok.blk (c : Cok X top N sc) {scope : Scope} (hk : scope.kind = .function) (s : Shared) (H : Hp) (C : Addr) (cl : List (Str × Addr)) (fp : List Addr) : Cok (X.blk s H scope (compEnvC scope cl C X.env) fp) false N (relS scope sc) :=
  ⟨c.n, by show relS scope X.env.scope = _; rw [c.esc], c.nd, c.calm, hk, (fun z => Bool.noConfusion z), rfl, c.un⟩
end
/-! ### targets -/
def chkTg (top : Bool) (N : List Str) (sc : Scope) : Tg → Expr → Bool
  | .n i, e => match xName e with
    | some t => atB N i t.1 && locB top sc t.1
    | none => false
  | .t1 a, e => match xTup e with
    | some ([x], _, _) => noStar x && chkTg top N sc a x
    | _ => false
  | .t2 a b, e => match xTup e with
    | some ([x, y], _, _) => noStar x && noStar y && chkTg top N sc a x && chkTg top N sc b y
    | _ => false
  | .t3 a b c, e => match xTup e with
    | some ([x, y, z], _, _) => noStar x && noStar y && noStar z && chkTg top N sc a x && chkTg top N sc b y && chkTg top N sc c z
    | _ => false
  | .t4 a b c d, e => match xTup e with
    | some ([x, y, z, u], _, _) => noStar x && noStar y && noStar z && noStar u && chkTg top N sc a x && chkTg top N sc b y && chkTg top N sc c z && chkTg top N sc d u
    | _ => false
theorem tg_ok {X : Cx} {top : Bool} {N : List Str} {sc : Scope} (c : Cok X top N sc) : ∀ (t : Tg) (e : Expr), chkTg top N sc t e = true → QG X t.slots e (evTg t)
  | .n i, e, h => by
    unfold chkTg at h; split at h
    · rename_i t ht
      rw [xName_eq ht]
      rw [Bool.and_eq_true] at h
      obtain ⟨h1, h2⟩ := c.loc h.2
      exact qg_name (by rw [c.n]; exact c.nd) (c.at h.1) h1 h2
    · cases h
  | .t1 a, e, h => by
    unfold chkTg at h; split at h
    · rename_i x k p ht
      rw [xTup_eq ht]
      simp only [Bool.and_eq_true] at h
      refine qg_tup c.calm (qgs_cons (tg_ok c a x h.2) qgs_nil (by rw [each_of h.1]; rfl)) (by rw [each_of h.1]; rfl) (by rw [each_of h.1]; rfl)
    · cases h
  | .t2 a b, e, h => by
    unfold chkTg at h; split at h
    · rename_i x y k p ht
      rw [xTup_eq ht]
      simp only [Bool.and_eq_true] at h
      obtain ⟨⟨⟨h1, h2⟩, h3⟩, h4⟩ := h
      refine qg_tup c.calm (qgs_cons (tg_ok c a x h3) (qgs_cons (tg_ok c b y h4) qgs_nil (by rw [each_of h2]; rfl)) (by rw [each_of h1, each_of h2]; rfl)) (by rw [each_of h1, each_of h2]; rfl) (by rw [each_of h1, each_of h2]; rfl)
    · cases h
  | .t3 a b d, e, h => by
    unfold chkTg at h; split at h
    · rename_i x y z k p ht
      rw [xTup_eq ht]
      simp only [Bool.and_eq_true] at h
      obtain ⟨⟨⟨⟨⟨h1, h2⟩, h3⟩, h4⟩, h5⟩, h6⟩ := h
      refine qg_tup c.calm (qgs_cons (tg_ok c a x h4) (qgs_cons (tg_ok c b y h5) (qgs_cons (tg_ok c d z h6) qgs_nil (by rw [each_of h3]; rfl)) (by rw [each_of h2, each_of h3]; rfl)) (by rw [each_of h1, each_of h2, each_of h3]; rfl)) (by rw [each_of h1, each_of h2, each_of h3]; rfl) (by rw [each_of h1, each_of h2, each_of h3]; rfl)
    · cases h
  | .t4 a b d f, e, h => by
    unfold chkTg at h; split at h
    · rename_i x y z u k p ht
      rw [xTup_eq ht]
      simp only [Bool.and_eq_true] at h
      obtain ⟨⟨⟨⟨⟨⟨⟨h1, h2⟩, h3⟩, h3'⟩, h4⟩, h5⟩, h6⟩, h7⟩ := h
      refine qg_tup c.calm (qgs_cons (tg_ok c a x h4) (qgs_cons (tg_ok c b y h5) (qgs_cons (tg_ok c d z h6) (qgs_cons (tg_ok c f u h7) qgs_nil (by rw [each_of h3']; rfl)) (by rw [each_of h3, each_of h3']; rfl)) (by rw [each_of h2, each_of h3, each_of h3']; rfl)) (by rw [each_of h1, each_of h2, each_of h3, each_of h3']; rfl)) (by rw [each_of h1, each_of h2, each_of h3, each_of h3']; rfl) (by rw [each_of h1, each_of h2, each_of h3, each_of h3']; rfl)
    · cases h
end Rf
namespace Rf
open PySem L2 PySem.Spec PyProof.Rows
/-! ## expressions: the checker and its truth -/
def biName : Bi → Str
  | .len => "len" | .abs => "abs" | .int => "int" | .max => "max" | .min => "min" | .all => "all" | .any => "any" | .sum => "sum" | .tuple => "tuple" | .repr => "repr"
/-- what an expression leans on: a def, a constant of the module, a built-in's name -/
inductive Nd where
  | fn (x : Str) (n : Nat) (F : List D → W → R D) | gl (x : Str) (d : D) | bu (x : Str) | mb (x : Str) (id : String) | fv (x : Str)
def chkK : Kst → Const → Bool
  | .non, .none => true
  | .bl b, .bool c => b == c
  | .int i, .int j => decide (i = j)
  | .str x, .str y => decide (x = y)
  | _, _ => false
theorem k_ok {X : Cx} {c : Kst} {k : Const} (h : chkK c k = true) {z : Bool} {j : Nat} {p : Pos} : QE X z (.Constant k j p) (fC c.d) := by
  unfold chkK at h; split at h
  · exact q_non
  · rw [eq_of_beq h]; exact q_bl
  · rw [of_decide_eq_true h]; exact q_int
  · rw [of_decide_eq_true h]; exact q_str
  · cases h
def isTup (tg : Expr) : Bool := match xTup tg with
  | some _ => true
  | none => false
/-- what is walked suits the target -/
def tgI : It → Expr → Bool
  | .zip _ _, tg => isTup tg
  | .en _, tg => isTup tg
  | _, _ => true
def isOwn : E → Bool
  | .o _ => true
  | _ => false
mutual
/-- t: looked at as a test -/
def chk (N : List Str) (sc : Scope) (t : Bool) : E → Expr → Bool
  | .cmp op a b, e => match xCmp e with
    | some (l, [o], [r], _) => decide (o = op) && chk N sc false a l && chk N sc false b r && noSet r
    | _ => false
  | .ch o1 o2 a b c, e => match xCmp e with
    | some (l, [p1, p2], [r, u], _) => decide (p1 = o1) && decide (p2 = o2) && chk N sc false a l && chk N sc false b r && chk N sc false c u && noSet u && !isOwn a && !isOwn b && !isOwn c
    | _ => false
  | .bo isAnd es, e => match xBool e with
    | some u => decide (u.1 = (if isAnd = true then BoolOp.And else BoolOp.Or)) && chkBo N sc t es u.2.1
    | none => false
  | .not a, e => match xUn e with
    | some u => decide (u.1 = .Not) && chk N sc t a u.2.1 && !isOwn a
    | none => false
  | .ite c a b, e => match xIf e with
    | some u => !t && chk N sc true c u.1 && chk N sc false a u.2.1 && chk N sc false b u.2.2.1 && !isOwn a && !isOwn b && !isOwn c
    | none => false
  | .v i, e => (!t || asVal e) && (match xName e with
    | some u => atB N i u.1 && visB sc u.1 && okName u.1
    | none => false)
  | .o i, e => !t && (match xName e with
    | some u => atB N i u.1 && visB sc u.1 && okName u.1
    | none => false)
  | .k c, e => (!t || asVal e) && (match xConst e with
    | some u => chkK c u.1
    | none => false)
  | .g x _, e => (!t || asVal e) && (match xName e with
    | some u => decide (u.1 = x) && glB sc x && okName x
    | none => false)
  | .bin op a b, e => !t && (match xBin e with
    | some u => decide (u.2.1 = op) && chk N sc false a u.1 && chk N sc false b u.2.2.1
    | none => false)
  | .neg a, e => !t && (match xUn e with
    | some u => decide (u.1 = .USub) && chk N sc false a u.2.1
    | none => false)
  | .tup es, e => !t && (match xTup e with
    | some u => chks N sc false es u.1
    | none => false)
  | .ix a i, e => (!t || asVal e) && (match xSub e with
    | some u => chk N sc false a u.1 && chk N sc false i u.2.1 && noSlice u.2.1
    | none => false)
  | .sl a lo hi, e => !t && (match xSub e with
    | some u => chk N sc false a u.1 && (match xSlice u.2.1 with
      | some (l, h, none, _) => chko N sc lo l && chko N sc hi h
      | _ => false)
    | none => false)
  | .pget i j, e => !t && (match xSub e with
    | some u => (match xName u.1, xConst u.2.1 with
      | some n, some (.int k, _, _) => atB N i n.1 && visB sc n.1 && okName n.1 && decide (k = j)
      | _, _ => false)
    | none => false)
  | .call x _ _ es, e => (!t || asVal e) && (match xCall e with
    | some u => decide (u.1 = x) && glB sc x && okName x && (match u.2.2.1 with
      | [] => false
      | a :: as => chks N sc false es (a :: as) && (a :: as).all noStar)
    | none => false)
  | .bi b es, e => (!t || asVal e) && (match xCall e with
    | some u => decide (u.1 = biName b) && glB sc (biName b) && (match u.2.2.1 with
      | [] => false
      | a :: as => chks N sc true es (a :: as) && (a :: as).all noStar)
    | none => false)
  | .gcd a b, e => !t && (match xCall e with
    | some (n, _, [x, y], _) => decide (n = ("gcd" : Str)) && glB sc ("gcd" : Str) && noStar x && noStar y && chk N sc false a x && chk N sc false b y
    | _ => false)
  | .isi T a, e => (!t || asVal e) && (match xCall e with
    | some (n, _, [x, y], _) => decide (n = ("isinstance" : Str)) && glB sc ("isinstance" : Str) && noStar x && chk N sc false a x && (match xName y with
      | some u => decide (u.1 = Str.ofString T.nm) && glB sc u.1
      | none => false)
    | _ => false)
  | .fr f, e => !t && chkF N sc f e
  | .fnv x, e => !t && (match xName e with
    | some u => decide (u.1 = x) && glB sc x && okName x
    | none => false)
  | .callv i _ es, e => !t && (match xCall e with
    | some u => atB N i u.1 && visB sc u.1 && okName u.1 && (match u.2.2.1 with
      | [] => false
      | a :: as => chks N sc false es (a :: as) && (a :: as).all noStar)
    | none => false)
  | .join a b, e => !t && (match xMeth e with
    | some (o, m, p, [y], q) => decide (m = ("join" : Str)) && noStar y && noCall0 o && (p.endLine == q.line) && chk N sc false a o && chk N sc false b y
    | _ => false)
  | .dg1 a b, e => !t && (match xMeth e with
    | some (o, m, p, [y], q) => decide (m = ("get" : Str)) && noStar y && noCall0 o && (p.endLine == q.line) && chk N sc false a o && chk N sc false b y
    | _ => false)
  | .dg2 a b c, e => !t && (match xMeth e with
    | some (o, m, p, [y, z], q) => decide (m = ("get" : Str)) && noStar y && noStar z && noCall0 o && (p.endLine == q.line) && chk N sc false a o && chk N sc false b y && chk N sc false c z && !isOwn c
    | _ => false)
def chks (N : List Str) (sc : Scope) (x : Bool) : Es → List Expr → Bool
  | .nil, es => es.isEmpty
  | .cons e r, es => match es with
    | a :: as => noStar a && chk N sc false e a && (x || !isOwn e) && chks N sc x r as
    | [] => false
  | .star e r, es => match es with
    | a :: as => (match xStar a with
      | some u => chk N sc false e u.1 && chks N sc x r as
      | none => false)
    | [] => false
/-- the items of and, or -/
def chkBo (N : List Str) (sc : Scope) (t : Bool) : Es → List Expr → Bool
  | .nil, _ => false
  | .cons e .nil, es => match es with
    | [a] => chk N sc t e a && !isOwn e
    | _ => false
  | .cons e (.cons f r), es => match es with
    | a :: b :: as => chk N sc t e a && !isOwn e && chkBo N sc t (.cons f r) (b :: as)
    | _ => false
  | .cons _ (.star _ _), _ => false
  | .star _ _, _ => false
def chko (N : List Str) (sc : Scope) : Eo → Option Expr → Bool
  | .none, o => o.isNone
  | .some e, o => match o with
    | some a => chk N sc false e a
    | none => false
def chkC (N : List Str) (sc : Scope) : Eo → List Expr → Bool
  | .none, es => es.isEmpty
  | .some e, es => match es with
    | [a] => chk N sc true e a && !isOwn e
    | _ => false
def chkI (N : List Str) (sc : Scope) (lp : Bool) : It → Expr → Bool
  | .seq e, a => chk N sc false e a && noSet a && (!lp || !isOwn e)
  | .r1 e, a => match xCall a with
    | some (n, _, [x], _) => decide (n = ("range" : Str)) && glB sc ("range" : Str) && noStar x && chk N sc false e x
    | _ => false
  | .r2 e f, a => match xCall a with
    | some (n, _, [x, y], _) => decide (n = ("range" : Str)) && glB sc ("range" : Str) && noStar x && noStar y && chk N sc false e x && chk N sc false f y
    | _ => false
  | .zip e f, a => match xCall a with
    | some (n, _, [x, y], _) => decide (n = ("zip" : Str)) && glB sc ("zip" : Str) && noStar x && noStar y && chk N sc false e x && chk N sc false f y && (!lp || (!isOwn e && !isOwn f))
    | _ => false
  | .en e, a => match xCall a with
    | some (n, _, [x], _) => decide (n = ("enumerate" : Str)) && glB sc ("enumerate" : Str) && noStar x && chk N sc false e x && (!lp || !isOwn e)
    | _ => false
  | .r3 e f g, a => match xCall a with
    | some (n, _, [x, y, z], _) => decide (n = ("range" : Str)) && glB sc ("range" : Str) && noStar x && noStar y && noStar z && chk N sc false e x && chk N sc false f y && chk N sc false g z
    | _ => false
def chkF (N : List Str) (sc : Scope) : Fr → Expr → Bool
  | .lst es, e => match xLst e with
    | some u => chks N sc false es u.1
    | none => false
  | .comp own tg it c x, e => match xLc e with
    | some u => blkC N sc u.2.2.2.2.1 own && tg.slots.all (fun j => (own.map (·.2)).contains j) && chkI N sc false it u.2.2.1 && tgI it u.2.1 && chkTg false N (relS u.2.2.2.2.1 sc) tg u.2.1 &&
        chkC N (relS u.2.2.2.2.1 sc) c u.2.2.2.1 && chk N (relS u.2.2.2.2.1 sc) false x u.1 && !isOwn x && noSet u.2.2.1
    | none => false
  | .list a, e => match xCall e with
    | some (n, _, [x], _) => decide (n = ("list" : Str)) && glB sc ("list" : Str) && noStar x && chk N sc false a x
    | _ => false
  | .cat a b, e => match xBin e with
    | some u => decide (u.2.1 = .Add) && chk N sc false a u.1 && chk N sc false b u.2.2.1
    | none => false
  | .rep a b, e => match xBin e with
    | some u => decide (u.2.1 = .Mult) && chk N sc false a u.1 && chk N sc false b u.2.2.1
    | none => false
  | .rev a, e => match xRev e with
    | some u => chk N sc false a u.1
    | none => false
  | .lr1 a, e => match xCall e with
    | some (n, _, [y], _) => decide (n = ("list" : Str)) && glB sc ("list" : Str) && (match xCall y with
      | some (m, _, [x], _) => decide (m = ("range" : Str)) && glB sc ("range" : Str) && noStar x && chk N sc false a x
      | _ => false)
    | _ => false
  | .srt a, e => match xCall e with
    | some (n, _, [x], _) => decide (n = ("sorted" : Str)) && glB sc ("sorted" : Str) && noStar x && chk N sc false a x
    | _ => false
end
mutual
/-- what it leans on -/
def nd (p : Nd → Prop) : E → Prop
  | .g x d => p (.gl x d)
  | .bin _ a b => nd p a ∧ nd p b
  | .neg a => nd p a
  | .cmp _ a b => nd p a ∧ nd p b
  | .ch _ _ a b c => nd p a ∧ nd p b ∧ nd p c
  | .bo _ es => nds p es
  | .not a => nd p a
  | .ite c a b => nd p c ∧ nd p a ∧ nd p b
  | .tup es => nds p es
  | .ix a i => nd p a ∧ nd p i
  | .sl a lo hi => nd p a ∧ ndo p lo ∧ ndo p hi
  | .call x n F es => p (.fn x n F) ∧ nds p es
  | .bi b es => p (.bu (biName b)) ∧ nds p es
  | .gcd a b => p (.mb "gcd" "math.gcd") ∧ nd p a ∧ nd p b
  | .isi T a => p (.bu "isinstance") ∧ p (.bu (Str.ofString T.nm)) ∧ nd p a
  | .fr f => ndF p f
  | .fnv x => p (.fv x)
  | .callv _ tbl es => (∀ x n F, (x, n, F) ∈ tbl → p (.fn x n F) ∧ p (.fv x)) ∧ nds p es
  | .join a b => nd p a ∧ nd p b
  | .dg1 a b => nd p a ∧ nd p b
  | .dg2 a b c => nd p a ∧ nd p b ∧ nd p c
  | .v _ => True
  | .o _ => True
  | .k _ => True
  | .pget _ _ => True
def nds (p : Nd → Prop) : Es → Prop
  | .nil => True
  | .cons e r => nd p e ∧ nds p r
  | .star e r => nd p e ∧ nds p r
def ndo (p : Nd → Prop) : Eo → Prop
  | .none => True
  | .some e => nd p e
def ndI (p : Nd → Prop) : It → Prop
  | .seq e => nd p e
  | .r1 e => p (.bu "range") ∧ nd p e
  | .r2 a b => p (.bu "range") ∧ nd p a ∧ nd p b
  | .zip a b => p (.bu "zip") ∧ nd p a ∧ nd p b
  | .en a => p (.bu "enumerate") ∧ nd p a
  | .r3 a b c => p (.bu "range") ∧ nd p a ∧ nd p b ∧ nd p c
def ndF (p : Nd → Prop) : Fr → Prop
  | .lst es => nds p es
  | .comp _ _ it c x => ndI p it ∧ ndo p c ∧ nd p x
  | .list a => p (.bu "list") ∧ nd p a
  | .cat a b => nd p a ∧ nd p b
  | .rep a b => nd p a ∧ nd p b
  | .rev a => nd p a
  | .lr1 a => p (.bu "list") ∧ p (.bu "range") ∧ nd p a
  | .srt a => p (.bu "sorted") ∧ nd p a
end
def NdOk (P : Program) (w : World) (K : PySem.W.Frag) (mg : Str → Option Value) (base : Heap) (k : Nat) : Nd → Prop
  | .fn x n F => Fd P w K mg base k x n F
  | .gl x d => ∃ v u, mg x = some u ∧ RelV v u ∧ ∀ po H, Dn K po H v d
  | .bu x => mg x = none
  | .mb x id => mg x = some (.builtin id)
  | .fv x => mg x = some (.ref (He.ga K x))
end Rf
namespace Rf
open PySem L2 PySem.Spec PyProof.Rows
section
variable {X : Cx}
theorem opD_none (f : Value → Value → Sem Value) : OpD X f (fun _ _ => none) := ⟨fun _ _ _ _ => False, fun _ _ _ _ _ _ _ _ _ _ _ _ h => h.elim, fun _ _ _ _ _ _ _ _ _ _ _ e => by cases e⟩
theorem bin_ok (op : Operator) : OpD X (binaryOp op) (binD op) := by
  cases op with
  | Add => exact ⟨_, or_add, o_add⟩
  | Sub => exact ⟨_, op_sub, o_sub⟩
  | Mult => exact ⟨_, or_mul, o_mul⟩
  | FloorDiv => exact ⟨_, op_fdivW, o_fdiv⟩
  | Mod => exact ⟨_, op_mod, o_mod⟩
  | Pow => exact ⟨_, op_powW, o_pow⟩
  | _ => exact opD_none _
theorem cmp_ok (hu : X.A.units + 65 < cLine) (op : CmpOp) : OpD X (compareOp op) (cmpD op) := by
  cases op with
  | Eq => exact ⟨_, op_eq.or (op_eqP hu), o_eq⟩
  | NotEq => exact ⟨_, op_ne.or (op_neP hu), o_ne⟩
  | Lt => exact ⟨_, or_lt hu, o_lt⟩
  | LtE => exact ⟨_, op_le.or (op_leDat hu), o_le⟩
  | Gt => exact ⟨_, op_gt.or (op_gtDat hu), o_gt⟩
  | GtE => exact ⟨_, op_ge.or (op_geDat hu), o_ge⟩
  | Is => exact ⟨_, or_is, o_is⟩
  | IsNot => exact ⟨_, or_isnt, o_isnt⟩
  | In => exact ⟨_, or_in hu, o_in⟩
  | NotIn => exact ⟨_, or_nin hu, o_nin⟩
theorem boot_of (x : Str) (v : Value) (h : bootBuiltins x = some v) : bootBuiltins x = some v := h
theorem bi_call (hc : X.calm = true) (hg : X.A.guards = some []) (hu : X.A.units + 66 < cLine) (b : Bi) : (∃ id, bootBuiltins (biName b) = some (.builtin id) ∧ CallD X (.builtin id) (biD b)) ∨ (∃ T, bootBuiltins (biName b) = some (.type T) ∧ CallD X (.type T) (biD b)) := by
  cases b with
  | len => exact .inl ⟨"len", by decide +kernel, c_len⟩
  | abs => exact .inl ⟨"abs", by decide +kernel, c_abs⟩
  | int => exact .inr ⟨"int", by decide +kernel, c_int⟩
  | max => exact .inl ⟨"max", by decide +kernel, c_max hc (by omega)⟩
  | min => exact .inl ⟨"min", by decide +kernel, c_min hc (by omega)⟩
  | all => exact .inl ⟨"all", by decide +kernel, c_all hc⟩
  | any => exact .inl ⟨"any", by decide +kernel, c_any hc⟩
  | sum => exact .inl ⟨"sum", by decide +kernel, c_sum hc⟩
  | tuple => exact .inr ⟨"tuple", by decide +kernel, c_tuple⟩
  | repr => exact .inl ⟨"repr", by decide +kernel, c_repr hg hu⟩
theorem biName_ok (b : Bi) : okName (biName b) = true := by cases b <;> decide +kernel
theorem ty_boot (T : Ty) : bootBuiltins (Str.ofString T.nm) = some (.type T.nm) := by cases T <;> decide +kernel
theorem ty_name (T : Ty) : okName (Str.ofString T.nm) = true := by cases T <;> decide +kernel
theorem q_gcd {a b : Expr} {f g : S → W → R D} {p pos : Pos} (hg : Gl X "gcd") (hm : X.mg "gcd" = some (.builtin "math.gcd")) (ha : QE X true a f) (hb : QE X true b g) (h1 : noStar a = true) (h2 : noStar b = true) {z : Bool} :
    QE X z (.Call (.Name "gcd" p) [a, b] [] pos) (fN gcdD (aCons f (aCons g aNil))) :=
  ⟨PE.imp (pe_callBfun cr_gcd hg hm (qa_cons ha (qa_cons hb qa_nil (by rw [star_of h2])) (by rw [star_of h1])).pa (by decide) (by rw [star_of h1]) (by rw [star_of h2]; rfl)) fun _ _ _ t => opN_tr o_gcd t⟩
end
def asValE : E → Bool
  | .cmp .. => false
  | .ch .. => false
  | .bo .. => false
  | .not .. => false
  | .ite .. => false
  | _ => true
theorem chk_down {N : List Str} {sc : Scope} {e : E} {pe : Expr} (he : asValE e = true) (h : chk N sc true e pe = true) : chk N sc false e pe = true ∧ asVal pe = true := by
  cases e <;> first | (cases he; done) | (unfold chk at h ⊢; simp only [Bool.not_true, Bool.not_false, Bool.false_or, Bool.true_or, Bool.false_and, Bool.true_and, Bool.and_eq_true] at h ⊢; first | exact ⟨h.2, h.1⟩ | cases h)
theorem isOwn_ne {x : Bool} {e : E} (h : x = true ∨ isOwn e = false) : isOwn e = true → x = true := fun q => by
  rcases h with h | h
  · exact h
  · rw [h] at q; cases q
mutual
theorem ev_ok : ∀ (e : E) {X : Cx} {top : Bool} {N : List Str} {sc : Scope} {k : Nat} {pe : Expr} (x : Bool) (c : Cok X top N sc) (rm : Rm k X.A) (h : chk N sc false e pe = true) (hn : nd (NdOk X.prog X.w X.K X.mg X.base k) e) (hx : x = true ∨ isOwn e = false), QE X x pe (ev e)
  | .v i, X, top, N, sc, k, pe, x, c, rm, h, hn, hx => by
    unfold chk at h
    simp only [Bool.not_false, Bool.true_or, Bool.true_and] at h
    split at h
    · rename_i u hu
      rw [xName_eq hu]
      simp only [Bool.and_eq_true] at h
      exact q_v (c.at h.1.1) (c.vis h.1.2) (okName_1 h.2) (okName_2 h.2)
    · cases h
  | .o i, X, top, N, sc, k, pe, x, c, rm, h, hn, hx => by
    unfold chk at h
    simp only [Bool.not_false, Bool.true_or, Bool.true_and] at h
    have : x = true := isOwn_ne hx rfl
    subst this
    split at h
    · rename_i u hu
      rw [xName_eq hu]
      simp only [Bool.and_eq_true] at h
      exact q_o (c.at h.1.1) (c.vis h.1.2) (okName_1 h.2) (okName_2 h.2)
    · cases h
  | .k q, X, top, N, sc, k, pe, x, c, rm, h, hn, hx => by
    unfold chk at h
    simp only [Bool.not_false, Bool.true_or, Bool.true_and] at h
    split at h
    · rename_i u hu
      rw [xConst_eq hu]
      exact k_ok h
    · cases h
  | .g n d, X, top, N, sc, k, pe, x, c, rm, h, hn, hx => by
    unfold chk at h
    simp only [Bool.not_false, Bool.true_or, Bool.true_and] at h
    split at h
    · rename_i u hu
      rw [xName_eq hu]
      simp only [Bool.and_eq_true, decide_eq_true_eq] at h
      obtain ⟨⟨h1, h2⟩, h3⟩ := h
      subst h1
      obtain ⟨v, uu, a1, a2, a3⟩ : ∃ v uu, X.mg u.1 = some uu ∧ RelV v uu ∧ ∀ po H, Dn X.K po H v d := by unfold nd at hn; exact hn
      exact q_g (c.gl h2) a1 a2 (okName_1 h3) (a3 _ _) fun po H _ => a3 po H
    · cases h
  | .bin op a b, X, top, N, sc, k, pe, x, c, rm, h, hn, hx => by
    unfold chk at h
    simp only [Bool.not_false, Bool.true_or, Bool.true_and] at h
    unfold nd at hn
    split at h
    · rename_i u hu
      rw [xBin_eq hu]
      simp only [Bool.and_eq_true, decide_eq_true_eq] at h
      obtain ⟨⟨h1, h2⟩, h3⟩ := h
      rw [h1]
      obtain ⟨r, r1, r2⟩ := bin_ok (X := X) op
      exact q_bin r1 r2 (ev_ok a true c rm h2 hn.1 (.inl rfl)) (ev_ok b true c rm h3 hn.2 (.inl rfl))
    · cases h
  | .neg a, X, top, N, sc, k, pe, x, c, rm, h, hn, hx => by
    unfold chk at h
    simp only [Bool.not_false, Bool.true_or, Bool.true_and] at h
    unfold nd at hn
    split at h
    · rename_i u hu
      rw [xUn_eq hu]
      simp only [Bool.and_eq_true, decide_eq_true_eq] at h
      rw [h.1]
      exact q_un un_neg o_neg (ev_ok a true c rm h.2 hn (.inl rfl))
    · cases h
  | .cmp op a b, X, top, N, sc, k, pe, x, c, rm, h, hn, hx => by
    unfold chk at h
    unfold nd at hn
    split at h
    · rename_i l o r p hu
      rw [xCmp_eq hu]
      simp only [Bool.and_eq_true, decide_eq_true_eq] at h
      obtain ⟨⟨⟨h1, h2⟩, h3⟩, h4⟩ := h
      subst h1
      obtain ⟨r, r1, r2⟩ := cmp_ok c.un o
      exact q_cmp r1 r2 (ev_ok a true c rm h2 hn.1 (.inl rfl)) (ev_ok b true c rm h3 hn.2 (.inl rfl)) (behind_of h4)
    · cases h
  | .ch o1 o2 a b d, X, top, N, sc, k, pe, x, c, rm, h, hn, hx => by
    unfold chk at h
    unfold nd at hn
    split at h
    · rename_i l p1 p2 r u p hu
      rw [xCmp_eq hu]
      simp only [Bool.and_eq_true, decide_eq_true_eq, Bool.not_eq_true'] at h
      obtain ⟨⟨⟨⟨⟨⟨⟨⟨h1, h2⟩, h3⟩, h4⟩, h5⟩, h6⟩, h7⟩, h8⟩, h9⟩ := h
      subst h1; subst h2
      obtain ⟨r1, s1, s2⟩ := cmp_ok c.un p1
      obtain ⟨r2, t1, t2⟩ := cmp_ok c.un p2
      exact q_chain s1 t1 s2 t2 (ev_ok a false c rm h3 hn.1 (.inr h7)) (ev_ok b false c rm h4 hn.2.1 (.inr h8)) (ev_ok d false c rm h5 hn.2.2 (.inr h9)) (show behindInMarks p2 u = false from behind_of h6)
    · cases h
  | .bo isAnd es, X, top, N, sc, k, pe, x, c, rm, h, hn, hx => by
    unfold chk at h
    unfold nd at hn
    split at h
    · rename_i u hu
      rw [xBool_eq hu]
      simp only [Bool.and_eq_true, decide_eq_true_eq] at h
      rw [h.1]
      cases isAnd with
      | true => exact evAnd_ok es x c rm h.2 hn
      | false => exact evOr_ok es x c rm h.2 hn
    · cases h
  | .not a, X, top, N, sc, k, pe, x, c, rm, h, hn, hx => by
    unfold chk at h
    unfold nd at hn
    split at h
    · rename_i u hu
      rw [xUn_eq hu]
      simp only [Bool.and_eq_true, decide_eq_true_eq, Bool.not_eq_true'] at h
      rw [h.1.1]
      exact q_not (ev_ok a false c rm h.1.2 hn (.inr h.2))
    · cases h
  | .ite d a b, X, top, N, sc, k, pe, x, c, rm, h, hn, hx => by
    unfold chk at h
    unfold nd at hn
    split at h
    · rename_i u hu
      rw [xIf_eq hu]
      simp only [Bool.and_eq_true, decide_eq_true_eq, Bool.not_eq_true', Bool.not_false, Bool.true_and] at h
      obtain ⟨⟨⟨⟨⟨h1, h2⟩, h3⟩, h4⟩, h5⟩, h6⟩ := h
      exact q_if (evt_ok d c rm h1 hn.1 h6) (ev_ok a x c rm h2 hn.2.1 (.inr h4)) (ev_ok b x c rm h3 hn.2.2 (.inr h5))
    · cases h
  | .tup es, X, top, N, sc, k, pe, x, c, rm, h, hn, hx => by
    unfold chk at h
    simp only [Bool.not_false, Bool.true_or, Bool.true_and] at h
    unfold nd at hn
    split at h
    · rename_i u hu
      rw [xTup_eq hu]
      exact q_tup (evs_ok es false c rm h hn)
    · cases h
  | .ix a i, X, top, N, sc, k, pe, x, c, rm, h, hn, hx => by
    unfold chk at h
    simp only [Bool.not_false, Bool.true_or, Bool.true_and] at h
    unfold nd at hn
    split at h
    · rename_i u hu
      rw [xSub_eq hu]
      simp only [Bool.and_eq_true] at h
      exact q_ix2 c.un (ev_ok a true c rm h.1.1 hn.1 (.inl rfl)) (ev_ok i true c rm h.1.2 hn.2 (.inl rfl)) (plainIx_of h.2) (noSl_of h.2)
    · cases h
  | .sl a lo hi, X, top, N, sc, k, pe, x, c, rm, h, hn, hx => by
    unfold chk at h
    simp only [Bool.not_false, Bool.true_or, Bool.true_and] at h
    unfold nd at hn
    split at h
    · rename_i u hu
      rw [xSub_eq hu]
      simp only [Bool.and_eq_true] at h
      obtain ⟨h1, h2⟩ := h
      split at h2
      · rename_i l hh p hs
        rw [xSlice_eq hs]
        simp only [Bool.and_eq_true] at h2
        exact q_slice or_sl o_sl (ev_ok a true c rm h1 hn.1 (.inl rfl)) (evo_ok lo c rm h2.1 hn.2.1) (evo_ok hi c rm h2.2 hn.2.2)
      · cases h2
    · cases h
  | .pget i j, X, top, N, sc, k, pe, x, c, rm, h, hn, hx => by
    unfold chk at h
    simp only [Bool.not_false, Bool.true_or, Bool.true_and] at h
    split at h
    · rename_i u hu
      rw [xSub_eq hu]
      split at h
      · rename_i n kk q1 q2 h1 h2
        rw [xName_eq h1, xConst_eq h2]
        simp only [Bool.and_eq_true, decide_eq_true_eq] at h
        obtain ⟨⟨⟨a1, a2⟩, a3⟩, a4⟩ := h
        subst a4
        exact q_pget (kp := q2) (c := 0) (c.at a1) (c.vis a2) (okName_1 a3) (okName_2 a3) q_int (plainIx_of rfl)
      · cases h
    · cases h
  | .call n m F es, X, top, N, sc, k, pe, x, c, rm, h, hn, hx => by
    unfold chk at h
    simp only [Bool.not_false, Bool.true_or, Bool.true_and] at h
    unfold nd at hn
    split at h
    · rename_i u hu
      rw [xCall_eq hu]
      simp only [Bool.and_eq_true, decide_eq_true_eq] at h
      obtain ⟨⟨⟨h1, h2⟩, h3⟩, h4⟩ := h
      subst h1
      split at h4
      · cases h4
      · rename_i a as ha
        rw [ha]
        simp only [Bool.and_eq_true] at h4
        obtain ⟨h4, h5⟩ := h4
        have h5' := h5
        rw [List.all_cons, Bool.and_eq_true] at h5'
        exact q_call hn.1 rm (c.gl h2) (evs_ok es false c rm h4 hn.2) (okName_1 h3) (star_of h5'.1 as) (star_plain h5'.2)
    · cases h
  | .bi b es, X, top, N, sc, k, pe, x, c, rm, h, hn, hx => by
    unfold chk at h
    simp only [Bool.not_false, Bool.true_or, Bool.true_and] at h
    unfold nd at hn
    split at h
    · rename_i u hu
      rw [xCall_eq hu]
      simp only [Bool.and_eq_true, decide_eq_true_eq] at h
      obtain ⟨⟨h1, h2⟩, h4⟩ := h
      rw [h1]
      split at h4
      · cases h4
      · rename_i a as ha
        rw [ha]
        simp only [Bool.and_eq_true] at h4
        obtain ⟨h4, h5⟩ := h4
        have h5' := h5
        rw [List.all_cons, Bool.and_eq_true] at h5'
        have hq := evs_ok es true c rm h4 hn.2
        have hb := biName_ok b
        rcases bi_call c.calm rm.g (by have := rm.r.un; omega) b with ⟨id, e1, r, e2, e3⟩ | ⟨T, e1, r, e2, e3⟩
        · exact q_callB e2 e3 (c.gl h2) hn.1 e1 hq (okName_3 hb) (okName_1 hb) (star_of h5'.1 as) (star_plain h5'.2)
        · exact q_callTy e2 e3 (c.gl h2) hn.1 e1 hq (okName_3 hb) (okName_1 hb) (star_of h5'.1 as) (star_plain h5'.2)
    · cases h
  | .gcd a b, X, top, N, sc, k, pe, x, c, rm, h, hn, hx => by
    unfold chk at h
    simp only [Bool.not_false, Bool.true_or, Bool.true_and] at h
    unfold nd at hn
    split at h
    · rename_i n p u v q hu
      rw [xCall_eq hu]
      simp only [Bool.and_eq_true, decide_eq_true_eq] at h
      obtain ⟨⟨⟨⟨⟨h1, h2⟩, h3⟩, h4⟩, h5⟩, h6⟩ := h
      subst h1
      exact q_gcd (c.gl h2) hn.1 (ev_ok a true c rm h5 hn.2.1 (.inl rfl)) (ev_ok b true c rm h6 hn.2.2 (.inl rfl)) h3 h4
    · cases h
  | .isi T a, X, top, N, sc, k, pe, x, c, rm, h, hn, hx => by
    unfold chk at h
    simp only [Bool.not_false, Bool.true_or, Bool.true_and] at h
    unfold nd at hn
    split at h
    · rename_i n p u v q hu
      rw [xCall_eq hu]
      simp only [Bool.and_eq_true, decide_eq_true_eq] at h
      obtain ⟨⟨⟨⟨h1, h2⟩, h3⟩, h4⟩, h5⟩ := h
      subst h1
      split at h5
      · rename_i t ht
        rw [xName_eq ht]
        simp only [Bool.and_eq_true, decide_eq_true_eq] at h5
        obtain ⟨h5a, h5b⟩ := h5
        have hb := ty_name T
        obtain ⟨t1, t2⟩ := t
        have h5a : t1 = Str.ofString T.nm := h5a
        subst h5a
        exact q_isi (c.gl h2) hn.1 (c.gl h5b) hn.2.1 (ty_boot T) (okName_3 hb) (okName_1 hb) (ev_ok a true c rm h4 hn.2.2 (.inl rfl)) (by rw [star_of h3]; rfl) rfl rfl rfl
      · cases h5
    · cases h
  | .fr f, X, top, N, sc, k, pe, x, c, rm, h, hn, hx => by
    unfold chk at h
    simp only [Bool.not_false, Bool.true_or, Bool.true_and] at h
    unfold nd at hn
    exact (evF_ok f c rm h hn).qe
  | .fnv n, X, top, N, sc, k, pe, x, c, rm, h, hn, hx => by
    unfold chk at h
    simp only [Bool.not_false, Bool.true_or, Bool.true_and] at h
    unfold nd at hn
    split at h
    · rename_i u hu
      rw [xName_eq hu]
      simp only [Bool.and_eq_true, decide_eq_true_eq] at h
      obtain ⟨⟨h1, h2⟩, h3⟩ := h
      subst h1
      exact q_fnv (c.gl h2) hn (okName_1 h3)
    · cases h
  | .callv i tbl es, X, top, N, sc, k, pe, x, c, rm, h, hn, hx => by
    unfold chk at h
    simp only [Bool.not_false, Bool.true_or, Bool.true_and] at h
    unfold nd at hn
    split at h
    · rename_i u hu
      rw [xCall_eq hu]
      simp only [Bool.and_eq_true] at h
      obtain ⟨⟨⟨h1, h2⟩, h3⟩, h4⟩ := h
      split at h4
      · cases h4
      · rename_i a as ha
        rw [ha]
        simp only [Bool.and_eq_true] at h4
        obtain ⟨h4, h5⟩ := h4
        have h5' := h5
        rw [List.all_cons, Bool.and_eq_true] at h5'
        exact q_callv hn.1 rm (c.at h1) (c.vis h2) (evs_ok es false c rm h4 hn.2) (okName_1 h3) (okName_2 h3) (star_of h5'.1 as) (star_plain h5'.2)
    · cases h
  | .join a b, X, top, N, sc, k, pe, x, c, rm, h, hn, hx => by
    unfold chk at h
    simp only [Bool.not_false, Bool.true_or, Bool.true_and] at h
    unfold nd at hn
    split at h
    · rename_i o m p y q hu
      rw [xMeth_eq hu]
      simp only [Bool.and_eq_true, decide_eq_true_eq] at h
      obtain ⟨⟨⟨⟨⟨h1, h2⟩, h3⟩, h4⟩, h5⟩, h6⟩ := h
      subst h1
      exact q_join (ev_ok a true c rm h5 hn.1 (.inl rfl)) (ev_ok b true c rm h6 hn.2 (.inl rfl)) (by rw [star_of h2]; rfl) (base_of h3) h4
    · cases h
  | .dg1 a b, X, top, N, sc, k, pe, x, c, rm, h, hn, hx => by
    unfold chk at h
    simp only [Bool.not_false, Bool.true_or, Bool.true_and] at h
    unfold nd at hn
    split at h
    · rename_i o m p y q hu
      rw [xMeth_eq hu]
      simp only [Bool.and_eq_true, decide_eq_true_eq] at h
      obtain ⟨⟨⟨⟨⟨h1, h2⟩, h3⟩, h4⟩, h5⟩, h6⟩ := h
      subst h1
      exact q_dget1 c.un (ev_ok a true c rm h5 hn.1 (.inl rfl)) (ev_ok b true c rm h6 hn.2 (.inl rfl)) (m1_of h3 h2 h4)
    · cases h
  | .dg2 a b d, X, top, N, sc, k, pe, x, c, rm, h, hn, hx => by
    unfold chk at h
    simp only [Bool.not_false, Bool.true_or, Bool.true_and] at h
    unfold nd at hn
    split at h
    · rename_i o m p y z q hu
      rw [xMeth_eq hu]
      simp only [Bool.and_eq_true, decide_eq_true_eq, Bool.not_eq_true'] at h
      obtain ⟨⟨⟨⟨⟨⟨⟨⟨h1, h2⟩, h2'⟩, h3⟩, h4⟩, h5⟩, h6⟩, h7⟩, h8⟩ := h
      subst h1
      exact q_dget2 c.un (ev_ok a true c rm h5 hn.1 (.inl rfl)) (ev_ok b true c rm h6 hn.2.1 (.inl rfl)) (ev_ok d false c rm h7 hn.2.2 (.inr h8)) (m2_of h3 h2 h2' h4)
    · cases h
theorem evt_ok : ∀ (e : E) {X : Cx} {top : Bool} {N : List Str} {sc : Scope} {k : Nat} {pe : Expr} (c : Cok X top N sc) (rm : Rm k X.A) (h : chk N sc true e pe = true) (hn : nd (NdOk X.prog X.w X.K X.mg X.base k) e) (hx : isOwn e = false), QT X pe (ev e)
  | .cmp op a b, X, top, N, sc, k, pe, c, rm, h, hn, hx => by
    unfold chk at h
    unfold nd at hn
    split at h
    · rename_i l o r p hu
      rw [xCmp_eq hu]
      simp only [Bool.and_eq_true, decide_eq_true_eq] at h
      obtain ⟨⟨⟨h1, h2⟩, h3⟩, h4⟩ := h
      subst h1
      obtain ⟨r, r1, r2⟩ := cmp_ok c.un o
      exact qt_cmp r1 r2 (ev_ok a true c rm h2 hn.1 (.inl rfl)) (ev_ok b true c rm h3 hn.2 (.inl rfl)) (behind_of h4)
    · cases h
  | .ch o1 o2 a b d, X, top, N, sc, k, pe, c, rm, h, hn, hx => by
    unfold chk at h
    unfold nd at hn
    split at h
    · rename_i l p1 p2 r u p hu
      rw [xCmp_eq hu]
      simp only [Bool.and_eq_true, decide_eq_true_eq, Bool.not_eq_true'] at h
      obtain ⟨⟨⟨⟨⟨⟨⟨⟨h1, h2⟩, h3⟩, h4⟩, h5⟩, h6⟩, h7⟩, h8⟩, h9⟩ := h
      subst h1; subst h2
      obtain ⟨r1, s1, s2⟩ := cmp_ok c.un p1
      obtain ⟨r2, t1, t2⟩ := cmp_ok c.un p2
      exact qt_chain s1 t1 s2 t2 (ev_ok a false c rm h3 hn.1 (.inr h7)) (ev_ok b false c rm h4 hn.2.1 (.inr h8)) (ev_ok d false c rm h5 hn.2.2 (.inr h9)) (show behindInMarks p2 u = false from behind_of h6)
    · cases h
  | .bo isAnd es, X, top, N, sc, k, pe, c, rm, h, hn, hx => by
    unfold chk at h
    unfold nd at hn
    split at h
    · rename_i u hu
      rw [xBool_eq hu]
      simp only [Bool.and_eq_true, decide_eq_true_eq] at h
      rw [h.1]
      cases isAnd with
      | true => exact (wAnd_ok es c rm h.2 hn).qt
      | false => exact (wOr_ok es c rm h.2 hn).qt
    · cases h
  | .not a, X, top, N, sc, k, pe, c, rm, h, hn, hx => by
    unfold chk at h
    unfold nd at hn
    split at h
    · rename_i u hu
      rw [xUn_eq hu]
      simp only [Bool.and_eq_true, decide_eq_true_eq, Bool.not_eq_true'] at h
      rw [h.1.1]
      exact qt_not (evt_ok a c rm h.1.2 hn h.2)
    · cases h
  | .ite d a b, X, top, N, sc, k, pe, c, rm, h, hn, hx => by
    exfalso
    unfold chk at h
    split at h
    · simp only [Bool.not_true, Bool.false_and] at h; cases h
    · cases h
  | .v i, X, top, N, sc, k, pe, c, rm, h, hn, hx => let q := chk_down rfl h; qt_val (ev_ok (.v i) false c rm q.1 hn (.inr hx)) (isTrue_of q.2)
  | .o i, X, top, N, sc, k, pe, c, rm, h, hn, hx => let q := chk_down rfl h; qt_val (ev_ok (.o i) false c rm q.1 hn (.inr hx)) (isTrue_of q.2)
  | .k i, X, top, N, sc, k, pe, c, rm, h, hn, hx => let q := chk_down rfl h; qt_val (ev_ok (.k i) false c rm q.1 hn (.inr hx)) (isTrue_of q.2)
  | .g i d, X, top, N, sc, k, pe, c, rm, h, hn, hx => let q := chk_down rfl h; qt_val (ev_ok (.g i d) false c rm q.1 hn (.inr hx)) (isTrue_of q.2)
  | .bin o a b, X, top, N, sc, k, pe, c, rm, h, hn, hx => by exfalso; unfold chk at h; cases h
  | .neg a, X, top, N, sc, k, pe, c, rm, h, hn, hx => by exfalso; unfold chk at h; cases h
  | .tup a, X, top, N, sc, k, pe, c, rm, h, hn, hx => by exfalso; unfold chk at h; cases h
  | .ix a i, X, top, N, sc, k, pe, c, rm, h, hn, hx => by
    have q := chk_down rfl h
    have h := q.1
    unfold chk at h
    simp only [Bool.not_false, Bool.true_or, Bool.true_and] at h
    unfold nd at hn
    have : QE X false pe (ev (.ix a i)) := by
      split at h
      · rename_i u hu
        rw [xSub_eq hu]
        simp only [Bool.and_eq_true] at h
        exact q_ix2 c.un (ev_ok a true c rm h.1.1 hn.1 (.inl rfl)) (ev_ok i true c rm h.1.2 hn.2 (.inl rfl)) (plainIx_of h.2) (noSl_of h.2)
      · cases h
    exact qt_val this (isTrue_of q.2)
  | .sl a l u, X, top, N, sc, k, pe, c, rm, h, hn, hx => by exfalso; unfold chk at h; cases h
  | .pget i j, X, top, N, sc, k, pe, c, rm, h, hn, hx => by exfalso; unfold chk at h; cases h
  | .call n m F es, X, top, N, sc, k, pe, c, rm, h, hn, hx => by
    have q := chk_down rfl h
    have h := q.1
    unfold chk at h
    simp only [Bool.not_false, Bool.true_or, Bool.true_and] at h
    unfold nd at hn
    have : QE X false pe (ev (.call n m F es)) := by
      split at h
      · rename_i u hu
        rw [xCall_eq hu]
        simp only [Bool.and_eq_true, decide_eq_true_eq] at h
        obtain ⟨⟨⟨h1, h2⟩, h3⟩, h4⟩ := h
        subst h1
        split at h4
        · cases h4
        · rename_i a as ha
          rw [ha]
          simp only [Bool.and_eq_true] at h4
          obtain ⟨h4, h5⟩ := h4
          have h5' := h5
          rw [List.all_cons, Bool.and_eq_true] at h5'
          exact q_call hn.1 rm (c.gl h2) (evs_ok es false c rm h4 hn.2) (okName_1 h3) (star_of h5'.1 as) (star_plain h5'.2)
      · cases h
    exact qt_val this (isTrue_of q.2)
  | .bi b es, X, top, N, sc, k, pe, c, rm, h, hn, hx => by
    have q := chk_down rfl h
    have h := q.1
    unfold chk at h
    simp only [Bool.not_false, Bool.true_or, Bool.true_and] at h
    unfold nd at hn
    have : QE X false pe (ev (.bi b es)) := by
      split at h
      · rename_i u hu
        rw [xCall_eq hu]
        simp only [Bool.and_eq_true, decide_eq_true_eq] at h
        obtain ⟨⟨h1, h2⟩, h4⟩ := h
        rw [h1]
        split at h4
        · cases h4
        · rename_i a as ha
          rw [ha]
          simp only [Bool.and_eq_true] at h4
          obtain ⟨h4, h5⟩ := h4
          have h5' := h5
          rw [List.all_cons, Bool.and_eq_true] at h5'
          have hq := evs_ok es true c rm h4 hn.2
          have hb := biName_ok b
          rcases bi_call c.calm rm.g (by have := rm.r.un; omega) b with ⟨id, e1, r, e2, e3⟩ | ⟨T, e1, r, e2, e3⟩
          · exact q_callB e2 e3 (c.gl h2) hn.1 e1 hq (okName_3 hb) (okName_1 hb) (star_of h5'.1 as) (star_plain h5'.2)
          · exact q_callTy e2 e3 (c.gl h2) hn.1 e1 hq (okName_3 hb) (okName_1 hb) (star_of h5'.1 as) (star_plain h5'.2)
      · cases h
    exact qt_val this (isTrue_of q.2)
  | .gcd a b, X, top, N, sc, k, pe, c, rm, h, hn, hx => by exfalso; unfold chk at h; cases h
  | .isi T a, X, top, N, sc, k, pe, c, rm, h, hn, hx => by
    have q := chk_down rfl h
    have h := q.1
    unfold chk at h
    simp only [Bool.not_false, Bool.true_or, Bool.true_and] at h
    unfold nd at hn
    have : QE X false pe (ev (.isi T a)) := by
      split at h
      · rename_i n p u v q hu
        rw [xCall_eq hu]
        simp only [Bool.and_eq_true, decide_eq_true_eq] at h
        obtain ⟨⟨⟨⟨h1, h2⟩, h3⟩, h4⟩, h5⟩ := h
        subst h1
        split at h5
        · rename_i t ht
          rw [xName_eq ht]
          simp only [Bool.and_eq_true, decide_eq_true_eq] at h5
          obtain ⟨h5a, h5b⟩ := h5
          have hb := ty_name T
          obtain ⟨t1, t2⟩ := t
          have h5a : t1 = Str.ofString T.nm := h5a
          subst h5a
          exact q_isi (c.gl h2) hn.1 (c.gl h5b) hn.2.1 (ty_boot T) (okName_3 hb) (okName_1 hb) (ev_ok a true c rm h4 hn.2.2 (.inl rfl)) (by rw [star_of h3]; rfl) rfl rfl rfl
        · cases h5
      · cases h
    exact qt_val this (isTrue_of q.2)
  | .fr f, X, top, N, sc, k, pe, c, rm, h, hn, hx => by exfalso; unfold chk at h; cases h
  | .fnv f, X, top, N, sc, k, pe, c, rm, h, hn, hx => by exfalso; unfold chk at h; cases h
  | .callv i t f, X, top, N, sc, k, pe, c, rm, h, hn, hx => by exfalso; unfold chk at h; cases h
  | .join a b, X, top, N, sc, k, pe, c, rm, h, hn, hx => by exfalso; unfold chk at h; cases h
  | .dg1 a b, X, top, N, sc, k, pe, c, rm, h, hn, hx => by exfalso; unfold chk at h; cases h
  | .dg2 a b d, X, top, N, sc, k, pe, c, rm, h, hn, hx => by exfalso; unfold chk at h; cases h
theorem evs_ok : ∀ (es : Es) {X : Cx} {top : Bool} {N : List Str} {sc : Scope} {k : Nat} {pes : List Expr} (x : Bool) (c : Cok X top N sc) (rm : Rm k X.A) (h : chks N sc x es pes = true) (hn : nds (NdOk X.prog X.w X.K X.mg X.base k) es), QA X x pes (evs es)
  | .nil, X, top, N, sc, k, pes, x, c, rm, h, hn => by
    unfold chks at h
    cases pes with
    | nil => exact qa_nil
    | cons _ _ => cases h
  | .cons e r, X, top, N, sc, k, pes, x, c, rm, h, hn => by
    unfold chks at h
    unfold nds at hn
    cases pes with
    | nil => cases h
    | cons a as =>
      simp only [Bool.and_eq_true] at h
      obtain ⟨⟨⟨h1, h2⟩, h3⟩, h4⟩ := h
      refine qa_cons (ev_ok e x c rm h2 hn.1 ?_) (evs_ok r x c rm h4 hn.2) (star_of h1 as)
      cases x with
      | true => exact .inl rfl
      | false => exact .inr (by simpa using h3)
  | .star e r, X, top, N, sc, k, pes, x, c, rm, h, hn => by
    unfold chks at h
    unfold nds at hn
    cases pes with
    | nil => cases h
    | cons a as =>
      have h : (match xStar a with
        | some u => chk N sc false e u.1 && chks N sc x r as
        | none => false) = true := h
      split at h
      · rename_i u hu
        rw [xStar_eq hu]
        rw [Bool.and_eq_true] at h
        exact qa_star (ev_ok e true c rm h.1 hn.1 (.inl rfl)) (evs_ok r x c rm h.2 hn.2)
      · cases h
theorem evAnd_ok : ∀ (es : Es) {X : Cx} {top : Bool} {N : List Str} {sc : Scope} {k : Nat} {pes : List Expr} {p : Pos} (x : Bool) (c : Cok X top N sc) (rm : Rm k X.A) (h : chkBo N sc false es pes = true) (hn : nds (NdOk X.prog X.w X.K X.mg X.base k) es), QE X x (.BoolOp .And pes p) (evAnd es)
  | .nil, X, top, N, sc, k, pes, p, x, c, rm, h, hn => by unfold chkBo at h; cases h
  | .cons e .nil, X, top, N, sc, k, pes, p, x, c, rm, h, hn => by
    unfold chkBo at h
    unfold nds at hn
    split at h
    · rename_i a
      simp only [Bool.and_eq_true, Bool.not_eq_true'] at h
      exact q_one (ev_ok e x c rm h.1 hn.1 (.inr h.2))
    · cases h
  | .cons e (.cons f r), X, top, N, sc, k, pes, p, x, c, rm, h, hn => by
    unfold chkBo at h
    unfold nds at hn
    split at h
    · rename_i a b as
      simp only [Bool.and_eq_true, Bool.not_eq_true'] at h
      exact q_and (ev_ok e false c rm h.1.1 hn.1 (.inr h.1.2)) (evAnd_ok (.cons f r) x c rm h.2 hn.2)
    · cases h
  | .cons e (.star f r), X, top, N, sc, k, pes, p, x, c, rm, h, hn => by unfold chkBo at h; cases h
  | .star f r, X, top, N, sc, k, pes, p, x, c, rm, h, hn => by unfold chkBo at h; cases h
theorem evOr_ok : ∀ (es : Es) {X : Cx} {top : Bool} {N : List Str} {sc : Scope} {k : Nat} {pes : List Expr} {p : Pos} (x : Bool) (c : Cok X top N sc) (rm : Rm k X.A) (h : chkBo N sc false es pes = true) (hn : nds (NdOk X.prog X.w X.K X.mg X.base k) es), QE X x (.BoolOp .Or pes p) (evOr es)
  | .nil, X, top, N, sc, k, pes, p, x, c, rm, h, hn => by unfold chkBo at h; cases h
  | .cons e .nil, X, top, N, sc, k, pes, p, x, c, rm, h, hn => by
    unfold chkBo at h
    unfold nds at hn
    split at h
    · rename_i a
      simp only [Bool.and_eq_true, Bool.not_eq_true'] at h
      exact q_one (ev_ok e x c rm h.1 hn.1 (.inr h.2))
    · cases h
  | .cons e (.cons f r), X, top, N, sc, k, pes, p, x, c, rm, h, hn => by
    unfold chkBo at h
    unfold nds at hn
    split at h
    · rename_i a b as
      simp only [Bool.and_eq_true, Bool.not_eq_true'] at h
      exact q_or (ev_ok e false c rm h.1.1 hn.1 (.inr h.1.2)) (evOr_ok (.cons f r) x c rm h.2 hn.2)
    · cases h
  | .cons e (.star f r), X, top, N, sc, k, pes, p, x, c, rm, h, hn => by unfold chkBo at h; cases h
  | .star f r, X, top, N, sc, k, pes, p, x, c, rm, h, hn => by unfold chkBo at h; cases h
theorem wAnd_ok : ∀ (es : Es) {X : Cx} {top : Bool} {N : List Str} {sc : Scope} {k : Nat} {pes : List Expr} {p : Pos} (c : Cok X top N sc) (rm : Rm k X.A) (h : chkBo N sc true es pes = true) (hn : nds (NdOk X.prog X.w X.K X.mg X.base k) es), QW X (.BoolOp .And pes p) (evAnd es)
  | .nil, X, top, N, sc, k, pes, p, c, rm, h, hn => by unfold chkBo at h; cases h
  | .cons e .nil, X, top, N, sc, k, pes, p, c, rm, h, hn => by
    unfold chkBo at h
    unfold nds at hn
    split at h
    · rename_i a
      simp only [Bool.and_eq_true, Bool.not_eq_true'] at h
      exact qw_and1 (evt_ok e c rm h.1 hn.1 h.2)
    · cases h
  | .cons e (.cons f r), X, top, N, sc, k, pes, p, c, rm, h, hn => by
    unfold chkBo at h
    unfold nds at hn
    split at h
    · rename_i a b as
      simp only [Bool.and_eq_true, Bool.not_eq_true'] at h
      exact qw_and (evt_ok e c rm h.1.1 hn.1 h.1.2) (wAnd_ok (.cons f r) c rm h.2 hn.2)
    · cases h
  | .cons e (.star f r), X, top, N, sc, k, pes, p, c, rm, h, hn => by unfold chkBo at h; cases h
  | .star f r, X, top, N, sc, k, pes, p, c, rm, h, hn => by unfold chkBo at h; cases h
theorem wOr_ok : ∀ (es : Es) {X : Cx} {top : Bool} {N : List Str} {sc : Scope} {k : Nat} {pes : List Expr} {p : Pos} (c : Cok X top N sc) (rm : Rm k X.A) (h : chkBo N sc true es pes = true) (hn : nds (NdOk X.prog X.w X.K X.mg X.base k) es), QW X (.BoolOp .Or pes p) (evOr es)
  | .nil, X, top, N, sc, k, pes, p, c, rm, h, hn => by unfold chkBo at h; cases h
  | .cons e .nil, X, top, N, sc, k, pes, p, c, rm, h, hn => by
    unfold chkBo at h
    unfold nds at hn
    split at h
    · rename_i a
      simp only [Bool.and_eq_true, Bool.not_eq_true'] at h
      exact qw_or1 (evt_ok e c rm h.1 hn.1 h.2)
    · cases h
  | .cons e (.cons f r), X, top, N, sc, k, pes, p, c, rm, h, hn => by
    unfold chkBo at h
    unfold nds at hn
    split at h
    · rename_i a b as
      simp only [Bool.and_eq_true, Bool.not_eq_true'] at h
      exact qw_or (evt_ok e c rm h.1.1 hn.1 h.1.2) (wOr_ok (.cons f r) c rm h.2 hn.2)
    · cases h
  | .cons e (.star f r), X, top, N, sc, k, pes, p, c, rm, h, hn => by unfold chkBo at h; cases h
  | .star f r, X, top, N, sc, k, pes, p, c, rm, h, hn => by unfold chkBo at h; cases h
theorem evo_ok : ∀ (o : Eo) {X : Cx} {top : Bool} {N : List Str} {sc : Scope} {k : Nat} {po : Option Expr} (c : Cok X top N sc) (rm : Rm k X.A) (h : chko N sc o po = true) (hn : ndo (NdOk X.prog X.w X.K X.mg X.base k) o), QO X po (evo o)
  | .none, X, top, N, sc, k, po, c, rm, h, hn => by
    unfold chko at h
    cases po with
    | none => exact qo_none
    | some _ => cases h
  | .some e, X, top, N, sc, k, po, c, rm, h, hn => by
    unfold chko at h
    unfold ndo at hn
    cases po with
    | none => cases h
    | some a => exact qo_some (ev_ok e true c rm h hn (.inl rfl))
theorem evc_ok : ∀ (o : Eo) {X : Cx} {top : Bool} {N : List Str} {sc : Scope} {k : Nat} {fs : List Expr} (c : Cok X top N sc) (rm : Rm k X.A) (h : chkC N sc o fs = true) (hn : ndo (NdOk X.prog X.w X.K X.mg X.base k) o), QTs X fs (evc o)
  | .none, X, top, N, sc, k, fs, c, rm, h, hn => by
    unfold chkC at h
    cases fs with
    | nil => exact qts_nil
    | cons _ _ => cases h
  | .some e, X, top, N, sc, k, fs, c, rm, h, hn => by
    unfold chkC at h
    unfold ndo at hn
    split at h
    · simp only [Bool.and_eq_true, Bool.not_eq_true'] at h
      exact qts_one (evt_ok e c rm h.1 hn h.2)
    · cases h
theorem evI_ok : ∀ (i : It) {X : Cx} {top : Bool} {N : List Str} {sc : Scope} {k : Nat} {pe tg : Expr} (lp : Bool) (c : Cok X top N sc) (rm : Rm k X.A) (h : chkI N sc lp i pe = true) (ht : tgI i tg = true) (hn : ndI (NdOk X.prog X.w X.K X.mg X.base k) i), QI X lp tg pe (evI i)
  | .seq e, X, top, N, sc, k, pe, tg, lp, c, rm, h, ht, hn => by
    unfold chkI at h
    unfold ndI at hn
    simp only [Bool.and_eq_true] at h
    cases lp with
    | true => exact qi_seq (x := false) (fun z => nomatch z) (ev_ok e false c rm h.1.1 hn (.inr (by simpa using h.2)))
    | false => exact qi_seq (x := true) (fun _ => rfl) (ev_ok e true c rm h.1.1 hn (.inl rfl))
  | .r1 e, X, top, N, sc, k, pe, tg, lp, c, rm, h, ht, hn => by
    unfold chkI at h
    unfold ndI at hn
    split at h
    · rename_i n p x q hu
      rw [xCall_eq hu]
      simp only [Bool.and_eq_true, decide_eq_true_eq] at h
      obtain ⟨⟨⟨h1, h2⟩, h3⟩, h4⟩ := h
      subst h1
      exact qi_rng1 (c.gl h2) hn.1 (ev_ok e true c rm h4 hn.2 (.inl rfl)) (by rw [star_of h3]; rfl) rfl
    · cases h
  | .r2 e f, X, top, N, sc, k, pe, tg, lp, c, rm, h, ht, hn => by
    unfold chkI at h
    unfold ndI at hn
    split at h
    · rename_i n p x y q hu
      rw [xCall_eq hu]
      simp only [Bool.and_eq_true, decide_eq_true_eq] at h
      obtain ⟨⟨⟨⟨⟨h1, h2⟩, h3⟩, h4⟩, h5⟩, h6⟩ := h
      subst h1
      exact qi_rng2 (c.gl h2) hn.1 (ev_ok e true c rm h5 hn.2.1 (.inl rfl)) (ev_ok f true c rm h6 hn.2.2 (.inl rfl)) (by rw [star_of h3, star_of h4]; rfl) (by rw [star_of h4]; rfl) rfl
    · cases h
  | .zip e f, X, top, N, sc, k, pe, tg, lp, c, rm, h, ht, hn => by
    unfold chkI at h
    unfold ndI at hn
    have ht : isTup tg = true := ht
    unfold isTup at ht
    split at ht
    · rename_i t htt
      rw [xTup_eq htt]
      split at h
      · rename_i n p x y q hu
        rw [xCall_eq hu]
        simp only [Bool.and_eq_true, decide_eq_true_eq] at h
        obtain ⟨⟨⟨⟨⟨⟨h1, h2⟩, h3⟩, h4⟩, h5⟩, h6⟩, h7⟩ := h
        subst h1
        cases lp with
        | true =>
          have h7 : (!isOwn e && !isOwn f) = true := by simpa using h7
          simp only [Bool.and_eq_true, Bool.not_eq_true'] at h7
          exact qi_zip (x := false) (fun z => nomatch z) (c.gl h2) hn.1 (ev_ok e false c rm h5 hn.2.1 (.inr h7.1)) (ev_ok f false c rm h6 hn.2.2 (.inr h7.2)) (star_of h3) (star_of h4)
        | false => exact qi_zip (x := true) (fun _ => rfl) (c.gl h2) hn.1 (ev_ok e true c rm h5 hn.2.1 (.inl rfl)) (ev_ok f true c rm h6 hn.2.2 (.inl rfl)) (star_of h3) (star_of h4)
      · cases h
    · cases ht
  | .en e, X, top, N, sc, k, pe, tg, lp, c, rm, h, ht, hn => by
    unfold chkI at h
    unfold ndI at hn
    have ht : isTup tg = true := ht
    unfold isTup at ht
    split at ht
    · rename_i t htt
      rw [xTup_eq htt]
      split at h
      · rename_i n p x q hu
        rw [xCall_eq hu]
        simp only [Bool.and_eq_true, decide_eq_true_eq] at h
        obtain ⟨⟨⟨⟨h1, h2⟩, h3⟩, h5⟩, h7⟩ := h
        subst h1
        cases lp with
        | true => exact qi_enum (x := false) (fun z => nomatch z) (c.gl h2) hn.1 (ev_ok e false c rm h5 hn.2 (.inr (by simpa using h7))) (star_of h3)
        | false => exact qi_enum (x := true) (fun _ => rfl) (c.gl h2) hn.1 (ev_ok e true c rm h5 hn.2 (.inl rfl)) (star_of h3)
      · cases h
    · cases ht
  | .r3 e f g, X, top, N, sc, k, pe, tg, lp, c, rm, h, ht, hn => by
    unfold chkI at h
    unfold ndI at hn
    split at h
    · rename_i n p x y z q hu
      rw [xCall_eq hu]
      simp only [Bool.and_eq_true, decide_eq_true_eq] at h
      obtain ⟨⟨⟨⟨⟨⟨⟨h1, h2⟩, h3⟩, h4⟩, h5⟩, h6⟩, h7⟩, h8⟩ := h
      subst h1
      exact qi_rng3 (c.gl h2) hn.1 (ev_ok e true c rm h6 hn.2.1 (.inl rfl)) (ev_ok f true c rm h7 hn.2.2.1 (.inl rfl)) (ev_ok g true c rm h8 hn.2.2.2 (.inl rfl)) (star_of h3) (star_of h4) (star_of h5)
    · cases h
theorem evF_ok : ∀ (f : Fr) {X : Cx} {top : Bool} {N : List Str} {sc : Scope} {k : Nat} {pe : Expr} (c : Cok X top N sc) (rm : Rm k X.A) (h : chkF N sc f pe = true) (hn : ndF (NdOk X.prog X.w X.K X.mg X.base k) f), QF X pe (evF f)
  | .lst es, X, top, N, sc, k, pe, c, rm, h, hn => by
    unfold chkF at h
    unfold ndF at hn
    split at h
    · rename_i u hu
      rw [xLst_eq hu]
      exact qf_lst (evs_ok es false c rm h hn)
    · cases h
  | .comp own tg it cn e, X, top, N, sc, k, pe, c, rm, h, hn => by
    unfold chkF at h
    unfold ndF at hn
    split at h
    · rename_i u hu
      rw [xLc_eq hu]
      simp only [Bool.and_eq_true, Bool.not_eq_true'] at h
      obtain ⟨⟨⟨⟨⟨⟨⟨⟨h1, h2⟩, h3⟩, h3'⟩, h4⟩, h5⟩, h6⟩, h7⟩, h8⟩ := h
      have bo : BlkOk N sc u.2.2.2.2.1 own := blkOk_by h1
      exact qf_comp c.calm (by rw [c.n]; exact c.nd) (evI_ok it false c rm h3 h3' hn.1) (by rw [c.n, c.esc]; exact bo) (fun j hj => by simpa using List.all_eq_true.mp h2 j hj)
        (fun s H C cl fp => tg_ok (c.blk bo.kind s H C cl fp) tg _ h4) (fun s H C cl fp => evc_ok cn (c.blk bo.kind s H C cl fp) rm h5 hn.2.1) (fun s H C cl fp => ev_ok e false (c.blk bo.kind s H C cl fp) rm h6 hn.2.2 (.inr h7)) (folded_of h8)
    · cases h
  | .list a, X, top, N, sc, k, pe, c, rm, h, hn => by
    unfold chkF at h
    unfold ndF at hn
    split at h
    · rename_i n p x q hu
      rw [xCall_eq hu]
      simp only [Bool.and_eq_true, decide_eq_true_eq] at h
      obtain ⟨⟨⟨h1, h2⟩, h3⟩, h4⟩ := h
      subst h1
      show QF X (.Call (.Name "list" p) [x] [] q) _
      exact qf_callTy call_list_of o_listF (c.gl h2) hn.1 (by decide +kernel) (qa_cons (ev_ok a true c rm h4 hn.2 (.inl rfl)) qa_nil (star_of h3 _)) (by decide) (by decide) (star_of h3 _) rfl
    · cases h
  | .cat a b, X, top, N, sc, k, pe, c, rm, h, hn => by
    unfold chkF at h
    unfold ndF at hn
    split at h
    · rename_i u hu
      rw [xBin_eq hu]
      simp only [Bool.and_eq_true, decide_eq_true_eq] at h
      rw [h.1.1]
      exact qf_bin op_cat o_catF (ev_ok a true c rm h.1.2 hn.1 (.inl rfl)) (ev_ok b true c rm h.2 hn.2 (.inl rfl))
    · cases h
  | .rep a b, X, top, N, sc, k, pe, c, rm, h, hn => by
    unfold chkF at h
    unfold ndF at hn
    split at h
    · rename_i u hu
      rw [xBin_eq hu]
      simp only [Bool.and_eq_true, decide_eq_true_eq] at h
      rw [h.1.1]
      exact qf_bin op_rep o_repF (ev_ok a true c rm h.1.2 hn.1 (.inl rfl)) (ev_ok b true c rm h.2 hn.2 (.inl rfl))
    · cases h
  | .rev a, X, top, N, sc, k, pe, c, rm, h, hn => by
    unfold chkF at h
    unfold ndF at hn
    split at h
    · rename_i u hu
      rw [xRev_eq hu]
      exact qf_rev (ev_ok a true c rm h hn (.inl rfl))
    · cases h
  | .lr1 a, X, top, N, sc, k, pe, c, rm, h, hn => by
    unfold chkF at h
    unfold ndF at hn
    split at h
    · rename_i n p y q hu
      rw [xCall_eq hu]
      simp only [Bool.and_eq_true, decide_eq_true_eq] at h
      obtain ⟨⟨h1, h2⟩, h3⟩ := h
      subst h1
      split at h3
      · rename_i m p' x q' hv
        simp only [Bool.and_eq_true, decide_eq_true_eq] at h3
        obtain ⟨⟨⟨g1, g2⟩, g3⟩, g4⟩ := h3
        have hy := xCall_eq hv
        subst g1
        show QF X (.Call (.Name "list" p) [y] [] q) _
        rw [hy]
        exact qf_lr1 c.calm (c.gl h2) hn.1 (c.gl g2) hn.2.1 (ev_ok a true c rm g4 hn.2.2 (.inl rfl)) (star_of g3 _)
      · cases h3
    · cases h
  | .srt a, X, top, N, sc, k, pe, c, rm, h, hn => by
    unfold chkF at h
    unfold ndF at hn
    split at h
    · rename_i n p x q hu
      rw [xCall_eq hu]
      simp only [Bool.and_eq_true, decide_eq_true_eq] at h
      obtain ⟨⟨⟨h1, h2⟩, h3⟩, h4⟩ := h
      subst h1
      show QF X (.Call (.Name "sorted" p) [x] [] q) _
      exact qf_callB (cr_sortD (by have := rm.r.un; omega)) o_sortF (c.gl h2) hn.1 (by decide +kernel) (qa_cons (ev_ok a true c rm h4 hn.2 (.inl rfl)) qa_nil (star_of h3 _)) (by decide) (by decide) (star_of h3 _) rfl
    · cases h
end
end Rf
namespace Rf
open PySem L2 PySem.Spec PyProof.Rows
/-! ## statements: the checker and its truth -/
/-- a part of a, b = x, y -/
inductive Ce where
  | v (e : E) | f (f : Fr)
mutual
inductive T where
  | pass | brk | cnt | retN | never
  | ret (e : E) | exp (e : E) | ite (c : E) (a b : Ts)
  | set (i : Nat) (e : E) | asg (tg : Tg) (e : E) | own (i : Nat) (f : Fr) | par2 (i j : Nat) (a b : Ce) | par3 (i j l : Nat) (a b c : Ce)
  | pa (i j : Nat) (e : E) | pt (i : Nat) (tg : Tg) | app (i : Nat) (e : E) | ext (i : Nat) (e : E) | six (i : Nat) (e k : E) | pset (i : Nat) (j : Int) (e : E)
  | for (tg : Tg) (it : It) (b : Ts) | while (n : S → W → Nat) (c : E) (b : Ts)
inductive Ts where
  | nil | cons (t : T) (r : Ts) | fz (i : Nat) (r : Ts)
end
def evCe : Ce → Cp
  | .v e => .v (ev e)
  | .f f => .f (evF f)
mutual
def evT : T → S → W → R Fl
  | .pass => fSkip
  | .brk => fun s w => .ok (.bk s) w
  | .cnt => fun s w => .ok (.ct s) w
  | .retN => fun s w => .ok (.rt .non) w
  | .never => fun _ _ => .no
  | .ret e => fun s w => bnd (ev e s w) fun d w1 => .ok (.rt d) w1
  | .exp e => fExp (ev e)
  | .ite c a b => fIfS (ev c) (evTs a) (evTs b)
  | .set i e => fAsg (ev e) (bName i)
  | .asg tg e => fAsg (ev e) (evTg tg)
  | .own i f => fOwn i (evF f)
  | .par2 i j a b => fPar [(i, evCe a), (j, evCe b)]
  | .par3 i j l a b c => fPar [(i, evCe a), (j, evCe b), (l, evCe c)]
  | .pa i j e => fPopApp i j (ev e)
  | .pt i tg => fPopTo i (evTg tg)
  | .app i e => fApp i (ev e)
  | .ext i e => fExt i (ev e)
  | .six i e k => fSetIx i (ev e) (ev k)
  | .pset i j e => fPset i j (ev e)
  | .for tg it b => fFor (evI it) (evTg tg) (evTs b)
  | .while n c b => fWhile n (ev c) (evTs b)
def evTs : Ts → S → W → R Fl
  | .nil => fSkip
  | .cons t r => fSeq (evT t) (evTs r)
  | .fz i r => fSeq (fFz i) (evTs r)
end
def yRet : Stmt → Option (Option Expr × Pos)
  | .Return e p => some (e, p)
  | _ => none
theorem yRet_eq {s : Stmt} {t : Option Expr × Pos} (h : yRet s = some t) : s = .Return t.1 t.2 := by cases s <;> first | (cases h; rfl) | cases h
def yIf : Stmt → Option (Expr × List Stmt × List Stmt × Pos)
  | .If c a b p => some (c, a, b, p)
  | _ => none
theorem yIf_eq {s : Stmt} {t : Expr × List Stmt × List Stmt × Pos} (h : yIf s = some t) : s = .If t.1 t.2.1 t.2.2.1 t.2.2.2 := by cases s <;> first | (cases h; rfl) | cases h
def yAsg : Stmt → Option (Expr × Expr × Pos)
  | .Assign [t] e p => some (t, e, p)
  | _ => none
theorem yAsg_eq {s : Stmt} {t : Expr × Expr × Pos} (h : yAsg s = some t) : s = .Assign [t.1] t.2.1 t.2.2 := by
  unfold yAsg at h; split at h
  · cases h; rfl
  · cases h
def yExpr : Stmt → Option (Expr × Pos)
  | .Expr e p => some (e, p)
  | _ => none
theorem yExpr_eq {s : Stmt} {t : Expr × Pos} (h : yExpr s = some t) : s = .Expr t.1 t.2 := by cases s <;> first | (cases h; rfl) | cases h
def yFor : Stmt → Option (Expr × Expr × List Stmt × Pos)
  | .For t i b [] p => some (t, i, b, p)
  | _ => none
theorem yFor_eq {s : Stmt} {t : Expr × Expr × List Stmt × Pos} (h : yFor s = some t) : s = .For t.1 t.2.1 t.2.2.1 [] t.2.2.2 := by
  unfold yFor at h; split at h
  · cases h; rfl
  · cases h
def yWhile : Stmt → Option (Expr × List Stmt × Pos)
  | .While c b [] p => some (c, b, p)
  | _ => none
theorem yWhile_eq {s : Stmt} {t : Expr × List Stmt × Pos} (h : yWhile s = some t) : s = .While t.1 t.2.1 [] t.2.2 := by
  unfold yWhile at h; split at h
  · cases h; rfl
  · cases h
def yPlain : Stmt → Nat
  | .Pass _ => 1
  | .Break _ => 2
  | .Continue _ => 3
  | _ => 0
def chkCe (N : List Str) (sc : Scope) : Ce → Expr → Bool
  | .v e, x => chk N sc false e x && !isOwn e
  | .f f, x => chkF N sc f x
def lcB (sc : Scope) (x : Str) : Bool := match sc.names.lookup x with
  | some .local => true
  | _ => false
theorem lcB_ok {sc : Scope} {x : Str} (h : lcB sc x = true) : sc.names.lookup x = some .local := by
  unfold lcB at h; split at h
  · assumption
  · cases h
def isStar : Expr → Bool
  | .Starred .. => true
  | _ => false
def pairUp (targets : List Expr) (value : Expr) : Option (List Expr × List Expr) := match targets, value with
  | [.Tuple l _ _], .Tuple r _ _ => some (l, r)
  | [.List l _], .Tuple r _ _ => some (l, r)
  | _, _ => none
def nameOn (sc : Scope) (line : Nat) : Expr → Option Str
  | .Name x p => if sc.names.lookup x == some .local && p.line == line then some x else none
  | _ => none
def lineOf (l : List Expr) : Nat := match l with
  | [] => 0
  | e :: _ => e.pos.line
/-- which stores of a, b = x, y are swapped (none: the model does not say) -/
def swP (sc : Scope) (targets : List Expr) (value : Expr) : Option (Option (List Str)) := match pairUp targets value with
  | none => some none
  | some (l, r) =>
    if (!(l.length == 2 || l.length == 3) || r.length != l.length) = true then some none
    else if r.any isStar = true then some none
    else
      let xs := l.filterMap (nameOn sc (lineOf l))
      if (xs.length != l.length || xs.eraseDups.length != xs.length) = true then some none
      else if r.all (foldedForSure 8) = true then some none
      else if r.all (constantsAlone 8) = true then none
      else some (some xs)
theorem swP_ok {env : Env} {sc : Scope} (h : env.scope = sc) (hk : sc.kind = .function) {ts : List Expr} {v : Expr} {o : Option (List Str)} (e : swP sc ts v = some o) : swappedStores ts v env = pure o := by
  have hb : env.blockKind = .function := by unfold Env.blockKind; rw [h, hk]; rfl
  subst h
  have hst : (fun x : Expr => match x with
      | .Starred .. => true
      | _ => false) = isStar := rfl
  have hl : ∀ l : List Expr, (l.head?.map (·.pos.line)).getD 0 = lineOf l := fun l => by cases l <;> rfl
  have body : ∀ l r : List Expr, pairUp ts v = some (l, r) → (∀ α : Type, ∀ (f : List Expr × List Expr → Sem α) (g : Sem α), True) → swappedStores ts v env = (if (!(l.length == 2 || l.length == 3) || r.length != l.length || env.blockKind != .function) = true then pure none
      else if r.any isStar = true then pure none
      else
        let xs := l.filterMap (nameOn env.scope (lineOf l))
        if (xs.length != l.length || xs.eraseDups.length != xs.length) = true then pure none
        else if r.all (foldedForSure 8) = true then pure none
        else if r.all (constantsAlone 8) = true then (do let _ ← (unsupported "assign.tuple-of-constant-expressions:order-of-the-stores" : Sem PUnit); pure (some xs))
        else pure (some xs)) := by
    intro l r q _
    unfold pairUp at q
    split at q
    · cases q
      unfold swappedStores
      rw [← hl]
      rfl
    · cases q
      unfold swappedStores
      rw [← hl]
      rfl
    · cases q
  unfold swP at e
  cases q : pairUp ts v with
  | none =>
    rw [q] at e; cases e
    unfold pairUp at q
    split at q
    · cases q
    · cases q
    · rename_i n1 n2
      unfold swappedStores
      split
      · rename_i heq
        split at heq
        · exact absurd rfl (n1 _ _ _ _ _ _ rfl)
        · exact absurd rfl (n2 _ _ _ _ _ rfl)
        · cases heq
      · rfl
  | some t =>
    obtain ⟨l, r⟩ := t
    rw [q] at e
    rw [body l r q fun _ _ _ => trivial]
    simp only [hb] at e ⊢
    split at e
    · rename_i c; cases e
      rw [if_pos (by simp only [Bool.or_eq_true] at c ⊢; exact .inl c)]
    rename_i c1
    rw [if_neg (by simp only [Bool.or_eq_true] at c1 ⊢; rintro (z | z); exact c1 z; exact absurd z (by decide))]
    split at e
    · rename_i c; cases e; rw [if_pos c]
    rename_i c2
    rw [if_neg c2]
    split at e
    · rename_i c; cases e; rw [if_pos c]
    rename_i c3
    rw [if_neg c3]
    split at e
    · rename_i c; cases e; rw [if_pos c]
    rename_i c4
    rw [if_neg c4]
    split at e
    · cases e
    rename_i c5
    cases e
    rw [if_neg c5]
/-- o.pop() -/
def xPop0 : Expr → Option (Expr × Pos × Pos)
  | .Call (.Attribute o m p) [] [] q => if m = ("pop" : Str) then some (o, p, q) else none
  | _ => none
theorem xPop0_eq {e : Expr} {t : Expr × Pos × Pos} (h : xPop0 e = some t) : e = .Call (.Attribute t.1 "pop" t.2.1) [] [] t.2.2 := by
  unfold xPop0 at h; split at h
  · split at h
    · rename_i hm; cases h; rw [hm]
    · cases h
  · cases h
mutual
def chkT (N : List Str) (sc : Scope) : T → Stmt → Bool
  | .pass, s => yPlain s == 1
  | .brk, s => yPlain s == 2
  | .cnt, s => yPlain s == 3
  | .never, _ => true
  | .retN, s => match yRet s with
    | some (none, _) => true
    | _ => false
  | .ret e, s => match yRet s with
    | some (some x, _) => chk N sc false e x && !isOwn e
    | _ => false
  | .exp e, s => match yExpr s with
    | some u => chk N sc false e u.1 && !isOwn e && noComp u.1
    | none => false
  | .ite c a b, s => match yIf s with
    | some u => chk N sc true c u.1 && !isOwn c && chkTs N sc a u.2.1 && chkTs N sc b u.2.2.1
    | none => false
  | .set i e, s => match yAsg s with
    | some u => chk N sc false e u.2.1 && !isOwn e && noComp u.2.1 && (match xName u.1 with
      | some n => atB N i n.1 && locB true sc n.1
      | none => false)
    | none => false
  | .asg tg e, s => match yAsg s with
    | some u => chk N sc false e u.2.1 && !isOwn e && noComp u.2.1 && noStar u.1 && chkTg true N sc tg u.1 && decide (swP sc [u.1] u.2.1 = some none)
    | none => false
  | .own i f, s => match yAsg s with
    | some u => chkF N sc f u.2.1 && (match xName u.1 with
      | some n => atB N i n.1 && locB true sc n.1 && (noComp u.2.1 || (match xLc u.2.1 with
        | some l => (match sc.names.lookup n.1 with
          | some .local => (n.2.line == l.2.2.2.2.2.line) && !(l.2.2.2.2.1.names.any fun m => m.1 == n.1 && (m.2 == .local || m.2 == .cell))
          | _ => false) || (match sc.names.lookup n.1 with
          | some .cell => true
          | _ => false)
        | none => false))
      | none => false)
    | none => false
  | .par2 i j a b, s => match yAsg s with
    | some u => (match xTup u.1, xTup u.2.1 with
      | some ([x, y], _, _), some ([p, q], _, _) => (match xName x, xName y with
        | some n, some m => atB N i n.1 && atB N j m.1 && noStar p && noStar q && chkCe N sc a p && chkCe N sc b q && decide (i ≠ j) && lcB sc n.1 && lcB sc m.1 && decide (swP sc [u.1] u.2.1 = some (some [n.1, m.1]))
        | _, _ => false)
      | _, _ => false)
    | none => false
  | .par3 i j l a b c, s => match yAsg s with
    | some u => (match xTup u.1, xTup u.2.1 with
      | some ([x, y, z], _, _), some ([p, q, r], _, _) => (match xName x, xName y, xName z with
        | some n, some m, some o => atB N i n.1 && atB N j m.1 && atB N l o.1 && noStar p && noStar q && noStar r && chkCe N sc a p && chkCe N sc b q && chkCe N sc c r && decide (i ≠ j) && decide (i ≠ l) && decide (j ≠ l) &&
            lcB sc n.1 && lcB sc m.1 && lcB sc o.1 && decide (swP sc [u.1] u.2.1 = some (some [n.1, m.1, o.1]))
        | _, _, _ => false)
      | _, _ => false)
    | none => false
  | .pa i j e, s => match yExpr s with
    | some u => (match xMeth u.1 with
      | some (o, m, p, [x], q) => decide (m = ("append" : Str)) && (p.endLine == q.line) && decide (i ≠ j) && (match xName o, xMeth x with
        | some n, some (o2, m2, p2, [y], q2) => decide (m2 = ("pop" : Str)) && (p2.endLine == q2.line) && noStar y && chk N sc false e y && atB N i n.1 && visB sc n.1 && okName n.1 && (match xName o2 with
          | some n2 => atB N j n2.1 && visB sc n2.1 && okName n2.1
          | none => false)
        | _, _ => false)
      | _ => false)
    | none => false
  | .pt i tg, s => match yAsg s with
    | some u => (match xPop0 u.2.1 with
      | some (o, p, q) => (p.endLine == q.line) && noStar u.1 && chkTg true N sc tg u.1 && decide (swP sc [u.1] u.2.1 = some none) && (match xName o with
        | some n => atB N i n.1 && visB sc n.1 && okName n.1
        | none => false)
      | none => false)
    | none => false
  | .app i e, s => match yExpr s with
    | some u => (match xMeth u.1 with
      | some (o, m, p, [x], q) => decide (m = ("append" : Str)) && noStar x && chk N sc false e x && !isOwn e && (p.endLine == q.line) && (match xName o with
        | some n => atB N i n.1 && visB sc n.1 && okName n.1
        | none => false)
      | _ => false)
    | none => false
  | .ext i e, s => match yExpr s with
    | some u => (match xMeth u.1 with
      | some (o, m, p, [x], q) => decide (m = ("extend" : Str)) && noStar x && chk N sc false e x && (p.endLine == q.line) && (match xName o with
        | some n => atB N i n.1 && visB sc n.1 && okName n.1
        | none => false)
      | _ => false)
    | none => false
  | .six i e k, s => match yAsg s with
    | some u => chk N sc false e u.2.1 && !isOwn e && noComp u.2.1 && (match xSub u.1 with
      | some v => chk N sc false k v.2.1 && noSlice v.2.1 && (match xName v.1 with
        | some n => atB N i n.1 && visB sc n.1 && okName n.1
        | none => false)
      | none => false)
    | none => false
  | .pset i j e, s => match yAsg s with
    | some u => chk N sc false e u.2.1 && !isOwn e && noComp u.2.1 && (match xSub u.1 with
      | some v => (match xConst v.2.1 with
        | some (.int k, _, _) => decide (k = j) && (match xName v.1 with
          | some n => atB N i n.1 && visB sc n.1 && okName n.1
          | none => false)
        | _ => false)
      | none => false)
    | none => false
  | .for tg it b, s => match yFor s with
    | some u => chkI N sc true it u.2.1 && tgI it u.1 && noSet u.2.1 && chkTg true N sc tg u.1 && chkTs N sc b u.2.2.1
    | none => false
  | .while _ c b, s => match yWhile s with
    | some u => chk N sc true c u.1 && !isOwn c && chkTs N sc b u.2.1
    | none => false
def chkTs (N : List Str) (sc : Scope) : Ts → List Stmt → Bool
  | .nil, ss => ss.isEmpty
  | .cons t r, ss => match ss with
    | s :: rs => chkT N sc t s && chkTs N sc r rs
    | [] => false
  | .fz _ r, ss => chkTs N sc r ss
end
end Rf
namespace Rf
open PySem L2 PySem.Spec PyProof.Rows
def ndCe (p : Nd → Prop) : Ce → Prop
  | .v e => nd p e
  | .f f => ndF p f
mutual
def ndT (p : Nd → Prop) : T → Prop
  | .pass => True
  | .brk => True
  | .cnt => True
  | .retN => True
  | .never => True
  | .ret e => nd p e
  | .exp e => nd p e
  | .ite c a b => nd p c ∧ ndTs p a ∧ ndTs p b
  | .set _ e => nd p e
  | .asg _ e => nd p e
  | .own _ f => ndF p f
  | .par2 _ _ a b => ndCe p a ∧ ndCe p b
  | .par3 _ _ _ a b c => ndCe p a ∧ ndCe p b ∧ ndCe p c
  | .pa _ _ e => nd p e
  | .pt _ _ => True
  | .app _ e => nd p e
  | .ext _ e => nd p e
  | .six _ e k => nd p e ∧ nd p k
  | .pset _ _ e => nd p e
  | .for _ it b => ndI p it ∧ ndTs p b
  | .while _ c b => nd p c ∧ ndTs p b
def ndTs (p : Nd → Prop) : Ts → Prop
  | .nil => True
  | .cons t r => ndT p t ∧ ndTs p r
  | .fz _ r => ndTs p r
end
theorem plain_eq {s : Stmt} : (yPlain s = 1 → ∃ p, s = .Pass p) ∧ (yPlain s = 2 → ∃ p, s = .Break p) ∧ (yPlain s = 3 → ∃ p, s = .Continue p) := by
  cases s <;> simp [yPlain]
theorem few_of {env : Env} {x : Expr} {p : Pos} (h : noStar x = true) : ((backTo p (starEach [x] env)).all (fun x => !x.1) && (backToKw p (keywordEach [] env)).all (fun x => x.1.isSome) && decide (([x] : List Expr).length + ([] : List Keyword).length + (if ([] : List Keyword).isEmpty then 0 else 1) < 30)) = true := by
  rw [star_of h]; rfl
theorem atbase {n : Str} {p : Pos} {m : Str} {env : Env} (hv : Vis env.scope n) : attributeBase (.Name n p) m env (eval (.Name n p) env) = eval (.Name n p) env := by
  unfold attributeBase
  rcases hv with h | h | h <;> first | rfl | simp only [Env.kindOf, h] <;> rfl
theorem sub_eq {o k : Expr} {kp : Pos} {env : Env} (h : noSlice k = true) (v : Value) : assign (.Subscript o k kp) env v = (do
      let ov ← holding [v] (eval o env)
      let iv ← holding [v, ov] (eval k env)
      standAt kp
      holding [v, ov, iv] (setItem ov iv v)
      release [v, ov, iv] []) := by
  cases k <;> first | rfl | cases h
theorem soles_of {env : Env} {e t : Expr} {l : Nat} (h : noComp e = true) : swapsWithSole [t] e l env = pure false := swaps_of h (some t) l
theorem ce_ok {X : Cx} {top : Bool} {N : List Str} {sc : Scope} {k : Nat} {pe : Expr} (c : Cok X top N sc) (rm : Rm k X.A) : ∀ (e : Ce), chkCe N sc e pe = true → ndCe (NdOk X.prog X.w X.K X.mg X.base k) e → QC X pe (evCe e)
  | .v e, h, hn => by
    unfold chkCe at h
    simp only [Bool.and_eq_true, Bool.not_eq_true'] at h
    exact (ev_ok e false c rm h.1 hn (.inr h.2)).qc
  | .f f, h, hn => (evF_ok f c rm h hn).qc
mutual
theorem t_ok : ∀ (t : T) {X : Cx} {N : List Str} {sc : Scope} {k : Nat} {s : Stmt} (c : Cok X true N sc) (rm : Rm k X.A) (h : chkT N sc t s = true) (hn : ndT (NdOk X.prog X.w X.K X.mg X.base k) t), QS X s (evT t)
  | .pass, X, N, sc, k, s, c, rm, h, hn => by
    unfold chkT at h
    obtain ⟨p, rfl⟩ := plain_eq.1 (eq_of_beq h)
    exact qs_pass
  | .brk, X, N, sc, k, s, c, rm, h, hn => by
    unfold chkT at h
    obtain ⟨p, rfl⟩ := plain_eq.2.1 (eq_of_beq h)
    exact qs_break
  | .cnt, X, N, sc, k, s, c, rm, h, hn => by
    unfold chkT at h
    obtain ⟨p, rfl⟩ := plain_eq.2.2 (eq_of_beq h)
    exact qs_cont
  | .never, X, N, sc, k, s, c, rm, h, hn => qs_never
  | .retN, X, N, sc, k, s, c, rm, h, hn => by
    unfold chkT at h
    split at h
    · rename_i p hu
      rw [yRet_eq hu]
      exact qs_retN
    · cases h
  | .ret e, X, N, sc, k, s, c, rm, h, hn => by
    unfold chkT at h
    unfold ndT at hn
    split at h
    · rename_i x p hu
      rw [yRet_eq hu]
      simp only [Bool.and_eq_true, Bool.not_eq_true'] at h
      exact qs_ret (ev_ok e false c rm h.1 hn (.inr h.2))
    · cases h
  | .exp e, X, N, sc, k, s, c, rm, h, hn => by
    unfold chkT at h
    unfold ndT at hn
    split at h
    · rename_i u hu
      rw [yExpr_eq hu]
      simp only [Bool.and_eq_true, Bool.not_eq_true'] at h
      exact qs_exp (ev_ok e false c rm h.1.1 hn (.inr h.1.2)) (swaps_of h.2 _ _)
    · cases h
  | .ite e a b, X, N, sc, k, s, c, rm, h, hn => by
    unfold chkT at h
    unfold ndT at hn
    split at h
    · rename_i u hu
      rw [yIf_eq hu]
      simp only [Bool.and_eq_true, Bool.not_eq_true'] at h
      obtain ⟨⟨⟨h1, h2⟩, h3⟩, h4⟩ := h
      exact qs_if (evt_ok e c rm h1 hn.1 h2) (ts_ok a c rm h3 hn.2.1) (ts_ok b c rm h4 hn.2.2)
    · cases h
  | .set i e, X, N, sc, k, s, c, rm, h, hn => by
    unfold chkT at h
    unfold ndT at hn
    split at h
    · rename_i u hu
      rw [yAsg_eq hu]
      simp only [Bool.and_eq_true, Bool.not_eq_true'] at h
      obtain ⟨⟨⟨h1, h2⟩, h3⟩, h4⟩ := h
      split at h4
      · rename_i n hn'
        rw [xName_eq hn']
        rw [Bool.and_eq_true] at h4
        obtain ⟨l1, l2⟩ := c.loc h4.2
        exact qs_set (by rw [c.n]; exact c.nd) (c.at h4.1) l1 (ev_ok e false c rm h1 hn (.inr h2)) (swaps_of h3 _ _) l2
      · cases h4
    · cases h
  | .asg tg e, X, N, sc, k, s, c, rm, h, hn => by
    unfold chkT at h
    unfold ndT at hn
    split at h
    · rename_i u hu
      rw [yAsg_eq hu]
      simp only [Bool.and_eq_true, Bool.not_eq_true', decide_eq_true_eq] at h
      obtain ⟨⟨⟨⟨⟨h1, h2⟩, h3⟩, h4⟩, h5⟩, h6⟩ := h
      exact qs_asg (ev_ok e false c rm h1 hn (.inr h2)) (tg_ok c tg _ h5) (swaps_of h3 _ _) (swP_ok c.esc c.kind h6) (by rw [each_of h4]; rfl)
    · cases h
  | .own i f, X, N, sc, k, s, c, rm, h, hn => by
    unfold chkT at h
    unfold ndT at hn
    split at h
    · rename_i u hu
      rw [yAsg_eq hu]
      simp only [Bool.and_eq_true] at h
      obtain ⟨h1, h2⟩ := h
      split at h2
      · rename_i n hn'
        rw [xName_eq hn']
        simp only [Bool.and_eq_true, Bool.or_eq_true] at h2
        obtain ⟨⟨h2, h3⟩, h4⟩ := h2
        obtain ⟨l1, l2⟩ := c.loc h3
        rcases h4 with h4 | h4
        · exact qs_own (by rw [c.n]; exact c.nd) (c.at h2) l1 (evF_ok f c rm h1 hn) (swaps_of h4 _ _) l2
        · split at h4
          · rename_i l hl
            rw [Bool.or_eq_true] at h4
            rcases h4 with h4 | h4
            · split at h4
              · rename_i hk
                simp only [Bool.and_eq_true, Bool.not_eq_true'] at h4
                cases f with
                | comp own tg it cn x =>
                  unfold chkF at h1
                  unfold ndF at hn
                  rw [hl] at h1
                  simp only [Bool.and_eq_true, Bool.not_eq_true'] at h1
                  obtain ⟨⟨⟨⟨⟨⟨⟨⟨g1, g2⟩, g3⟩, g3'⟩, g4⟩, g5⟩, g6⟩, g7⟩, g8⟩ := h1
                  have bo : BlkOk N sc l.2.2.2.2.1 own := blkOk_by g1
                  rw [xLc_eq hl]
                  have hk' : X.env.scope.names.lookup n.1 = some .local := by rw [c.esc]; exact hk
                  exact qs_ownLc c.calm (by rw [c.n]; exact c.nd) (c.at h2) hk' (sw_true (by rw [c.esc]; exact c.kind) hk' h4.1 h4.2) (evI_ok it false c rm g3 g3' hn.1) (by rw [c.n, c.esc]; exact bo) (fun j hj => by simpa using List.all_eq_true.mp g2 j hj)
                    (fun s H C cl fp => tg_ok (c.blk bo.kind s H C cl fp) tg _ g4) (fun s H C cl fp => evc_ok cn (c.blk bo.kind s H C cl fp) rm g5 hn.2.1) (fun s H C cl fp => ev_ok x false (c.blk bo.kind s H C cl fp) rm g6 hn.2.2 (.inr g7)) (folded_of g8)
                | lst es =>
                  unfold chkF at h1
                  rw [xLc_eq hl] at h1; cases h1
                | list a =>
                  unfold chkF at h1
                  rw [xLc_eq hl] at h1; cases h1
                | cat a b =>
                  unfold chkF at h1
                  rw [xLc_eq hl] at h1; cases h1
                | rep a b =>
                  unfold chkF at h1
                  rw [xLc_eq hl] at h1; cases h1
                | rev a =>
                  unfold chkF at h1
                  rw [xLc_eq hl] at h1; cases h1
                | lr1 a =>
                  unfold chkF at h1
                  rw [xLc_eq hl] at h1; cases h1
                | srt a =>
                  unfold chkF at h1
                  rw [xLc_eq hl] at h1; cases h1
              · cases h4
            · split at h4
              · rename_i hk
                have hk' : X.env.kindOf n.1 = some .cell := by unfold Env.kindOf; rw [c.esc]; exact hk
                refine qs_own (by rw [c.n]; exact c.nd) (c.at h2) l1 (evF_ok f c rm h1 hn) ?_ l2
                rw [xLc_eq hl]
                unfold swapsWith
                simp only [hk']
                have : ((some NameKind.cell == some NameKind.local) : Bool) = false := rfl
                simp only [this, Bool.and_false, Bool.false_and]
              · cases h4
          · cases h4
      · cases h2
    · cases h
  | .par2 i j a b, X, N, sc, k, s, c, rm, h, hn => by
    unfold chkT at h
    unfold ndT at hn
    split at h
    · rename_i u hu
      rw [yAsg_eq hu]
      split at h
      · rename_i x y k1 p1 p q k2 p2 e1 e2
        split at h
        · rename_i n m en em
          simp only [Bool.and_eq_true, decide_eq_true_eq] at h
          obtain ⟨⟨⟨⟨⟨⟨⟨⟨⟨h1, h2⟩, h3⟩, h4⟩, h5⟩, h6⟩, h7⟩, h8⟩, h9⟩, h10⟩ := h
          have e1' := xTup_eq e1
          have e2' := xTup_eq e2
          have en' := xName_eq en
          have em' := xName_eq em
          simp only at e1' e2'
          subst en'; subst em'
          rw [e1', e2'] at h10
          rw [e1', e2']
          exact qs_par2 c.calm (by rw [c.n]; exact c.nd) (c.at h1) (c.at h2) h7 (by rw [c.esc]; exact lcB_ok h8) (by rw [c.esc]; exact lcB_ok h9) (ce_ok c rm a h5 hn.1) (ce_ok c rm b h6 hn.2) (by rw [star_of h3, star_of h4]; rfl) (by rw [star_of h4]; rfl) rfl (swP_ok c.esc c.kind h10) rfl
        · cases h
      · cases h
    · cases h
  | .par3 i j l a b d, X, N, sc, k, s, c, rm, h, hn => by
    unfold chkT at h
    unfold ndT at hn
    split at h
    · rename_i u hu
      rw [yAsg_eq hu]
      split at h
      · rename_i x y z k1 p1 p q r k2 p2 e1 e2
        split at h
        · rename_i n m o en em eo
          simp only [Bool.and_eq_true, decide_eq_true_eq] at h
          obtain ⟨⟨⟨⟨⟨⟨⟨⟨⟨⟨⟨⟨⟨⟨⟨h1, h2⟩, h3⟩, h4⟩, h5⟩, h6⟩, h7⟩, h8⟩, h9⟩, h10⟩, h11⟩, h12⟩, h13⟩, h14⟩, h15⟩, h16⟩ := h
          have e1' := xTup_eq e1
          have e2' := xTup_eq e2
          have en' := xName_eq en
          have em' := xName_eq em
          have eo' := xName_eq eo
          simp only at e1' e2'
          subst en'; subst em'; subst eo'
          rw [e1', e2'] at h16
          rw [e1', e2']
          exact qs_par3 c.calm (by rw [c.n]; exact c.nd) (c.at h1) (c.at h2) (c.at h3) h10 h11 h12 (by rw [c.esc]; exact lcB_ok h13) (by rw [c.esc]; exact lcB_ok h14) (by rw [c.esc]; exact lcB_ok h15) (ce_ok c rm a h7 hn.1) (ce_ok c rm b h8 hn.2.1) (ce_ok c rm d h9 hn.2.2)
            (by rw [star_of h4, star_of h5, star_of h6]; rfl) (by rw [star_of h5, star_of h6]; rfl) (by rw [star_of h6]; rfl) rfl (swP_ok c.esc c.kind h16) rfl
        · cases h
      · cases h
    · cases h
  | .pa i j e, X, N, sc, k, s, c, rm, h, hn => by
    unfold chkT at h
    unfold ndT at hn
    split at h
    · rename_i u hu
      rw [yExpr_eq hu]
      split at h
      · rename_i o m p x q hm
        simp only [Bool.and_eq_true, decide_eq_true_eq] at h
        obtain ⟨⟨⟨h1, h2⟩, h3⟩, h4⟩ := h
        split at h4
        · rename_i n o2 m2 p2 y q2 hn' hm2
          simp only [Bool.and_eq_true, decide_eq_true_eq] at h4
          obtain ⟨⟨⟨⟨⟨⟨⟨g1, g2⟩, g3⟩, g4⟩, g5⟩, g6⟩, g7⟩, g8⟩ := h4
          split at g8
          · rename_i n2 hn2
            simp only [Bool.and_eq_true] at g8
            have hx := xMeth_eq hm2
            rw [xMeth_eq hm]
            subst h1; subst g1
            simp only at hx ⊢
            rw [hx, xName_eq hn', xName_eq hn2]
            exact qs_popApp (x := true) h3 (c.at g5) (c.vis g6) (okName_1 g7) (okName_2 g7) (c.at g8.1.1) (c.vis g8.1.2) (okName_1 g8.2) (okName_2 g8.2) (ev_ok e true c rm g4 hn (.inl rfl)) (by rw [star_of g3]; rfl) rfl (base_of rfl) (base_of rfl) (few_of rfl) (few_of g3) h2 g2 rfl (swaps_of rfl _ _)
          · cases g8
        · cases h4
      · cases h
    · cases h
  | .pt i tg, X, N, sc, k, s, c, rm, h, hn => by
    unfold chkT at h
    split at h
    · rename_i u hu
      rw [yAsg_eq hu]
      split at h
      · rename_i o p q hp
        simp only [Bool.and_eq_true, decide_eq_true_eq] at h
        obtain ⟨⟨⟨⟨h1, h2⟩, h3⟩, h4⟩, h5⟩ := h
        split at h5
        · rename_i n hn'
          simp only [Bool.and_eq_true] at h5
          have e1 := xPop0_eq hp
          rw [e1] at h4 ⊢
          simp only at h4 ⊢
          rw [xName_eq hn'] at h4 ⊢
          exact qs_popTo (c.at h5.1.1) (c.vis h5.1.2) (okName_1 h5.2) (okName_2 h5.2) (tg_ok c tg _ h3) (base_of rfl) h1 (soles_of rfl) (swP_ok c.esc c.kind h4) (by rw [each_of h2]; rfl)
        · cases h5
      · cases h
    · cases h
  | .app i e, X, N, sc, k, s, c, rm, h, hn => by
    unfold chkT at h
    unfold ndT at hn
    split at h
    · rename_i u hu
      rw [yExpr_eq hu]
      split at h
      · rename_i o m p x q hm
        simp only [Bool.and_eq_true, Bool.not_eq_true', decide_eq_true_eq] at h
        obtain ⟨⟨⟨⟨⟨h1, h2⟩, h3⟩, h4⟩, h5⟩, h6⟩ := h
        split at h6
        · rename_i n hn'
          simp only [Bool.and_eq_true] at h6
          rw [xMeth_eq hm]
          subst h1
          rw [xName_eq hn']
          exact qs_app (c.at h6.1.1) (c.vis h6.1.2) (okName_1 h6.2) (okName_2 h6.2) (ev_ok e false c rm h3 hn (.inr h4)) (by rw [star_of h2]; rfl) rfl (atbase (c.vis h6.1.2)) (few_of h2) h5 rfl (swaps_of rfl _ _)
        · cases h6
      · cases h
    · cases h
  | .ext i e, X, N, sc, k, s, c, rm, h, hn => by
    unfold chkT at h
    unfold ndT at hn
    split at h
    · rename_i u hu
      rw [yExpr_eq hu]
      split at h
      · rename_i o m p x q hm
        simp only [Bool.and_eq_true, Bool.not_eq_true', decide_eq_true_eq] at h
        obtain ⟨⟨⟨⟨h1, h2⟩, h3⟩, h5⟩, h6⟩ := h
        split at h6
        · rename_i n hn'
          simp only [Bool.and_eq_true] at h6
          rw [xMeth_eq hm]
          subst h1
          rw [xName_eq hn']
          exact qs_ext (x := true) (c.at h6.1.1) (c.vis h6.1.2) (okName_1 h6.2) (okName_2 h6.2) (ev_ok e true c rm h3 hn (.inl rfl)) (by rw [star_of h2]; rfl) rfl (atbase (c.vis h6.1.2)) (few_of h2) h5 rfl (swaps_of rfl _ _)
        · cases h6
      · cases h
    · cases h
  | .six i e kk, X, N, sc, k, s, c, rm, h, hn => by
    unfold chkT at h
    unfold ndT at hn
    split at h
    · rename_i u hu
      rw [yAsg_eq hu]
      simp only [Bool.and_eq_true, Bool.not_eq_true'] at h
      obtain ⟨⟨⟨h1, h2⟩, h3⟩, h4⟩ := h
      split at h4
      · rename_i v hv
        simp only [Bool.and_eq_true] at h4
        obtain ⟨⟨h4, h5⟩, h6⟩ := h4
        split at h6
        · rename_i n hn'
          simp only [Bool.and_eq_true] at h6
          rw [xSub_eq hv, xName_eq hn']
          exact qs_setIx (x := true) (c.at h6.1.1) (c.vis h6.1.2) (okName_1 h6.2) (okName_2 h6.2) (ev_ok e false c rm h1 hn.1 (.inr h2)) (ev_ok kk true c rm h4 hn.2 (.inl rfl)) (sub_eq h5) (soles_of h3) rfl rfl
        · cases h6
      · cases h4
    · cases h
  | .pset i j e, X, N, sc, k, s, c, rm, h, hn => by
    unfold chkT at h
    unfold ndT at hn
    split at h
    · rename_i u hu
      rw [yAsg_eq hu]
      simp only [Bool.and_eq_true, Bool.not_eq_true'] at h
      obtain ⟨⟨⟨h1, h2⟩, h3⟩, h4⟩ := h
      split at h4
      · rename_i v hv
        split at h4
        · rename_i kc k1 k2 hc
          simp only [Bool.and_eq_true, decide_eq_true_eq] at h4
          obtain ⟨hj, h6⟩ := h4
          split at h6
          · rename_i n hn'
            simp only [Bool.and_eq_true] at h6
            rw [xSub_eq hv, xName_eq hn', xConst_eq hc]
            subst hj
            exact qs_pset (c.at h6.1.1) (c.vis h6.1.2) (okName_1 h6.2) (okName_2 h6.2) (ev_ok e false c rm h1 hn (.inr h2)) q_int (sub_eq rfl) (soles_of h3) rfl rfl
          · cases h6
        · cases h4
      · cases h4
    · cases h
  | .for tg it b, X, N, sc, k, s, c, rm, h, hn => by
    unfold chkT at h
    unfold ndT at hn
    split at h
    · rename_i u hu
      rw [yFor_eq hu]
      simp only [Bool.and_eq_true] at h
      obtain ⟨⟨⟨⟨h1, h1'⟩, h2⟩, h3⟩, h4⟩ := h
      exact qs_for c.own c.calm (evI_ok it true c rm h1 h1' hn.1) (tg_ok c tg _ h3) (ts_ok b c rm h4 hn.2) (folded_of h2)
    · cases h
  | .while n e b, X, N, sc, k, s, c, rm, h, hn => by
    unfold chkT at h
    unfold ndT at hn
    split at h
    · rename_i u hu
      rw [yWhile_eq hu]
      simp only [Bool.and_eq_true, Bool.not_eq_true'] at h
      exact qs_while c.own (evt_ok e c rm h.1.1 hn.1 h.1.2) (ts_ok b c rm h.2 hn.2)
    · cases h
theorem ts_ok : ∀ (t : Ts) {X : Cx} {N : List Str} {sc : Scope} {k : Nat} {ss : List Stmt} (c : Cok X true N sc) (rm : Rm k X.A) (h : chkTs N sc t ss = true) (hn : ndTs (NdOk X.prog X.w X.K X.mg X.base k) t), QSs X ss (evTs t)
  | .nil, X, N, sc, k, ss, c, rm, h, hn => by
    unfold chkTs at h
    cases ss with
    | nil => exact qss_nil
    | cons _ _ => cases h
  | .cons t r, X, N, sc, k, ss, c, rm, h, hn => by
    unfold chkTs at h
    unfold ndTs at hn
    cases ss with
    | nil => cases h
    | cons s rs =>
      rw [Bool.and_eq_true] at h
      exact qss_cons (t_ok t c rm h.1 hn.1) (ts_ok r c rm h.2 hn.2)
  | .fz i r, X, N, sc, k, ss, c, rm, h, hn => by
    unfold chkTs at h
    unfold ndTs at hn
    exact qss_fz (ts_ok r c rm h hn)
end
end Rf
namespace Rf
open PySem L2 PySem.Spec PyProof.Rows
/-! ## a def by its tree -/
def st0 (n : Nat) (ds : List D) : S := ds.map Sl.v ++ List.replicate (n - ds.length) Sl.e
def outF (fl : Fl) (w : W) : R D := match fl with
  | .nx _ => .ok .non w
  | .rt d => .ok d w
  | _ => .no
def runF (n : Nat) (g : S → W → R Fl) : List D → W → R D := fun ds w => bnd (g (st0 n ds) w) outF
theorem mk_none {O : Addr → Prop} {po : Option Addr} {H0 H : Hp} : Mk ⟨H0, O, po⟩ (fun _ => none) H = mask (hid0 O po) H := by
  unfold Mk hid hid0
  congr 1
  funext a
  simp
theorem sim0 {K : PySem.W.Frag} {O : Addr → Prop} {po : Option Addr} {ds : List D} {vs : List V} {w : W} {H : Hp} {N : List Str} (hO : ∀ a, O a → H a ≠ none) (hp : ∀ a, po = some a → ¬ O a ∧ H a ≠ none) (hd : DnAll K po (mask (hid0 O po) H) vs ds)
    (hw : PotIs po w H) : Sim K ⟨H, O, po⟩ (fun _ => none) (st0 N.length ds) w (L2.start N vs) H := by
  have hl := hd.length
  refine ⟨fun a o h _ => h, hO, fun a h => ⟨(hp a h).1, (hp a h).2, (hp a h).2⟩, ?_, ?_, fun _ _ => rfl, (fun i p h => by cases h), (fun i j p h => by cases h), hw⟩
  · unfold L2.start st0; simp [hl]
  · intro i x hx
    unfold st0 at hx
    by_cases hi : i < ds.length
    · rw [List.getElem?_append_left (by simpa using hi), List.getElem?_map] at hx
      cases e : ds[i]? with
      | none => rw [e] at hx; cases hx
      | some d =>
        rw [e] at hx; cases hx
        obtain ⟨v, hv, q⟩ := hd.get e
        refine ⟨rfl, v, ?_, by rw [mk_none]; exact q⟩
        unfold L2.start
        rw [List.getElem?_append_left (by rw [List.length_map]; omega), List.getElem?_map, hv]; rfl
    · rw [List.getElem?_append_right (by simpa using hi), List.getElem?_replicate] at hx
      split at hx
      · cases hx; exact rfl
      · cases hx
theorem run_tr {K : PySem.W.Frag} {N : List Str} {g : S → W → R Fl} {n : Nat} {vs : List V} {H : Hp} {Q : VK} {E : XK} (h : spF K (runF N.length g) n vs H Q E) :
    trS K g { nx := fun _ H' => Q .non H', rt := Q } (L2.start N vs) H := by
  obtain ⟨O, po, ds, w, r, w', h1, h2, h3, h4, h5, h6, h7⟩ := h
  obtain ⟨fl, w2, e1, e2⟩ := bnd_inv h6
  have m := sim0 (N := N) h2 h3 h4 h5
  have key : ∀ (ow' : Ow) (s' : S) (σ' : L2.St) (H' : Hp), Sim K ⟨H, O, po⟩ ow' s' w2 σ' H' → Post po w2 H H' := fun ow' s' σ' H' m' => by
    refine ⟨fun a o e n => m'.keep a o e n, fun a ha => ?_, m'.pot⟩
    by_cases q : po = some a
    · exact (m'.pO a q).2.2
    · cases e : H a with
      | none => exact absurd e ha
      | some o => rw [m'.keep a o e q]; simp
  refine ⟨⟨H, O, po⟩, fun _ => none, _, w, fl, w2, m, e1, ?_⟩
  cases fl with
  | nx s =>
    cases e2
    exact fun ow' σ' H' l m' => h7 _ _ (key _ _ _ _ m') .non
  | rt d =>
    cases e2
    refine fun v ow' s' σ' H' l m' hd => h7 _ _ (key _ _ _ _ m') (Dn.mono (mask_mono fun a o e n => ⟨e, fun q => n (q.imp .inl id)⟩) hd)
  | bk s => cases e2
  | ct s => cases e2
theorem fd_of {P : Program} {w : World} {K : PySem.W.Frag} {mg : Str → Option Value} {base : Heap} {k n : Nat} {x qual : Str} {params : Arguments} {body : List Stmt} {scope : Scope} {f : Addr} {fd : FuncData} {N ps : List Str} {t : Ts}
    (F : FunD K x qual params body scope [] [] f fd) (sc : FnScope N ps scope) (hn : ps.length = n) (hb : Binds K fd ps []) (hm : mg x = some (.ref f)) (hc : chkTs N scope t body = true) (ht : ndTs (NdOk P w K mg base k) t) :
    Fd P w K mg base (k + 1) x n (runF N.length (evTs t)) := by
  subst hn
  refine ⟨⟨f, fd, ps, fn_g F sc (fun vs H Q E h => h.choose_spec.choose_spec.choose_spec.choose_spec.choose_spec.choose_spec.1) fun cdv A outer s H vs Q E hr hs => ?_, hm, F.kp, hb⟩⟩
  exact ⟨_, (ts_ok t (X := (cxOf CX0 P w K mg base N qual scope f cdv A outer s H E).nox) ⟨rfl, rfl, sc.nd, rfl, sc.kind, fun _ _ => rfl, rfl, by have := hr.r.un; show (A.deeper (envOfC qual scope s.heap.objs.size f cdv)).units + 65 < cLine; omega⟩ hr hc ht).pss, run_tr hs⟩
end Rf
namespace Rf
open PySem L2 PySem.Spec PyProof.Rows
/-! ## the pot's maker: a def whose list is new -/
def spN (K : PySem.W.Frag) (F : List D → W → R (List D)) (n : Nat) : Sp := fun vs H Q _ => ∃ (O : Addr → Prop) (po : Option Addr) (ds : List D) (w : W) (rs : List D) (w' : W),
  vs.length = n ∧ (∀ a, O a → H a ≠ none) ∧ (∀ a, po = some a → ¬ O a ∧ H a ≠ none) ∧ DnAll K po (mask (hid0 O po) H) vs ds ∧ PotIs po w H ∧ F ds w = .ok rs w' ∧
    ∀ p us H', Post po w' H H' → H p = none → H' p = some (.lst us) → DnAll K po (mask (hid0 O po) H') us rs → Q (.ref p) H'
def nxF {α : Type} (fl : Fl) (w : W) (k : S → W → R α) : R α := match fl with
  | .nx s => k s w
  | _ => .no
def runN (n : Nat) (g1 g2 g3 : S → W → R Fl) (ff : S → W → R (List D)) : List D → W → R (List D) := fun ds w =>
  bnd (g1 (st0 n ds) w) fun f1 w1 => nxF f1 w1 fun s1 w1 => bnd (g2 s1 w1) fun f2 w2 => nxF f2 w2 fun s2 w2 => bnd (g3 s2 w2) fun f3 w3 => nxF f3 w3 ff
theorem nxF_inv {α : Type} {fl : Fl} {w w' : W} {k : S → W → R α} {r : α} (h : nxF fl w k = .ok r w') : ∃ s, fl = .nx s ∧ k s w = .ok r w' := by
  cases fl with
  | nx s => exact ⟨s, rfl, h⟩
  | bk s => cases h
  | ct s => cases h
  | rt d => cases h
theorem runN_tr {K : PySem.W.Frag} {N : List Str} {g1 g2 g3 : S → W → R Fl} {ff : S → W → R (List D)} {n : Nat} {vs : List V} {H : Hp} {Q : VK} {E : XK} (h : spN K (runN N.length g1 g2 g3 ff) n vs H Q E) :
    tSeq (trS K g1) (tSeq (trS K g2) (tSeq (trS K g3) (tRet (trF K ff)))) { nx := fun _ H' => Q .non H', rt := Q } (L2.start N vs) H := by
  obtain ⟨O, po, ds, w, r, w', h1, h2, h3, h4, h5, h6, h7⟩ := h
  obtain ⟨f1, w1, e1, h6⟩ := bnd_inv h6
  obtain ⟨s1, rfl, h6⟩ := nxF_inv h6
  obtain ⟨f2, w2, e2, h6⟩ := bnd_inv h6
  obtain ⟨s2, rfl, h6⟩ := nxF_inv h6
  obtain ⟨f3, w3, e3, h6⟩ := bnd_inv h6
  obtain ⟨s3, rfl, h6⟩ := nxF_inv h6
  have m0 := sim0 (N := N) h2 h3 h4 h5
  refine ⟨⟨H, O, po⟩, fun _ => none, _, w, _, w1, m0, e1, fun ow1 σ1 H1 _ m1 => ⟨⟨H, O, po⟩, ow1, _, w1, _, w2, m1, e2, fun ow2 σ2 H2 _ m2 => ⟨⟨H, O, po⟩, ow2, _, w2, _, w3, m2, e3, fun ow3 σ3 H3 _ m3 => ⟨⟨H, O, po⟩, ow3, _, w3, _, w', m3, h6, fun p us H' p' hp hp' hd => ?_⟩⟩⟩⟩
  have keep : ∀ a o, H a = some o → po ≠ some a → H' a = some o := fun a o e n => p'.keep a o (m3.keep a o e n) n
  refine h7 p us H' ⟨keep, fun a ha => ?_, p'.pot⟩ ?_ hp' (DnAll.mono (mask_mono fun a o e n => ⟨e, fun q => n (.inl ?_)⟩) hd)
  · by_cases q : po = some a
    · exact p'.there a (m3.pO a q).2.2
    · cases e : H a with
      | none => exact absurd e ha
      | some o => rw [keep a o e q]; simp
  · cases e : H p with
    | none => rfl
    | some o =>
      by_cases q : po = some p
      · exact absurd hp (m3.pO p q).2.2
      · rw [m3.keep p o e q] at hp; cases hp
  · rcases q with q | q
    · exact .inl (.inl q)
    · exact .inr q
/-- a def of the module that gives a new list -/
structure Fdn (P : Program) (w : World) (K : PySem.W.Frag) (mg : Str → Option Value) (base : Heap) (k : Nat) (x : Str) (n : Nat) (F : List D → W → R (List D)) : Prop where
  ex : ∃ (f : Addr) (fd : FuncData) (ps : List Str), FnG P w K mg base k f fd ps (spN K F n) ∧ mg x = some (.ref f) ∧ PySem.W.keepIn K (.ref f) = true ∧ Binds K fd ps []
def chkPot (N : List Str) (sc : Scope) (t1 t2 t3 : T) (f : Fr) : List Stmt → Bool
  | [s1, s2, s3, s4] => chkT N sc t1 s1 && chkT N sc t2 s2 && chkT N sc t3 s3 && (match yRet s4 with
    | some (some x, _) => chkF N sc f x
    | _ => false)
  | _ => false
theorem fdn_of {P : Program} {w : World} {K : PySem.W.Frag} {mg : Str → Option Value} {base : Heap} {k n : Nat} {x qual : Str} {params : Arguments} {body : List Stmt} {scope : Scope} {f : Addr} {fd : FuncData} {N ps : List Str} {t1 t2 t3 : T} {fr : Fr}
    (F : FunD K x qual params body scope [] [] f fd) (sc : FnScope N ps scope) (hn : ps.length = n) (hb : Binds K fd ps []) (hm : mg x = some (.ref f)) (hc : chkPot N scope t1 t2 t3 fr body = true)
    (h1 : ndT (NdOk P w K mg base k) t1) (h2 : ndT (NdOk P w K mg base k) t2) (h3 : ndT (NdOk P w K mg base k) t3) (h4 : ndF (NdOk P w K mg base k) fr) :
    Fdn P w K mg base (k + 1) x n (runN N.length (evT t1) (evT t2) (evT t3) (evF fr)) := by
  subst hn
  unfold chkPot at hc
  split at hc
  · rename_i s1 s2 s3 s4
    simp only [Bool.and_eq_true] at hc
    obtain ⟨⟨⟨c1, c2⟩, c3⟩, c4⟩ := hc
    split at c4
    · rename_i e p he
      rw [yRet_eq he] at F
      refine ⟨⟨f, fd, ps, fn_g F sc (fun vs H Q E h => h.choose_spec.choose_spec.choose_spec.choose_spec.choose_spec.choose_spec.1) fun cdv A outer s H vs Q E hr hs => ?_, hm, F.kp, hb⟩⟩
      have ck : Cok (cxOf CX0 P w K mg base N qual scope f cdv A outer s H E).nox true N scope := ⟨rfl, rfl, sc.nd, rfl, sc.kind, fun _ _ => rfl, rfl, by have := hr.r.un; show (A.deeper (envOfC qual scope s.heap.objs.size f cdv)).units + 65 < cLine; omega⟩
      exact ⟨_, pss_cons (t_ok t1 ck hr c1 h1).ps (pss_cons (t_ok t2 ck hr c2 h2).ps (pss_cons (t_ok t3 ck hr c3 h3).ps (pss_one (ps_ret (evF_ok fr ck hr c4 h4).pe)))), runN_tr hs⟩
    · cases c4
  · cases hc
/-! ## the law's def -/
/-- what the law's own text asks of the defs it calls -/
structure LawP (Fc : List D → W → R D) (Fp : List D → W → R (List D)) (g : S → W → R Fl) (most : Int) (ns : List Int) : Prop where
  ex : ∃ zs : List Int, Fc [.scr ns, .int most] none = .ok (.lst (zs.map .int)) none ∧ ∀ z ∈ zs, ∃ pot : List Int, Fp [.scr ns, .int z] none = .ok (pot.map .int) none ∧
    ∃ s' w', g [.v (.scr ns), .v (.int z), .v .pot, .e] (some pot) = .ok (.nx s') w'
def spL (K : PySem.W.Frag) (ok : List Int → Prop) : Sp := fun vs H Q _ => ∃ (a : Addr) (ns : List Int), vs = [.ref a] ∧ SqL K H a (ns.map V.int) ∧ ok ns ∧ ∀ H', Q (.bl true) H'
structure Holds4 (K : PySem.W.Frag) (ns : List Int) (σ : L2.St) (H : Hp) : Prop where
  ex : ∃ a, σ.length = 4 ∧ σ[0]? = some (some (.ref a)) ∧ SqL K H a (ns.map V.int)
theorem hid_none {B : Bs} (hO : ∀ a, ¬ B.O a) (hp : B.po = none) (a : Addr) : ¬ hid B (fun _ => none) a := by
  rintro ((h | ⟨i, h⟩) | h)
  · exact hO a h
  · cases h
  · rw [hp] at h; cases h
theorem mk_all {B : Bs} (hO : ∀ a, ¬ B.O a) (hp : B.po = none) {H H' : Hp} (l : Le H H') : Le (Mk B (fun _ => none) H) (Mk B (fun _ => none) H') := mask_le2 l
/-- the frame of the law's def, before a turn -/
theorem sim4 {K : PySem.W.Frag} {ns : List Int} {σ : L2.St} {H : Hp} (h : Holds4 K ns σ H) : Sim K ⟨H, fun _ => False, none⟩ (fun _ => none) [.v (.scr ns), .e, .e, .e] none σ H := by
  obtain ⟨a, h1, h2, h3⟩ := h.ex
  refine ⟨fun _ _ e _ => e, (fun _ h => h.elim), (fun _ h => by cases h), by rw [h1]; rfl, ?_, fun _ _ => rfl, (fun i p h => by cases h), (fun i j p h => by cases h), trivial⟩
  intro i x hx
  match i, hx with
  | 0, hx =>
    cases hx
    refine ⟨rfl, _, h2, .scr ?_⟩
    rcases h3 with h3 | h3
    · refine .inl ?_
      rcases h3 with h3 | ⟨o, h3⟩
      · exact .inl (mask_some h3 (hid_none (fun _ h => h) rfl a))
      · exact .inr ⟨o, mask_some h3 (hid_none (fun _ h => h) rfl a)⟩
    · exact .inr h3
  | 1, hx => cases hx; exact rfl
  | 2, hx => cases hx; exact rfl
  | 3, hx => cases hx; exact rfl
  | i + 4, hx => cases hx
theorem Sim.holds4 {K : PySem.W.Frag} {B : Bs} {ow : Ow} {ns : List Int} {σ : L2.St} {H : Hp} {w : W} {s : S} (m : Sim K B ow s w σ H) (h0 : s[0]? = some (.v (.scr ns))) (hl : s.length = 4) : Holds4 K ns σ H := by
  obtain ⟨_, v, h1, h2⟩ := m.slot 0 _ h0
  cases h2 with
  | scr h2 => exact ⟨_, by rw [m.len, hl], h1, (mask_le _ _).sqL h2⟩
/-- the frame while a pot is looked at -/
theorem sim4p {K : PySem.W.Frag} {ns pot : List Int} {z : Int} {σ : L2.St} {H : Hp} {p : Addr} (h : Holds4 K ns σ H) (h1 : σ[1]? = some (some (.int z))) (h2 : σ[2]? = some (some (.ref p))) (hp : H p = some (.lst (pot.map V.int)))
    (hq : ∀ a, σ[0]? = some (some (.ref a)) → a ≠ p ∨ ∀ H' : Hp, SqL K H' a (ns.map V.int)) :
    Sim K ⟨H, fun _ => False, some p⟩ (fun _ => none) [.v (.scr ns), .v (.int z), .v .pot, .e] (some pot) σ H := by
  obtain ⟨a, e1, e2, e3⟩ := h.ex
  refine ⟨fun _ _ e _ => e, (fun _ h => h.elim), (fun b h => by cases h; exact ⟨fun h => h, (by show H p ≠ none; rw [hp]; simp), (by show H p ≠ none; rw [hp]; simp)⟩), by rw [e1]; rfl, ?_, fun _ _ => rfl, (fun i p h => by cases h), (fun i j p h => by cases h), ⟨p, rfl, hp⟩⟩
  intro i x hx
  match i, hx with
  | 0, hx =>
    cases hx
    refine ⟨rfl, _, e2, .scr ?_⟩
    rcases hq a e2 with hn | hn
    · have nh : ¬ hid ⟨H, fun _ => False, some p⟩ (fun _ => none) a := by
        rintro ((h | ⟨i, h⟩) | h)
        · exact h
        · cases h
        · cases h; exact hn rfl
      rcases e3 with h3 | h3
      · refine .inl ?_
        rcases h3 with h3 | ⟨o, h3⟩
        · exact .inl (mask_some h3 nh)
        · exact .inr ⟨o, mask_some h3 nh⟩
      · exact .inr h3
    · exact hn _
  | 1, hx => cases hx; exact ⟨rfl, _, h1, .int z⟩
  | 2, hx => cases hx; exact ⟨rfl, _, h2, .pot rfl⟩
  | 3, hx => cases hx; exact rfl
  | i + 4, hx => cases hx
theorem dn_int {K : PySem.W.Frag} {po : Option Addr} {H : Hp} {v : V} {i : Int} (h : Dn K po H v (.int i)) : v = .int i := by
  cases h; rfl
theorem law_tr {K : PySem.W.Frag} {ns : List Int} {vs : List Nat} {fi : S → W → R (List D)} {fa : S → W → R (List D)} {Fp : List D → W → R (List D)} {g h : S → W → R Fl} {σ : L2.St} {H : Hp} {Q : VK}
    (h4 : Holds4 K ns σ H) (hQ : ∀ H', Q (.bl true) H') (hr : ∀ s w, h s w = .ok (.rt (.bl true)) w) {zs : List Int} (hi : fi [.v (.scr ns), .e, .e, .e] none = .ok (zs.map .int) none)
    (hz : ∀ z ∈ zs, fa [.v (.scr ns), .v (.int z), .e, .e] none = .ok [.scr ns, .int z] none ∧ ∃ pot : List Int, Fp [.scr ns, .int z] none = .ok (pot.map .int) none ∧
      ∃ s' w', g [.v (.scr ns), .v (.int z), .v .pot, .e] (some pot) = .ok (.nx s') w' ∧ s'[0]? = some (.v (.scr ns)) ∧ s'.length = 4) :
    tSeq (tFor (trI K true fi) (trG K vs (bName 1)) (tSeq (tAsg (tCg (spN K Fp 2) (trA K false fa)) (gName 2)) (trS K g))) (trS K h) { nx := fun _ H' => Q .non H', rt := Q } σ H := by
  have fin : ∀ (σ2 : L2.St) (H2 : Hp), Holds4 K ns σ2 H2 → trS K h { nx := fun _ H' => Q .non H', rt := Q } σ2 H2 := fun σ2 H2 q =>
    ⟨_, _, _, _, _, _, sim4 q, hr _ _, fun v ow' s' σ' H' l m' hd => by
      have hd : Dn K none (Mk ⟨H2, fun _ => False, none⟩ ow' H') v (.bl true) := hd
      cases hd with
      | bl => exact hQ H'⟩
  refine ⟨_, _, _, _, _, _, sim4 h4, hi, fun J H1 p1 hJ => ?_⟩
  obtain ⟨G, Y, wk, g1, stab, yl⟩ := hJ
  have hO : ∀ a : Addr, ¬ (fun _ : Addr => False) a := fun _ h => h
  have le1 : Le H H1 := fun a o e => p1.keep a o e (fun z => nomatch z)
  rw [List.length_map] at wk
  refine ⟨fun i j σ2 H2 => j = zs.length - i ∧ i ≤ zs.length ∧ Holds4 K ns σ2 H2 ∧ Le H1 H2, ⟨zs.length, rfl, Nat.zero_le _, ?_, Le.refl _⟩, ?_⟩
  · obtain ⟨a, e1, e2, e3⟩ := h4.ex
    exact ⟨a, e1, e2, le1.sqL e3⟩
  rintro i j σ2 H2 ⟨rfl, hi', k4, l2⟩
  have gg := stab (fun _ => none) H2 (mk_all hO rfl l2)
  by_cases hlt : i < zs.length
  · refine .inr ⟨wk.goes i H2 hlt gg, fun σ' H' => Holds4 K ns σ' H' ∧ Le H1 H', fun σ' H' q => ⟨zs.length - (i + 1), by omega, rfl, hlt, q⟩, fun v H3 y => ?_⟩
    obtain ⟨le3, d, hd, hv⟩ := yl i H2 v H3 (fun _ => none) (mk_all hO rfl l2) (fun c hc => (hid_none hO rfl c hc).elim) gg (by rw [List.length_map]; exact hlt) (wk.yields i H2 v H3 hlt gg y)
    rw [List.getElem?_map, List.getElem?_eq_getElem hlt] at hd
    obtain rfl : V.int zs[i] = v := by cases hd; exact (dn_int hv).symm
    obtain ⟨f1, pot, f2, s', w', f3, f4, f5⟩ := hz zs[i] (List.getElem_mem hlt)
    have k4' : Holds4 K ns σ2 H3 := by
      obtain ⟨a, e1, e2, e3⟩ := k4.ex
      exact ⟨a, e1, e2, le3.sqL e3⟩
    refine ⟨_, _, _, _, .int zs[i], _, sim4 k4', .int _, rfl, fun ow4 σ4 l4 m4 el hs4 => ?_⟩
    have q4 : Holds4 K ns σ4 H3 := m4.holds4 rfl rfl
    obtain ⟨q5, v5, q6, q7⟩ := m4.slot 1 (.v (.int zs[i])) rfl
    rw [dn_int q7] at q6
    have m5 : Sim K ⟨H3, fun _ => False, none⟩ ow4 [.v (.scr ns), .v (.int zs[i]), .e, .e] none σ4 H3 := m4
    refine ⟨_, ow4, _, none, _, none, m5, f1, fun us H5 p5 h5 => ?_⟩
    have le5 : Le H3 H5 := fun a o e => p5.keep a o e (fun z => nomatch z)
    have hus := h5.dn
    refine ⟨fun _ => False, none, _, none, _, _, hus.length, fun _ h => h.elim, (fun _ h => nomatch h), DnAll.mono (mask_mono fun a o e n => ⟨e, fun q => ?_⟩) hus, trivial, f2, fun p ps H6 p6 hp hp6 hd6 => ?_⟩
    · rcases q with q | q
      · exact q
      · cases q
    have le6 : Le H5 H6 := fun a o e => p6.keep a o e (fun z => nomatch z)
    have hps := hd6.ints_inv
    subst hps
    obtain ⟨a, e1, e2, e3⟩ := q4.ex
    have e35 := le5.sqL e3
    have h1' : (σ4.set 2 (some (.ref p)))[1]? = some (some (.int zs[i])) := by rw [List.getElem?_set_ne (by decide)]; exact q6
    have h2' : (σ4.set 2 (some (.ref p)))[2]? = some (some (.ref p)) := by rw [List.getElem?_set_self (by omega)]
    have h0' : (σ4.set 2 (some (.ref p)))[0]? = some (some (.ref a)) := by rw [List.getElem?_set_ne (by decide)]; exact e2
    have k6 : Holds4 K ns (σ4.set 2 (some (.ref p))) H6 := ⟨a, by rw [List.length_set, e1], h0', le6.sqL e35⟩
    refine ⟨_, _, _, _, _, _, sim4p k6 h1' h2' hp6 (fun b hb => ?_), f3, fun ow7 σ7 H7 l7 m7 => ⟨m7.holds4 f4 f5, fun b o e => ?_⟩⟩
    · rw [h0'] at hb; cases hb
      rcases e35 with e | e
      · refine .inl fun q => ?_
        subst q
        rcases e with e | ⟨o, e⟩ <;> rw [hp] at e <;> cases e
      · exact .inr fun _ => .inr e
    · have e5 := le5 b o (le3 b o (l2 b o e))
      refine m7.keep b o (le6 b o e5) fun q => ?_
      cases q
      rw [hp] at e5; cases e5
  · have hi'' : i = zs.length := by omega
    subst hi''
    exact .inl ⟨wk.stops H2 gg, fin σ2 H2 k4⟩
end Rf
namespace Rf
open PySem L2 PySem.Spec PyProof.Rows
def potEs : Es := .cons (.v 0) (.cons (.v 1) .nil)
def potN : Str := "_law_pot"
def chkLaw (N : List Str) (sc : Scope) (it : It) (t2 : T) : List Stmt → Bool
  | [f, r] => (match yFor f with
    | some u => chkI N sc true it u.2.1 && tgI it u.1 && noSet u.2.1 && chkTg true N sc (.n 1) u.1 && (match u.2.2.1 with
      | [s1, s2] => chkT N sc t2 s2 && (match yAsg s1 with
        | some q => noComp q.2.1 && (match xName q.1, xCall q.2.1 with
          | some n, some (x, _, a :: as, _) => atB N 2 n.1 && locB true sc n.1 && decide (x = potN) && glB sc x && chks N sc false potEs (a :: as) && (a :: as).all noStar
          | _, _ => false)
        | none => false)
      | _ => false)
    | none => false) && chkT N sc (.ret (.k (.bl true))) r
  | _ => false
structure LawOk (it : It) (Fp : List D → W → R (List D)) (t2 : T) (ns : List Int) : Prop where
  ex : ∃ zs : List Int, evI it [.v (.scr ns), .e, .e, .e] none = .ok (zs.map .int) none ∧ ∀ z ∈ zs, ∃ pot : List Int, Fp [.scr ns, .int z] none = .ok (pot.map .int) none ∧
      ∃ s' w', evT t2 [.v (.scr ns), .v (.int z), .v .pot, .e] (some pot) = .ok (.nx s') w' ∧ s'[0]? = some (.v (.scr ns)) ∧ s'.length = 4
theorem law_of {P : Program} {w : World} {K : PySem.W.Frag} {mg : Str → Option Value} {base : Heap} {k : Nat} {x qual : Str} {params : Arguments} {body : List Stmt} {scope : Scope} {f : Addr} {fd : FuncData} {N : List Str} {y : Str}
    {it : It} {t2 : T} {Fp : List D → W → R (List D)} {ok : List Int → Prop}
    (F : FunD K x qual params body scope [] [] f fd) (sc : FnScope N [y] scope) (hl : N.length = 4) (hc : chkLaw N scope it t2 body = true) (h1 : ndI (NdOk P w K mg base k) it) (h2 : ndT (NdOk P w K mg base k) t2) (hp : Fdn P w K mg base k potN 2 Fp)
    (hok : ∀ ns, ok ns → LawOk it Fp t2 ns) : FnG P w K mg base (k + 1) f fd [y] (spL K ok) := by
  unfold chkLaw at hc
  split at hc
  · rename_i sf sr
    rw [Bool.and_eq_true] at hc
    obtain ⟨hc, c3⟩ := hc
    split at hc
    · rename_i u hu
      simp only [Bool.and_eq_true] at hc
      obtain ⟨⟨⟨⟨a1, a1'⟩, a2⟩, a3⟩, a4⟩ := hc
      split at a4
      · rename_i s1 s2 hb
        rw [Bool.and_eq_true] at a4
        obtain ⟨b1, b2⟩ := a4
        split at b2
        · rename_i q hq
          rw [Bool.and_eq_true] at b2
          obtain ⟨b0, b2⟩ := b2
          split at b2
          · rename_i n x' p' a as q' hn hx
            simp only [Bool.and_eq_true, decide_eq_true_eq] at b2
            obtain ⟨⟨⟨⟨⟨d1, d2⟩, d3⟩, d4⟩, d5⟩, d6⟩ := b2
            rw [yFor_eq hu, hb, yAsg_eq hq, xName_eq hn, xCall_eq hx, d3] at F
            rw [d3] at d4
            refine fn_g F sc (fun vs H Q E h => ?_) fun cdv A outer s H vs Q E hr hs => ?_
            · obtain ⟨_, _, rfl, _⟩ := h; rfl
            have ck : Cok (cxOf CX0 P w K mg base N qual scope f cdv A outer s H E).nox true N scope := ⟨rfl, rfl, sc.nd, rfl, sc.kind, fun _ _ => rfl, rfl, by have := hr.r.un; show (A.deeper (envOfC qual scope s.heap.objs.size f cdv)).units + 65 < cLine; omega⟩
            obtain ⟨fp, fdp, pp, gF, gm, gk, gb⟩ := hp.ex
            obtain ⟨l1, l2⟩ := ck.loc d2
            have st : ∀ r : List Expr, (a :: as).all noStar = true → starEach (a :: as) (cxOf CX0 P w K mg base N qual scope f cdv A outer s H E).nox.env = (false, eval a (cxOf CX0 P w K mg base N qual scope f cdv A outer s H E).nox.env) :: starEach as (cxOf CX0 P w K mg base N qual scope f cdv A outer s H E).nox.env := fun _ z => by
              rw [List.all_cons, Bool.and_eq_true] at z; exact star_of z.1 _
            have pot := pe_g (X := (cxOf CX0 P w K mg base N qual scope f cdv A outer s H E).nox) (p := p') (pos := q') gF hr (ck.gl d4) gm gk gb (evs_ok potEs false ck hr d5 ⟨trivial, trivial, trivial⟩).pa (by decide +kernel) (st [] d6) (star_plain (by rw [List.all_cons, Bool.and_eq_true] at d6; exact d6.2))
            obtain ⟨b, ns, rfl, h4, h5, h6⟩ := hs
            refine ⟨_, pss_cons (ps_for ck.own ck.calm (evI_ok it true ck hr a1 a1' h1).pi (tg_ok ck (.n 1) _ a3).pg (pss_cons (ps_set (by rw [ck.n]; exact ck.nd) (ck.at d1) l1 pot (by rfl) l2) (pss_one (t_ok t2 ck hr b1 h2).ps)) (folded_of a2)) (pss_one (t_ok (.ret (.k (.bl true))) ck hr c3 (by unfold ndT nd; trivial)).ps), ?_⟩
            obtain ⟨zs, e1, e2⟩ := (hok ns h5).ex
            refine law_tr (ns := ns) ⟨b, ?_, ?_, h4⟩ h6 (fun _ _ => rfl) e1 fun z hz => ⟨rfl, e2 z hz⟩
            · unfold L2.start; simp [hl]
            · unfold L2.start; rfl
          · cases b2
        · cases b2
      · cases a4
    · cases hc
  · cases hc
end Rf
namespace Rf
open PySem L2 PySem.Spec PyProof.Rows
/-! ## the law's call, where no repr is under way -/
section
variable {P : Program} {w : World} {K : PySem.W.Frag} {mg mb : Str → Option Value}
theorem hid_base {s : Shared} {H : Hp} {a : Addr} {o : Obj} (hA : ∀ b, H b ≠ none → b = a) (ha : s.heap.get? a = some o) (hs : ∀ (es : Array DictEntry) (n : Nat), o.data ≠ .dict es n) {b : Addr} {m : Str → Option Value} (n : s.heap.Ns b m) :
    (hidT s.heap H).Ns b m := by
  obtain ⟨o', es, ep, e, d, r⟩ := n
  refine ⟨o', es, ep, hidT_get e ?_, d, r⟩
  by_cases q : H b = none
  · exact q
  · have z := hA b q
    subst z
    rw [ha] at e
    cases e
    exact absurd d (hs es ep)
theorem law_go {k : Nat} {fa a : Addr} {fd : FuncData} {x : Str} {sp : Sp} {s : Shared} {vs : List Value} {ns : List Int}
    (KX : K.In s.heap) (n1 : s.heap.Ns mainGlobals mg) (n2 : s.heap.Ns builtinsNs mb) (n3 : ∀ x : Str, x ≠ "__name__" → mb x = bootBuiltins x) (n4 : s.heap.NoLimit) (n5 : s.gens = #[])
    (ha : s.heap.get? a = some { cls := .type "list", data := .seq vs.toArray }) (hi : IntsAre vs ns) (hl : ns.length ≤ sizeLine) (hr : Rm k callerA)
    (F : ∀ base : Heap, K.In base → base.Ns mainGlobals mg → FnG P w K mg base k fa fd [x] sp) (hbind : ∀ (s : Shared) (u : Value), BindsTo s fd ⟨[u], []⟩ [(x, u)])
    (hsp : ∀ H : Hp, SqL K H a (ns.map V.int) → sp [.ref a] H (fun v _ => v = .bl true) fun _ _ _ => False) :
    codeAny (model P w) callerA (.call (.ref fa) ⟨[.ref a], []⟩) (fun r s' => r = .ok (.ret (.bool true)) ∧ OldK s.heap s'.heap ∧ s'.os = s.os ∧ AllBare s'.gens) s := by
  have rv := vals_ints hi
  have lv := hi.length
  have dc : ∀ (es : Array DictEntry) (n : Nat), ({ cls := .type "list", data := .seq vs.toArray } : Obj).data ≠ .dict es n := fun _ _ h => nomatch h
  have go : ∀ H : Hp, SqL K H a (ns.map V.int) → HOk P w H s.heap → (∀ b, H b ≠ none → b = a) → (H a ≠ none → K.lookup a = none) → (∀ b u, H b = some u → ∃ o xs, u = .frz o (.lst xs)) →
      codeAny (model P w) callerA (.call (.ref fa) ⟨[.ref a], []⟩) (fun r s' => r = .ok (.ret (.bool true)) ∧ OldK s.heap s'.heap ∧ s'.os = s.os ∧ AllBare s'.gens) s := by
    intro H hS hok hA hK hF
    have nm : ∀ {b : Addr} {m : Str → Option Value}, s.heap.Ns b m → (hidT s.heap H).Ns b m := fun n => hid_base hA ha dc n
    have kb : K.In (hidT s.heap H) := fun b o e => hidT_get (KX b o e) (by
      by_cases q : H b = none
      · exact q
      · have z := hA b q
        subst z
        rw [hK q] at e
        cases e)
    obtain ⟨mc, m1, m2⟩ := n4
    have e0 : Env0 P w K mg (hidT s.heap H) callerA [] s H :=
      ⟨rfl, ⟨kb, nm n1, ⟨mb, nm n2, n3⟩, mc, nm m1, m2⟩, fun b o e => of_hidT e, Nat.le_of_eq (hidT_size _ _), trivial, fun b hb => (nomatch hb), hok, .of_eq n5⟩
    have run := (F _ kb (nm n1)).go callerA [] s H ⟨[.ref a], []⟩ [.ref a] [.ref a] _ _ hr e0 (hbind s (.ref a)) (.cons rfl .nil) (hsp H hS)
    refine codeAny_mono run fun r s' h => ?_
    match r, h with
    | .error e, h => exact False.elim h
    | .ok .next, h => exact False.elim h
    | .ok .brk, h => exact False.elim h
    | .ok .cont, h => exact False.elim h
    | .ok (.ret u), ⟨v, H', os, bare, un, hok', r', q⟩ =>
      have q' : v = .bl true := q
      subst q'
      have hu : u = Value.bool true := r'
      subst hu
      refine ⟨rfl, OldK.of_keep fun b o e => ?_, os, bare⟩
      cases hb : H b with
      | none => exact un.keep b o e hb (fun z => nomatch z) (by simp)
      | some u =>
        obtain ⟨ob, xs, rfl⟩ := hF b u hb
        obtain ⟨g1, _⟩ := hok b _ hb
        obtain ⟨g2, _⟩ := hok' b _ (un.frzs b ob _ hb)
        rw [e] at g1
        cases g1
        exact g2
  by_cases hK : K.lookup a = none
  · have fz : HOk P w (upd (fun _ => none) a (.frz { cls := .type "list", data := .seq vs.toArray } (.lst (ns.map V.int)))) s.heap := by
      intro b u hb
      by_cases q : b = a
      · subst q
        rw [upd_same] at hb
        cases hb
        have hn : (ns.map V.int).length ≤ sizeLine := by rw [List.length_map]; exact hl
        exact ⟨ha, hn, vs, _, rv, ha⟩
      · rw [upd_ne q] at hb; cases hb
    refine go _ (.inl (.inr ⟨_, upd_same⟩)) fz (fun b hb => ?_) (fun _ => hK) fun b u hb => ?_
    · by_cases q : b = a
      · exact q
      · rw [upd_ne q] at hb; exact absurd rfl hb
    · by_cases q : b = a
      · subst q; rw [upd_same] at hb; cases hb; exact ⟨_, _, rfl⟩
      · rw [upd_ne q] at hb; cases hb
  · cases e : K.lookup a with
    | none => exact absurd e hK
    | some o =>
      have ho := KX a o e
      rw [ha] at ho
      cases ho
      exact go (fun _ => none) (.inr ⟨_, vs.toArray, _, e, rfl, rfl, rfl, by simpa [lv] using hl, by simpa using rv⟩) (fun b u h => nomatch h) (fun b h => absurd rfl h) (fun h => absurd rfl h) (fun b u h => nomatch h)
theorem walk_g {l : PySem.W.OpenLaw} {n k : Nat} {q : Program} {loose : List Str} {XP : (Str → Option Value) → Heap → Prop} {YP : World → Heap → Prop} {d : DefRec} {x : Str} {ok : List Int → Prop}
    (g1 : l.most = some n) (g2 : n ≤ sizeLine) (g3 : d.params.defaults = []) (g4 : Room k callerA) (g5 : ∀ ns : List Int, ns.length ≤ n → (∀ z ∈ ns, Builtin.Int.intBits z ≤ 1048576) → ok ns)
    (F : ∀ (w : World) (mg : Str → Option Value) (fa : Addr) (h : Heap), YP w h → h.Ns mainGlobals mg → mg d.name = some (.ref fa) → ∃ (K : PySem.W.Frag) (fd : FuncData), K.In h ∧
      (∀ (s : Shared) (u : Value), BindsTo s fd ⟨[u], []⟩ [(x, u)]) ∧ ∀ base : Heap, K.In base → base.Ns mainGlobals mg → FnG l.prog w K mg base k fa fd [x] (spL K ok)) :
    PySem.W.WalkO q loose XP YP l.row.toRowW d [] (fun f vs => PySem.call f vs) := by
  refine Att.attach_callB g1 g3 fun w s₀ s₁ mg mb fa o pm cd doc a vs ns G Y ho hd hcd hmg hobj hints hlen hbits hg => ?_
  obtain ⟨K, fd, KX, hb, hF⟩ := F w mg fa _ Y G.T.g hmg
  have room : Rm k callerA := ⟨g4, rfl⟩
  exact law_go KX G.T.g G.T.b G.T.builtins G.T.nolimit hg hobj hints (Nat.le_trans hlen g2) room hF hb fun H hS => ⟨a, ns, rfl, hS, g5 ns hlen hbits, fun _ => rfl⟩
end
end Rf
namespace Rf
open PySem L2 PySem.Spec PyProof.Rows
/-! ## what the head tells of the module's names -/
mutual
theorem datB_ok {K : PySem.W.Frag} : ∀ {d : D} {u : Value}, datB K d u = true → ∃ v, RelV v u ∧ ∀ po H, Dn K po H v d
  | .non, u, h => by cases u <;> first | exact ⟨.non, rfl, fun _ _ => .non⟩ | (unfold datB at h; cases h)
  | .bl b, u, h => by cases u <;> first | (unfold datB at h; rw [← eq_of_beq h]; exact ⟨.bl b, rfl, fun _ _ => .bl b⟩) | (unfold datB at h; cases h)
  | .int i, u, h => by cases u <;> first | (unfold datB at h; rw [← of_decide_eq_true h]; exact ⟨.int i, ⟨_, rfl⟩, fun _ _ => .int i⟩) | (unfold datB at h; cases h)
  | .str x, u, h => by cases u <;> first | (unfold datB at h; rw [← of_decide_eq_true h]; exact ⟨.str x, ⟨_, rfl⟩, fun _ _ => .str x⟩) | (unfold datB at h; cases h)
  | .tup ds, u, h => by
    cases u with
    | ref a =>
      unfold datB at h
      split at h
      · rename_i c od its n sl hk
        simp only [Bool.and_eq_true, decide_eq_true_eq] at h
        obtain ⟨⟨h1, h2⟩, h3⟩ := h
        obtain ⟨vs, g1, g2⟩ := datsB_ok h3
        exact ⟨.ref a, rfl, fun po H => .tup (.inr ⟨_, its, n, hk, congrArg Value.type h1, rfl, h2, g1⟩) (g2 po H)⟩
      · cases h
    | _ => unfold datB at h; cases h
  | .lst _, u, h => by cases u <;> (unfold datB at h; cases h)
  | .dic _, u, h => by cases u <;> (unfold datB at h; cases h)
  | .pot, u, h => by cases u <;> (unfold datB at h; cases h)
  | .scr _, u, h => by cases u <;> (unfold datB at h; cases h)
  | .fn _, u, h => by cases u <;> (unfold datB at h; cases h)
theorem datsB_ok {K : PySem.W.Frag} : ∀ {ds : List D} {us : List Value}, datsB K ds us = true → ∃ vs, Vals vs us ∧ ∀ po H, DnAll K po H vs ds
  | [], [], _ => ⟨[], .nil, fun _ _ => .nil⟩
  | d :: ds, u :: us, h => by
    unfold datsB at h
    rw [Bool.and_eq_true] at h
    obtain ⟨v, g1, g2⟩ := datB_ok h.1
    obtain ⟨vs, g3, g4⟩ := datsB_ok h.2
    exact ⟨v :: vs, .cons g1 g3, fun po H => .cons (g2 po H) (g4 po H)⟩
  | [], _ :: _, h => by unfold datsB at h; cases h
  | _ :: _, [], h => by unfold datsB at h; cases h
end
section
variable {fa : List He.Fa} {fn : List He.DefD} {cs : List Cn} {K : PySem.W.Frag}
theorem SaysX.says (c : SaysX fa fn cs K) : He.SaysD fa fn K := congrArg (fun z : AlX => z.1) c
theorem SaysX.cn (c : SaysX fa fn cs K) (i : Nat) {f : Cn} (h : cs[i]? = some f := by rfl) : f.ok K = true :=
  List.all_eq_true.mp (show cs.all (Cn.ok K) = true from congrArg (fun z : AlX => z.2) c) f (List.mem_of_getElem? h)
variable {P : Program} {w : World} {mg : Str → Option Value} {base : Heap} {k : Nat}
theorem dat_ok (X : K.In base) (G : base.Ns mainGlobals mg) {x : Str} {d : D} (c : (Cn.dat x d).ok K = true) : NdOk P w K mg base k (.gl x d) := by
  unfold Cn.ok at c
  simp only at c
  split at c
  · rename_i u hu
    obtain ⟨v, h1, h2⟩ := datB_ok c
    exact ⟨v, u, PySem.W.mg_of X G hu, h1, h2⟩
  · cases c
theorem blt_ok (X : K.In base) (G : base.Ns mainGlobals mg) {x : Str} {id : String} (c : (Cn.blt x id).ok K = true) : NdOk P w K mg base k (.mb x id) := by
  unfold Cn.ok at c
  simp only at c
  split at c
  · rename_i j hu
    have h := PySem.W.mg_of X G hu
    rw [of_decide_eq_true c] at h
    exact h
  · cases c
end
end Rf
namespace Rf
open PySem L2 PySem.Spec PyProof.Rows
/-! ## evaluation by simp -/
section
variable {s : S} {w : W} {d : D} {i j : Nat} {e a b c : E} {es : Es} {ds : List D}
@[simp] theorem p_bnd {α β : Type} (a : α) (w : W) (k : α → W → R β) : bnd (.ok a w) k = k a w := rfl
@[simp] theorem p_opt {α : Type} (a : α) (w : W) : opt (some a) w = .ok a w := rfl
@[simp] theorem p_runF (n : Nat) (g : S → W → R Fl) : runF n g ds w = bnd (g (st0 n ds) w) outF := rfl
@[simp] theorem p_outN : outF (.nx s) w = .ok .non w := rfl
@[simp] theorem p_outR : outF (.rt d) w = .ok d w := rfl
@[simp] theorem p_v : ev (.v i) s w = fV i s w := rfl
@[simp] theorem p_fV (h : s[i]? = some (.v d)) : fV i s w = .ok d w := by unfold fV; rw [h]
@[simp] theorem p_o : ev (.o i) s w = fO i s w := rfl
@[simp] theorem p_fO (h : s[i]? = some (.o ds)) : fO i s w = .ok (.lst ds) w := by unfold fO; rw [h]
@[simp] theorem p_k (c : Kst) : ev (.k c) s w = .ok c.d w := rfl
@[simp] theorem p_kd1 : Kst.non.d = .non := rfl
@[simp] theorem p_kd2 (b : Bool) : (Kst.bl b).d = .bl b := rfl
@[simp] theorem p_kd3 (b : Int) : (Kst.int b).d = .int b := rfl
@[simp] theorem p_kd4 (b : Str) : (Kst.str b).d = .str b := rfl
@[simp] theorem p_g (x : Str) : ev (.g x d) s w = .ok d w := rfl
@[simp] theorem p_bin (op : Operator) : ev (.bin op a b) s w = bnd (ev a s w) fun x w1 => bnd (ev b s w1) fun y w2 => opt (binD op x y) w2 := rfl
@[simp] theorem p_neg : ev (.neg a) s w = bnd (ev a s w) fun x w1 => opt (negD x) w1 := rfl
@[simp] theorem p_cmp (op : CmpOp) : ev (.cmp op a b) s w = bnd (ev a s w) fun x w1 => bnd (ev b s w1) fun y w2 => opt (cmpD op x y) w2 := rfl
def chK (o : D → D → Option D) (b : D) (f : W → R D) (d : D) (w : W) : R D := match d with
  | .bl true => bnd (f w) fun c w4 => opt (o b c) w4
  | .bl false => .ok (.bl false) w
  | _ => .no
@[simp] theorem p_chK (o : D → D → Option D) (x : D) (f : W → R D) (t : Bool) : chK o x f (.bl t) w = if t = true then bnd (f w) fun c w4 => opt (o x c) w4 else .ok (.bl false) w := by cases t <;> rfl
@[simp] theorem p_ch (o1 o2 : CmpOp) : ev (.ch o1 o2 a b c) s w = bnd (ev a s w) fun x w1 => bnd (ev b s w1) fun y w2 => bnd (opt (cmpD o1 x y) w2) fun d w3 => chK (cmpD o2) y (ev c s) d w3 := rfl
def ifK {α : Type} (f g : W → R α) (d : D) (w : W) : R α := match d with
  | .bl true => f w
  | .bl false => g w
  | _ => .no
@[simp] theorem p_ifK {α : Type} (f g : W → R α) (t : Bool) : ifK f g (.bl t) w = if t = true then f w else g w := by cases t <;> rfl
@[simp] theorem p_ite : ev (.ite c a b) s w = bnd (ev c s w) fun d w1 => ifK (ev a s) (ev b s) d w1 := rfl
@[simp] theorem p_and1 : ev (.bo true (.cons e .nil)) s w = ev e s w := rfl
@[simp] theorem p_and2 (f : E) (r : Es) : ev (.bo true (.cons e (.cons f r))) s w = bnd (ev e s w) fun d w1 => ifK (ev (.bo true (.cons f r)) s) (fun w => .ok (.bl false) w) d w1 := rfl
@[simp] theorem p_or1 : ev (.bo false (.cons e .nil)) s w = ev e s w := rfl
@[simp] theorem p_or2 (f : E) (r : Es) : ev (.bo false (.cons e (.cons f r))) s w = bnd (ev e s w) fun d w1 => ifK (fun w => .ok (.bl true) w) (ev (.bo false (.cons f r)) s) d w1 := rfl
@[simp] theorem p_not : ev (.not a) s w = bnd (ev a s w) fun x w1 => opt (oNot x) w1 := rfl
@[simp] theorem p_oNot (t : Bool) : oNot (.bl t) = some (.bl (!t)) := rfl
@[simp] theorem p_tup : ev (.tup es) s w = bnd (evs es s w) fun ds w1 => if ds.length ≤ sizeLine then .ok (.tup ds) w1 else .no := rfl
@[simp] theorem p_ix : ev (.ix a b) s w = bnd (ev a s w) fun x w1 => bnd (ev b s w1) fun y w2 => opt (ixD2 x y) w2 := rfl
@[simp] theorem p_sl (lo hi : Eo) : ev (.sl a lo hi) s w = bnd (ev a s w) fun x w1 => bnd (evo lo s w1) fun l w2 => bnd (evo hi s w2) fun h w3 => opt (slD x l h) w3 := rfl
@[simp] theorem p_call (x : Str) (n : Nat) (F : List D → W → R D) : ev (.call x n F es) s w = bnd (evs es s w) fun ds w1 => if ds.length = n then F ds w1 else .no := rfl
@[simp] theorem p_bi (b : Bi) : ev (.bi b es) s w = bnd (evs es s w) fun ds w1 => opt (biD b ds) w1 := rfl
@[simp] theorem p_gcd : ev (.gcd a b) s w = bnd (ev a s w) fun x w1 => bnd (ev b s w1) fun y w2 => opt (gcdD [x, y]) w2 := by
  show bnd (bnd (ev a s w) _) _ = _
  unfold aCons aNil
  cases ev a s w with
  | no => rfl
  | ok x w1 =>
    show bnd (bnd (bnd (ev b s w1) _) _) _ = bnd (ev b s w1) _
    cases ev b s w1 <;> rfl
@[simp] theorem p_isi (T : Ty) : ev (.isi T a) s w = bnd (ev a s w) fun x w1 => opt (isiD T x) w1 := rfl
@[simp] theorem p_fnv (x : Str) : ev (.fnv x) s w = .ok (.fn x) w := rfl
@[simp] theorem p_callv (tbl : Tbl) : ev (.callv i tbl es) s w = fCallV i tbl (evs es) s w := rfl
theorem p_fCallV {tbl : Tbl} {x : Str} {n : Nat} {F : List D → W → R D} {fa : S → W → R (List D)} (h : s[i]? = some (.v (.fn x))) (ht : tblAt tbl x = some (n, F)) : fCallV i tbl fa s w = bnd (fa s w) fun ds w1 => if ds.length = n then F ds w1 else .no := by
  unfold fCallV; rw [h]; simp only; rw [ht]; rfl
@[simp] theorem p_join : ev (.join a b) s w = bnd (ev a s w) fun x w1 => bnd (ev b s w1) fun y w2 => opt (joinD x y) w2 := rfl
@[simp] theorem p_dg1 : ev (.dg1 a b) s w = bnd (ev a s w) fun x w1 => bnd (ev b s w1) fun y w2 => opt (dget1D x y) w2 := rfl
@[simp] theorem p_dg2 : ev (.dg2 a b c) s w = bnd (ev a s w) fun x w1 => bnd (ev b s w1) fun y w2 => bnd (ev c s w2) fun z w3 => opt (dget2D x y z) w3 := rfl
@[simp] theorem p_ien : evI (.en e) s w = bnd (ev e s w) fun d w1 => opt (enumI d) w1 := rfl
@[simp] theorem p_ir3 : evI (.r3 a b c) s w = bnd (ev a s w) fun x w1 => bnd (ev b s w1) fun y w2 => bnd (ev c s w2) fun z w3 => opt (rangeD3 x y z) w3 := rfl
@[simp] theorem p_tpt (tg : Tg) : evT (.pt i tg) s w = fPopTo i (evTg tg) s w := rfl
@[simp] theorem p_tpa : evT (.pa i j e) s w = fPopApp i j (ev e) s w := rfl
@[simp] theorem p_ix2a (xs : List D) (y : D) : ixD2 (.lst xs) y = ixD (.lst xs) y := rfl
@[simp] theorem p_ix2b (xs : List D) (y : D) : ixD2 (.tup xs) y = ixD (.tup xs) y := rfl
@[simp] theorem p_ix2c (xs : List Int) (y : D) : ixD2 (.scr xs) y = ixD (.scr xs) y := rfl
@[simp] theorem p_ix2d (x : Str) (y : D) : ixD2 (.str x) y = ixD (.str x) y := rfl
@[simp] theorem p_fr (f : Fr) : ev (.fr f) s w = bnd (evF f s w) fun ds w1 => .ok (.lst ds) w1 := rfl
@[simp] theorem p_nil : evs .nil s w = .ok [] w := rfl
@[simp] theorem p_cons : evs (.cons e es) s w = bnd (ev e s w) fun x w1 => bnd (evs es s w1) fun xs w2 => .ok (x :: xs) w2 := rfl
@[simp] theorem p_star : evs (.star e es) s w = bnd (ev e s w) fun x w1 => bnd (evs es s w1) fun ys w2 => opt ((starD x).map (· ++ ys)) w2 := rfl
@[simp] theorem p_oN : evo .none s w = .ok none w := rfl
def oK (d : D) (w : W) : R (Option Int) := match d with
  | .int i => .ok (some i) w
  | _ => .no
@[simp] theorem p_oK (i : Int) : oK (.int i) w = .ok (some i) w := rfl
@[simp] theorem p_oS : evo (.some e) s w = bnd (ev e s w) oK := rfl
@[simp] theorem p_cN : evc .none s w = .ok (.bl true) w := rfl
@[simp] theorem p_cS : evc (.some e) s w = ev e s w := rfl
@[simp] theorem p_isq : evI (.seq e) s w = bnd (ev e s w) fun d w1 => opt (itemsD d) w1 := rfl
@[simp] theorem p_ir1 : evI (.r1 e) s w = bnd (ev e s w) fun d w1 => opt (rangeD1 d) w1 := rfl
@[simp] theorem p_ir2 : evI (.r2 a b) s w = bnd (ev a s w) fun d w1 => bnd (ev b s w1) fun c w2 => opt (rangeD2 d c) w2 := rfl
@[simp] theorem p_izip : evI (.zip a b) s w = bnd (ev a s w) fun d w1 => bnd (ev b s w1) fun c w2 => opt (zipI d c) w2 := rfl
@[simp] theorem p_flst : evF (.lst es) s w = bnd (evs es s w) fun ds w1 => if ds.length ≤ sizeLine then .ok ds w1 else .no := rfl
@[simp] theorem p_fcomp (own : List (Str × Nat)) (tg : Tg) (it : Rf.It) (c : Eo) : evF (.comp own tg it c e) s w = if bare (own.map (·.2)) s = true then bnd (evI it s w) fun ds w1 => if ds.length < sizeLine then compL (evTg tg) (evc c) (ev e) s ds w1 else .no else .no := rfl
@[simp] theorem p_flist : evF (.list e) s w = bnd (ev e s w) fun d w1 => opt (listF [d]) w1 := by
  show bnd (bnd (ev e s w) _) _ = _
  unfold aNil
  cases ev e s w <;> rfl
@[simp] theorem p_fcat : evF (.cat a b) s w = bnd (ev a s w) fun x w1 => bnd (ev b s w1) fun y w2 => opt (catF x y) w2 := rfl
@[simp] theorem p_frep : evF (.rep a b) s w = bnd (ev a s w) fun x w1 => bnd (ev b s w1) fun y w2 => opt (repF x y) w2 := rfl
@[simp] theorem p_frev : evF (.rev a) s w = bnd (ev a s w) fun x w1 => opt (revD x) w1 := rfl
@[simp] theorem p_fsrt : evF (.srt e) s w = bnd (ev e s w) fun d w1 => opt (sortF [d]) w1 := by
  show bnd (bnd (ev e s w) _) _ = _
  unfold aNil
  cases ev e s w <;> rfl
@[simp] theorem p_flr1 : evF (.lr1 a) s w = bnd (ev a s w) fun x w1 => opt (lr1D x) w1 := rfl
/-! statements -/
def sqK (g : S → W → R Fl) (fl : Fl) (w : W) : R Fl := match fl with
  | .nx s1 => g s1 w
  | .bk s1 => .ok (.bk s1) w
  | .ct s1 => .ok (.ct s1) w
  | .rt d => .ok (.rt d) w
@[simp] theorem p_sq1 (g : S → W → R Fl) : sqK g (.nx s) w = g s w := rfl
@[simp] theorem p_sq2 (g : S → W → R Fl) : sqK g (.bk s) w = .ok (.bk s) w := rfl
@[simp] theorem p_sq3 (g : S → W → R Fl) : sqK g (.ct s) w = .ok (.ct s) w := rfl
@[simp] theorem p_sq4 (g : S → W → R Fl) : sqK g (.rt d) w = .ok (.rt d) w := rfl
@[simp] theorem p_tsN : evTs .nil s w = .ok (.nx s) w := rfl
@[simp] theorem p_tsC (t : T) (r : Ts) : evTs (.cons t r) s w = bnd (evT t s w) fun fl w1 => sqK (evTs r) fl w1 := rfl
@[simp] theorem p_tsF (r : Ts) : evTs (.fz i r) s w = bnd (fFz i s w) fun fl w1 => sqK (evTs r) fl w1 := rfl
@[simp] theorem p_fz (h : s[i]? = some (.o ds)) : fFz i s w = .ok (.nx (s.set i (.v (.lst ds)))) w := by unfold fFz; rw [h]
@[simp] theorem p_tpass : evT .pass s w = .ok (.nx s) w := rfl
@[simp] theorem p_tbrk : evT .brk s w = .ok (.bk s) w := rfl
@[simp] theorem p_tcnt : evT .cnt s w = .ok (.ct s) w := rfl
@[simp] theorem p_tretN : evT .retN s w = .ok (.rt .non) w := rfl
@[simp] theorem p_tret : evT (.ret e) s w = bnd (ev e s w) fun d w1 => .ok (.rt d) w1 := rfl
@[simp] theorem p_texp : evT (.exp e) s w = bnd (ev e s w) fun _ w1 => .ok (.nx s) w1 := rfl
@[simp] theorem p_tite (x y : Ts) : evT (.ite c x y) s w = bnd (ev c s w) fun d w1 => ifK (evTs x s) (evTs y s) d w1 := rfl
@[simp] theorem p_tset : evT (.set i e) s w = bnd (ev e s w) fun d w1 => .ok (.nx (s.set i (.v d))) w1 := rfl
def agK (o : Option S) (w : W) : R Fl := match o with
  | some s => .ok (.nx s) w
  | none => .no
@[simp] theorem p_agK : agK (some s) w = .ok (.nx s) w := rfl
@[simp] theorem p_tasg (tg : Tg) : evT (.asg tg e) s w = bnd (ev e s w) fun d w1 => agK (evTg tg d s) w1 := rfl
@[simp] theorem p_town (f : Fr) : evT (.own i f) s w = bnd (evF f s w) fun ds w1 => if i < s.length then .ok (.nx (s.set i (.o ds))) w1 else .no := rfl
@[simp] theorem p_tpar2 (x y : Ce) : evT (.par2 i j x y) s w = bnd (parL [(i, evCe x), (j, evCe y)] s s w) fun s' w' => .ok (.nx s') w' := rfl
@[simp] theorem p_tpar3 (l : Nat) (x y z : Ce) : evT (.par3 i j l x y z) s w = bnd (parL [(i, evCe x), (j, evCe y), (l, evCe z)] s s w) fun s' w' => .ok (.nx s') w' := rfl
@[simp] theorem p_par0 (s' : S) : parL [] s s' w = .ok s' w := rfl
@[simp] theorem p_parv (s' : S) (r : List (Nat × Cp)) : parL ((i, evCe (.v e)) :: r) s s' w = bnd (ev e s w) fun d w1 => parL r s (s'.set i (.v d)) w1 := rfl
@[simp] theorem p_parf (s' : S) (f : Fr) (r : List (Nat × Cp)) : parL ((i, evCe (.f f)) :: r) s s' w = bnd (evF f s w) fun ds w1 => if i < s'.length then parL r s (s'.set i (.o ds)) w1 else .no := rfl
def apK (i : Nat) (s : S) (d : D) (w : W) : R Fl := match ownD s i with
  | some xs => if xs.length < sizeLine then .ok (.nx (s.set i (.o (xs ++ [d])))) w else .no
  | none => .no
@[simp] theorem p_apK (h : s[i]? = some (.o ds)) : apK i s d w = if ds.length < sizeLine then .ok (.nx (s.set i (.o (ds ++ [d])))) w else .no := by unfold apK ownD; rw [h]
@[simp] theorem p_tapp : evT (.app i e) s w = bnd (ev e s w) fun d w1 => apK i s d w1 := rfl
def exK (i : Nat) (s : S) (d : D) (w : W) : R Fl := match ownD s i, d with
  | some xs, .lst zs => if xs.length + zs.length ≤ sizeLine then .ok (.nx (s.set i (.o (xs ++ zs)))) w else .no
  | _, _ => .no
@[simp] theorem p_exK (zs : List D) (h : s[i]? = some (.o ds)) : exK i s (.lst zs) w = if ds.length + zs.length ≤ sizeLine then .ok (.nx (s.set i (.o (ds ++ zs)))) w else .no := by unfold exK ownD; rw [h]
@[simp] theorem p_text : evT (.ext i e) s w = bnd (ev e s w) fun d w1 => exK i s d w1 := rfl
@[simp] theorem p_tfor (tg : Tg) (it : Rf.It) (b : Ts) : evT (.for tg it b) s w = bnd (evI it s w) fun ds w1 => forL (evTg tg) (evTs b) ds s w1 := rfl
@[simp] theorem p_twhile (n : S → W → Nat) (b : Ts) : evT (.while n c b) s w = fWhile n (ev c) (evTs b) s w := rfl
@[simp] theorem p_tgn : evTg (.n i) d s = some (s.set i (.v d)) := rfl
/-! operators -/
@[simp] theorem p_add (x y : Int) : binD .Add (.int x) (.int y) = some (.int (x + y)) := rfl
@[simp] theorem p_sub (x y : Int) : binD .Sub (.int x) (.int y) = some (.int (x - y)) := rfl
@[simp] theorem p_mul (x y : Int) (h : CMulW x y) : binD .Mult (.int x) (.int y) = some (.int (x * y)) := by show (if _ then _ else _) = _; rw [if_pos h]
@[simp] theorem p_div (x y : Int) (h : CDivW x y) : binD .FloorDiv (.int x) (.int y) = some (.int (x / y)) := by show (if _ then _ else _) = _; rw [if_pos h]
@[simp] theorem p_mod (x y : Int) (h : 0 < y) : binD .Mod (.int x) (.int y) = some (.int (x % y)) := by show (if _ then _ else _) = _; rw [if_pos h]
@[simp] theorem p_ngi (x : Int) : negD (.int x) = some (.int (-x)) := rfl
@[simp] theorem p_lt (x y : Int) : cmpD .Lt (.int x) (.int y) = some (.bl (decide (x < y))) := rfl
@[simp] theorem p_le (x y : Int) : cmpD .LtE (.int x) (.int y) = some (.bl (decide (x ≤ y))) := rfl
@[simp] theorem p_gt (x y : Int) : cmpD .Gt (.int x) (.int y) = some (.bl (decide (y < x))) := rfl
@[simp] theorem p_ge (x y : Int) : cmpD .GtE (.int x) (.int y) = some (.bl (decide (y ≤ x))) := rfl
@[simp] theorem p_eqi (x y : Int) : cmpD .Eq (.int x) (.int y) = some (.bl (decide (x = y))) := by
  show eqD0 (.int x) (.int y) = _
  unfold eqD0
  simp only [toPy]
  rw [if_pos (by show min 0 0 ≤ 64; decide)]
  simp only [PyData.eqv]
  congr 2
@[simp] theorem p_nei (x y : Int) : cmpD .NotEq (.int x) (.int y) = some (.bl (!decide (x = y))) := by
  show neD0 (.int x) (.int y) = _
  unfold neD0
  simp only [toPy]
  rw [if_pos (by show min 0 0 ≤ 64; decide)]
  simp only [PyData.eqv]
  congr 2
@[simp] theorem p_isN (x : D) : cmpD .Is x .non = some (.bl (isNon x)) := by cases x <;> rfl
@[simp] theorem p_isnN (x : D) : cmpD .IsNot x .non = some (.bl (!isNon x)) := by cases x <;> rfl
@[simp] theorem p_len1 (x : List D) : biD .len [.lst x] = some (.int (x.length : Nat)) := rfl
@[simp] theorem p_len2 (x : List D) : biD .len [.tup x] = some (.int (x.length : Nat)) := rfl
@[simp] theorem p_len3 (x : List Int) : biD .len [.scr x] = some (.int (x.length : Nat)) := rfl
@[simp] theorem p_abs (x : Int) : biD .abs [.int x] = some (.int (if x < 0 then -x else x)) := rfl
@[simp] theorem p_int (x : Int) : biD .int [.int x] = some (.int x) := rfl
@[simp] theorem p_intb (x : Bool) : biD .int [.bl x] = some (.int (if x = true then 1 else 0)) := rfl
@[simp] theorem p_max (x y : Int) : biD .max [.int x, .int y] = some (.int (if x < y then y else x)) := rfl
@[simp] theorem p_min (x y : Int) : biD .min [.int x, .int y] = some (.int (if y < x then y else x)) := rfl
@[simp] theorem p_tuple (x : List D) : biD .tuple [.lst x] = some (.tup x) := rfl
@[simp] theorem p_gcdi (x y : Int) : gcdD [.int x, .int y] = some (.int ((Nat.gcd x.natAbs y.natAbs : Nat) : Int)) := rfl
@[simp] theorem p_ixT (x : List D) (k : Int) : ixD (.tup x) (.int k) = atI x k := rfl
@[simp] theorem p_ixL (x : List D) (k : Int) : ixD (.lst x) (.int k) = atI x k := rfl
@[simp] theorem p_slT (x : List D) (l h : Option Int) : slD (.tup x) l h = some (.tup (cutD x l h)) := rfl
@[simp] theorem p_slL (x : List D) (l h : Option Int) : slD (.lst x) l h = some (.lst (cutD x l h)) := rfl
@[simp] theorem p_itT (x : List D) : itemsD (.tup x) = some x := rfl
@[simp] theorem p_itL (x : List D) : itemsD (.lst x) = some x := rfl
@[simp] theorem p_stT (x : List D) : starD (.tup x) = some x := rfl
@[simp] theorem p_stL (x : List D) : starD (.lst x) = some x := rfl
end
section
variable {α : Type} {x y z u : α} {xs : List α}
theorem ixN_lit {n k : Nat} (h : k < n) : ixN n (k : Int) = some k := by unfold ixN; split <;> first | (simp; omega) | omega | simp_all
@[simp] theorem p_at0 : atI (x :: xs) 0 = some x := by
  unfold atI
  have := ixN_lit (n := (x :: xs).length) (k := 0) (by simp)
  rw [show ((0 : Int)) = ((0 : Nat) : Int) from rfl, this]; rfl
@[simp] theorem p_at1 : atI (x :: y :: xs) 1 = some y := by
  unfold atI
  have := ixN_lit (n := (x :: y :: xs).length) (k := 1) (by simp)
  rw [show ((1 : Int)) = ((1 : Nat) : Int) from rfl, this]; rfl
@[simp] theorem p_at2 : atI (x :: y :: z :: xs) 2 = some z := by
  unfold atI
  have := ixN_lit (n := (x :: y :: z :: xs).length) (k := 2) (by simp)
  rw [show ((2 : Int)) = ((2 : Nat) : Int) from rfl, this]; rfl
@[simp] theorem p_at3 : atI (x :: y :: z :: u :: xs) 3 = some u := by
  unfold atI
  have := ixN_lit (n := (x :: y :: z :: u :: xs).length) (k := 3) (by simp)
  rw [show ((3 : Int)) = ((3 : Nat) : Int) from rfl, this]; rfl
theorem p_at {k : Nat} (h : xs[k]? = some x) : atI xs (k : Int) = some x := by
  unfold atI
  have hk : k < xs.length := by
    by_cases q : k < xs.length
    · exact q
    · rw [List.getElem?_eq_none (by omega)] at h; cases h
  rw [ixN_lit hk]; exact h
end
end Rf
namespace Rf
open PySem L2 PySem.Spec PyProof.Rows
/-! ## the pot -/
section
variable {s : S} {w : W} {i : Nat}
@[simp] theorem p_pget (j : Int) (ns : List Int) (h : s[i]? = some (.v .pot)) : ev (.pget i j) s (some ns) = opt ((atI ns j).map .int) (some ns) := by
  show fPget i j s (some ns) = _
  unfold fPget potD
  rw [h]
  show (match atI ns j with | some v => R.ok (D.int v) (some ns) | none => R.no) = _
  cases atI ns j <;> rfl
def psK (i : Nat) (j : Int) (s : S) (d : D) (w : W) : R Fl := match d, potD s w i with
  | .int v, some ns => match ixN ns.length j with
    | some k => .ok (.nx s) (some (ns.set k v))
    | none => .no
  | _, _ => .no
@[simp] theorem p_tpset (j : Int) (e : E) : evT (.pset i j e) s w = bnd (ev e s w) fun d w1 => psK i j s d w1 := rfl
@[simp] theorem p_ps0 (a b c v : Int) (h : s[i]? = some (.v .pot)) : psK i 0 s (.int v) (some [a, b, c]) = .ok (.nx s) (some [v, b, c]) := by
  unfold psK potD; rw [h]; rfl
@[simp] theorem p_ps2 (a b c v : Int) (h : s[i]? = some (.v .pot)) : psK i 2 s (.int v) (some [a, b, c]) = .ok (.nx s) (some [a, b, v]) := by
  unfold psK potD; rw [h]; rfl
end
theorem p_pow (x y : Int) (h : CPowW x y) : binD .Pow (.int x) (.int y) = some (.int (x ^ y.toNat)) := by show (if _ then _ else _) = _; rw [if_pos h]
/-! ### sizes -/
theorem log_lt {i : Int} {n : Nat} (h : i.natAbs < 2 ^ n) (hn : 0 < n) : i.natAbs.log2 < n := by
  by_cases q : i.natAbs = 0
  · rw [q]; simpa using hn
  · exact (Nat.log2_lt q).mpr h
theorem cmul_of {i j : Int} {m n : Nat} (h1 : i.natAbs < 2 ^ m) (h2 : j.natAbs < 2 ^ n) (hm : 0 < m) (hn : 0 < n) (h : m + n ≤ 1000000) : CMulW i j := by
  have a := log_lt h1 hm
  have b := log_lt h2 hn
  unfold CMulW; omega
theorem cdiv_of {i j : Int} {n : Nat} (h0 : 0 < j) (h2 : j.natAbs < 2 ^ n) (hn : 0 < n) (h : n ≤ 9000) : CDivW i j := by
  have b := log_lt h2 hn
  exact ⟨h0, by omega⟩
def takeT (c1 c2 c3 c4 : Int) : Ts := (.cons (.ite (.cmp .Gt (.pget 0 0) (.k (.int 0))) (.cons (.set 2 (.bin .Mod (.bi .int (.cons (.pget 0 0) .nil)) (.v 1))) (.cons (.pset 0 0 (.bin .FloorDiv (.pget 0 0) (.v 1))) (.cons (.ret (.bi .int (.cons (.v 2) .nil))) .nil))) .nil) (.cons (.pset 0 2 (.bin .Add (.pget 0 2) (.k (.int 1)))) (.cons (.set 3 (.ix (.fr (.lst (.cons (.k (.int 2147483647)) (.cons (.k (.int 2147483629)) (.cons (.k (.int 2147483587)) (.cons (.k (.int 2147483579)) (.cons (.k (.int 2147483563)) .nil))))))) (.bin .Mod (.bi .int (.cons (.pget 0 2) .nil)) (.k (.int 5))))) (.cons (.set 4 (.bin .Mod (.bi .int (.cons (.bin .Pow (.bi .int (.cons (.bin .Add (.bin .Add (.pget 0 1) (.bin .Mult (.bin .Mult (.k (.int c1)) (.pget 0 2)) (.pget 0 2))) (.k (.int c2))) .nil)) (.k (.int 3))) .nil)) (.v 3))) (.cons (.set 4 (.bin .Mod (.bi .int (.cons (.bin .Mult (.v 4) (.bin .Add (.bin .Mod (.bi .int (.cons (.v 4) .nil)) (.k (.int c3))) (.bin .Mult (.k (.int c4)) (.pget 0 2)))) .nil)) (.k (.int 2305843009213693907)))) (.cons (.ret (.bin .Mod (.bi .int (.cons (.bin .FloorDiv (.v 4) (.k (.int 11821))) .nil)) (.v 1))) .nil))))))
/-- m more numbers may be drawn -/
def Pk (m : Nat) (w : W) : Prop := ∃ a b c : Int, w = some [a, b, c] ∧ 0 ≤ a ∧ a.natAbs < 2 ^ 1000 ∧ 0 ≤ b ∧ b < 2 ^ 61 ∧ 0 ≤ c ∧ c + m ≤ 2 ^ 61
theorem Pk.le {m n : Nat} {w : W} (h : Pk m w) (l : n ≤ m) : Pk n w := by
  obtain ⟨a, b, c, h1, h2, h3, h4, h5, h6, h7⟩ := h
  exact ⟨a, b, c, h1, h2, h3, h4, h5, h6, by omega⟩
def TakeOk (F : List D → W → R D) : Prop := ∀ (m : Nat) (w : W) (u : Int), Pk (m + 1) w → 1 ≤ u → u.natAbs < 2 ^ 8000 → ∃ r w', F [.pot, .int u] w = .ok (.int r) w' ∧ 0 ≤ r ∧ r < u ∧ Pk m w'
theorem natAbs_mul_lt {i j : Int} {m n : Nat} (h1 : i.natAbs < 2 ^ m) (h2 : j.natAbs < 2 ^ n) : (i * j).natAbs < 2 ^ (m + n) := by
  rw [Int.natAbs_mul, Nat.pow_add]
  exact Nat.mul_lt_mul'' h1 h2
theorem take_ok {c1 c2 c3 c4 : Int} (k1 : c1.natAbs < 2 ^ 30) (k2 : c2.natAbs < 2 ^ 30) (k3 : 0 < c3 ∧ c3 < 2 ^ 30) (k4 : c4.natAbs < 2 ^ 30) : TakeOk (runF 5 (evTs (takeT c1 c2 c3 c4))) := by
  intro m w u hp h1 h2
  obtain ⟨a, b, c, rfl, p1, p2, p3, p4, p5, p6⟩ := hp
  have hu : 0 < u := by omega
  by_cases ha : 0 < a
  · have hd : CDivW a u := cdiv_of hu h2 (by decide) (by decide)
    refine ⟨a % u, some [a / u, b, c], ?_, Int.emod_nonneg _ (by omega), Int.emod_lt_of_pos _ hu, a / u, b, c, rfl, Int.ediv_nonneg p1 (by omega), ?_, p3, p4, p5, by omega⟩
    · simp [takeT, st0, ha, hu, hd]
    · have : a / u ≤ a := Int.ediv_le_self _ p1
      have : 0 ≤ a / u := Int.ediv_nonneg p1 (by omega)
      exact Nat.lt_of_le_of_lt (by omega) p2
  · have hc0 : 0 ≤ c + 1 := by omega
    have hcs : (c + 1).natAbs < 2 ^ 62 := by omega
    obtain ⟨p, e5, q1, q2⟩ : ∃ p : Int, atI [D.int 2147483647, D.int 2147483629, D.int 2147483587, D.int 2147483579, D.int 2147483563] ((c + 1) % 5) = some (.int p) ∧ 0 < p ∧ p < 2 ^ 31 := by
      have h0 : (c + 1) % 5 = 0 ∨ (c + 1) % 5 = 1 ∨ (c + 1) % 5 = 2 ∨ (c + 1) % 5 = 3 ∨ (c + 1) % 5 = 4 := by omega
      rcases h0 with h0 | h0 | h0 | h0 | h0 <;> rw [h0]
      · exact ⟨2147483647, rfl, by decide, by decide⟩
      · exact ⟨2147483629, rfl, by decide, by decide⟩
      · exact ⟨2147483587, rfl, by decide, by decide⟩
      · exact ⟨2147483579, rfl, by decide, by decide⟩
      · exact ⟨2147483563, rfl, by decide, by decide⟩
    have m1 : CMulW c1 (c + 1) := cmul_of k1 hcs (by decide) (by decide) (by decide)
    have n1 := natAbs_mul_lt k1 hcs
    have m2 : CMulW (c1 * (c + 1)) (c + 1) := cmul_of n1 hcs (by decide) (by decide) (by decide)
    have n2 := natAbs_mul_lt n1 hcs
    have n3 : (b + c1 * (c + 1) * (c + 1) + c2).natAbs < 2 ^ 200 := by
      have e1 : (2 : Nat) ^ (30 + 62 + 62) + 2 ^ 61 + 2 ^ 30 < 2 ^ 200 := by decide
      omega
    have m3 : CPowW (b + c1 * (c + 1) * (c + 1) + c2) 3 := by
      refine ⟨by decide, ?_⟩
      have hl := log_lt n3 (by decide)
      unfold Builtin.Int.intBits
      split <;> omega
    have e4 : binD .Pow (.int (b + c1 * (c + 1) * (c + 1) + c2)) (.int 3) = some (.int ((b + c1 * (c + 1) * (c + 1) + c2) ^ 3)) := p_pow _ _ m3
    generalize hB : (b + c1 * (c + 1) * (c + 1) + c2) ^ 3 % p = B at *
    have b1 : 0 ≤ B := by rw [← hB]; exact Int.emod_nonneg _ (by omega)
    have b2 : B < p := by rw [← hB]; exact Int.emod_lt_of_pos _ q1
    have m5 : CMulW c4 (c + 1) := cmul_of k4 hcs (by decide) (by decide) (by decide)
    have n5 := natAbs_mul_lt k4 hcs
    have r1 : 0 ≤ B % c3 := Int.emod_nonneg _ (by omega)
    have r2 : B % c3 < c3 := Int.emod_lt_of_pos _ k3.1
    have n6 : (B % c3 + c4 * (c + 1)).natAbs < 2 ^ 100 := by
      have e1 : (2 : Nat) ^ (30 + 62) + 2 ^ 30 < 2 ^ 100 := by decide
      omega
    have n7 : B.natAbs < 2 ^ 31 := by omega
    have m6 : CMulW B (B % c3 + c4 * (c + 1)) := cmul_of n7 n6 (by decide) (by decide) (by decide)
    have m7 : CDivW (B * (B % c3 + c4 * (c + 1)) % 2305843009213693907) 11821 := cdiv_of (n := 20) (by decide) (by decide) (by decide) (by decide)
    refine ⟨B * (B % c3 + c4 * (c + 1)) % 2305843009213693907 / 11821 % u, some [a, b, c + 1], ?_, Int.emod_nonneg _ (by omega), Int.emod_lt_of_pos _ hu, a, b, c + 1, rfl, p1, p2, p3, p4, by omega, by omega⟩
    simp [takeT, st0, ha, m1, m2, e4, e5, m5, m6, m7, k3.1, q1, hB, hu, sizeLine]

def ofT (F : List D → W → R D) : Ts := (.cons (.ret (.ix (.v 1) (.call "_law_take" 2 F (.cons (.v 0) (.cons (.bi .len (.cons (.v 1) .nil)) .nil))))) .nil)
theorem of_ok {F : List D → W → R D} (hF : TakeOk F) {m : Nat} {w : W} {xs : List D} (hp : Pk (m + 1) w) (h1 : 1 ≤ xs.length) (h2 : xs.length < 2 ^ 60) :
    ∃ d w', runF 2 (evTs (ofT F)) [.pot, .lst xs] w = .ok d w' ∧ d ∈ xs ∧ Pk m w' := by
  have hs : ((xs.length : Nat) : Int).natAbs < 2 ^ 8000 := by
    rw [Int.natAbs_natCast]
    exact Nat.lt_of_lt_of_le h2 (Nat.pow_le_pow_right (by decide) (by decide))
  obtain ⟨r, w', e, a, b, c⟩ := hF m w (xs.length : Nat) hp (by omega) hs
  have hr : r = ((r.toNat : Nat) : Int) := by omega
  have hk : r.toNat < xs.length := by omega
  have ea : atI xs r = some xs[r.toNat] := by
    have := p_at (xs := xs) (k := r.toNat) (List.getElem?_eq_getElem hk)
    rwa [← hr] at this
  refine ⟨xs[r.toNat], w', ?_, List.getElem_mem hk, c⟩
  simp [ofT, st0, e, ea]
theorem rng_ints (n : Nat) : rngD 0 n = ((List.range n).map fun i : Nat => ((i : Nat) : Int)).map .int := by
  unfold rngD
  rw [List.map_map]
  congr 1
  funext i
  simp
def cellsT : Ts := (.cons (.ret (.fr (.lr1 (.bi .max (.cons (.k (.int 1)) (.cons (.bi .min (.cons (.v 1) (.cons (.bi .len (.cons (.v 0) .nil)) .nil))) .nil)))))) .nil)
theorem cells_ok {ns : List Int} {most : Int} {w : W} (h : ns.length ≤ 63) (h0 : 1 ≤ most) (h1 : most ≤ 60) : ∃ zs : List Int, runF 2 (evTs cellsT) [.scr ns, .int most] w = .ok (.lst (zs.map .int)) w ∧ ∀ z ∈ zs, 0 ≤ z ∧ z < 64 := by
  have hn : -(2 ^ 62) ≤ (if 1 < (if ((ns.length : Nat) : Int) < most then ((ns.length : Nat) : Int) else most) then (if ((ns.length : Nat) : Int) < most then ((ns.length : Nat) : Int) else most) else 1) ∧
      (if 1 < (if ((ns.length : Nat) : Int) < most then ((ns.length : Nat) : Int) else most) then (if ((ns.length : Nat) : Int) < most then ((ns.length : Nat) : Int) else most) else 1) ≤ 2 ^ 24 := by
    constructor <;> split <;> (try split) <;> omega
  refine ⟨(List.range ((if 1 < (if ((ns.length : Nat) : Int) < most then ((ns.length : Nat) : Int) else most) then (if ((ns.length : Nat) : Int) < most then ((ns.length : Nat) : Int) else most) else 1) : Int).toNat).map fun i : Nat => ((i : Nat) : Int), ?_, ?_⟩
  · rw [← rng_ints]
    simp only [cellsT, p_runF, p_tsC, p_tret, p_fr, p_flr1, p_bi, p_cons, p_nil, p_bnd, p_v, p_k, p_kd3, st0]
    simp only [List.map_cons, List.map_nil, List.length_cons, List.length_nil, List.cons_append, List.nil_append]
    simp only [fV, List.getElem?_cons_zero, List.getElem?_cons_succ, p_bnd, p_len3, p_opt, p_min, p_max]
    unfold lr1D
    simp only
    rw [if_pos hn]
    rfl
  · intro z hz
    obtain ⟨i, hi, rfl⟩ := List.mem_map.mp hz
    rw [List.mem_range] at hi
    constructor
    · omega
    · split at hi <;> (try split at hi) <;> omega
def pt1T (c1 c2 : Int) : T := (.set 2 (.ite (.cmp .Lt (.v 1) (.bi .len (.cons (.v 0) .nil))) (.ix (.v 0) (.v 1)) (.bin .Add (.bin .Add (.bin .Mod (.bi .sum (.cons (.sl (.v 0) .none (.some (.k (.int 1)))) .nil)) (.k (.int 1000003))) (.bin .Mult (.k (.int c1)) (.v 1))) (.k (.int c2)))))
def pt2T : T := (.set 3 (.bin .Mult (.bin .Mod (.bi .int (.cons (.bi .abs (.cons (.v 2) .nil)) .nil)) (.bin .Pow (.bin .Pow (.k (.int 10)) (.k (.int 60))) (.k (.int 5)))) (.bi .int (.cons (.cmp .GtE (.bi .abs (.cons (.v 2) .nil)) (.bin .Pow (.k (.int 10)) (.k (.int 18)))) .nil))))
def pt3T : T := (.set 4 (.bin .Mod (.bi .int (.cons (.v 2) .nil)) (.k (.int 2305843009213693951))))
def ptfT (c3 c4 : Int) : Fr := (.lst (.cons (.v 3) (.cons (.bin .Mod (.bi .int (.cons (.bin .Add (.bin .Add (.bin .Mult (.v 4) (.k (.int c3))) (.bin .Mult (.bin .Mult (.k (.int c4)) (.v 1)) (.v 1))) (.k (.int 15077))) .nil)) (.k (.int 2305843009213693921))) (.cons (.k (.int 0)) .nil))))
theorem atI_scr {ns : List Int} {z : Int} (h0 : 0 ≤ z) (h1 : z < (ns.length : Nat)) : ∃ c, atI ns z = some c := by
  have hk : z.toNat < ns.length := by omega
  refine ⟨ns[z.toNat], ?_⟩
  have := p_at (xs := ns) (k := z.toNat) (List.getElem?_eq_getElem hk)
  rwa [show ((z.toNat : Nat) : Int) = z by omega] at this
theorem cell_ok {c1 c2 z : Int} {ns : List Int} {w : W} (k1 : c1.natAbs < 2 ^ 30) (hz : 0 ≤ z ∧ z < 64) : ∃ c : Int, evT (pt1T c1 c2) [.v (.scr ns), .v (.int z), .e, .e, .e] w = .ok (.nx [.v (.scr ns), .v (.int z), .v (.int c), .e, .e]) w := by
  by_cases h : z < (ns.length : Nat)
  · obtain ⟨c, e⟩ := atI_scr hz.1 h
    refine ⟨c, ?_⟩
    have e2 : ixD (.scr ns) (.int z) = some (.int c) := by show (atI ns z).map D.int = _; rw [e]; rfl
    simp [pt1T, h, e2]
  · have e3 : slD (.scr ns) none (some 1) = some (.lst ((ns.take 1).map .int)) := by
      show some (D.lst (cutD (ns.map .int) none (some 1))) = _
      unfold cutD
      rw [HT.sIx_none, show (some (1 : Int)) = some ((1 : Nat) : Int) from rfl, HT.sIx_nat]
      cases ns <;> simp
    have e4 : ∀ l : List Int, biD .sum [.lst (l.map .int)] = some (.int l.sum) := fun l => by
      show (intsD (l.map .int)).map (fun bs => D.int bs.sum) = _
      have : intsD (l.map .int) = some l := by
        induction l with
        | nil => rfl
        | cons a r ih => simp only [List.map_cons, intsD, ih]; rfl
      rw [this]; rfl
    have m1 : CMulW c1 z := cmul_of k1 (show z.natAbs < 2 ^ 10 by omega) (by decide) (by decide) (by decide)
    have e5 : biD .sum [.lst (List.take 1 (List.map D.int ns))] = some (.int (ns.take 1).sum) := by rw [← List.map_take]; exact e4 _
    exact ⟨(ns.take 1).sum % 1000003 + c1 * z + c2, by simp [pt1T, h, e3, e5, m1]⟩
def potF (c1 c2 c3 c4 : Int) : List D → W → R (List D) := runN 5 (evT (pt1T c1 c2)) (evT pt2T) (evT pt3T) (evF (ptfT c3 c4))
theorem pot_ok {c1 c2 c3 c4 z : Int} {ns : List Int} (k1 : c1.natAbs < 2 ^ 30) (k3 : c3.natAbs < 2 ^ 30) (k4 : c4.natAbs < 2 ^ 30) (hz : 0 ≤ z ∧ z < 64) :
    ∃ pot : List Int, potF c1 c2 c3 c4 [.scr ns, .int z] none = .ok (pot.map .int) none ∧ Pk (2 ^ 60) (some pot) := by
  obtain ⟨c, e1⟩ := cell_ok (c1 := c1) (c2 := c2) (ns := ns) (w := none) k1 hz
  have p1 : binD .Pow (.int 10) (.int 60) = some (.int (10 ^ 60)) := p_pow _ _ (by decide +kernel)
  have p2 : binD .Pow (.int (10 ^ 60)) (.int 5) = some (.int ((10 ^ 60) ^ 5)) := p_pow _ _ (by decide +kernel)
  have p3 : binD .Pow (.int 10) (.int 18) = some (.int (10 ^ 18)) := p_pow _ _ (by decide +kernel)
  have a3 : ((10 : Int) ^ 60) ^ 5 < 2 ^ 999 := by decide +kernel
  have hd : (0 : Int) < (10 ^ 60) ^ 5 := by decide
  generalize hX : (10 : Int) ^ 60 = X at p1 p2 a3 hd
  generalize hY : X ^ 5 = Y at p2 a3 hd
  generalize hZ : (10 : Int) ^ 18 = Z at p3
  generalize hA : (if c < 0 then -c else c) = A
  have a0 : 0 ≤ A % Y := Int.emod_nonneg _ (by omega)
  have a1 : A % Y < Y := Int.emod_lt_of_pos _ hd
  have a2 : (A % Y).natAbs < 2 ^ 999 := by
    have h4 : A % Y < 2 ^ 999 := Int.lt_trans a1 a3
    generalize A % Y = B at *
    omega
  generalize hB : A % Y = B at *
  have hI : (if Z ≤ A then (1 : Int) else 0).natAbs < 2 ^ 1 := by split <;> decide
  have hI0 : 0 ≤ (if Z ≤ A then (1 : Int) else 0) := by split <;> decide
  generalize hJ : (if Z ≤ A then (1 : Int) else 0) = J at *
  have m1 : CMulW B J := cmul_of a2 hI (by decide) (by decide) (by decide)
  have n1 := natAbs_mul_lt a2 hI
  have s0 : 0 ≤ c % 2305843009213693951 := Int.emod_nonneg _ (by decide)
  have s1 : c % 2305843009213693951 < 2305843009213693951 := Int.emod_lt_of_pos _ (by decide)
  have m2 : CMulW (c % 2305843009213693951) c3 := cmul_of (show (c % 2305843009213693951).natAbs < 2 ^ 62 by omega) k3 (by decide) (by decide) (by decide)
  have hzs : z.natAbs < 2 ^ 10 := by omega
  have m3 : CMulW c4 z := cmul_of k4 hzs (by decide) (by decide) (by decide)
  have m4 : CMulW (c4 * z) z := cmul_of (natAbs_mul_lt k4 hzs) hzs (by decide) (by decide) (by decide)
  refine ⟨[B * J, (c % 2305843009213693951 * c3 + c4 * z * z + 15077) % 2305843009213693921, 0], ?_, _, _, _, rfl, Int.mul_nonneg a0 hI0, n1, Int.emod_nonneg _ (by decide), ?_, by decide, by decide⟩
  · unfold potF runN
    rw [show st0 5 [.scr ns, .int z] = [.v (.scr ns), .v (.int z), .e, .e, .e] from rfl, e1]
    simp [pt2T, pt3T, ptfT, nxF, p1, p2, p3, hA, hB, hJ, hd, m1, m2, m3, m4, sizeLine]
  · have := Int.emod_lt_of_pos (c % 2305843009213693951 * c3 + c4 * z * z + 15077) (b := 2305843009213693921) (by decide)
    omega
/-- each lap is right, T numbers at most are drawn -/
def RightOk (T : Nat) (F : List D → W → R D) : Prop := ∀ (m : Nat) (w : W), Pk (m + T) w → ∃ w', F [.pot] w = .ok (.bl true) w' ∧ Pk m w'
def lt2T (L : Int) (F : List D → W → R D) : T := (.ite (.not (.bi .all (.cons (.fr (.comp [("lap", 3)] (.n 3) (.r1 (.k (.int L))) .none (.call "_law_right" 1 F (.cons (.v 2) .nil)))) .nil))) (.cons (.ret (.k (.bl false))) .nil) .nil)
theorem laps_ok {T : Nat} {F : List D → W → R D} (hF : RightOk T F) {s : S} (h2 : s[2]? = some (.v .pot)) (h3 : s.length = 4) : ∀ (ds : List D) (m : Nat) (w : W), Pk (m + ds.length * T) w → ∃ w', compL (evTg (.n 3)) (evc .none) (ev (.call "_law_right" 1 F (.cons (.v 2) .nil))) s ds w = .ok (List.replicate ds.length (.bl true)) w' ∧ Pk m w'
  | [], m, w, h => ⟨w, rfl, by simpa using h⟩
  | d :: ds, m, w, h => by
    obtain ⟨w1, e1, p1⟩ := hF (m + ds.length * T) w (h.le (by rw [List.length_cons, Nat.succ_mul]; omega))
    obtain ⟨w2, e2, p2⟩ := laps_ok hF h2 h3 ds m w1 p1
    refine ⟨w2, ?_, p2⟩
    have hs : (s.set 3 (.v d))[2]? = some (.v .pot) := by rw [List.getElem?_set_ne (by decide)]; exact h2
    unfold compL
    simp [hs, e1, e2, List.replicate_succ]
theorem bls_true (n : Nat) : blsD (List.replicate n (.bl true)) = some (List.replicate n true) := by
  induction n with
  | zero => rfl
  | succ n ih => simp only [List.replicate_succ, blsD, ih]; rfl
theorem lt2_ok {T : Nat} {L : Int} {F : List D → W → R D} (hF : RightOk T F) (hL : 0 ≤ L ∧ L < 100) (hT : 100 * T ≤ 2 ^ 60) {ns : List Int} {z : Int} {w : W} (hp : Pk (2 ^ 60) w) :
    ∃ s' w', evT (lt2T L F) [.v (.scr ns), .v (.int z), .v .pot, .e] w = .ok (.nx s') w' ∧ s'[0]? = some (.v (.scr ns)) ∧ s'.length = 4 := by
  have hl : (rngD 0 L.toNat).length = L.toNat := by unfold rngD; simp
  obtain ⟨w', e, _⟩ := laps_ok hF (s := [.v (.scr ns), .v (.int z), .v .pot, .e]) rfl rfl (rngD 0 L.toNat) 0 w (hp.le (by
    rw [hl]
    have : L.toNat * T ≤ 100 * T := Nat.mul_le_mul_right _ (by omega)
    omega))
  have hr : rangeD1 (.int L) = some (rngD 0 L.toNat) := by unfold rangeD1; simp only; rw [if_pos (by omega)]
  have hb : bare [3] ([.v (.scr ns), .v (.int z), .v .pot, .e] : S) = true := rfl
  have ha : biD .all [.lst (List.replicate (rngD 0 L.toNat).length (.bl true))] = some (.bl true) := by
    show (blsD _).map (fun bs => D.bl (bs.all id)) = _
    rw [bls_true]
    simp
  have hz : (rngD 0 L.toNat).length < sizeLine := by rw [hl, sizeLine]; omega
  exact ⟨_, w', by simp only [lt2T, p_tite, p_not, p_bi, p_cons, p_nil, p_fr, p_fcomp, List.map_cons, List.map_nil, hb, if_true, p_ir1, p_k, p_kd3, p_bnd, hr, p_opt, hz, e, ha, p_oNot, p_ifK, Bool.not_true, p_tsN]; rfl, rfl, rfl⟩
end Rf
namespace Rf
open PySem L2 PySem.Spec PyProof.Rows
/-! ## how long a repr is -/
mutual
def cst : PyData → Nat
  | .none => 4
  | .bool _ => 5
  | .int _ => 2000
  | .str x => (reprText x).length
  | .list xs => 4 + csts xs
  | .tuple xs => 4 + csts xs
  | .dict _ => 0
def csts : List PyData → Nat
  | [] => 0
  | x :: xs => cst x + 2 + csts xs
end
theorem textFrom_le : ∀ (ts : List Str) (k : Nat) (acc : Str), (textFrom k acc ts).length ≤ acc.length + (ts.map fun t => t.length + 2).sum
  | [], k, acc => by simp [textFrom]
  | t :: r, k, acc => by
    have h := textFrom_le r (k + 1) (acc ++ (if k > 0 then ", " else "" : String) ++ t)
    have e : (acc ++ (if k > 0 then ", " else "" : String) ++ t : Str).length ≤ acc.length + 2 + t.length := by
      rw [Str.length_append, Str.length_append]
      split
      · show acc.length + 2 + t.length ≤ _; omega
      · show acc.length + 0 + t.length ≤ _; omega
    show (textFrom (k + 1) (acc ++ (if k > 0 then ", " else "" : String) ++ t) r).length ≤ _
    simp only [List.map_cons, List.sum_cons]
    omega
mutual
theorem shown_le : ∀ (d : PyData), d.showable = true → d.hasDict = false → d.shown.length ≤ cst d
  | .none, _, _ => by unfold PyData.shown cst; decide
  | .bool b, _, _ => by unfold PyData.shown cst; cases b <;> decide
  | .int i, h, _ => by
    unfold PyData.showable at h
    have e := int_text_length_le (k := 1920) (by decide) (of_decide_eq_true h)
    unfold PyData.shown cst
    show (Str.ofString (toString i)).length ≤ _
    rw [PySem.ofString_length]; omega
  | .str x, _, _ => by unfold PyData.shown cst; exact Nat.le_refl _
  | .list xs, h, g => by
    unfold PyData.showable at h
    unfold PyData.hasDict at g
    have ih := shownAll_le xs h g
    unfold PyData.shown cst listText
    have e := textFrom_le (PyData.shownAll xs) 0 "["
    rw [Str.length_append]
    have e1 : (Str.ofString "[").length = 1 := by decide
    have e2 : (Str.ofString "]").length = 1 := by decide
    rw [e1] at e
    rw [e2]
    omega
  | .tuple xs, h, g => by
    unfold PyData.showable at h
    unfold PyData.hasDict at g
    have ih := shownAll_le xs h g
    unfold PyData.shown cst tupleText
    have e := StrLaws.join_length_le ", " (PyData.shownAll xs)
    rw [Str.length_append, Str.length_append]
    have e1 : (Str.ofString "(").length = 1 := by decide
    have e2 : (Str.ofString ", ").length = 2 := by decide
    have e3 : (Str.ofString (if ((PyData.shownAll xs).length == 1) = true then ",)" else ")")).length ≤ 2 := by split <;> decide
    have e4 : ∀ l : List Str, (l.map fun t => t.length + 2).sum = (l.map (·.length)).sum + l.length * 2 := fun l => by
      induction l with
      | nil => rfl
      | cons a r ih => simp only [List.map_cons, List.sum_cons, List.length_cons, ih]; omega
    rw [e4] at ih
    rw [e2] at e
    rw [e1]
    omega
  | .dict _, _, g => by unfold PyData.hasDict at g; cases g
theorem shownAll_le : ∀ (xs : List PyData), PyData.showableAll xs = true → PyData.hasDictAll xs = false → ((PyData.shownAll xs).map fun t => t.length + 2).sum ≤ csts xs
  | [], _, _ => by unfold PyData.shownAll csts; exact Nat.le_refl _
  | x :: xs, h, g => by
    unfold PyData.showableAll at h
    unfold PyData.hasDictAll at g
    rw [Bool.and_eq_true] at h
    rw [Bool.or_eq_false_iff] at g
    have a := shown_le x h.1 g.1
    have b := shownAll_le xs h.2 g.2
    unfold PyData.shownAll csts
    simp only [List.map_cons, List.sum_cons]
    omega
end
theorem repr_of {d : D} {p : PyData} (e : toPy d = some p) (h1 : p.showable = true) (h2 : p.hasDict = false) (h3 : p.depth ≤ 64) (h4 : cst p ≤ 10000000) : biD .repr [d] = some (.str p.shown) := by
  show (toPy d).bind shownD = _
  rw [e]
  show shownD p = _
  unfold shownD
  have h := shown_le p h1 h2
  rw [if_pos ⟨h1, h2, h3, by rw [sizeLine_eq]; omega⟩]
theorem p_eqs (x y : Str) : cmpD .Eq (.str x) (.str y) = some (.bl (decide (x = y))) := rfl
theorem p_nes (x y : Str) : cmpD .NotEq (.str x) (.str y) = some (.bl (!decide (x = y))) := rfl
end Rf
namespace Rf.Wd
open PySem L2 PySem.Spec PyProof.Rows Rf
/-! ## the words' defs, common to many laws -/
def c_BEYOND : D := (.int ((10 ^ 60) ^ 5))
def t_is_integer : Ts := (.cons (.ret (.bo true (.cons (.isi .int (.v 0)) (.cons (.not (.isi .bool (.v 0))) .nil)))) .nil)
def F_is_integer : List D → W → R D := runF 1 (evTs t_is_integer)
def t_is_between : Ts := (.cons (.ret (.bo true (.cons (.call "is_integer" 1 F_is_integer (.cons (.v 0) .nil)) (.cons (.ch .LtE .LtE (.v 1) (.v 0) (.v 2)) .nil)))) .nil)
def F_is_between : List D → W → R D := runF 3 (evTs t_is_between)
def t_common : Ts := (.cons (.ret (.gcd (.v 0) (.v 1))) .nil)
def F_common : List D → W → R D := runF 2 (evTs t_common)
def t_reduced : Ts := (.cons (.set 2 (.ite (.cmp .Gt (.v 1) (.k (.int 0))) (.call "common" 2 F_common (.cons (.v 0) (.cons (.v 1) .nil))) (.bin .Sub (.k (.int 0)) (.call "common" 2 F_common (.cons (.v 0) (.cons (.v 1) .nil)))))) (.cons (.ret (.tup (.cons (.bin .FloorDiv (.v 0) (.v 2)) (.cons (.bin .FloorDiv (.v 1) (.v 2)) .nil)))) .nil))
def F_reduced : List D → W → R D := runF 3 (evTs t_reduced)
def t_is_fraction : Ts := (.cons (.ite (.bo false (.cons (.not (.isi .tuple (.v 0))) (.cons (.cmp .NotEq (.bi .len (.cons (.v 0) .nil)) (.k (.int 2))) (.cons (.not (.bi .all (.cons (.fr (.comp [("part", 1)] (.n 1) (.seq (.v 0)) .none (.call "is_integer" 1 F_is_integer (.cons (.v 1) .nil)))) .nil))) .nil)))) (.cons (.ret (.k (.bl false))) .nil) .nil) (.cons (.ret (.bo true (.cons (.cmp .GtE (.ix (.v 0) (.k (.int 1))) (.k (.int 1))) (.cons (.cmp .Eq (.call "common" 2 F_common (.cons (.ix (.v 0) (.k (.int 0))) (.cons (.ix (.v 0) (.k (.int 1))) .nil))) (.k (.int 1))) .nil)))) .nil))
def F_is_fraction : List D → W → R D := runF 2 (evTs t_is_fraction)
def t_is_told_fraction : Ts := (.cons (.ret (.bo true (.cons (.call "is_fraction" 1 F_is_fraction (.cons (.v 0) .nil)) (.cons (.cmp .Lt (.bi .abs (.cons (.ix (.v 0) (.k (.int 0))) .nil)) (.g "BEYOND" c_BEYOND)) (.cons (.cmp .Lt (.ix (.v 0) (.k (.int 1))) (.g "BEYOND" c_BEYOND)) .nil))))) .nil)
def F_is_told_fraction : List D → W → R D := runF 1 (evTs t_is_told_fraction)
def t_added : Ts := (.cons (.ret (.call "reduced" 2 F_reduced (.cons (.bin .Add (.bin .Mult (.ix (.v 0) (.k (.int 0))) (.ix (.v 1) (.k (.int 1)))) (.bin .Mult (.ix (.v 1) (.k (.int 0))) (.ix (.v 0) (.k (.int 1))))) (.cons (.bin .Mult (.ix (.v 0) (.k (.int 1))) (.ix (.v 1) (.k (.int 1)))) .nil)))) .nil)
def F_added : List D → W → R D := runF 2 (evTs t_added)
def t_difference : Ts := (.cons (.ret (.call "reduced" 2 F_reduced (.cons (.bin .Sub (.bin .Mult (.ix (.v 0) (.k (.int 0))) (.ix (.v 1) (.k (.int 1)))) (.bin .Mult (.ix (.v 1) (.k (.int 0))) (.ix (.v 0) (.k (.int 1))))) (.cons (.bin .Mult (.ix (.v 0) (.k (.int 1))) (.ix (.v 1) (.k (.int 1)))) .nil)))) .nil)
def F_difference : List D → W → R D := runF 2 (evTs t_difference)
def t_product_of : Ts := (.cons (.ret (.call "reduced" 2 F_reduced (.cons (.bin .Mult (.ix (.v 0) (.k (.int 0))) (.ix (.v 1) (.k (.int 0)))) (.cons (.bin .Mult (.ix (.v 0) (.k (.int 1))) (.ix (.v 1) (.k (.int 1)))) .nil)))) .nil)
def F_product_of : List D → W → R D := runF 2 (evTs t_product_of)
def t_quotient : Ts := (.cons (.ret (.call "reduced" 2 F_reduced (.cons (.bin .Mult (.ix (.v 0) (.k (.int 0))) (.ix (.v 1) (.k (.int 1)))) (.cons (.bin .Mult (.ix (.v 0) (.k (.int 1))) (.ix (.v 1) (.k (.int 0)))) .nil)))) .nil)
def F_quotient : List D → W → R D := runF 2 (evTs t_quotient)
def t_is_less : Ts := (.cons (.ret (.cmp .Lt (.bin .Mult (.ix (.v 0) (.k (.int 0))) (.ix (.v 1) (.k (.int 1)))) (.bin .Mult (.ix (.v 1) (.k (.int 0))) (.ix (.v 0) (.k (.int 1)))))) .nil)
def F_is_less : List D → W → R D := runF 2 (evTs t_is_less)
def t_floor_of : Ts := (.cons (.ret (.bin .FloorDiv (.ix (.v 0) (.k (.int 0))) (.ix (.v 0) (.k (.int 1))))) .nil)
def F_floor_of : List D → W → R D := runF 1 (evTs t_floor_of)
def t__law_reduced : Ts := (.cons (.par2 2 3 (.v (.bi .abs (.cons (.v 0) .nil))) (.v (.bi .abs (.cons (.v 1) .nil)))) (.cons (.while (fun _ _ => 10 ^ 18) (.cmp .NotEq (.v 3) (.k (.int 0))) (.cons (.par2 2 3 (.v (.v 3)) (.v (.bin .Mod (.v 2) (.v 3)))) .nil)) (.cons (.ret (.ite (.cmp .Gt (.v 1) (.k (.int 0))) (.tup (.cons (.bi .int (.cons (.bin .FloorDiv (.v 0) (.v 2)) .nil)) (.cons (.bi .int (.cons (.bin .FloorDiv (.v 1) (.v 2)) .nil)) .nil))) (.tup (.cons (.bi .int (.cons (.bin .FloorDiv (.neg (.v 0)) (.v 2)) .nil)) (.cons (.bi .int (.cons (.bin .FloorDiv (.neg (.v 1)) (.v 2)) .nil)) .nil))))) .nil)))
def F__law_reduced : List D → W → R D := runF 4 (evTs t__law_reduced)
def t__law_less : Ts := (.cons (.ret (.cmp .Lt (.bin .Mult (.ix (.v 0) (.k (.int 0))) (.ix (.v 1) (.k (.int 1)))) (.bin .Mult (.ix (.v 1) (.k (.int 0))) (.ix (.v 0) (.k (.int 1)))))) .nil)
def F__law_less : List D → W → R D := runF 2 (evTs t__law_less)
def t__law_added : Ts := (.cons (.ret (.call "_law_reduced" 2 F__law_reduced (.cons (.bin .Add (.bin .Mult (.ix (.v 0) (.k (.int 0))) (.ix (.v 1) (.k (.int 1)))) (.bin .Mult (.ix (.v 1) (.k (.int 0))) (.ix (.v 0) (.k (.int 1))))) (.cons (.bin .Mult (.ix (.v 0) (.k (.int 1))) (.ix (.v 1) (.k (.int 1)))) .nil)))) .nil)
def F__law_added : List D → W → R D := runF 2 (evTs t__law_added)
def t__law_times : Ts := (.cons (.ret (.call "_law_reduced" 2 F__law_reduced (.cons (.bin .Mult (.ix (.v 0) (.k (.int 0))) (.ix (.v 1) (.k (.int 0)))) (.cons (.bin .Mult (.ix (.v 0) (.k (.int 1))) (.ix (.v 1) (.k (.int 1)))) .nil)))) .nil)
def F__law_times : List D → W → R D := runF 2 (evTs t__law_times)
def t__law_minus : Ts := (.cons (.ret (.tup (.cons (.bin .Sub (.k (.int 0)) (.ix (.v 0) (.k (.int 0)))) (.cons (.ix (.v 0) (.k (.int 1))) .nil)))) .nil)
def F__law_minus : List D → W → R D := runF 1 (evTs t__law_minus)
end Rf.Wd
namespace Rf
open PySem L2 PySem.Spec PyProof.Rows
/-! ## fractions -/
def fr (q : Rat) : D := .tup [.int q.num, .int (q.den : Nat)]
def Sz (n : Nat) (q : Rat) : Prop := q.num.natAbs < 2 ^ n ∧ q.den < 2 ^ n
theorem Sz.up {m n : Nat} {q : Rat} (h : Sz m q) (l : m ≤ n) : Sz n q :=
  ⟨Nat.lt_of_lt_of_le h.1 (Nat.pow_le_pow_right (by decide) l), Nat.lt_of_lt_of_le h.2 (Nat.pow_le_pow_right (by decide) l)⟩
theorem fr_inj {p q : Rat} (h : fr p = fr q) : p = q := by
  unfold fr at h
  simp only [D.tup.injEq, List.cons.injEq, D.int.injEq] at h
  exact Rat.ext h.1 (by omega)
theorem div_parts (a : Int) (n : Nat) (hn : n ≠ 0) : (Rat.divInt a (n : Int)).num = a / ((a.natAbs.gcd n : Nat) : Int) ∧ (Rat.divInt a (n : Int)).den = n / a.natAbs.gcd n := by
  have : Rat.divInt a (n : Int) = Rat.normalize a n hn := by
    show mkRat a n = _
    unfold mkRat
    rw [dif_neg hn]
  rw [this, Rat.normalize_eq]
  exact ⟨rfl, rfl⟩
theorem gcd_facts {a b : Int} (hb : 0 < b) : ∃ g : Nat, Nat.gcd a.natAbs b.natAbs = g ∧ 0 < g ∧ g ≤ b.natAbs ∧ (g : Int) ∣ a ∧ (g : Int) ∣ b := by
  refine ⟨_, rfl, Nat.gcd_pos_of_pos_right _ (by omega), Nat.gcd_le_right _ (by omega), ?_, ?_⟩
  · exact Int.ofNat_dvd_left.mpr (Nat.gcd_dvd_left _ _)
  · exact Int.ofNat_dvd_left.mpr (Nat.gcd_dvd_right _ _)
theorem fr_div (a b : Int) (hb : 0 < b) : fr (Rat.divInt a b) = .tup [.int (a / ((Nat.gcd a.natAbs b.natAbs : Nat) : Int)), .int (b / ((Nat.gcd a.natAbs b.natAbs : Nat) : Int))] := by
  obtain ⟨n, rfl⟩ : ∃ n : Nat, b = n := ⟨b.toNat, by omega⟩
  obtain ⟨h1, h2⟩ := div_parts a n (by omega)
  unfold fr
  rw [h1, h2]
  simp only [Int.natAbs_natCast, Int.natCast_ediv]
theorem sz_div {a b : Int} {n : Nat} (hb : 0 < b) (h1 : a.natAbs < 2 ^ n) (h2 : b.natAbs < 2 ^ n) : Sz n (Rat.divInt a b) := by
  obtain ⟨m, rfl⟩ : ∃ n : Nat, b = n := ⟨b.toNat, by omega⟩
  obtain ⟨e1, e2⟩ := div_parts a m (by omega)
  refine ⟨?_, ?_⟩
  · rw [e1]
    exact Nat.lt_of_le_of_lt (Int.natAbs_ediv_le_natAbs _ _) h1
  · rw [e2]
    exact Nat.lt_of_le_of_lt (Nat.div_le_self _ _) (by simpa using h2)
namespace Wd
theorem e_reduced {a b : Int} {w : W} (hb : 0 < b) (h : b.natAbs < 2 ^ 8900) : F_reduced [.int a, .int b] w = .ok (fr (Rat.divInt a b)) w := by
  obtain ⟨g, hg, g1, g2, _, _⟩ := gcd_facts (a := a) hb
  have gs : ((g : Nat) : Int).natAbs < 2 ^ 8900 := by simpa using Nat.lt_of_le_of_lt g2 h
  have d1 : CDivW a ((g : Nat) : Int) := cdiv_of (by omega) gs (by decide) (by decide)
  have d2 : CDivW b ((g : Nat) : Int) := cdiv_of (by omega) gs (by decide) (by decide)
  rw [fr_div a b hb, hg]
  have ec : F_common [.int a, .int b] w = .ok (.int ((g : Nat) : Int)) w := by rw [← hg]; rfl
  simp [F_reduced, t_reduced, st0, hb, ec, d1, d2, sizeLine]
theorem den_pos (q : Rat) : 0 < ((q.den : Nat) : Int) := by have := q.den_pos; omega
theorem szn {n : Nat} {q : Rat} (h : Sz n q) : ((q.den : Nat) : Int).natAbs < 2 ^ n := by simpa using h.2
theorem natAbs_add_lt {i j : Int} {n : Nat} (h1 : i.natAbs < 2 ^ n) (h2 : j.natAbs < 2 ^ n) : (i + j).natAbs < 2 ^ (n + 1) := by
  rw [Nat.pow_succ]; omega
theorem natAbs_sub_lt {i j : Int} {n : Nat} (h1 : i.natAbs < 2 ^ n) (h2 : j.natAbs < 2 ^ n) : (i - j).natAbs < 2 ^ (n + 1) := by
  rw [Nat.pow_succ]; omega
section
variable {m n : Nat} {p q : Rat} {w : W}
theorem cm {i j : Int} {k : Nat} (h1 : i.natAbs < 2 ^ k) (h2 : j.natAbs < 2 ^ k) (h : k ≤ 4000) (h0 : 0 < k) : CMulW i j := cmul_of h1 h2 h0 h0 (by omega)
theorem divInt_add (p q : Rat) : Rat.divInt (p.num * q.den + q.num * p.den) (p.den * q.den) = p + q := by
  have h := Rat.divInt_add_divInt p.num q.num (d₁ := p.den) (d₂ := q.den) (by have := p.den_pos; omega) (by have := q.den_pos; omega)
  rw [Rat.num_divInt_den, Rat.num_divInt_den] at h
  exact h.symm
theorem divInt_sub (p q : Rat) : Rat.divInt (p.num * q.den - q.num * p.den) (p.den * q.den) = p - q := by
  have h := divInt_add p (-q)
  rw [Rat.neg_num, Rat.neg_den] at h
  rw [Rat.sub_eq_add_neg, ← h]
  congr 1
  grind
theorem divInt_mul (p q : Rat) : Rat.divInt (p.num * q.num) (p.den * q.den) = p * q := by
  have h := Rat.divInt_mul_divInt p.num q.num (d₁ := p.den) (d₂ := q.den)
  rw [Rat.num_divInt_den, Rat.num_divInt_den] at h
  exact h.symm
theorem divInt_quo (p q : Rat) (hq : 0 < q) : Rat.divInt (p.num * q.den) (p.den * q.num) = p / q := by
  rw [Rat.div_def]
  have e : q⁻¹ = Rat.divInt q.den q.num := by
    have := Rat.inv_divInt q.num q.den
    rw [Rat.num_divInt_den] at this
    exact this
  have h := Rat.divInt_mul_divInt p.num q.den (d₁ := p.den) (d₂ := q.num)
  rw [Rat.num_divInt_den, ← e] at h
  exact h.symm
theorem num_pos {q : Rat} (hq : 0 < q) : 0 < q.num := by
  rcases Int.lt_trichotomy 0 q.num with h | h | h
  · exact h
  · exact absurd (Rat.num_eq_zero.mp h.symm) (by grind)
  · have := Rat.num_nonneg.mpr (show 0 ≤ q by grind)
    omega
theorem e_added {k : Nat} (hp : Sz k p) (hq : Sz k q) (h : k ≤ 2000) (h0 : 0 < k) : F_added [fr p, fr q] w = .ok (fr (p + q)) w := by
  have m1 := cm hp.1 (szn hq) (by omega) h0
  have m2 := cm hq.1 (szn hp) (by omega) h0
  have m3 := cm (szn hp) (szn hq) (by omega) h0
  have n3 : (((p.den : Nat) : Int) * ((q.den : Nat) : Int)).natAbs < 2 ^ 8900 := Nat.lt_of_lt_of_le (natAbs_mul_lt (szn hp) (szn hq)) (Nat.pow_le_pow_right (by decide) (by omega))
  have e := e_reduced (a := p.num * q.den + q.num * p.den) (b := p.den * q.den) (w := w) (Int.mul_pos (den_pos p) (den_pos q)) n3
  rw [divInt_add] at e
  simp [F_added, t_added, st0, fr, m1, m2, m3]
  simp [fr] at e
  rw [e]; rfl
theorem e_difference {k : Nat} (hp : Sz k p) (hq : Sz k q) (h : k ≤ 2000) (h0 : 0 < k) : F_difference [fr p, fr q] w = .ok (fr (p - q)) w := by
  have m1 := cm hp.1 (szn hq) (by omega) h0
  have m2 := cm hq.1 (szn hp) (by omega) h0
  have m3 := cm (szn hp) (szn hq) (by omega) h0
  have n3 : (((p.den : Nat) : Int) * ((q.den : Nat) : Int)).natAbs < 2 ^ 8900 := Nat.lt_of_lt_of_le (natAbs_mul_lt (szn hp) (szn hq)) (Nat.pow_le_pow_right (by decide) (by omega))
  have e := e_reduced (a := p.num * q.den - q.num * p.den) (b := p.den * q.den) (w := w) (Int.mul_pos (den_pos p) (den_pos q)) n3
  rw [divInt_sub] at e
  simp [F_difference, t_difference, st0, fr, m1, m2, m3]
  simp [fr] at e
  rw [e]; rfl
theorem e_product {k : Nat} (hp : Sz k p) (hq : Sz k q) (h : k ≤ 2000) (h0 : 0 < k) : F_product_of [fr p, fr q] w = .ok (fr (p * q)) w := by
  have m1 := cm hp.1 hq.1 (by omega) h0
  have m3 := cm (szn hp) (szn hq) (by omega) h0
  have n3 : (((p.den : Nat) : Int) * ((q.den : Nat) : Int)).natAbs < 2 ^ 8900 := Nat.lt_of_lt_of_le (natAbs_mul_lt (szn hp) (szn hq)) (Nat.pow_le_pow_right (by decide) (by omega))
  have e := e_reduced (a := p.num * q.num) (b := p.den * q.den) (w := w) (Int.mul_pos (den_pos p) (den_pos q)) n3
  rw [divInt_mul] at e
  simp [F_product_of, t_product_of, st0, fr, m1, m3]
  simp [fr] at e
  rw [e]; rfl
theorem e_quotient {k : Nat} (hp : Sz k p) (hq : Sz k q) (h : k ≤ 2000) (h0 : 0 < k) (q0 : 0 < q) : F_quotient [fr p, fr q] w = .ok (fr (p / q)) w := by
  have m1 := cm hp.1 (szn hq) (by omega) h0
  have m3 := cm (szn hp) hq.1 (by omega) h0
  have n3 : (((p.den : Nat) : Int) * q.num).natAbs < 2 ^ 8900 := Nat.lt_of_lt_of_le (natAbs_mul_lt (szn hp) hq.1) (Nat.pow_le_pow_right (by decide) (by omega))
  have e := e_reduced (a := p.num * q.den) (b := p.den * q.num) (w := w) (Int.mul_pos (den_pos p) (num_pos q0)) n3
  rw [divInt_quo p q q0] at e
  simp [F_quotient, t_quotient, st0, fr, m1, m3]
  simp [fr] at e
  rw [e]; rfl
theorem e_less {k : Nat} (hp : Sz k p) (hq : Sz k q) (h : k ≤ 2000) (h0 : 0 < k) : F_is_less [fr p, fr q] w = .ok (.bl (decide (p < q))) w := by
  have m1 := cm hp.1 (szn hq) (by omega) h0
  have m2 := cm hq.1 (szn hp) (by omega) h0
  simp [F_is_less, t_is_less, st0, fr, m1, m2, Rat.lt_iff]
theorem e_floor {k : Nat} (hp : Sz k p) (h : k ≤ 8000) (h0 : 0 < k) : F_floor_of [fr p] w = .ok (.int p.floor) w := by
  have d : CDivW p.num ((p.den : Nat) : Int) := cdiv_of (den_pos p) (szn hp) h0 (by omega)
  simp [F_floor_of, t_floor_of, st0, fr, d, Rat.floor_def]
theorem sz_add {k l : Nat} (hp : Sz k p) (hq : Sz k q) (h : 2 * k + 1 ≤ l) : Sz l (p + q) := by
  rw [← divInt_add]
  refine (sz_div (n := 2 * k + 1) (Int.mul_pos (den_pos p) (den_pos q)) ?_ ?_).up h
  · have := natAbs_add_lt (natAbs_mul_lt hp.1 (szn hq)) (natAbs_mul_lt hq.1 (szn hp))
    rwa [show k + k + 1 = 2 * k + 1 by omega] at this
  · exact Nat.lt_of_lt_of_le (natAbs_mul_lt (szn hp) (szn hq)) (Nat.pow_le_pow_right (by decide) (by omega))
theorem sz_sub {k l : Nat} (hp : Sz k p) (hq : Sz k q) (h : 2 * k + 1 ≤ l) : Sz l (p - q) := by
  rw [Rat.sub_eq_add_neg]
  exact sz_add hp ⟨by rw [Rat.neg_num, Int.natAbs_neg]; exact hq.1, by rw [Rat.neg_den]; exact hq.2⟩ h
theorem sz_mul {k l : Nat} (hp : Sz k p) (hq : Sz k q) (h : 2 * k ≤ l) : Sz l (p * q) := by
  rw [← divInt_mul]
  refine (sz_div (n := 2 * k) (Int.mul_pos (den_pos p) (den_pos q)) ?_ ?_).up h
  · have := natAbs_mul_lt hp.1 hq.1
    rwa [show k + k = 2 * k by omega] at this
  · have := natAbs_mul_lt (szn hp) (szn hq)
    rwa [show k + k = 2 * k by omega] at this
theorem sz_quo {k l : Nat} (hp : Sz k p) (hq : Sz k q) (q0 : 0 < q) (h : 2 * k ≤ l) : Sz l (p / q) := by
  rw [← divInt_quo p q q0]
  refine (sz_div (n := 2 * k) (Int.mul_pos (den_pos p) (num_pos q0)) ?_ ?_).up h
  · have := natAbs_mul_lt hp.1 (szn hq)
    rwa [show k + k = 2 * k by omega] at this
  · have := natAbs_mul_lt (szn hp) hq.1
    rwa [show k + k = 2 * k by omega] at this
end
end Wd
end Rf
namespace Rf
open PySem L2 PySem.Spec PyProof.Rows
namespace Wd
/-! ## the law's own fractions -/
def eC : S → W → R D := ev (.cmp .NotEq (.v 3) (.k (.int 0)))
def eB : S → W → R Fl := evTs (.cons (.par2 2 3 (.v (.v 3)) (.v (.bin .Mod (.v 2) (.v 3)))) .nil)
theorem eC_ok {d1 d2 : D} {x y : Nat} {w : W} : eC [.v d1, .v d2, .v (.int x), .v (.int y)] w = .ok (.bl (!decide (y = 0))) w := by
  simp [eC]
theorem eB_ok {d1 d2 : D} {x y : Nat} {w : W} (h : 0 < y) : eB [.v d1, .v d2, .v (.int x), .v (.int y)] w = .ok (.nx [.v d1, .v d2, .v (.int y), .v (.int ((x % y : Nat) : Int))]) w := by
  have h' : (0 : Int) < (y : Int) := by omega
  simp [eB, h]
theorem while_step {fc : S → W → R D} {fb : S → W → R Fl} {n : Nat} {s s' : S} {w : W} (h1 : fc s w = .ok (.bl true) w) (h2 : fb s w = .ok (.nx s') w) : whileL fc fb (n + 1) s w = whileL fc fb n s' w := by
  conv => lhs; unfold whileL
  rw [h1]; simp only [p_bnd]; rw [h2]; rfl
theorem while_end {fc : S → W → R D} {fb : S → W → R Fl} {n : Nat} {s : S} {w : W} (h1 : fc s w = .ok (.bl false) w) : whileL fc fb (n + 1) s w = .ok (.nx s) w := by
  unfold whileL
  rw [h1]; rfl
theorem euclid {d1 d2 : D} {w : W} : ∀ (k n x y : Nat), y < 2 ^ k → 2 * k + 1 ≤ n → whileL eC eB n [.v d1, .v d2, .v (.int x), .v (.int y)] w = .ok (.nx [.v d1, .v d2, .v (.int ((Nat.gcd x y : Nat) : Int)), .v (.int 0)]) w
  | k, 0, x, y, h, hn => by omega
  | k, n + 1, x, y, h, hn => by
    by_cases hy : y = 0
    · subst hy
      rw [while_end (by rw [eC_ok]; rfl), Nat.gcd_zero_right]; rfl
    have hy0 : 0 < y := by omega
    rw [while_step (by rw [eC_ok]; simp [hy]) (eB_ok hy0)]
    have hg : Nat.gcd x y = Nat.gcd y (x % y) := by rw [Nat.gcd_comm x y, Nat.gcd_rec y x, Nat.gcd_comm]
    match n, hn with
    | 0, hn => exact absurd (show k = 0 by omega) (fun z => by subst z; omega)
    | n + 1, hn =>
      by_cases hr : x % y = 0
      · rw [hg, hr, while_end (by rw [eC_ok]; rfl), Nat.gcd_zero_right]; rfl
      have hr0 : 0 < x % y := by omega
      rw [while_step (by rw [eC_ok]; simp [hr]) (eB_ok hr0)]
      match k, h, hn with
      | 0, h, hn => exact absurd h (by omega)
      | k + 1, h, hn =>
        have hlt : x % y < y := Nat.mod_lt _ hy0
        have hl2 : y % (x % y) < 2 ^ k := by
          have h1 : y % (x % y) < x % y := Nat.mod_lt _ hr0
          have h2 : 2 * (y % (x % y)) < y := by
            by_cases q : 2 * (x % y) ≤ y
            · omega
            · have : y % (x % y) = y - x % y := by
                rw [Nat.mod_eq_sub_mod (by omega), Nat.mod_eq_of_lt (by omega)]
              omega
          rw [Nat.pow_succ] at h
          omega
        rw [euclid k n (x % y) (y % (x % y)) hl2 (by omega), hg]
        congr 6
        rw [Nat.gcd_comm y, Nat.gcd_rec (x % y) y, Nat.gcd_comm]
section
variable {p q : Rat} {w : W}
theorem e_lreduced {a b : Int} (hb : 0 < b) (h : b.natAbs < 2 ^ 8900) : F__law_reduced [.int a, .int b] w = .ok (fr (Rat.divInt a b)) w := by
  obtain ⟨g, hg, g1, g2, _, _⟩ := gcd_facts (a := a) hb
  have gs : ((g : Nat) : Int).natAbs < 2 ^ 8900 := by simpa using Nat.lt_of_le_of_lt g2 h
  have d1 : CDivW a ((g : Nat) : Int) := cdiv_of (by omega) gs (by decide) (by decide)
  have d2 : CDivW b ((g : Nat) : Int) := cdiv_of (by omega) gs (by decide) (by decide)
  rw [fr_div a b hb, hg]
  have ea : (if a < 0 then -a else a) = ((a.natAbs : Nat) : Int) := by split <;> omega
  have eb : (if b < 0 then -b else b) = ((b.natAbs : Nat) : Int) := by split <;> omega
  have ew := euclid (d1 := .int a) (d2 := .int b) (w := w) 8900 (10 ^ 18) a.natAbs b.natAbs h (by omega)
  rw [hg] at ew
  have ew' : fWhile (fun _ _ => 10 ^ 18) (ev (.cmp .NotEq (.v 3) (.k (.int 0)))) (evTs (.cons (.par2 2 3 (.v (.v 3)) (.v (.bin .Mod (.v 2) (.v 3)))) .nil)) [.v (.int a), .v (.int b), .v (.int ((a.natAbs : Nat) : Int)), .v (.int ((b.natAbs : Nat) : Int))] w = .ok (.nx [.v (.int a), .v (.int b), .v (.int (g : Nat)), .v (.int 0)]) w := ew
  simp only [F__law_reduced, t__law_reduced, p_runF, p_tsC, p_tpar2, p_parv, p_par0, p_bi, p_cons, p_nil, p_v, st0, List.map_cons, List.map_nil, List.length_cons, List.length_nil, List.cons_append, List.nil_append]
  simp only [fV, List.getElem?_cons_zero, List.getElem?_cons_succ, p_bnd, p_abs, p_opt, ea, eb, List.set_cons_zero, List.set_cons_succ, p_sq1, p_tsC, p_twhile, List.replicate]
  rw [ew']
  simp [hb, d1, d2, sizeLine]
theorem e_ladded {k : Nat} (hp : Sz k p) (hq : Sz k q) (h : k ≤ 2000) (h0 : 0 < k) : F__law_added [fr p, fr q] w = .ok (fr (p + q)) w := by
  have m1 := cm hp.1 (szn hq) (by omega) h0
  have m2 := cm hq.1 (szn hp) (by omega) h0
  have m3 := cm (szn hp) (szn hq) (by omega) h0
  have n3 : (((p.den : Nat) : Int) * ((q.den : Nat) : Int)).natAbs < 2 ^ 8900 := Nat.lt_of_lt_of_le (natAbs_mul_lt (szn hp) (szn hq)) (Nat.pow_le_pow_right (by decide) (by omega))
  have e := e_lreduced (a := p.num * q.den + q.num * p.den) (b := p.den * q.den) (w := w) (Int.mul_pos (den_pos p) (den_pos q)) n3
  rw [divInt_add] at e
  simp [F__law_added, t__law_added, st0, fr, m1, m2, m3]
  simp [fr] at e
  rw [e]; rfl
theorem e_ltimes {k : Nat} (hp : Sz k p) (hq : Sz k q) (h : k ≤ 2000) (h0 : 0 < k) : F__law_times [fr p, fr q] w = .ok (fr (p * q)) w := by
  have m1 := cm hp.1 hq.1 (by omega) h0
  have m3 := cm (szn hp) (szn hq) (by omega) h0
  have n3 : (((p.den : Nat) : Int) * ((q.den : Nat) : Int)).natAbs < 2 ^ 8900 := Nat.lt_of_lt_of_le (natAbs_mul_lt (szn hp) (szn hq)) (Nat.pow_le_pow_right (by decide) (by omega))
  have e := e_lreduced (a := p.num * q.num) (b := p.den * q.den) (w := w) (Int.mul_pos (den_pos p) (den_pos q)) n3
  rw [divInt_mul] at e
  simp [F__law_times, t__law_times, st0, fr, m1, m3]
  simp [fr] at e
  rw [e]; rfl
theorem e_lminus : F__law_minus [fr p] w = .ok (fr (-p)) w := by
  simp [F__law_minus, t__law_minus, st0, fr, sizeLine, Rat.neg_num, Rat.neg_den]
theorem e_lless {k : Nat} (hp : Sz k p) (hq : Sz k q) (h : k ≤ 2000) (h0 : 0 < k) : F__law_less [fr p, fr q] w = .ok (.bl (decide (p < q))) w := by
  have m1 := cm hp.1 (szn hq) (by omega) h0
  have m2 := cm hq.1 (szn hp) (by omega) h0
  simp [F__law_less, t__law_less, st0, fr, m1, m2, Rat.lt_iff]
theorem sz_neg {k : Nat} (hp : Sz k p) : Sz k (-p) := ⟨by rw [Rat.neg_num, Int.natAbs_neg]; exact hp.1, by rw [Rat.neg_den]; exact hp.2⟩
theorem e_isfr : F_is_fraction [fr p] w = .ok (.bl true) w := by
  have hc : Nat.gcd p.num.natAbs p.den = 1 := p.reduced
  have hd := p.den_pos
  have h1 : ∀ i : Int, F_is_integer [.int i] w = .ok (.bl true) w := fun _ => rfl
  have h2 : ∀ a b : Int, F_common [.int a, .int b] w = .ok (.int ((Nat.gcd a.natAbs b.natAbs : Nat) : Int)) w := fun _ _ => rfl
  have hb : bare [1] ([.v (.tup [.int p.num, .int (p.den : Nat)]), .e] : S) = true := rfl
  have ht : ∀ x : List D, isiD .tuple (.tup x) = some (.bl true) := fun _ => rfl
  have ha : biD .all [.lst [.bl true, .bl true]] = some (.bl true) := rfl
  have hd' : (1 : Int) ≤ (p.den : Nat) := by omega
  simp [F_is_fraction, t_is_fraction, st0, fr, hb, compL, h1, h2, hc, ht, ha, sizeLine, hd']
theorem e_told {k : Nat} (hp : Sz k p) (h : k ≤ 990) : F_is_told_fraction [fr p] w = .ok (.bl true) w := by
  have e := e_isfr (p := p) (w := w)
  have hx : (2 : Int) ^ 990 < (10 ^ 60) ^ 5 := by decide +kernel
  have hs := hp.up h
  generalize hX : ((10 : Int) ^ 60) ^ 5 = X at hx
  have hg : c_BEYOND = .int X := by rw [← hX]; rfl
  have h1 : (if p.num < 0 then -p.num else p.num) < X := by
    have := hs.1
    split <;> omega
  have h2 : ((p.den : Nat) : Int) < X := by
    have := hs.2
    omega
  unfold fr at e ⊢
  simp [F_is_told_fraction, t_is_told_fraction, st0, e, hg, h1, h2]
end
end Wd
end Rf
namespace Rf
open PySem L2 PySem.Spec PyProof.Rows
/-! ## == of plain data -/
mutual
def beqD : D → D → Bool
  | .non, .non => true
  | .int i, .int j => decide (i = j)
  | .str x, .str y => decide (x = y)
  | .tup xs, .tup ys => beqDs xs ys
  | .lst xs, .lst ys => beqDs xs ys
  | _, _ => false
def beqDs : List D → List D → Bool
  | [], [] => true
  | x :: xs, y :: ys => beqD x y && beqDs xs ys
  | _, _ => false
end
mutual
/-- ints, texts, None, rows of these -/
def plD : D → Bool
  | .non => true
  | .int _ => true
  | .str _ => true
  | .tup xs => plDs xs
  | .lst xs => plDs xs
  | _ => false
def plDs : List D → Bool
  | [] => true
  | x :: xs => plD x && plDs xs
end
mutual
def dpD : D → Nat
  | .tup xs => dpDs xs + 1
  | .lst xs => dpDs xs + 1
  | _ => 0
def dpDs : List D → Nat
  | [] => 0
  | x :: xs => max (dpD x) (dpDs xs)
end
theorem plDs_iff {xs : List D} : plDs xs = true ↔ ∀ x ∈ xs, plD x = true := by
  induction xs with
  | nil => simp [plDs]
  | cons x xs ih => simp [plDs, ih]
theorem dpDs_le {n : Nat} {xs : List D} (h : ∀ x ∈ xs, dpD x ≤ n) : dpDs xs ≤ n := by
  induction xs with
  | nil => simp [dpDs]
  | cons x xs ih =>
    have a := h x (List.mem_cons_self ..)
    have b := ih fun y hy => h y (List.mem_cons_of_mem _ hy)
    simp only [dpDs]; omega
mutual
theorem beqD_iff : ∀ {a b : D}, plD a = true → (beqD a b = true ↔ a = b)
  | .non, b, _ => by cases b <;> simp [beqD]
  | .int i, b, _ => by cases b <;> simp [beqD]
  | .str x, b, _ => by cases b <;> simp [beqD]
  | .tup xs, b, h => by
    cases b <;> simp only [beqD, Bool.false_eq_true, reduceCtorEq, false_iff, not_false_eq_true]
    rename_i ys
    rw [beqDs_iff (xs := xs) (ys := ys) (by unfold plD at h; exact h)]
    simp
  | .lst xs, b, h => by
    cases b <;> simp only [beqD, Bool.false_eq_true, reduceCtorEq, false_iff, not_false_eq_true]
    rename_i ys
    rw [beqDs_iff (xs := xs) (ys := ys) (by unfold plD at h; exact h)]
    simp
  | .bl _, _, h => by unfold plD at h; cases h
  | .dic _, _, h => by unfold plD at h; cases h
  | .pot, _, h => by unfold plD at h; cases h
  | .scr _, _, h => by unfold plD at h; cases h
  | .fn _, _, h => by unfold plD at h; cases h
theorem beqDs_iff : ∀ {xs ys : List D}, plDs xs = true → (beqDs xs ys = true ↔ xs = ys)
  | [], ys, _ => by cases ys <;> simp [beqDs]
  | x :: xs, ys, h => by
    unfold plDs at h
    rw [Bool.and_eq_true] at h
    cases ys with
    | nil => simp [beqDs]
    | cons y ys =>
      simp only [beqDs, Bool.and_eq_true, List.cons.injEq]
      rw [beqD_iff h.1, beqDs_iff h.2]
end
mutual
theorem toPy_pl : ∀ {d : D}, plD d = true → ∃ p, toPy d = some p ∧ p.depth = dpD d
  | .non, _ => ⟨.none, by unfold toPy; rfl, by simp [PyData.depth, dpD]⟩
  | .int i, _ => ⟨.int i, by unfold toPy; rfl, by simp [PyData.depth, dpD]⟩
  | .str x, _ => ⟨.str x, by unfold toPy; rfl, by simp [PyData.depth, dpD]⟩
  | .tup xs, h => by
    obtain ⟨ps, e1, e2⟩ := toPys_pl (xs := xs) (by unfold plD at h; exact h)
    exact ⟨.tuple ps, by unfold toPy; rw [e1]; rfl, by simp [PyData.depth, dpD, e2]⟩
  | .lst xs, h => by
    obtain ⟨ps, e1, e2⟩ := toPys_pl (xs := xs) (by unfold plD at h; exact h)
    exact ⟨.list ps, by unfold toPy; rw [e1]; rfl, by simp [PyData.depth, dpD, e2]⟩
  | .bl _, h => by unfold plD at h; cases h
  | .dic _, h => by unfold plD at h; cases h
  | .pot, h => by unfold plD at h; cases h
  | .scr _, h => by unfold plD at h; cases h
  | .fn _, h => by unfold plD at h; cases h
theorem toPys_pl : ∀ {xs : List D}, plDs xs = true → ∃ ps, toPyAll xs = some ps ∧ PyData.depthAll ps = dpDs xs
  | [], _ => ⟨[], by unfold toPyAll; rfl, by simp [PyData.depthAll, dpDs]⟩
  | x :: xs, h => by
    unfold plDs at h
    rw [Bool.and_eq_true] at h
    obtain ⟨p, e1, e2⟩ := toPy_pl h.1
    obtain ⟨ps, e3, e4⟩ := toPys_pl h.2
    exact ⟨p :: ps, by unfold toPyAll; rw [e1, e3], by simp [PyData.depthAll, dpDs, e2, e4]⟩
end
mutual
theorem eqv_pl : ∀ {a b : D} {p q : PyData}, plD a = true → plD b = true → toPy a = some p → toPy b = some q → PyData.eqv p q = beqD a b
  | .non, b, p, q, h, h', e, e' => by
    cases b <;> (unfold toPy at e e') <;> first | (unfold plD at h'; cases h'; done) | (cases e; cases e'; simp [PyData.eqv, beqD]; done) | (cases e; obtain ⟨ps, _, rfl⟩ := Option.map_eq_some_iff.mp e'; simp [PyData.eqv, beqD])
  | .int i, b, p, q, h, h', e, e' => by
    cases b <;> (unfold toPy at e e') <;> first | (unfold plD at h'; cases h'; done) | (cases e; cases e'; simp [PyData.eqv, beqD]; done) | (cases e; cases e'; rw [Bool.eq_iff_iff]; simp [PyData.eqv, beqD]; done) | (cases e; obtain ⟨ps, _, rfl⟩ := Option.map_eq_some_iff.mp e'; simp [PyData.eqv, beqD])
  | .str x, b, p, q, h, h', e, e' => by
    cases b <;> (unfold toPy at e e') <;> first | (unfold plD at h'; cases h'; done) | (cases e; cases e'; simp [PyData.eqv, beqD]; done) | (cases e; cases e'; rw [Bool.eq_iff_iff]; simp [PyData.eqv, beqD]; done) | (cases e; obtain ⟨ps, _, rfl⟩ := Option.map_eq_some_iff.mp e'; simp [PyData.eqv, beqD])
  | .tup xs, b, p, q, h, h', e, e' => by
    unfold toPy at e
    obtain ⟨ps, e1, rfl⟩ := Option.map_eq_some_iff.mp e
    cases b <;> (unfold toPy at e') <;> first | (unfold plD at h'; cases h'; done) | (cases e'; simp [PyData.eqv, beqD]; done) | (obtain ⟨qs, e2, rfl⟩ := Option.map_eq_some_iff.mp e'; simp only [PyData.eqv, beqD]; first | done | exact eqvs_pl (by unfold plD at h; exact h) (by unfold plD at h'; exact h') e1 e2)
  | .lst xs, b, p, q, h, h', e, e' => by
    unfold toPy at e
    obtain ⟨ps, e1, rfl⟩ := Option.map_eq_some_iff.mp e
    cases b <;> (unfold toPy at e') <;> first | (unfold plD at h'; cases h'; done) | (cases e'; simp [PyData.eqv, beqD]; done) | (obtain ⟨qs, e2, rfl⟩ := Option.map_eq_some_iff.mp e'; simp only [PyData.eqv, beqD]; first | done | exact eqvs_pl (by unfold plD at h; exact h) (by unfold plD at h'; exact h') e1 e2)
  | .bl _, _, _, _, h, _, _, _ => by unfold plD at h; cases h
  | .dic _, _, _, _, h, _, _, _ => by unfold plD at h; cases h
  | .pot, _, _, _, h, _, _, _ => by unfold plD at h; cases h
  | .scr _, _, _, _, h, _, _, _ => by unfold plD at h; cases h
  | .fn _, _, _, _, h, _, _, _ => by unfold plD at h; cases h
theorem eqvs_pl : ∀ {xs ys : List D} {ps qs : List PyData}, plDs xs = true → plDs ys = true → toPyAll xs = some ps → toPyAll ys = some qs → PyData.eqvAll ps qs = beqDs xs ys
  | [], ys, ps, qs, h, h', e, e' => by
    unfold toPyAll at e; cases e
    cases ys with
    | nil => unfold toPyAll at e'; cases e'; simp [PyData.eqvAll, beqDs]
    | cons y ys =>
      unfold toPyAll at e'
      cases e1 : toPy y with
      | none => rw [e1] at e'; cases e'
      | some q =>
        cases e2 : toPyAll ys with
        | none => rw [e1, e2] at e'; cases e'
        | some qs => rw [e1, e2] at e'; cases e'; simp [PyData.eqvAll, beqDs]
  | x :: xs, ys, ps, qs, h, h', e, e' => by
    unfold plDs at h
    rw [Bool.and_eq_true] at h
    unfold toPyAll at e
    cases e1 : toPy x with
    | none => rw [e1] at e; cases e
    | some p =>
      cases e2 : toPyAll xs with
      | none => rw [e1, e2] at e; cases e
      | some ps1 =>
        rw [e1, e2] at e; cases e
        cases ys with
        | nil => unfold toPyAll at e'; cases e'; simp [PyData.eqvAll, beqDs]
        | cons y ys =>
          unfold plDs at h'
          rw [Bool.and_eq_true] at h'
          unfold toPyAll at e'
          cases e3 : toPy y with
          | none => rw [e3] at e'; cases e'
          | some q =>
            cases e4 : toPyAll ys with
            | none => rw [e3, e4] at e'; cases e'
            | some qs1 =>
              rw [e3, e4] at e'; cases e'
              simp only [PyData.eqvAll, beqDs]
              rw [eqv_pl h.1 h'.1 e1 e3, eqvs_pl h.2 h'.2 e2 e4]
end
section
variable {a b : D}
theorem eq_pl (ha : plD a = true) (hb : plD b = true) (h : min (dpD a) (dpD b) ≤ 64) : cmpD .Eq a b = some (.bl (beqD a b)) := by
  have go : eqD0 a b = some (.bl (beqD a b)) := by
    obtain ⟨p, e1, e2⟩ := toPy_pl ha
    obtain ⟨q, e3, e4⟩ := toPy_pl hb
    unfold eqD0
    rw [e1, e3]
    simp only
    rw [if_pos (by rw [e2, e4]; exact h), eqv_pl ha hb e1 e3]
  show eqD a b = _
  unfold eqD
  split
  · simp [beqD]
  · exact go
theorem ne_pl (ha : plD a = true) (hb : plD b = true) (h : min (dpD a) (dpD b) ≤ 64) : cmpD .NotEq a b = some (.bl (!beqD a b)) := by
  have go : neD0 a b = some (.bl (!beqD a b)) := by
    obtain ⟨p, e1, e2⟩ := toPy_pl ha
    obtain ⟨q, e3, e4⟩ := toPy_pl hb
    unfold neD0
    rw [e1, e3]
    simp only
    rw [if_pos (by rw [e2, e4]; exact h), eqv_pl ha hb e1 e3]
  show neD a b = _
  unfold neD
  split
  · simp [beqD]
  · exact go
theorem eq_same (ha : plD a = true) (h : dpD a ≤ 64) : cmpD .Eq a a = some (.bl true) := by
  rw [eq_pl ha ha (by omega), (beqD_iff ha).mpr rfl]
theorem ne_same (ha : plD a = true) (h : dpD a ≤ 64) : cmpD .NotEq a a = some (.bl false) := by
  rw [ne_pl ha ha (by omega), (beqD_iff ha).mpr rfl]; rfl
theorem p_eqbl (x y : Bool) : cmpD .Eq (.bl x) (.bl y) = some (.bl (x == y)) := by
  show eqD0 (.bl x) (.bl y) = _
  unfold eqD0
  simp only [toPy]
  rw [if_pos (by show min 0 0 ≤ 64; decide)]
  simp only [PyData.eqv]
theorem p_nebl (x y : Bool) : cmpD .NotEq (.bl x) (.bl y) = some (.bl (!(x == y))) := by
  show neD0 (.bl x) (.bl y) = _
  unfold neD0
  simp only [toPy]
  rw [if_pos (by show min 0 0 ≤ 64; decide)]
  simp only [PyData.eqv]
end
/-! ## targets -/
section
variable {x y z u : D} {a b c d : Tg} {s : S}
@[simp] theorem p_tg1 : evTg (.t1 a) (.tup [x]) s = (evTg a x s).bind some := rfl
@[simp] theorem p_tg2 : evTg (.t2 a b) (.tup [x, y]) s = (evTg a x s).bind fun s1 => (evTg b y s1).bind some := rfl
@[simp] theorem p_tg3 : evTg (.t3 a b c) (.tup [x, y, z]) s = (evTg a x s).bind fun s1 => (evTg b y s1).bind fun s2 => (evTg c z s2).bind some := rfl
@[simp] theorem p_tg4 : evTg (.t4 a b c d) (.tup [x, y, z, u]) s = (evTg a x s).bind fun s1 => (evTg b y s1).bind fun s2 => (evTg c z s2).bind fun s3 => (evTg d u s3).bind some := rfl
end
/-! ## fractions -/
theorem plD_fr (p : Rat) : plD (fr p) = true := by simp [fr, plD, plDs]
theorem dpD_fr (p : Rat) : dpD (fr p) = 1 := by simp [fr, dpD, dpDs]
theorem beq_fr (p q : Rat) : beqD (fr p) (fr q) = decide (p = q) := by
  rw [Bool.eq_iff_iff, beqD_iff (plD_fr p), decide_eq_true_eq]
  exact ⟨fr_inj, fun h => by rw [h]⟩
theorem p_eqfr (p q : Rat) : cmpD .Eq (fr p) (fr q) = some (.bl (decide (p = q))) := by
  rw [eq_pl (plD_fr p) (plD_fr q) (by rw [dpD_fr]; omega), beq_fr]
theorem p_nefr (p q : Rat) : cmpD .NotEq (fr p) (fr q) = some (.bl (!decide (p = q))) := by
  rw [ne_pl (plD_fr p) (plD_fr q) (by rw [dpD_fr]; omega), beq_fr]
@[simp] theorem p_ixf0 (p : Rat) : ixD2 (fr p) (.int 0) = some (.int p.num) := by simp [fr]
@[simp] theorem p_ixf1 (p : Rat) : ixD2 (fr p) (.int 1) = some (.int ((p.den : Nat) : Int)) := by simp [fr]
theorem fr_i (k : Int) : D.tup [.int k, .int 1] = fr (k : Rat) := rfl
theorem sz_i {k : Int} {n : Nat} (h : k.natAbs < 2 ^ n) (hn : 0 < n) : Sz n (k : Rat) := ⟨h, Nat.one_lt_two_pow (by omega)⟩
section
variable {p q : Rat}
theorem z_add {m n l : Nat} (hp : Sz m p) (hq : Sz n q) (h : m + n + 1 ≤ l) : Sz l (p + q) := by
  rw [← Wd.divInt_add]
  refine (sz_div (n := m + n + 1) (Int.mul_pos (Wd.den_pos p) (Wd.den_pos q)) ?_ ?_).up h
  · have a := natAbs_mul_lt hp.1 (Wd.szn hq)
    have b := natAbs_mul_lt hq.1 (Wd.szn hp)
    rw [Nat.add_comm n m] at b
    exact Wd.natAbs_add_lt a b
  · exact Nat.lt_of_lt_of_le (natAbs_mul_lt (Wd.szn hp) (Wd.szn hq)) (Nat.pow_le_pow_right (by decide) (by omega))
theorem z_mul {m n l : Nat} (hp : Sz m p) (hq : Sz n q) (h : m + n ≤ l) : Sz l (p * q) := by
  rw [← Wd.divInt_mul]
  exact (sz_div (n := m + n) (Int.mul_pos (Wd.den_pos p) (Wd.den_pos q)) (natAbs_mul_lt hp.1 hq.1) (natAbs_mul_lt (Wd.szn hp) (Wd.szn hq))).up h
theorem z_quo {m n l : Nat} (hp : Sz m p) (hq : Sz n q) (q0 : 0 < q) (h : m + n ≤ l) : Sz l (p / q) := by
  rw [← Wd.divInt_quo p q q0]
  exact (sz_div (n := m + n) (Int.mul_pos (Wd.den_pos p) (Wd.num_pos q0)) (natAbs_mul_lt hp.1 (Wd.szn hq)) (natAbs_mul_lt (Wd.szn hp) hq.1)).up h
/-- the repr of a fraction -/
theorem rep_fr {k : Nat} (hp : Sz k p) (h : k ≤ 1900) : ∃ t : Str, biD .repr [fr p] = some (.str t) := by
  refine ⟨_, repr_of (d := fr p) (p := .tuple [.int p.num, .int ((p.den : Nat) : Int)]) rfl ?_ rfl ?_ ?_⟩
  · have a := log_lt (hp.up h).1 (by decide)
    have b := log_lt (Wd.szn (hp.up h)) (by decide)
    simp only [PyData.showable, PyData.showableAll, Bool.and_true, Bool.and_eq_true, decide_eq_true_eq]
    omega
  · simp [PyData.depth, PyData.depthAll]
  · simp [cst, csts]
end
/-! ## statements in turn -/
theorem seq_ex {t : Rf.T} {r : Ts} {s s' : S} {w w1 : W} {fl : Fl} {Q : W → Prop} (h : evT t s w = .ok (.nx s') w1) (k : ∃ w', evTs r s' w1 = .ok fl w' ∧ Q w') : ∃ w', evTs (.cons t r) s w = .ok fl w' ∧ Q w' := by
  obtain ⟨w', e, q⟩ := k
  exact ⟨w', by rw [p_tsC, h]; exact e, q⟩
theorem fz_ex {i : Nat} {xs : List D} {r : Ts} {s : S} {w : W} {fl : Fl} {Q : W → Prop} (h : s[i]? = some (.o xs)) (k : ∃ w', evTs r (s.set i (.v (.lst xs))) w = .ok fl w' ∧ Q w') : ∃ w', evTs (.fz i r) s w = .ok fl w' ∧ Q w' := by
  obtain ⟨w', e, q⟩ := k
  exact ⟨w', by rw [p_tsF, p_fz h]; exact e, q⟩
/-- a comprehension that draws nothing: each item by itself -/
theorem comp_map {b : D → S → Option S} {fc fe : S → W → R D} {s : S} {w : W} {α : Type} (f g : α → D) : ∀ (l : List α), (∀ i ∈ l, ∃ s', b (f i) s = some s' ∧ fc s' w = .ok (.bl true) w ∧ fe s' w = .ok (g i) w) →
    compL b fc fe s (l.map f) w = .ok (l.map g) w
  | [], _ => rfl
  | i :: l, h => by
    obtain ⟨s', h1, h2, h3⟩ := h i (List.mem_cons_self ..)
    have ih := comp_map (b := b) (fc := fc) (fe := fe) (s := s) (w := w) f g l fun x hx => h x (List.mem_cons_of_mem _ hx)
    simp only [List.map_cons]
    unfold compL
    rw [h1]
    simp only
    rw [h2]
    simp only [p_bnd]
    rw [h3]
    simp only [p_bnd]
    rw [ih]
    rfl
theorem rng_eq (k : Nat) : rngD 0 k = (List.range k).map fun i => .int ((0 : Int) + (i : Nat)) := rfl
theorem r1_ok {k : Int} (h : -(2 ^ 62) ≤ k ∧ k < 2 ^ 62) : rangeD1 (.int k) = some (rngD 0 k.toNat) := by unfold rangeD1; simp only; rw [if_pos h]
end Rf
namespace Rf
open PySem L2 PySem.Spec PyProof.Rows
/-! ## sorted of one or two pairs -/
theorem ms2 (le : D → D → Bool) (x y : D) : [x, y].mergeSort le = if le x y = true then [x, y] else [y, x] := by
  simp [List.mergeSort, List.merge, List.MergeSort.Internal.splitInTwo]
theorem ms1 (le : D → D → Bool) (x : D) : [x].mergeSort le = [x] := by
  simp [List.mergeSort]
theorem al2 (a b c d : Int) : PySem.W.alike (.tuple [.int a, .int b]) (.tuple [.int c, .int d]) = true := by
  simp [PySem.W.alike, PySem.W.alikeAll]
theorem dlt2 (a b c d : Int) : PySem.W.dataLt (.tuple [.int a, .int b]) (.tuple [.int c, .int d]) = decide (a < c ∨ (a = c ∧ b < d)) := by
  rw [Bool.eq_iff_iff]
  simp [PySem.W.dataLt, PySem.W.keyToks, PySem.W.keyToksAll, PyProof.Rows.lexLt, itemLt]
  omega
theorem tp2 (a b : Int) : toPy (.tup [.int a, .int b]) = some (.tuple [.int a, .int b]) := by simp [toPy, toPyAll]
theorem py2 (a b : Int) : pyOf (.tup [.int a, .int b]) = .tuple [.int a, .int b] := by unfold pyOf; rw [tp2]; rfl
theorem srt1 (a b : Int) : sortF [.lst [.tup [.int a, .int b]]] = some [.tup [.int a, .int b]] := by
  unfold sortF
  simp only [toPyAll, tp2]
  rw [if_pos, ms1]
  simp [sortableB, al2, tup1, PyData.depth, PyData.depthAll]
theorem srt2 (a b c d : Int) : sortF [.lst [.tup [.int a, .int b], .tup [.int c, .int d]]] = some (if c < a ∨ (c = a ∧ d < b) then [.tup [.int c, .int d], .tup [.int a, .int b]] else [.tup [.int a, .int b], .tup [.int c, .int d]]) := by
  unfold sortF
  simp only [toPyAll, tp2]
  rw [if_pos, ms2]
  · unfold leDat
    rw [py2, py2, dlt2]
    by_cases h : c < a ∨ (c = a ∧ d < b)
    · rw [decide_eq_true h, if_pos h]; rfl
    · rw [decide_eq_false h, if_neg h]; rfl
  · simp [sortableB, al2, tup1, PyData.depth, PyData.depthAll]
end Rf
namespace Rf.K00
open PySem L2 PySem.Spec PyProof.Rows Rf
/-! ## the trees of the defs -/
def N_is_integer : List Str := ["value"]
def t_is_integer : Ts := (.cons (.ret (.bo true (.cons (.isi .int (.v 0)) (.cons (.not (.isi .bool (.v 0))) .nil)))) .nil)
def F_is_integer : List D → W → R D := runF 1 (evTs t_is_integer)
def N_common : List Str := ["one", "other"]
def t_common : Ts := (.cons (.ret (.gcd (.v 0) (.v 1))) .nil)
def F_common : List D → W → R D := runF 2 (evTs t_common)
def N_reduced : List Str := ["top", "low", "by"]
def t_reduced : Ts := (.cons (.set 2 (.ite (.cmp .Gt (.v 1) (.k (.int 0))) (.call "common" 2 F_common (.cons (.v 0) (.cons (.v 1) .nil))) (.bin .Sub (.k (.int 0)) (.call "common" 2 F_common (.cons (.v 0) (.cons (.v 1) .nil)))))) (.cons (.ret (.tup (.cons (.bin .FloorDiv (.v 0) (.v 2)) (.cons (.bin .FloorDiv (.v 1) (.v 2)) .nil)))) .nil))
def F_reduced : List D → W → R D := runF 3 (evTs t_reduced)
def N_is_fraction : List Str := ["value", "part"]
def t_is_fraction : Ts := (.cons (.ite (.bo false (.cons (.not (.isi .tuple (.v 0))) (.cons (.cmp .NotEq (.bi .len (.cons (.v 0) .nil)) (.k (.int 2))) (.cons (.not (.bi .all (.cons (.fr (.comp [("part", 1)] (.n 1) (.seq (.v 0)) .none (.call "is_integer" 1 F_is_integer (.cons (.v 1) .nil)))) .nil))) .nil)))) (.cons (.ret (.k (.bl false))) .nil) .nil) (.cons (.ret (.bo true (.cons (.cmp .GtE (.ix (.v 0) (.k (.int 1))) (.k (.int 1))) (.cons (.cmp .Eq (.call "common" 2 F_common (.cons (.ix (.v 0) (.k (.int 0))) (.cons (.ix (.v 0) (.k (.int 1))) .nil))) (.k (.int 1))) .nil)))) .nil))
def F_is_fraction : List D → W → R D := runF 2 (evTs t_is_fraction)
def N_is_told_fraction : List Str := ["value"]
def t_is_told_fraction : Ts := (.cons (.ret (.bo true (.cons (.call "is_fraction" 1 F_is_fraction (.cons (.v 0) .nil)) (.cons (.cmp .Lt (.bi .abs (.cons (.ix (.v 0) (.k (.int 0))) .nil)) (.g "BEYOND" c_BEYOND)) (.cons (.cmp .Lt (.ix (.v 0) (.k (.int 1))) (.g "BEYOND" c_BEYOND)) .nil))))) .nil)
def F_is_told_fraction : List D → W → R D := runF 1 (evTs t_is_told_fraction)
def N_difference : List Str := ["one", "other"]
def t_difference : Ts := (.cons (.ret (.call "reduced" 2 F_reduced (.cons (.bin .Sub (.bin .Mult (.ix (.v 0) (.k (.int 0))) (.ix (.v 1) (.k (.int 1)))) (.bin .Mult (.ix (.v 1) (.k (.int 0))) (.ix (.v 0) (.k (.int 1))))) (.cons (.bin .Mult (.ix (.v 0) (.k (.int 1))) (.ix (.v 1) (.k (.int 1)))) .nil)))) .nil)
def F_difference : List D → W → R D := runF 2 (evTs t_difference)
def N_product_of : List Str := ["one", "other"]
def t_product_of : Ts := (.cons (.ret (.call "reduced" 2 F_reduced (.cons (.bin .Mult (.ix (.v 0) (.k (.int 0))) (.ix (.v 1) (.k (.int 0)))) (.cons (.bin .Mult (.ix (.v 0) (.k (.int 1))) (.ix (.v 1) (.k (.int 1)))) .nil)))) .nil)
def F_product_of : List D → W → R D := runF 2 (evTs t_product_of)
def N_quotient : List Str := ["one", "other"]
def t_quotient : Ts := (.cons (.ret (.call "reduced" 2 F_reduced (.cons (.bin .Mult (.ix (.v 0) (.k (.int 0))) (.ix (.v 1) (.k (.int 1)))) (.cons (.bin .Mult (.ix (.v 0) (.k (.int 1))) (.ix (.v 1) (.k (.int 0)))) .nil)))) .nil)
def F_quotient : List D → W → R D := runF 2 (evTs t_quotient)
def N_is_less : List Str := ["one", "other"]
def t_is_less : Ts := (.cons (.ret (.cmp .Lt (.bin .Mult (.ix (.v 0) (.k (.int 0))) (.ix (.v 1) (.k (.int 1)))) (.bin .Mult (.ix (.v 1) (.k (.int 0))) (.ix (.v 0) (.k (.int 1)))))) .nil)
def F_is_less : List D → W → R D := runF 2 (evTs t_is_less)
def N_floor_of : List Str := ["one"]
def t_floor_of : Ts := (.cons (.ret (.bin .FloorDiv (.ix (.v 0) (.k (.int 0))) (.ix (.v 0) (.k (.int 1))))) .nil)
def F_floor_of : List D → W → R D := runF 1 (evTs t_floor_of)
def N_is_stretch : List Str := ["value", "at"]
def t_is_stretch : Ts := (.cons (.ite (.bo false (.cons (.not (.isi .tuple (.v 0))) (.cons (.cmp .NotEq (.bi .len (.cons (.v 0) .nil)) (.k (.int 4))) (.cons (.not (.bi .all (.cons (.fr (.comp [("at", 1)] (.n 1) (.seq (.tup (.cons (.k (.int 1)) (.cons (.k (.int 3)) .nil)))) .none (.isi .bool (.ix (.v 0) (.v 1))))) .nil))) .nil)))) (.cons (.ret (.k (.bl false))) .nil) .nil) (.cons (.ite (.bo false (.cons (.not (.call "is_told_fraction" 1 F_is_told_fraction (.cons (.ix (.v 0) (.k (.int 0))) .nil))) (.cons (.not (.call "is_told_fraction" 1 F_is_told_fraction (.cons (.ix (.v 0) (.k (.int 2))) .nil))) (.cons (.cmp .Lt (.ix (.ix (.v 0) (.k (.int 0))) (.k (.int 0))) (.k (.int 0))) .nil)))) (.cons (.ret (.k (.bl false))) .nil) .nil) (.cons (.ret (.bo false (.cons (.call "is_less" 2 F_is_less (.cons (.ix (.v 0) (.k (.int 0))) (.cons (.ix (.v 0) (.k (.int 2))) .nil))) (.cons (.bo true (.cons (.cmp .Eq (.ix (.v 0) (.k (.int 0))) (.ix (.v 0) (.k (.int 2)))) (.cons (.ix (.v 0) (.k (.int 1))) (.cons (.ix (.v 0) (.k (.int 3))) .nil)))) .nil)))) .nil)))
def F_is_stretch : List D → W → R D := runF 2 (evTs t_is_stretch)
def N_check_stretch : List Str := ["stretch"]
def t_check_stretch : Ts := (.cons (.ite (.not (.call "is_stretch" 1 F_is_stretch (.cons (.v 0) .nil))) (.cons .never .nil) .nil) .nil)
def F_check_stretch : List D → W → R D := runF 1 (evTs t_check_stretch)
def N_is_inside : List Str := ["stretch", "one", "low", "is_low", "high", "is_high"]
def t_is_inside : Ts := (.cons (.asg (.t4 (.n 2) (.n 3) (.n 4) (.n 5)) (.v 0)) (.cons (.ite (.bo false (.cons (.call "is_less" 2 F_is_less (.cons (.v 1) (.cons (.v 2) .nil))) (.cons (.bo true (.cons (.cmp .Eq (.v 1) (.v 2)) (.cons (.not (.v 3)) .nil))) .nil))) (.cons (.ret (.k (.bl false))) .nil) .nil) (.cons (.ret (.bo false (.cons (.cmp .Is (.v 4) (.k .non)) (.cons (.call "is_less" 2 F_is_less (.cons (.v 1) (.cons (.v 4) .nil))) (.cons (.bo true (.cons (.cmp .Eq (.v 1) (.v 4)) (.cons (.v 5) .nil))) .nil))))) .nil)))
def F_is_inside : List D → W → R D := runF 6 (evTs t_is_inside)
def N_simplest_of : List Str := ["stretch", "wholes", "first", "left", "lap", "low", "is_low", "high", "is_high", "whole", "rest", "far", "found"]
def t_simplest_of : Ts := (.cons (.par3 1 2 3 (.f (.lst .nil)) (.v (.k (.int 0))) (.v (.v 0))) (.cons (.for (.n 4) (.r1 (.g "MOST_PARTS" c_MOST_PARTS)) (.cons (.asg (.t4 (.n 5) (.n 6) (.n 7) (.n 8)) (.v 3)) (.cons (.set 9 (.call "floor_of" 1 F_floor_of (.cons (.v 5) .nil))) (.cons (.set 2 (.ite (.bo true (.cons (.v 6) (.cons (.cmp .Eq (.ix (.v 5) (.k (.int 1))) (.k (.int 1))) .nil))) (.v 9) (.bin .Add (.v 9) (.k (.int 1))))) (.cons (.ite (.call "is_inside" 2 F_is_inside (.cons (.v 3) (.cons (.tup (.cons (.v 2) (.cons (.k (.int 1)) .nil))) .nil))) (.cons .brk .nil) .nil) (.cons (.app 1 (.v 9)) (.cons (.set 10 (.call "difference" 2 F_difference (.cons (.v 5) (.cons (.tup (.cons (.v 9) (.cons (.k (.int 1)) .nil))) .nil)))) (.cons (.set 11 (.call "quotient" 2 F_quotient (.cons (.g "ONE" c_ONE) (.cons (.call "difference" 2 F_difference (.cons (.v 7) (.cons (.tup (.cons (.v 9) (.cons (.k (.int 1)) .nil))) .nil))) .nil)))) (.cons (.set 3 (.tup (.cons (.v 11) (.cons (.v 8) (.cons (.ite (.cmp .Eq (.v 10) (.g "NOTHING" c_NOTHING)) (.k .non) (.call "quotient" 2 F_quotient (.cons (.g "ONE" c_ONE) (.cons (.v 10) .nil)))) (.cons (.v 6) .nil)))))) .nil))))))))) (.cons (.set 12 (.tup (.cons (.v 2) (.cons (.k (.int 1)) .nil)))) (.cons (.for (.n 9) (.seq (.fr (.rev (.o 1)))) (.cons (.set 12 (.tup (.cons (.bin .Add (.bin .Mult (.v 9) (.ix (.v 12) (.k (.int 0)))) (.ix (.v 12) (.k (.int 1)))) (.cons (.ix (.v 12) (.k (.int 0))) .nil)))) .nil)) (.cons (.ret (.v 12)) .nil)))))
def F_simplest_of : List D → W → R D := runF 13 (evTs t_simplest_of)
def N_parents_of : List Str := ["one", "left", "right", "rest", "is_right", "whole", "top", "times"]
def t_parents_of : Ts := (.cons (.ite (.cmp .Eq (.ix (.v 0) (.k (.int 1))) (.k (.int 1))) (.cons (.ret (.tup .nil)) .nil) .nil) (.cons (.asg (.t4 (.n 1) (.n 2) (.n 3) (.n 4)) (.tup (.cons (.tup (.cons (.k (.int 0)) (.cons (.k (.int 1)) .nil))) (.cons (.tup (.cons (.k (.int 1)) (.cons (.k (.int 0)) .nil))) (.cons (.v 0) (.cons (.k (.bl true)) .nil)))))) (.cons (.while (fun _ _ => 10 ^ 18) (.cmp .NotEq (.ix (.v 3) (.k (.int 1))) (.k (.int 0))) (.cons (.par2 5 6 (.v (.bin .FloorDiv (.ix (.v 3) (.k (.int 0))) (.ix (.v 3) (.k (.int 1))))) (.v (.bin .Mod (.ix (.v 3) (.k (.int 0))) (.ix (.v 3) (.k (.int 1)))))) (.cons (.set 7 (.ite (.cmp .NotEq (.v 6) (.k (.int 0))) (.v 5) (.bin .Sub (.v 5) (.k (.int 1))))) (.cons (.ite (.v 4) (.cons (.set 1 (.tup (.cons (.bin .Add (.ix (.v 1) (.k (.int 0))) (.bin .Mult (.v 7) (.ix (.v 2) (.k (.int 0))))) (.cons (.bin .Add (.ix (.v 1) (.k (.int 1))) (.bin .Mult (.v 7) (.ix (.v 2) (.k (.int 1))))) .nil)))) .nil) (.cons (.set 2 (.tup (.cons (.bin .Add (.ix (.v 2) (.k (.int 0))) (.bin .Mult (.v 7) (.ix (.v 1) (.k (.int 0))))) (.cons (.bin .Add (.ix (.v 2) (.k (.int 1))) (.bin .Mult (.v 7) (.ix (.v 1) (.k (.int 1))))) .nil)))) .nil)) (.cons (.par2 3 4 (.v (.tup (.cons (.ix (.v 3) (.k (.int 1))) (.cons (.v 6) .nil)))) (.v (.not (.v 4)))) .nil))))) (.cons (.ret (.tup (.cons (.v 1) (.cons (.v 2) .nil)))) .nil))))
def F_parents_of : List D → W → R D := runF 8 (evTs t_parents_of)
def N_with_parents : List Str := ["one"]
def t_with_parents : Ts := (.cons (.ret (.tup (.cons (.v 0) (.cons (.call "parents_of" 1 F_parents_of (.cons (.v 0) .nil)) .nil)))) .nil)
def F_with_parents : List D → W → R D := runF 1 (evTs t_with_parents)
def N_simplest : List Str := ["stretch"]
def t_simplest : Ts := (.cons (.exp (.call "check_stretch" 1 F_check_stretch (.cons (.v 0) .nil))) (.cons (.ret (.call "with_parents" 1 F_with_parents (.cons (.call "simplest_of" 1 F_simplest_of (.cons (.v 0) .nil)) .nil))) .nil))
def F_simplest : List D → W → R D := runF 1 (evTs t_simplest)
def N_halves_of : List Str := ["stretch", "cut", "low", "is_low", "high", "is_high", "found"]
def t_halves_of : Ts := (.cons (.asg (.t4 (.n 2) (.n 3) (.n 4) (.n 5)) (.v 0)) (.cons (.set 6 (.ite (.call "is_less" 2 F_is_less (.cons (.v 2) (.cons (.v 1) .nil))) (.fr (.lst (.cons (.tup (.cons (.v 2) (.cons (.v 3) (.cons (.v 1) (.cons (.k (.bl false)) .nil))))) .nil))) (.fr (.lst .nil)))) (.cons (.ret (.bin .Add (.v 6) (.ite (.call "is_less" 2 F_is_less (.cons (.v 1) (.cons (.v 4) .nil))) (.fr (.lst (.cons (.tup (.cons (.v 1) (.cons (.k (.bl false)) (.cons (.v 4) (.cons (.v 5) .nil))))) .nil))) (.fr (.lst .nil))))) .nil)))
def F_halves_of : List D → W → R D := runF 7 (evTs t_halves_of)
def N_twice : List Str := ["stretch", "low", "is_low", "high", "is_high"]
def t_twice : Ts := (.cons (.asg (.t4 (.n 1) (.n 2) (.n 3) (.n 4)) (.v 0)) (.cons (.ret (.tup (.cons (.call "product_of" 2 F_product_of (.cons (.g "TWO" c_TWO) (.cons (.v 1) .nil))) (.cons (.v 2) (.cons (.call "product_of" 2 F_product_of (.cons (.g "TWO" c_TWO) (.cons (.v 3) .nil))) (.cons (.v 4) .nil)))))) .nil))
def F_twice : List D → W → R D := runF 5 (evTs t_twice)
def N_edge_told : List Str := ["stretch", "found"]
def t_edge_told : Ts := (.cons (.set 1 (.call "simplest_of" 1 F_simplest_of (.cons (.v 0) .nil))) (.cons (.ret (.tup (.cons (.ix (.v 1) (.k (.int 1))) (.cons (.ix (.v 1) (.k (.int 0))) (.cons (.call "parents_of" 1 F_parents_of (.cons (.v 1) .nil)) .nil))))) .nil))
def F_edge_told : List D → W → R D := runF 2 (evTs t_edge_told)
def N_edge_size : List Str := ["stretch"]
def t_edge_size : Ts := (.cons (.exp (.call "check_stretch" 1 F_check_stretch (.cons (.v 0) .nil))) (.cons (.ret (.call "edge_told" 1 F_edge_told (.cons (.v 0) .nil))) .nil))
def F_edge_size : List D → W → R D := runF 1 (evTs t_edge_size)
def N_middle_told : List Str := ["stretch", "wide", "found", "some", "part", "size", "top", "one"]
def t_middle_told : Ts := (.cons (.set 1 (.call "twice" 1 F_twice (.cons (.v 0) .nil))) (.cons (.set 2 (.call "simplest_of" 1 F_simplest_of (.cons (.v 1) .nil))) (.cons (.ite (.cmp .Eq (.bin .Mod (.ix (.v 2) (.k (.int 0))) (.k (.int 2))) (.k (.int 1))) (.cons (.ret (.tup (.cons (.ix (.v 2) (.k (.int 1))) (.cons (.bin .FloorDiv (.ix (.v 2) (.k (.int 0))) (.k (.int 2))) (.cons (.tup (.cons (.call "with_parents" 1 F_with_parents (.cons (.v 2) .nil)) .nil)) .nil))))) .nil) .nil) (.cons (.own 3 (.comp [("part", 4)] (.n 4) (.seq (.call "halves_of" 2 F_halves_of (.cons (.v 1) (.cons (.v 2) .nil)))) .none (.call "simplest_of" 1 F_simplest_of (.cons (.v 4) .nil)))) (.fz 3 (.cons (.ite (.cmp .Eq (.v 3) (.fr (.lst .nil))) (.cons (.ret (.k .non)) .nil) .nil) (.cons (.asg (.t2 (.n 5) (.n 6)) (.ix (.fr (.srt (.fr (.comp [("one", 7)] (.n 7) (.seq (.v 3)) .none (.tup (.cons (.ix (.v 7) (.k (.int 1))) (.cons (.ix (.v 7) (.k (.int 0))) .nil))))))) (.k (.int 0)))) (.cons (.ret (.tup (.cons (.v 5) (.cons (.bin .FloorDiv (.v 6) (.k (.int 2))) (.cons (.bi .tuple (.cons (.fr (.comp [("one", 7)] (.n 7) (.seq (.fr (.lst (.cons (.v 2) (.star (.v 3) .nil))))) .none (.call "with_parents" 1 F_with_parents (.cons (.v 7) .nil)))) .nil)) .nil))))) .nil))))))))
def F_middle_told : List D → W → R D := runF 8 (evTs t_middle_told)
def N_middle_size : List Str := ["stretch"]
def t_middle_size : Ts := (.cons (.exp (.call "check_stretch" 1 F_check_stretch (.cons (.v 0) .nil))) (.cons (.ret (.call "middle_told" 1 F_middle_told (.cons (.v 0) .nil))) .nil))
def F_middle_size : List D → W → R D := runF 1 (evTs t_middle_size)
def N_are_parents : List Str := ["value", "one", "part"]
def t_are_parents : Ts := (.cons (.ite (.bo false (.cons (.not (.isi .tuple (.v 0))) (.cons (.cmp .NotEq (.bi .len (.cons (.v 0) .nil)) (.k (.int 2))) .nil))) (.cons (.ret (.k (.bl false))) .nil) .nil) (.cons (.for (.n 1) (.seq (.v 0)) (.cons (.ite (.bo false (.cons (.not (.isi .tuple (.v 1))) (.cons (.cmp .NotEq (.bi .len (.cons (.v 1) .nil)) (.k (.int 2))) (.cons (.not (.bi .all (.cons (.fr (.comp [("part", 2)] (.n 2) (.seq (.v 1)) .none (.bo true (.cons (.call "is_integer" 1 F_is_integer (.cons (.v 2) .nil)) (.cons (.cmp .GtE (.v 2) (.k (.int 0))) .nil))))) .nil))) .nil)))) (.cons (.ret (.k (.bl false))) .nil) .nil) .nil)) (.cons (.ret (.cmp .Gt (.ix (.ix (.v 0) (.k (.int 0))) (.k (.int 1))) (.k (.int 0)))) .nil)))
def F_are_parents : List D → W → R D := runF 3 (evTs t_are_parents)
def N_is_simplest : List Str := ["stretch", "value", "top", "low", "paper", "one", "by", "other", "its"]
def t_is_simplest : Ts := (.cons (.ite (.bo false (.cons (.not (.isi .tuple (.v 1))) (.cons (.cmp .NotEq (.bi .len (.cons (.v 1) .nil)) (.k (.int 2))) (.cons (.not (.call "is_fraction" 1 F_is_fraction (.cons (.ix (.v 1) (.k (.int 0))) .nil))) (.cons (.not (.call "is_inside" 2 F_is_inside (.cons (.v 0) (.cons (.ix (.v 1) (.k (.int 0))) .nil)))) .nil))))) (.cons (.ret (.k (.bl false))) .nil) .nil) (.cons (.asg (.t2 (.t2 (.n 2) (.n 3)) (.n 4)) (.v 1)) (.cons (.ite (.cmp .Eq (.v 3) (.k (.int 1))) (.cons (.ret (.bo true (.cons (.cmp .Eq (.v 4) (.tup .nil)) (.cons (.isi .tuple (.v 4)) (.cons (.not (.call "is_inside" 2 F_is_inside (.cons (.v 0) (.cons (.tup (.cons (.bin .Sub (.v 2) (.k (.int 1))) (.cons (.k (.int 1)) .nil))) .nil)))) .nil))))) .nil) .nil) (.cons (.ite (.not (.call "are_parents" 1 F_are_parents (.cons (.v 4) .nil))) (.cons (.ret (.k (.bl false))) .nil) .nil) (.cons (.asg (.t2 (.t2 (.n 5) (.n 6)) (.t2 (.n 7) (.n 8))) (.v 4)) (.cons (.ite (.bo false (.cons (.cmp .NotEq (.tup (.cons (.bin .Add (.v 5) (.v 7)) (.cons (.bin .Add (.v 6) (.v 8)) .nil))) (.tup (.cons (.v 2) (.cons (.v 3) .nil)))) (.cons (.cmp .NotEq (.bin .Sub (.bin .Mult (.v 7) (.v 6)) (.bin .Mult (.v 5) (.v 8))) (.k (.int 1))) .nil))) (.cons (.ret (.k (.bl false))) .nil) .nil) (.cons (.ret (.bo true (.cons (.not (.call "is_inside" 2 F_is_inside (.cons (.v 0) (.cons (.tup (.cons (.v 5) (.cons (.v 6) .nil))) .nil)))) (.cons (.bo false (.cons (.cmp .Eq (.v 8) (.k (.int 0))) (.cons (.not (.call "is_inside" 2 F_is_inside (.cons (.v 0) (.cons (.tup (.cons (.v 7) (.cons (.v 8) .nil))) .nil)))) .nil))) .nil)))) .nil)))))))
def F_is_simplest : List D → W → R D := runF 9 (evTs t_is_simplest)
def N_shows_simplest : List Str := ["stretch", "value"]
def t_shows_simplest : Ts := (.cons (.exp (.call "check_stretch" 1 F_check_stretch (.cons (.v 0) .nil))) (.cons (.ret (.call "is_simplest" 2 F_is_simplest (.cons (.v 0) (.cons (.v 1) .nil)))) .nil))
def F_shows_simplest : List D → W → R D := runF 2 (evTs t_shows_simplest)
def N_shows_edge_size : List Str := ["stretch", "value"]
def t_shows_edge_size : Ts := (.cons (.exp (.call "check_stretch" 1 F_check_stretch (.cons (.v 0) .nil))) (.cons (.ite (.bo false (.cons (.not (.isi .tuple (.v 1))) (.cons (.cmp .NotEq (.bi .len (.cons (.v 1) .nil)) (.k (.int 3))) (.cons (.not (.call "is_integer" 1 F_is_integer (.cons (.ix (.v 1) (.k (.int 0))) .nil))) (.cons (.not (.call "is_integer" 1 F_is_integer (.cons (.ix (.v 1) (.k (.int 1))) .nil))) .nil))))) (.cons (.ret (.k (.bl false))) .nil) .nil) (.cons (.ret (.call "is_simplest" 2 F_is_simplest (.cons (.v 0) (.cons (.tup (.cons (.tup (.cons (.ix (.v 1) (.k (.int 1))) (.cons (.ix (.v 1) (.k (.int 0))) .nil))) (.cons (.ix (.v 1) (.k (.int 2))) .nil))) .nil)))) .nil)))
def F_shows_edge_size : List D → W → R D := runF 2 (evTs t_shows_edge_size)
def N_are_beside : List Str := ["stretch", "value", "parts", "part", "one"]
def t_are_beside : Ts := (.cons (.ite (.bo false (.cons (.not (.call "is_simplest" 2 F_is_simplest (.cons (.v 0) (.cons (.ix (.v 1) (.k (.int 0))) .nil)))) (.cons (.cmp .Eq (.bin .Mod (.ix (.ix (.ix (.v 1) (.k (.int 0))) (.k (.int 0))) (.k (.int 0))) (.k (.int 2))) (.k (.int 1))) .nil))) (.cons (.ret (.k (.bl false))) .nil) .nil) (.cons (.set 2 (.call "halves_of" 2 F_halves_of (.cons (.v 0) (.cons (.ix (.ix (.v 1) (.k (.int 0))) (.k (.int 0))) .nil)))) (.cons (.ite (.bo false (.cons (.cmp .NotEq (.bi .len (.cons (.v 1) .nil)) (.bin .Add (.k (.int 1)) (.bi .len (.cons (.v 2) .nil)))) (.cons (.cmp .Eq (.v 2) (.fr (.lst .nil))) .nil))) (.cons (.ret (.k (.bl false))) .nil) .nil) (.cons (.ret (.bi .all (.cons (.fr (.comp [("part", 3), ("one", 4)] (.t2 (.n 3) (.n 4)) (.zip (.v 2) (.sl (.v 1) (.some (.k (.int 1))) .none)) .none (.call "is_simplest" 2 F_is_simplest (.cons (.v 3) (.cons (.v 4) .nil))))) .nil))) .nil))))
def F_are_beside : List D → W → R D := runF 5 (evTs t_are_beside)
def N_is_middle_told : List Str := ["stretch", "value", "wide", "papers", "tops", "one", "size", "top"]
def t_is_middle_told : Ts := (.cons (.set 2 (.call "twice" 1 F_twice (.cons (.v 0) .nil))) (.cons (.ite (.cmp .Is (.v 1) (.k .non)) (.cons (.ret (.bo true (.cons (.cmp .Eq (.ix (.v 2) (.k (.int 0))) (.ix (.v 2) (.k (.int 2)))) (.cons (.cmp .Eq (.bin .Mod (.ix (.ix (.v 2) (.k (.int 0))) (.k (.int 0))) (.k (.int 2))) (.k (.int 0))) .nil)))) .nil) .nil) (.cons (.ite (.bo false (.cons (.not (.isi .tuple (.v 1))) (.cons (.cmp .NotEq (.bi .len (.cons (.v 1) .nil)) (.k (.int 3))) (.cons (.not (.call "is_integer" 1 F_is_integer (.cons (.ix (.v 1) (.k (.int 0))) .nil))) (.cons (.not (.call "is_integer" 1 F_is_integer (.cons (.ix (.v 1) (.k (.int 1))) .nil))) .nil))))) (.cons (.ret (.k (.bl false))) .nil) .nil) (.cons (.set 3 (.ix (.v 1) (.k (.int 2)))) (.cons (.ite (.bo false (.cons (.not (.isi .tuple (.v 3))) (.cons (.cmp .Eq (.v 3) (.tup .nil)) .nil))) (.cons (.ret (.k (.bl false))) .nil) .nil) (.cons (.ite (.cmp .Eq (.bi .len (.cons (.v 3) .nil)) (.k (.int 1))) (.cons (.ite (.not (.call "is_simplest" 2 F_is_simplest (.cons (.v 2) (.cons (.ix (.v 3) (.k (.int 0))) .nil)))) (.cons (.ret (.k (.bl false))) .nil) .nil) (.cons (.set 4 (.fr (.lst (.cons (.ix (.ix (.v 3) (.k (.int 0))) (.k (.int 0))) .nil)))) .nil)) (.cons (.ite (.not (.call "are_beside" 2 F_are_beside (.cons (.v 2) (.cons (.v 3) .nil)))) (.cons (.ret (.k (.bl false))) .nil) (.cons (.own 4 (.comp [("one", 5)] (.n 5) (.seq (.sl (.v 3) (.some (.k (.int 1))) .none)) .none (.ix (.v 5) (.k (.int 0))))) (.fz 4 .nil))) .nil)) (.cons (.asg (.t2 (.n 6) (.n 7)) (.ix (.fr (.srt (.fr (.comp [("one", 5)] (.n 5) (.seq (.v 4)) .none (.tup (.cons (.ix (.v 5) (.k (.int 1))) (.cons (.ix (.v 5) (.k (.int 0))) .nil))))))) (.k (.int 0)))) (.cons (.ret (.bo true (.cons (.cmp .Eq (.bin .Mod (.v 7) (.k (.int 2))) (.k (.int 1))) (.cons (.cmp .Eq (.tup (.cons (.v 6) (.cons (.bin .FloorDiv (.v 7) (.k (.int 2))) .nil))) (.tup (.cons (.ix (.v 1) (.k (.int 0))) (.cons (.ix (.v 1) (.k (.int 1))) .nil)))) .nil)))) .nil))))))))
def F_is_middle_told : List D → W → R D := runF 8 (evTs t_is_middle_told)
def N_shows_middle_size : List Str := ["stretch", "value"]
def t_shows_middle_size : Ts := (.cons (.exp (.call "check_stretch" 1 F_check_stretch (.cons (.v 0) .nil))) (.cons (.ret (.call "is_middle_told" 2 F_is_middle_told (.cons (.v 0) (.cons (.v 1) .nil)))) .nil))
def F_shows_middle_size : List D → W → R D := runF 2 (evTs t_shows_middle_size)
def N__law_take : List Str := ["pot", "upto", "digit", "prime", "blend"]
def t__law_take : Ts := (.cons (.ite (.cmp .Gt (.pget 0 0) (.k (.int 0))) (.cons (.set 2 (.bin .Mod (.bi .int (.cons (.pget 0 0) .nil)) (.v 1))) (.cons (.pset 0 0 (.bin .FloorDiv (.pget 0 0) (.v 1))) (.cons (.ret (.bi .int (.cons (.v 2) .nil))) .nil))) .nil) (.cons (.pset 0 2 (.bin .Add (.pget 0 2) (.k (.int 1)))) (.cons (.set 3 (.ix (.fr (.lst (.cons (.k (.int 2147483647)) (.cons (.k (.int 2147483629)) (.cons (.k (.int 2147483587)) (.cons (.k (.int 2147483579)) (.cons (.k (.int 2147483563)) .nil))))))) (.bin .Mod (.bi .int (.cons (.pget 0 2) .nil)) (.k (.int 5))))) (.cons (.set 4 (.bin .Mod (.bi .int (.cons (.bin .Pow (.bi .int (.cons (.bin .Add (.bin .Add (.pget 0 1) (.bin .Mult (.bin .Mult (.k (.int 173151)) (.pget 0 2)) (.pget 0 2))) (.k (.int 8115))) .nil)) (.k (.int 3))) .nil)) (.v 3))) (.cons (.set 4 (.bin .Mod (.bi .int (.cons (.bin .Mult (.v 4) (.bin .Add (.bin .Mod (.bi .int (.cons (.v 4) .nil)) (.k (.int 12639))) (.bin .Mult (.k (.int 3723)) (.pget 0 2)))) .nil)) (.k (.int 2305843009213693907)))) (.cons (.ret (.bin .Mod (.bi .int (.cons (.bin .FloorDiv (.v 4) (.k (.int 11821))) .nil)) (.v 1))) .nil))))))
def F__law_take : List D → W → R D := runF 5 (evTs t__law_take)
def N__law_of : List Str := ["pot", "some"]
def t__law_of : Ts := (.cons (.ret (.ix (.v 1) (.call "_law_take" 2 F__law_take (.cons (.v 0) (.cons (.bi .len (.cons (.v 1) .nil)) .nil))))) .nil)
def F__law_of : List D → W → R D := runF 2 (evTs t__law_of)
def N__law_cells : List Str := ["script", "most"]
def t__law_cells : Ts := (.cons (.ret (.fr (.lr1 (.bi .max (.cons (.k (.int 1)) (.cons (.bi .min (.cons (.v 1) (.cons (.bi .len (.cons (.v 0) .nil)) .nil))) .nil)))))) .nil)
def F__law_cells : List D → W → R D := runF 2 (evTs t__law_cells)
def N__law_reduced : List Str := ["top", "low", "one", "other"]
def t__law_reduced : Ts := (.cons (.par2 2 3 (.v (.bi .abs (.cons (.v 0) .nil))) (.v (.bi .abs (.cons (.v 1) .nil)))) (.cons (.while (fun _ _ => 10 ^ 18) (.cmp .NotEq (.v 3) (.k (.int 0))) (.cons (.par2 2 3 (.v (.v 3)) (.v (.bin .Mod (.v 2) (.v 3)))) .nil)) (.cons (.ret (.ite (.cmp .Gt (.v 1) (.k (.int 0))) (.tup (.cons (.bi .int (.cons (.bin .FloorDiv (.v 0) (.v 2)) .nil)) (.cons (.bi .int (.cons (.bin .FloorDiv (.v 1) (.v 2)) .nil)) .nil))) (.tup (.cons (.bi .int (.cons (.bin .FloorDiv (.neg (.v 0)) (.v 2)) .nil)) (.cons (.bi .int (.cons (.bin .FloorDiv (.neg (.v 1)) (.v 2)) .nil)) .nil))))) .nil)))
def F__law_reduced : List D → W → R D := runF 4 (evTs t__law_reduced)
def N__law_less : List Str := ["one", "other"]
def t__law_less : Ts := (.cons (.ret (.cmp .Lt (.bin .Mult (.ix (.v 0) (.k (.int 0))) (.ix (.v 1) (.k (.int 1)))) (.bin .Mult (.ix (.v 1) (.k (.int 0))) (.ix (.v 0) (.k (.int 1)))))) .nil)
def F__law_less : List D → W → R D := runF 2 (evTs t__law_less)
def N__law_added : List Str := ["one", "other"]
def t__law_added : Ts := (.cons (.ret (.call "_law_reduced" 2 F__law_reduced (.cons (.bin .Add (.bin .Mult (.ix (.v 0) (.k (.int 0))) (.ix (.v 1) (.k (.int 1)))) (.bin .Mult (.ix (.v 1) (.k (.int 0))) (.ix (.v 0) (.k (.int 1))))) (.cons (.bin .Mult (.ix (.v 0) (.k (.int 1))) (.ix (.v 1) (.k (.int 1)))) .nil)))) .nil)
def F__law_added : List D → W → R D := runF 2 (evTs t__law_added)
def N__law_minus : List Str := ["one"]
def t__law_minus : Ts := (.cons (.ret (.tup (.cons (.bin .Sub (.k (.int 0)) (.ix (.v 0) (.k (.int 0)))) (.cons (.ix (.v 0) (.k (.int 1))) .nil)))) .nil)
def F__law_minus : List D → W → R D := runF 1 (evTs t__law_minus)
def N__law_is_in : List Str := ["stretch", "number", "low", "low_in", "high", "high_in"]
def t__law_is_in : Ts := (.cons (.asg (.t4 (.n 2) (.n 3) (.n 4) (.n 5)) (.v 0)) (.cons (.ite (.bo false (.cons (.call "_law_less" 2 F__law_less (.cons (.v 1) (.cons (.v 2) .nil))) (.cons (.call "_law_less" 2 F__law_less (.cons (.v 4) (.cons (.v 1) .nil))) .nil))) (.cons (.ret (.k (.bl false))) .nil) .nil) (.cons (.ret (.bo true (.cons (.bo false (.cons (.cmp .NotEq (.v 1) (.v 2)) (.cons (.v 3) .nil))) (.cons (.bo false (.cons (.cmp .NotEq (.v 1) (.v 4)) (.cons (.v 5) .nil))) .nil)))) .nil)))
def F__law_is_in : List D → W → R D := runF 6 (evTs t__law_is_in)
def N__law_stretch : List Str := ["pot", "low", "wide"]
def t__law_stretch : Ts := (.cons (.set 1 (.call "_law_reduced" 2 F__law_reduced (.cons (.bin .Add (.k (.int 1)) (.call "_law_take" 2 F__law_take (.cons (.v 0) (.cons (.k (.int 60)) .nil)))) (.cons (.bin .Add (.k (.int 1)) (.call "_law_take" 2 F__law_take (.cons (.v 0) (.cons (.call "_law_of" 2 F__law_of (.cons (.v 0) (.cons (.fr (.lst (.cons (.k (.int 3)) (.cons (.k (.int 20)) (.cons (.k (.int 60)) .nil))))) .nil))) .nil)))) .nil)))) (.cons (.set 2 (.call "_law_reduced" 2 F__law_reduced (.cons (.call "_law_take" 2 F__law_take (.cons (.v 0) (.cons (.k (.int 9)) .nil))) (.cons (.bin .Add (.k (.int 1)) (.call "_law_take" 2 F__law_take (.cons (.v 0) (.cons (.call "_law_of" 2 F__law_of (.cons (.v 0) (.cons (.fr (.lst (.cons (.k (.int 2)) (.cons (.k (.int 30)) (.cons (.k (.int 1000)) .nil))))) .nil))) .nil)))) .nil)))) (.cons (.ite (.cmp .Eq (.ix (.v 2) (.k (.int 0))) (.k (.int 0))) (.cons (.ret (.tup (.cons (.v 1) (.cons (.k (.bl true)) (.cons (.v 1) (.cons (.k (.bl true)) .nil)))))) .nil) .nil) (.cons (.ret (.tup (.cons (.v 1) (.cons (.cmp .Eq (.call "_law_take" 2 F__law_take (.cons (.v 0) (.cons (.k (.int 2)) .nil))) (.k (.int 0))) (.cons (.call "_law_added" 2 F__law_added (.cons (.v 1) (.cons (.v 2) .nil))) (.cons (.cmp .Eq (.call "_law_take" 2 F__law_take (.cons (.v 0) (.cons (.k (.int 2)) .nil))) (.k (.int 0))) .nil)))))) .nil))))
def F__law_stretch : List D → W → R D := runF 3 (evTs t__law_stretch)
def N__law_shifted : List Str := ["stretch", "many", "low", "low_in", "high", "high_in"]
def t__law_shifted : Ts := (.cons (.asg (.t4 (.n 2) (.n 3) (.n 4) (.n 5)) (.v 0)) (.cons (.ret (.tup (.cons (.call "_law_added" 2 F__law_added (.cons (.v 2) (.cons (.tup (.cons (.v 1) (.cons (.k (.int 1)) .nil))) .nil))) (.cons (.v 3) (.cons (.call "_law_added" 2 F__law_added (.cons (.v 4) (.cons (.tup (.cons (.v 1) (.cons (.k (.int 1)) .nil))) .nil))) (.cons (.v 5) .nil)))))) .nil))
def F__law_shifted : List D → W → R D := runF 6 (evTs t__law_shifted)
def N__law_mirrored : List Str := ["stretch", "many", "low", "low_in", "high", "high_in"]
def t__law_mirrored : Ts := (.cons (.asg (.t4 (.n 2) (.n 3) (.n 4) (.n 5)) (.v 0)) (.cons (.ret (.tup (.cons (.call "_law_added" 2 F__law_added (.cons (.tup (.cons (.v 1) (.cons (.k (.int 1)) .nil))) (.cons (.call "_law_minus" 1 F__law_minus (.cons (.v 4) .nil)) .nil))) (.cons (.v 5) (.cons (.call "_law_added" 2 F__law_added (.cons (.tup (.cons (.v 1) (.cons (.k (.int 1)) .nil))) (.cons (.call "_law_minus" 1 F__law_minus (.cons (.v 2) .nil)) .nil))) (.cons (.v 3) .nil)))))) .nil))
def F__law_mirrored : List D → W → R D := runF 6 (evTs t__law_mirrored)
def N__law_inverted : List Str := ["stretch", "low", "low_in", "high", "high_in"]
def t__law_inverted : Ts := (.cons (.asg (.t4 (.n 1) (.n 2) (.n 3) (.n 4)) (.v 0)) (.cons (.ret (.tup (.cons (.tup (.cons (.ix (.v 3) (.k (.int 1))) (.cons (.ix (.v 3) (.k (.int 0))) .nil))) (.cons (.v 4) (.cons (.tup (.cons (.ix (.v 1) (.k (.int 1))) (.cons (.ix (.v 1) (.k (.int 0))) .nil))) (.cons (.v 2) .nil)))))) .nil))
def F__law_inverted : List D → W → R D := runF 5 (evTs t__law_inverted)
def N__law_is_shift_right : List Str := ["pot", "stretch", "told", "many", "off", "again", "edge", "its", "middle", "other", "number"]
def t__law_is_shift_right : Ts := (.cons (.set 3 (.bi .int (.cons (.call "_law_of" 2 F__law_of (.cons (.v 0) (.cons (.fr (.lst (.cons (.bin .Add (.k (.int 1)) (.call "_law_take" 2 F__law_take (.cons (.v 0) (.cons (.k (.int 9)) .nil)))) (.cons (.bin .Add (.bin .Pow (.k (.int 10)) (.k (.int 40))) (.k (.int 7))) .nil)))) .nil))) .nil))) (.cons (.set 4 (.call "_law_shifted" 2 F__law_shifted (.cons (.v 1) (.cons (.v 3) .nil)))) (.cons (.set 5 (.call "simplest" 1 F_simplest (.cons (.v 4) .nil))) (.cons (.ite (.bo false (.cons (.cmp .NotEq (.bi .repr (.cons (.ix (.v 5) (.k (.int 0))) .nil)) (.bi .repr (.cons (.call "_law_added" 2 F__law_added (.cons (.v 2) (.cons (.tup (.cons (.v 3) (.cons (.k (.int 1)) .nil))) .nil))) .nil))) (.cons (.cmp .IsNot (.call "shows_simplest" 2 F_shows_simplest (.cons (.v 4) (.cons (.v 5) .nil))) (.k (.bl true))) .nil))) (.cons (.ret (.k (.bl false))) .nil) .nil) (.cons (.par2 6 7 (.v (.call "edge_size" 1 F_edge_size (.cons (.v 1) .nil))) (.v (.call "edge_size" 1 F_edge_size (.cons (.v 4) .nil)))) (.cons (.ite (.bo false (.cons (.cmp .NotEq (.sl (.v 6) .none (.some (.k (.int 2)))) (.tup (.cons (.ix (.v 2) (.k (.int 1))) (.cons (.ix (.v 2) (.k (.int 0))) .nil)))) (.cons (.cmp .NotEq (.sl (.v 7) .none (.some (.k (.int 2)))) (.tup (.cons (.ix (.v 2) (.k (.int 1))) (.cons (.bin .Add (.ix (.v 2) (.k (.int 0))) (.bin .Mult (.v 3) (.ix (.v 2) (.k (.int 1))))) .nil)))) .nil))) (.cons (.ret (.k (.bl false))) .nil) .nil) (.cons (.ite (.bo false (.cons (.cmp .IsNot (.call "shows_simplest" 2 F_shows_simplest (.cons (.v 1) (.cons (.tup (.cons (.v 2) (.cons (.ix (.v 6) (.k (.int 2))) .nil))) .nil))) (.k (.bl true))) (.cons (.cmp .IsNot (.call "shows_edge_size" 2 F_shows_edge_size (.cons (.v 4) (.cons (.v 7) .nil))) (.k (.bl true))) .nil))) (.cons (.ret (.k (.bl false))) .nil) .nil) (.cons (.par2 8 9 (.v (.call "middle_size" 1 F_middle_size (.cons (.v 1) .nil))) (.v (.call "middle_size" 1 F_middle_size (.cons (.v 4) .nil)))) (.cons (.ite (.bo false (.cons (.cmp .Is (.v 8) (.k .non)) (.cons (.cmp .Is (.v 9) (.k .non)) .nil))) (.cons (.ret (.bo true (.cons (.cmp .Is (.v 8) (.k .non)) (.cons (.cmp .Is (.v 9) (.k .non)) .nil)))) .nil) .nil) (.cons (.ite (.bo false (.cons (.cmp .NotEq (.ix (.v 9) (.k (.int 0))) (.ix (.v 8) (.k (.int 0)))) (.cons (.cmp .NotEq (.ix (.v 9) (.k (.int 1))) (.bin .Add (.ix (.v 8) (.k (.int 1))) (.bin .Mult (.v 3) (.ix (.v 8) (.k (.int 0)))))) .nil))) (.cons (.ret (.k (.bl false))) .nil) .nil) (.cons (.set 10 (.call "_law_reduced" 2 F__law_reduced (.cons (.bin .Add (.bin .Mult (.k (.int 2)) (.ix (.v 8) (.k (.int 1)))) (.k (.int 1))) (.cons (.bin .Mult (.k (.int 2)) (.ix (.v 8) (.k (.int 0)))) .nil)))) (.cons (.ret (.bo true (.cons (.call "_law_is_in" 2 F__law_is_in (.cons (.v 1) (.cons (.v 10) .nil))) (.cons (.cmp .Is (.call "shows_middle_size" 2 F_shows_middle_size (.cons (.v 4) (.cons (.v 9) .nil))) (.k (.bl true))) .nil)))) .nil))))))))))))
def F__law_is_shift_right : List D → W → R D := runF 11 (evTs t__law_is_shift_right)
def N__law_is_turn_right : List Str := ["pot", "stretch", "told", "many", "mirrored"]
def t__law_is_turn_right : Ts := (.cons (.ite (.cmp .NotEq (.bi .repr (.cons (.ix (.call "simplest" 1 F_simplest (.cons (.call "_law_inverted" 1 F__law_inverted (.cons (.v 1) .nil)) .nil)) (.k (.int 0))) .nil)) (.bi .repr (.cons (.tup (.cons (.ix (.v 2) (.k (.int 1))) (.cons (.ix (.v 2) (.k (.int 0))) .nil))) .nil))) (.cons (.ret (.k (.bl false))) .nil) .nil) (.cons (.set 3 (.bi .int (.cons (.bin .Add (.bin .Add (.bin .FloorDiv (.ix (.ix (.v 1) (.k (.int 2))) (.k (.int 0))) (.ix (.ix (.v 1) (.k (.int 2))) (.k (.int 1)))) (.k (.int 1))) (.call "_law_take" 2 F__law_take (.cons (.v 0) (.cons (.k (.int 3)) .nil)))) .nil))) (.cons (.set 4 (.ix (.call "simplest" 1 F_simplest (.cons (.call "_law_mirrored" 2 F__law_mirrored (.cons (.v 1) (.cons (.v 3) .nil))) .nil)) (.k (.int 0)))) (.cons (.ite (.bo true (.cons (.cmp .Gt (.ix (.v 2) (.k (.int 1))) (.k (.int 1))) (.cons (.cmp .NotEq (.bi .repr (.cons (.v 4) .nil)) (.bi .repr (.cons (.call "_law_added" 2 F__law_added (.cons (.tup (.cons (.v 3) (.cons (.k (.int 1)) .nil))) (.cons (.call "_law_minus" 1 F__law_minus (.cons (.v 2) .nil)) .nil))) .nil))) .nil))) (.cons (.ret (.k (.bl false))) .nil) .nil) (.cons (.ret (.cmp .Eq (.cmp .Eq (.ix (.v 2) (.k (.int 1))) (.k (.int 1))) (.cmp .Eq (.ix (.v 4) (.k (.int 1))) (.k (.int 1))))) .nil)))))
def F__law_is_turn_right : List D → W → R D := runF 5 (evTs t__law_is_turn_right)
def N__law_is_inner_right : List Str := ["pot", "stretch", "told", "low", "low_in", "high", "high_in", "middle", "inner", "its"]
def t__law_is_inner_right : Ts := (.cons (.asg (.t4 (.n 3) (.n 4) (.n 5) (.n 6)) (.v 1)) (.cons (.ite (.cmp .Eq (.v 3) (.v 5)) (.cons (.ret (.k (.bl true))) .nil) .nil) (.cons (.set 7 (.call "_law_reduced" 2 F__law_reduced (.cons (.bin .Add (.bin .Mult (.ix (.v 3) (.k (.int 0))) (.ix (.v 5) (.k (.int 1)))) (.bin .Mult (.ix (.v 5) (.k (.int 0))) (.ix (.v 3) (.k (.int 1))))) (.cons (.bin .Mult (.bin .Mult (.k (.int 2)) (.ix (.v 3) (.k (.int 1)))) (.ix (.v 5) (.k (.int 1)))) .nil)))) (.cons (.set 8 (.call "_law_of" 2 F__law_of (.cons (.v 0) (.cons (.fr (.lst (.cons (.tup (.cons (.v 3) (.cons (.v 4) (.cons (.v 7) (.cons (.k (.bl true)) .nil))))) (.cons (.tup (.cons (.v 7) (.cons (.k (.bl false)) (.cons (.v 5) (.cons (.v 6) .nil))))) (.cons (.tup (.cons (.v 7) (.cons (.k (.bl true)) (.cons (.v 7) (.cons (.k (.bl true)) .nil))))) .nil))))) .nil)))) (.cons (.set 9 (.ix (.call "simplest" 1 F_simplest (.cons (.v 8) .nil)) (.k (.int 0)))) (.cons (.ite (.call "_law_is_in" 2 F__law_is_in (.cons (.v 8) (.cons (.v 2) .nil))) (.cons (.ret (.cmp .Eq (.bi .repr (.cons (.v 9) .nil)) (.bi .repr (.cons (.v 2) .nil)))) .nil) .nil) (.cons (.ret (.bo true (.cons (.cmp .GtE (.ix (.v 9) (.k (.int 1))) (.ix (.v 2) (.k (.int 1)))) (.cons (.call "_law_is_in" 2 F__law_is_in (.cons (.v 8) (.cons (.v 9) .nil))) .nil)))) .nil)))))))
def F__law_is_inner_right : List D → W → R D := runF 10 (evTs t__law_is_inner_right)
def N__law_right : List Str := ["pot", "stretch", "told", "paper"]
def t__law_right : Ts := (.cons (.set 1 (.call "_law_stretch" 1 F__law_stretch (.cons (.v 0) .nil))) (.cons (.asg (.t2 (.n 2) (.n 3)) (.call "simplest" 1 F_simplest (.cons (.v 1) .nil))) (.cons (.ite (.bo false (.cons (.not (.call "_law_is_in" 2 F__law_is_in (.cons (.v 1) (.cons (.v 2) .nil)))) (.cons (.cmp .IsNot (.call "shows_simplest" 2 F_shows_simplest (.cons (.v 1) (.cons (.tup (.cons (.v 2) (.cons (.v 3) .nil))) .nil))) (.k (.bl true))) .nil))) (.cons (.ret (.k (.bl false))) .nil) .nil) (.cons (.ite (.bo false (.cons (.not (.call "_law_is_shift_right" 3 F__law_is_shift_right (.cons (.v 0) (.cons (.v 1) (.cons (.v 2) .nil))))) (.cons (.not (.call "_law_is_turn_right" 3 F__law_is_turn_right (.cons (.v 0) (.cons (.v 1) (.cons (.v 2) .nil))))) .nil))) (.cons (.ret (.k (.bl false))) .nil) .nil) (.cons (.ret (.call "_law_is_inner_right" 3 F__law_is_inner_right (.cons (.v 0) (.cons (.v 1) (.cons (.v 2) .nil))))) .nil)))))
def F__law_right : List D → W → R D := runF 4 (evTs t__law_right)
def pt1 : T := (.set 2 (.ite (.cmp .Lt (.v 1) (.bi .len (.cons (.v 0) .nil))) (.ix (.v 0) (.v 1)) (.bin .Add (.bin .Add (.bin .Mod (.bi .sum (.cons (.sl (.v 0) .none (.some (.k (.int 1)))) .nil)) (.k (.int 1000003))) (.bin .Mult (.k (.int 14188)) (.v 1))) (.k (.int 28928)))))
def pt2 : T := (.set 3 (.bin .Mult (.bin .Mod (.bi .int (.cons (.bi .abs (.cons (.v 2) .nil)) .nil)) (.bin .Pow (.bin .Pow (.k (.int 10)) (.k (.int 60))) (.k (.int 5)))) (.bi .int (.cons (.cmp .GtE (.bi .abs (.cons (.v 2) .nil)) (.bin .Pow (.k (.int 10)) (.k (.int 18)))) .nil))))
def pt3 : T := (.set 4 (.bin .Mod (.bi .int (.cons (.v 2) .nil)) (.k (.int 2305843009213693951))))
def ptf : Fr := (.lst (.cons (.v 3) (.cons (.bin .Mod (.bi .int (.cons (.bin .Add (.bin .Add (.bin .Mult (.v 4) (.k (.int 143671))) (.bin .Mult (.bin .Mult (.k (.int 58408)) (.v 1)) (.v 1))) (.k (.int 15077))) .nil)) (.k (.int 2305843009213693921))) (.cons (.k (.int 0)) .nil))))
def F_pot : List D → W → R (List D) := runN 5 (evT pt1) (evT pt2) (evT pt3) (evF ptf)
def lit : It := (.seq (.call "_law_cells" 2 F__law_cells (.cons (.v 0) (.cons (.k (.int 4)) .nil))))
def lt2 : T := (.ite (.not (.bi .all (.cons (.fr (.comp [("lap", 3)] (.n 3) (.r1 (.k (.int 6))) .none (.call "_law_right" 1 F__law_right (.cons (.v 2) .nil)))) .nil))) (.cons (.ret (.k (.bl false))) .nil) .nil)
end Rf.K00
namespace Rf.K00
open PySem L2 PySem.Spec PyProof.Rows Rf
/-! ## each tree is the text -/
theorem x_is_integer : chkTs N_is_integer (defScope s_is_integer) t_is_integer (defBody s_is_integer) = true := by decide +kernel
theorem y_is_integer : FnScope N_is_integer ["value"] (defScope s_is_integer) := ⟨rfl, rfl, rfl, by decide +kernel, rfl, by decide +kernel, by decide +kernel⟩
theorem x_common : chkTs N_common (defScope s_common) t_common (defBody s_common) = true := by decide +kernel
theorem y_common : FnScope N_common ["one", "other"] (defScope s_common) := ⟨rfl, rfl, rfl, by decide +kernel, rfl, by decide +kernel, by decide +kernel⟩
theorem x_reduced : chkTs N_reduced (defScope s_reduced) t_reduced (defBody s_reduced) = true := by decide +kernel
theorem y_reduced : FnScope N_reduced ["top", "low"] (defScope s_reduced) := ⟨rfl, rfl, rfl, by decide +kernel, rfl, by decide +kernel, by decide +kernel⟩
theorem x_is_fraction : chkTs N_is_fraction (defScope s_is_fraction) t_is_fraction (defBody s_is_fraction) = true := by decide +kernel
theorem y_is_fraction : FnScope N_is_fraction ["value"] (defScope s_is_fraction) := ⟨rfl, rfl, rfl, by decide +kernel, rfl, by decide +kernel, by decide +kernel⟩
theorem x_is_told_fraction : chkTs N_is_told_fraction (defScope s_is_told_fraction) t_is_told_fraction (defBody s_is_told_fraction) = true := by decide +kernel
theorem y_is_told_fraction : FnScope N_is_told_fraction ["value"] (defScope s_is_told_fraction) := ⟨rfl, rfl, rfl, by decide +kernel, rfl, by decide +kernel, by decide +kernel⟩
theorem x_difference : chkTs N_difference (defScope s_difference) t_difference (defBody s_difference) = true := by decide +kernel
theorem y_difference : FnScope N_difference ["one", "other"] (defScope s_difference) := ⟨rfl, rfl, rfl, by decide +kernel, rfl, by decide +kernel, by decide +kernel⟩
theorem x_product_of : chkTs N_product_of (defScope s_product_of) t_product_of (defBody s_product_of) = true := by decide +kernel
theorem y_product_of : FnScope N_product_of ["one", "other"] (defScope s_product_of) := ⟨rfl, rfl, rfl, by decide +kernel, rfl, by decide +kernel, by decide +kernel⟩
theorem x_quotient : chkTs N_quotient (defScope s_quotient) t_quotient (defBody s_quotient) = true := by decide +kernel
theorem y_quotient : FnScope N_quotient ["one", "other"] (defScope s_quotient) := ⟨rfl, rfl, rfl, by decide +kernel, rfl, by decide +kernel, by decide +kernel⟩
theorem x_is_less : chkTs N_is_less (defScope s_is_less) t_is_less (defBody s_is_less) = true := by decide +kernel
theorem y_is_less : FnScope N_is_less ["one", "other"] (defScope s_is_less) := ⟨rfl, rfl, rfl, by decide +kernel, rfl, by decide +kernel, by decide +kernel⟩
theorem x_floor_of : chkTs N_floor_of (defScope s_floor_of) t_floor_of (defBody s_floor_of) = true := by decide +kernel
theorem y_floor_of : FnScope N_floor_of ["one"] (defScope s_floor_of) := ⟨rfl, rfl, rfl, by decide +kernel, rfl, by decide +kernel, by decide +kernel⟩
theorem x_is_stretch : chkTs N_is_stretch (defScope s_is_stretch) t_is_stretch (defBody s_is_stretch) = true := by decide +kernel
theorem y_is_stretch : FnScope N_is_stretch ["value"] (defScope s_is_stretch) := ⟨rfl, rfl, rfl, by decide +kernel, rfl, by decide +kernel, by decide +kernel⟩
theorem x_check_stretch : chkTs N_check_stretch (defScope s_check_stretch) t_check_stretch (defBody s_check_stretch) = true := by decide +kernel
theorem y_check_stretch : FnScope N_check_stretch ["stretch"] (defScope s_check_stretch) := ⟨rfl, rfl, rfl, by decide +kernel, rfl, by decide +kernel, by decide +kernel⟩
theorem x_is_inside : chkTs N_is_inside (defScope s_is_inside) t_is_inside (defBody s_is_inside) = true := by decide +kernel
theorem y_is_inside : FnScope N_is_inside ["stretch", "one"] (defScope s_is_inside) := ⟨rfl, rfl, rfl, by decide +kernel, rfl, by decide +kernel, by decide +kernel⟩
theorem x_simplest_of : chkTs N_simplest_of (defScope s_simplest_of) t_simplest_of (defBody s_simplest_of) = true := by decide +kernel
theorem y_simplest_of : FnScope N_simplest_of ["stretch"] (defScope s_simplest_of) := ⟨rfl, rfl, rfl, by decide +kernel, rfl, by decide +kernel, by decide +kernel⟩
theorem x_parents_of : chkTs N_parents_of (defScope s_parents_of) t_parents_of (defBody s_parents_of) = true := by decide +kernel
theorem y_parents_of : FnScope N_parents_of ["one"] (defScope s_parents_of) := ⟨rfl, rfl, rfl, by decide +kernel, rfl, by decide +kernel, by decide +kernel⟩
theorem x_with_parents : chkTs N_with_parents (defScope s_with_parents) t_with_parents (defBody s_with_parents) = true := by decide +kernel
theorem y_with_parents : FnScope N_with_parents ["one"] (defScope s_with_parents) := ⟨rfl, rfl, rfl, by decide +kernel, rfl, by decide +kernel, by decide +kernel⟩
theorem x_simplest : chkTs N_simplest (defScope s_simplest) t_simplest (defBody s_simplest) = true := by decide +kernel
theorem y_simplest : FnScope N_simplest ["stretch"] (defScope s_simplest) := ⟨rfl, rfl, rfl, by decide +kernel, rfl, by decide +kernel, by decide +kernel⟩
theorem x_halves_of : chkTs N_halves_of (defScope s_halves_of) t_halves_of (defBody s_halves_of) = true := by decide +kernel
theorem y_halves_of : FnScope N_halves_of ["stretch", "cut"] (defScope s_halves_of) := ⟨rfl, rfl, rfl, by decide +kernel, rfl, by decide +kernel, by decide +kernel⟩
theorem x_twice : chkTs N_twice (defScope s_twice) t_twice (defBody s_twice) = true := by decide +kernel
theorem y_twice : FnScope N_twice ["stretch"] (defScope s_twice) := ⟨rfl, rfl, rfl, by decide +kernel, rfl, by decide +kernel, by decide +kernel⟩
theorem x_edge_told : chkTs N_edge_told (defScope s_edge_told) t_edge_told (defBody s_edge_told) = true := by decide +kernel
theorem y_edge_told : FnScope N_edge_told ["stretch"] (defScope s_edge_told) := ⟨rfl, rfl, rfl, by decide +kernel, rfl, by decide +kernel, by decide +kernel⟩
theorem x_edge_size : chkTs N_edge_size (defScope s_edge_size) t_edge_size (defBody s_edge_size) = true := by decide +kernel
theorem y_edge_size : FnScope N_edge_size ["stretch"] (defScope s_edge_size) := ⟨rfl, rfl, rfl, by decide +kernel, rfl, by decide +kernel, by decide +kernel⟩
theorem x_middle_told : chkTs N_middle_told (defScope s_middle_told) t_middle_told (defBody s_middle_told) = true := by decide +kernel
theorem y_middle_told : FnScope N_middle_told ["stretch"] (defScope s_middle_told) := ⟨rfl, rfl, rfl, by decide +kernel, rfl, by decide +kernel, by decide +kernel⟩
theorem x_middle_size : chkTs N_middle_size (defScope s_middle_size) t_middle_size (defBody s_middle_size) = true := by decide +kernel
theorem y_middle_size : FnScope N_middle_size ["stretch"] (defScope s_middle_size) := ⟨rfl, rfl, rfl, by decide +kernel, rfl, by decide +kernel, by decide +kernel⟩
theorem x_are_parents : chkTs N_are_parents (defScope s_are_parents) t_are_parents (defBody s_are_parents) = true := by decide +kernel
theorem y_are_parents : FnScope N_are_parents ["value"] (defScope s_are_parents) := ⟨rfl, rfl, rfl, by decide +kernel, rfl, by decide +kernel, by decide +kernel⟩
theorem x_is_simplest : chkTs N_is_simplest (defScope s_is_simplest) t_is_simplest (defBody s_is_simplest) = true := by decide +kernel
theorem y_is_simplest : FnScope N_is_simplest ["stretch", "value"] (defScope s_is_simplest) := ⟨rfl, rfl, rfl, by decide +kernel, rfl, by decide +kernel, by decide +kernel⟩
theorem x_shows_simplest : chkTs N_shows_simplest (defScope s_shows_simplest) t_shows_simplest (defBody s_shows_simplest) = true := by decide +kernel
theorem y_shows_simplest : FnScope N_shows_simplest ["stretch", "value"] (defScope s_shows_simplest) := ⟨rfl, rfl, rfl, by decide +kernel, rfl, by decide +kernel, by decide +kernel⟩
theorem x_shows_edge_size : chkTs N_shows_edge_size (defScope s_shows_edge_size) t_shows_edge_size (defBody s_shows_edge_size) = true := by decide +kernel
theorem y_shows_edge_size : FnScope N_shows_edge_size ["stretch", "value"] (defScope s_shows_edge_size) := ⟨rfl, rfl, rfl, by decide +kernel, rfl, by decide +kernel, by decide +kernel⟩
theorem x_are_beside : chkTs N_are_beside (defScope s_are_beside) t_are_beside (defBody s_are_beside) = true := by decide +kernel
theorem y_are_beside : FnScope N_are_beside ["stretch", "value"] (defScope s_are_beside) := ⟨rfl, rfl, rfl, by decide +kernel, rfl, by decide +kernel, by decide +kernel⟩
theorem x_is_middle_told : chkTs N_is_middle_told (defScope s_is_middle_told) t_is_middle_told (defBody s_is_middle_told) = true := by decide +kernel
theorem y_is_middle_told : FnScope N_is_middle_told ["stretch", "value"] (defScope s_is_middle_told) := ⟨rfl, rfl, rfl, by decide +kernel, rfl, by decide +kernel, by decide +kernel⟩
theorem x_shows_middle_size : chkTs N_shows_middle_size (defScope s_shows_middle_size) t_shows_middle_size (defBody s_shows_middle_size) = true := by decide +kernel
theorem y_shows_middle_size : FnScope N_shows_middle_size ["stretch", "value"] (defScope s_shows_middle_size) := ⟨rfl, rfl, rfl, by decide +kernel, rfl, by decide +kernel, by decide +kernel⟩
theorem x__law_take : chkTs N__law_take (defScope s__law_take) t__law_take (defBody s__law_take) = true := by decide +kernel
theorem y__law_take : FnScope N__law_take ["pot", "upto"] (defScope s__law_take) := ⟨rfl, rfl, rfl, by decide +kernel, rfl, by decide +kernel, by decide +kernel⟩
theorem x__law_of : chkTs N__law_of (defScope s__law_of) t__law_of (defBody s__law_of) = true := by decide +kernel
theorem y__law_of : FnScope N__law_of ["pot", "some"] (defScope s__law_of) := ⟨rfl, rfl, rfl, by decide +kernel, rfl, by decide +kernel, by decide +kernel⟩
theorem x__law_cells : chkTs N__law_cells (defScope s__law_cells) t__law_cells (defBody s__law_cells) = true := by decide +kernel
theorem y__law_cells : FnScope N__law_cells ["script", "most"] (defScope s__law_cells) := ⟨rfl, rfl, rfl, by decide +kernel, rfl, by decide +kernel, by decide +kernel⟩
theorem x__law_reduced : chkTs N__law_reduced (defScope s__law_reduced) t__law_reduced (defBody s__law_reduced) = true := by decide +kernel
theorem y__law_reduced : FnScope N__law_reduced ["top", "low"] (defScope s__law_reduced) := ⟨rfl, rfl, rfl, by decide +kernel, rfl, by decide +kernel, by decide +kernel⟩
theorem x__law_less : chkTs N__law_less (defScope s__law_less) t__law_less (defBody s__law_less) = true := by decide +kernel
theorem y__law_less : FnScope N__law_less ["one", "other"] (defScope s__law_less) := ⟨rfl, rfl, rfl, by decide +kernel, rfl, by decide +kernel, by decide +kernel⟩
theorem x__law_added : chkTs N__law_added (defScope s__law_added) t__law_added (defBody s__law_added) = true := by decide +kernel
theorem y__law_added : FnScope N__law_added ["one", "other"] (defScope s__law_added) := ⟨rfl, rfl, rfl, by decide +kernel, rfl, by decide +kernel, by decide +kernel⟩
theorem x__law_minus : chkTs N__law_minus (defScope s__law_minus) t__law_minus (defBody s__law_minus) = true := by decide +kernel
theorem y__law_minus : FnScope N__law_minus ["one"] (defScope s__law_minus) := ⟨rfl, rfl, rfl, by decide +kernel, rfl, by decide +kernel, by decide +kernel⟩
theorem x__law_is_in : chkTs N__law_is_in (defScope s__law_is_in) t__law_is_in (defBody s__law_is_in) = true := by decide +kernel
theorem y__law_is_in : FnScope N__law_is_in ["stretch", "number"] (defScope s__law_is_in) := ⟨rfl, rfl, rfl, by decide +kernel, rfl, by decide +kernel, by decide +kernel⟩
theorem x__law_stretch : chkTs N__law_stretch (defScope s__law_stretch) t__law_stretch (defBody s__law_stretch) = true := by decide +kernel
theorem y__law_stretch : FnScope N__law_stretch ["pot"] (defScope s__law_stretch) := ⟨rfl, rfl, rfl, by decide +kernel, rfl, by decide +kernel, by decide +kernel⟩
theorem x__law_shifted : chkTs N__law_shifted (defScope s__law_shifted) t__law_shifted (defBody s__law_shifted) = true := by decide +kernel
theorem y__law_shifted : FnScope N__law_shifted ["stretch", "many"] (defScope s__law_shifted) := ⟨rfl, rfl, rfl, by decide +kernel, rfl, by decide +kernel, by decide +kernel⟩
theorem x__law_mirrored : chkTs N__law_mirrored (defScope s__law_mirrored) t__law_mirrored (defBody s__law_mirrored) = true := by decide +kernel
theorem y__law_mirrored : FnScope N__law_mirrored ["stretch", "many"] (defScope s__law_mirrored) := ⟨rfl, rfl, rfl, by decide +kernel, rfl, by decide +kernel, by decide +kernel⟩
theorem x__law_inverted : chkTs N__law_inverted (defScope s__law_inverted) t__law_inverted (defBody s__law_inverted) = true := by decide +kernel
theorem y__law_inverted : FnScope N__law_inverted ["stretch"] (defScope s__law_inverted) := ⟨rfl, rfl, rfl, by decide +kernel, rfl, by decide +kernel, by decide +kernel⟩
theorem x__law_is_shift_right : chkTs N__law_is_shift_right (defScope s__law_is_shift_right) t__law_is_shift_right (defBody s__law_is_shift_right) = true := by decide +kernel
theorem y__law_is_shift_right : FnScope N__law_is_shift_right ["pot", "stretch", "told"] (defScope s__law_is_shift_right) := ⟨rfl, rfl, rfl, by decide +kernel, rfl, by decide +kernel, by decide +kernel⟩
theorem x__law_is_turn_right : chkTs N__law_is_turn_right (defScope s__law_is_turn_right) t__law_is_turn_right (defBody s__law_is_turn_right) = true := by decide +kernel
theorem y__law_is_turn_right : FnScope N__law_is_turn_right ["pot", "stretch", "told"] (defScope s__law_is_turn_right) := ⟨rfl, rfl, rfl, by decide +kernel, rfl, by decide +kernel, by decide +kernel⟩
theorem x__law_is_inner_right : chkTs N__law_is_inner_right (defScope s__law_is_inner_right) t__law_is_inner_right (defBody s__law_is_inner_right) = true := by decide +kernel
theorem y__law_is_inner_right : FnScope N__law_is_inner_right ["pot", "stretch", "told"] (defScope s__law_is_inner_right) := ⟨rfl, rfl, rfl, by decide +kernel, rfl, by decide +kernel, by decide +kernel⟩
theorem x__law_right : chkTs N__law_right (defScope s__law_right) t__law_right (defBody s__law_right) = true := by decide +kernel
theorem y__law_right : FnScope N__law_right ["pot"] (defScope s__law_right) := ⟨rfl, rfl, rfl, by decide +kernel, rfl, by decide +kernel, by decide +kernel⟩
def N_pot : List Str := ["script", "place", "cell", "own", "small"]
theorem x_pot : chkPot N_pot (defScope s__law_pot) pt1 pt2 pt3 ptf (defBody s__law_pot) = true := by decide +kernel
theorem y_pot : FnScope N_pot ["script", "place"] (defScope s__law_pot) := ⟨rfl, rfl, rfl, by decide +kernel, rfl, by decide +kernel, by decide +kernel⟩
def N_law : List Str := ["script", "place", "pot", "lap"]
theorem x_law : chkLaw N_law (defScope s_law) lit lt2 (defBody s_law) = true := by decide +kernel
theorem y_law : FnScope N_law ["script"] (defScope s_law) := ⟨rfl, rfl, rfl, by decide +kernel, rfl, by decide +kernel, by decide +kernel⟩
/-! ## each def keeps its promise -/
section
variable {P : Program} {w : World} {K : PySem.W.Frag} {mg : Str → Option Value} {base : Heap}
structure Has (K : PySem.W.Frag) (mg : Str → Option Value) (base : Heap) : Prop where
  kin : K.In base
  ns : base.Ns mainGlobals mg
  says : SaysX fa fn cs K
theorem f_is_integer (h : Has K mg base) : Fd P w K mg base 1 "is_integer" 1 F_is_integer := by
  obtain ⟨fd, F⟩ := h.says.says.def_ 0 (d := d_is_integer) rfl
  refine fd_of (N := N_is_integer) F y_is_integer rfl (F.bindsN fun _ _ _ _ _ _ us hl => match us, hl with | [_], _ => rfl) (He.glo_ok h.kin h.ns (h.says.says.fact 0 rfl)) x_is_integer ?_
  exact (by repeat' first | exact trivial | exact He.free_ok h.kin h.ns (h.says.says.fact 50 rfl) | exact He.free_ok h.kin h.ns (h.says.says.fact 51 rfl) | exact He.free_ok h.kin h.ns (h.says.says.fact 52 rfl) | refine And.intro ?_ ?_ : ndTs (NdOk P w K mg base 0) t_is_integer)
theorem f_common (h : Has K mg base) : Fd P w K mg base 1 "common" 2 F_common := by
  obtain ⟨fd, F⟩ := h.says.says.def_ 1 (d := d_common) rfl
  refine fd_of (N := N_common) F y_common rfl (F.bindsN fun _ _ _ _ _ _ us hl => match us, hl with | [_, _], _ => rfl) (He.glo_ok h.kin h.ns (h.says.says.fact 1 rfl)) x_common ?_
  exact (by repeat' first | exact trivial | exact blt_ok h.kin h.ns (h.says.cn 5 rfl) | refine And.intro ?_ ?_ : ndTs (NdOk P w K mg base 0) t_common)
theorem f_reduced (h : Has K mg base) : Fd P w K mg base 2 "reduced" 2 F_reduced := by
  obtain ⟨fd, F⟩ := h.says.says.def_ 2 (d := d_reduced) rfl
  refine fd_of (N := N_reduced) F y_reduced rfl (F.bindsN fun _ _ _ _ _ _ us hl => match us, hl with | [_, _], _ => rfl) (He.glo_ok h.kin h.ns (h.says.says.fact 2 rfl)) x_reduced ?_
  exact (by repeat' first | exact trivial | exact (f_common h).mono (by decide) | refine And.intro ?_ ?_ : ndTs (NdOk P w K mg base 1) t_reduced)
theorem f_is_fraction (h : Has K mg base) : Fd P w K mg base 2 "is_fraction" 1 F_is_fraction := by
  obtain ⟨fd, F⟩ := h.says.says.def_ 3 (d := d_is_fraction) rfl
  refine fd_of (N := N_is_fraction) F y_is_fraction rfl (F.bindsN fun _ _ _ _ _ _ us hl => match us, hl with | [_], _ => rfl) (He.glo_ok h.kin h.ns (h.says.says.fact 3 rfl)) x_is_fraction ?_
  exact (by repeat' first | exact trivial | exact (f_is_integer h).mono (by decide) | exact (f_common h).mono (by decide) | exact He.free_ok h.kin h.ns (h.says.says.fact 49 rfl) | exact He.free_ok h.kin h.ns (h.says.says.fact 52 rfl) | exact He.free_ok h.kin h.ns (h.says.says.fact 53 rfl) | exact He.free_ok h.kin h.ns (h.says.says.fact 61 rfl) | refine And.intro ?_ ?_ : ndTs (NdOk P w K mg base 1) t_is_fraction)
theorem f_is_told_fraction (h : Has K mg base) : Fd P w K mg base 3 "is_told_fraction" 1 F_is_told_fraction := by
  obtain ⟨fd, F⟩ := h.says.says.def_ 4 (d := d_is_told_fraction) rfl
  refine fd_of (N := N_is_told_fraction) F y_is_told_fraction rfl (F.bindsN fun _ _ _ _ _ _ us hl => match us, hl with | [_], _ => rfl) (He.glo_ok h.kin h.ns (h.says.says.fact 4 rfl)) x_is_told_fraction ?_
  exact (by repeat' first | exact trivial | exact (f_is_fraction h).mono (by decide) | exact dat_ok h.kin h.ns (h.says.cn 0 rfl) | exact He.free_ok h.kin h.ns (h.says.says.fact 48 rfl) | refine And.intro ?_ ?_ : ndTs (NdOk P w K mg base 2) t_is_told_fraction)
theorem f_difference (h : Has K mg base) : Fd P w K mg base 3 "difference" 2 F_difference := by
  obtain ⟨fd, F⟩ := h.says.says.def_ 5 (d := d_difference) rfl
  refine fd_of (N := N_difference) F y_difference rfl (F.bindsN fun _ _ _ _ _ _ us hl => match us, hl with | [_, _], _ => rfl) (He.glo_ok h.kin h.ns (h.says.says.fact 5 rfl)) x_difference ?_
  exact (by repeat' first | exact trivial | exact (f_reduced h).mono (by decide) | refine And.intro ?_ ?_ : ndTs (NdOk P w K mg base 2) t_difference)
theorem f_product_of (h : Has K mg base) : Fd P w K mg base 3 "product_of" 2 F_product_of := by
  obtain ⟨fd, F⟩ := h.says.says.def_ 6 (d := d_product_of) rfl
  refine fd_of (N := N_product_of) F y_product_of rfl (F.bindsN fun _ _ _ _ _ _ us hl => match us, hl with | [_, _], _ => rfl) (He.glo_ok h.kin h.ns (h.says.says.fact 6 rfl)) x_product_of ?_
  exact (by repeat' first | exact trivial | exact (f_reduced h).mono (by decide) | refine And.intro ?_ ?_ : ndTs (NdOk P w K mg base 2) t_product_of)
theorem f_quotient (h : Has K mg base) : Fd P w K mg base 3 "quotient" 2 F_quotient := by
  obtain ⟨fd, F⟩ := h.says.says.def_ 7 (d := d_quotient) rfl
  refine fd_of (N := N_quotient) F y_quotient rfl (F.bindsN fun _ _ _ _ _ _ us hl => match us, hl with | [_, _], _ => rfl) (He.glo_ok h.kin h.ns (h.says.says.fact 7 rfl)) x_quotient ?_
  exact (by repeat' first | exact trivial | exact (f_reduced h).mono (by decide) | refine And.intro ?_ ?_ : ndTs (NdOk P w K mg base 2) t_quotient)
theorem f_is_less (h : Has K mg base) : Fd P w K mg base 1 "is_less" 2 F_is_less := by
  obtain ⟨fd, F⟩ := h.says.says.def_ 8 (d := d_is_less) rfl
  refine fd_of (N := N_is_less) F y_is_less rfl (F.bindsN fun _ _ _ _ _ _ us hl => match us, hl with | [_, _], _ => rfl) (He.glo_ok h.kin h.ns (h.says.says.fact 8 rfl)) x_is_less ?_
  exact (by repeat' first | exact trivial | refine And.intro ?_ ?_ : ndTs (NdOk P w K mg base 0) t_is_less)
theorem f_floor_of (h : Has K mg base) : Fd P w K mg base 1 "floor_of" 1 F_floor_of := by
  obtain ⟨fd, F⟩ := h.says.says.def_ 9 (d := d_floor_of) rfl
  refine fd_of (N := N_floor_of) F y_floor_of rfl (F.bindsN fun _ _ _ _ _ _ us hl => match us, hl with | [_], _ => rfl) (He.glo_ok h.kin h.ns (h.says.says.fact 9 rfl)) x_floor_of ?_
  exact (by repeat' first | exact trivial | refine And.intro ?_ ?_ : ndTs (NdOk P w K mg base 0) t_floor_of)
theorem f_is_stretch (h : Has K mg base) : Fd P w K mg base 4 "is_stretch" 1 F_is_stretch := by
  obtain ⟨fd, F⟩ := h.says.says.def_ 10 (d := d_is_stretch) rfl
  refine fd_of (N := N_is_stretch) F y_is_stretch rfl (F.bindsN fun _ _ _ _ _ _ us hl => match us, hl with | [_], _ => rfl) (He.glo_ok h.kin h.ns (h.says.says.fact 10 rfl)) x_is_stretch ?_
  exact (by repeat' first | exact trivial | exact (f_is_told_fraction h).mono (by decide) | exact (f_is_less h).mono (by decide) | exact He.free_ok h.kin h.ns (h.says.says.fact 49 rfl) | exact He.free_ok h.kin h.ns (h.says.says.fact 50 rfl) | exact He.free_ok h.kin h.ns (h.says.says.fact 52 rfl) | exact He.free_ok h.kin h.ns (h.says.says.fact 53 rfl) | exact He.free_ok h.kin h.ns (h.says.says.fact 61 rfl) | refine And.intro ?_ ?_ : ndTs (NdOk P w K mg base 3) t_is_stretch)
theorem f_check_stretch (h : Has K mg base) : Fd P w K mg base 5 "check_stretch" 1 F_check_stretch := by
  obtain ⟨fd, F⟩ := h.says.says.def_ 11 (d := d_check_stretch) rfl
  refine fd_of (N := N_check_stretch) F y_check_stretch rfl (F.bindsN fun _ _ _ _ _ _ us hl => match us, hl with | [_], _ => rfl) (He.glo_ok h.kin h.ns (h.says.says.fact 11 rfl)) x_check_stretch ?_
  exact (by repeat' first | exact trivial | exact (f_is_stretch h).mono (by decide) | refine And.intro ?_ ?_ : ndTs (NdOk P w K mg base 4) t_check_stretch)
theorem f_is_inside (h : Has K mg base) : Fd P w K mg base 2 "is_inside" 2 F_is_inside := by
  obtain ⟨fd, F⟩ := h.says.says.def_ 12 (d := d_is_inside) rfl
  refine fd_of (N := N_is_inside) F y_is_inside rfl (F.bindsN fun _ _ _ _ _ _ us hl => match us, hl with | [_, _], _ => rfl) (He.glo_ok h.kin h.ns (h.says.says.fact 12 rfl)) x_is_inside ?_
  exact (by repeat' first | exact trivial | exact (f_is_less h).mono (by decide) | refine And.intro ?_ ?_ : ndTs (NdOk P w K mg base 1) t_is_inside)
theorem f_simplest_of (h : Has K mg base) : Fd P w K mg base 4 "simplest_of" 1 F_simplest_of := by
  obtain ⟨fd, F⟩ := h.says.says.def_ 13 (d := d_simplest_of) rfl
  refine fd_of (N := N_simplest_of) F y_simplest_of rfl (F.bindsN fun _ _ _ _ _ _ us hl => match us, hl with | [_], _ => rfl) (He.glo_ok h.kin h.ns (h.says.says.fact 13 rfl)) x_simplest_of ?_
  exact (by repeat' first | exact trivial | exact (f_floor_of h).mono (by decide) | exact (f_is_inside h).mono (by decide) | exact (f_difference h).mono (by decide) | exact (f_quotient h).mono (by decide) | exact dat_ok h.kin h.ns (h.says.cn 1 rfl) | exact dat_ok h.kin h.ns (h.says.cn 2 rfl) | exact dat_ok h.kin h.ns (h.says.cn 3 rfl) | exact He.free_ok h.kin h.ns (h.says.says.fact 57 rfl) | refine And.intro ?_ ?_ : ndTs (NdOk P w K mg base 3) t_simplest_of)
theorem f_parents_of (h : Has K mg base) : Fd P w K mg base 1 "parents_of" 1 F_parents_of := by
  obtain ⟨fd, F⟩ := h.says.says.def_ 14 (d := d_parents_of) rfl
  refine fd_of (N := N_parents_of) F y_parents_of rfl (F.bindsN fun _ _ _ _ _ _ us hl => match us, hl with | [_], _ => rfl) (He.glo_ok h.kin h.ns (h.says.says.fact 14 rfl)) x_parents_of ?_
  exact (by repeat' first | exact trivial | refine And.intro ?_ ?_ : ndTs (NdOk P w K mg base 0) t_parents_of)
theorem f_with_parents (h : Has K mg base) : Fd P w K mg base 2 "with_parents" 1 F_with_parents := by
  obtain ⟨fd, F⟩ := h.says.says.def_ 15 (d := d_with_parents) rfl
  refine fd_of (N := N_with_parents) F y_with_parents rfl (F.bindsN fun _ _ _ _ _ _ us hl => match us, hl with | [_], _ => rfl) (He.glo_ok h.kin h.ns (h.says.says.fact 15 rfl)) x_with_parents ?_
  exact (by repeat' first | exact trivial | exact (f_parents_of h).mono (by decide) | refine And.intro ?_ ?_ : ndTs (NdOk P w K mg base 1) t_with_parents)
theorem f_simplest (h : Has K mg base) : Fd P w K mg base 6 "simplest" 1 F_simplest := by
  obtain ⟨fd, F⟩ := h.says.says.def_ 16 (d := d_simplest) rfl
  refine fd_of (N := N_simplest) F y_simplest rfl (F.bindsN fun _ _ _ _ _ _ us hl => match us, hl with | [_], _ => rfl) (He.glo_ok h.kin h.ns (h.says.says.fact 16 rfl)) x_simplest ?_
  exact (by repeat' first | exact trivial | exact (f_check_stretch h).mono (by decide) | exact (f_with_parents h).mono (by decide) | exact (f_simplest_of h).mono (by decide) | refine And.intro ?_ ?_ : ndTs (NdOk P w K mg base 5) t_simplest)
theorem f_halves_of (h : Has K mg base) : Fd P w K mg base 2 "halves_of" 2 F_halves_of := by
  obtain ⟨fd, F⟩ := h.says.says.def_ 17 (d := d_halves_of) rfl
  refine fd_of (N := N_halves_of) F y_halves_of rfl (F.bindsN fun _ _ _ _ _ _ us hl => match us, hl with | [_, _], _ => rfl) (He.glo_ok h.kin h.ns (h.says.says.fact 17 rfl)) x_halves_of ?_
  exact (by repeat' first | exact trivial | exact (f_is_less h).mono (by decide) | refine And.intro ?_ ?_ : ndTs (NdOk P w K mg base 1) t_halves_of)
theorem f_twice (h : Has K mg base) : Fd P w K mg base 4 "twice" 1 F_twice := by
  obtain ⟨fd, F⟩ := h.says.says.def_ 18 (d := d_twice) rfl
  refine fd_of (N := N_twice) F y_twice rfl (F.bindsN fun _ _ _ _ _ _ us hl => match us, hl with | [_], _ => rfl) (He.glo_ok h.kin h.ns (h.says.says.fact 18 rfl)) x_twice ?_
  exact (by repeat' first | exact trivial | exact (f_product_of h).mono (by decide) | exact dat_ok h.kin h.ns (h.says.cn 4 rfl) | refine And.intro ?_ ?_ : ndTs (NdOk P w K mg base 3) t_twice)
theorem f_edge_told (h : Has K mg base) : Fd P w K mg base 5 "edge_told" 1 F_edge_told := by
  obtain ⟨fd, F⟩ := h.says.says.def_ 19 (d := d_edge_told) rfl
  refine fd_of (N := N_edge_told) F y_edge_told rfl (F.bindsN fun _ _ _ _ _ _ us hl => match us, hl with | [_], _ => rfl) (He.glo_ok h.kin h.ns (h.says.says.fact 19 rfl)) x_edge_told ?_
  exact (by repeat' first | exact trivial | exact (f_simplest_of h).mono (by decide) | exact (f_parents_of h).mono (by decide) | refine And.intro ?_ ?_ : ndTs (NdOk P w K mg base 4) t_edge_told)
theorem f_edge_size (h : Has K mg base) : Fd P w K mg base 6 "edge_size" 1 F_edge_size := by
  obtain ⟨fd, F⟩ := h.says.says.def_ 20 (d := d_edge_size) rfl
  refine fd_of (N := N_edge_size) F y_edge_size rfl (F.bindsN fun _ _ _ _ _ _ us hl => match us, hl with | [_], _ => rfl) (He.glo_ok h.kin h.ns (h.says.says.fact 20 rfl)) x_edge_size ?_
  exact (by repeat' first | exact trivial | exact (f_check_stretch h).mono (by decide) | exact (f_edge_told h).mono (by decide) | refine And.intro ?_ ?_ : ndTs (NdOk P w K mg base 5) t_edge_size)
theorem f_middle_told (h : Has K mg base) : Fd P w K mg base 5 "middle_told" 1 F_middle_told := by
  obtain ⟨fd, F⟩ := h.says.says.def_ 21 (d := d_middle_told) rfl
  refine fd_of (N := N_middle_told) F y_middle_told rfl (F.bindsN fun _ _ _ _ _ _ us hl => match us, hl with | [_], _ => rfl) (He.glo_ok h.kin h.ns (h.says.says.fact 21 rfl)) x_middle_told ?_
  exact (by repeat' first | exact trivial | exact (f_twice h).mono (by decide) | exact (f_simplest_of h).mono (by decide) | exact (f_with_parents h).mono (by decide) | exact (f_halves_of h).mono (by decide) | exact He.free_ok h.kin h.ns (h.says.says.fact 59 rfl) | exact He.free_ok h.kin h.ns (h.says.says.fact 61 rfl) | refine And.intro ?_ ?_ : ndTs (NdOk P w K mg base 4) t_middle_told)
theorem f_middle_size (h : Has K mg base) : Fd P w K mg base 6 "middle_size" 1 F_middle_size := by
  obtain ⟨fd, F⟩ := h.says.says.def_ 22 (d := d_middle_size) rfl
  refine fd_of (N := N_middle_size) F y_middle_size rfl (F.bindsN fun _ _ _ _ _ _ us hl => match us, hl with | [_], _ => rfl) (He.glo_ok h.kin h.ns (h.says.says.fact 22 rfl)) x_middle_size ?_
  exact (by repeat' first | exact trivial | exact (f_check_stretch h).mono (by decide) | exact (f_middle_told h).mono (by decide) | refine And.intro ?_ ?_ : ndTs (NdOk P w K mg base 5) t_middle_size)
theorem f_are_parents (h : Has K mg base) : Fd P w K mg base 2 "are_parents" 1 F_are_parents := by
  obtain ⟨fd, F⟩ := h.says.says.def_ 23 (d := d_are_parents) rfl
  refine fd_of (N := N_are_parents) F y_are_parents rfl (F.bindsN fun _ _ _ _ _ _ us hl => match us, hl with | [_], _ => rfl) (He.glo_ok h.kin h.ns (h.says.says.fact 23 rfl)) x_are_parents ?_
  exact (by repeat' first | exact trivial | exact (f_is_integer h).mono (by decide) | exact He.free_ok h.kin h.ns (h.says.says.fact 49 rfl) | exact He.free_ok h.kin h.ns (h.says.says.fact 52 rfl) | exact He.free_ok h.kin h.ns (h.says.says.fact 53 rfl) | exact He.free_ok h.kin h.ns (h.says.says.fact 61 rfl) | refine And.intro ?_ ?_ : ndTs (NdOk P w K mg base 1) t_are_parents)
theorem f_is_simplest (h : Has K mg base) : Fd P w K mg base 3 "is_simplest" 2 F_is_simplest := by
  obtain ⟨fd, F⟩ := h.says.says.def_ 24 (d := d_is_simplest) rfl
  refine fd_of (N := N_is_simplest) F y_is_simplest rfl (F.bindsN fun _ _ _ _ _ _ us hl => match us, hl with | [_, _], _ => rfl) (He.glo_ok h.kin h.ns (h.says.says.fact 24 rfl)) x_is_simplest ?_
  exact (by repeat' first | exact trivial | exact (f_is_fraction h).mono (by decide) | exact (f_is_inside h).mono (by decide) | exact (f_are_parents h).mono (by decide) | exact He.free_ok h.kin h.ns (h.says.says.fact 52 rfl) | exact He.free_ok h.kin h.ns (h.says.says.fact 53 rfl) | exact He.free_ok h.kin h.ns (h.says.says.fact 61 rfl) | refine And.intro ?_ ?_ : ndTs (NdOk P w K mg base 2) t_is_simplest)
theorem f_shows_simplest (h : Has K mg base) : Fd P w K mg base 6 "shows_simplest" 2 F_shows_simplest := by
  obtain ⟨fd, F⟩ := h.says.says.def_ 25 (d := d_shows_simplest) rfl
  refine fd_of (N := N_shows_simplest) F y_shows_simplest rfl (F.bindsN fun _ _ _ _ _ _ us hl => match us, hl with | [_, _], _ => rfl) (He.glo_ok h.kin h.ns (h.says.says.fact 25 rfl)) x_shows_simplest ?_
  exact (by repeat' first | exact trivial | exact (f_check_stretch h).mono (by decide) | exact (f_is_simplest h).mono (by decide) | refine And.intro ?_ ?_ : ndTs (NdOk P w K mg base 5) t_shows_simplest)
theorem f_shows_edge_size (h : Has K mg base) : Fd P w K mg base 6 "shows_edge_size" 2 F_shows_edge_size := by
  obtain ⟨fd, F⟩ := h.says.says.def_ 26 (d := d_shows_edge_size) rfl
  refine fd_of (N := N_shows_edge_size) F y_shows_edge_size rfl (F.bindsN fun _ _ _ _ _ _ us hl => match us, hl with | [_, _], _ => rfl) (He.glo_ok h.kin h.ns (h.says.says.fact 26 rfl)) x_shows_edge_size ?_
  exact (by repeat' first | exact trivial | exact (f_check_stretch h).mono (by decide) | exact (f_is_integer h).mono (by decide) | exact (f_is_simplest h).mono (by decide) | exact He.free_ok h.kin h.ns (h.says.says.fact 52 rfl) | exact He.free_ok h.kin h.ns (h.says.says.fact 53 rfl) | exact He.free_ok h.kin h.ns (h.says.says.fact 61 rfl) | refine And.intro ?_ ?_ : ndTs (NdOk P w K mg base 5) t_shows_edge_size)
theorem f_are_beside (h : Has K mg base) : Fd P w K mg base 4 "are_beside" 2 F_are_beside := by
  obtain ⟨fd, F⟩ := h.says.says.def_ 27 (d := d_are_beside) rfl
  refine fd_of (N := N_are_beside) F y_are_beside rfl (F.bindsN fun _ _ _ _ _ _ us hl => match us, hl with | [_, _], _ => rfl) (He.glo_ok h.kin h.ns (h.says.says.fact 27 rfl)) x_are_beside ?_
  exact (by repeat' first | exact trivial | exact (f_is_simplest h).mono (by decide) | exact (f_halves_of h).mono (by decide) | exact He.free_ok h.kin h.ns (h.says.says.fact 49 rfl) | exact He.free_ok h.kin h.ns (h.says.says.fact 53 rfl) | exact He.free_ok h.kin h.ns (h.says.says.fact 62 rfl) | refine And.intro ?_ ?_ : ndTs (NdOk P w K mg base 3) t_are_beside)
theorem f_is_middle_told (h : Has K mg base) : Fd P w K mg base 5 "is_middle_told" 2 F_is_middle_told := by
  obtain ⟨fd, F⟩ := h.says.says.def_ 28 (d := d_is_middle_told) rfl
  refine fd_of (N := N_is_middle_told) F y_is_middle_told rfl (F.bindsN fun _ _ _ _ _ _ us hl => match us, hl with | [_, _], _ => rfl) (He.glo_ok h.kin h.ns (h.says.says.fact 28 rfl)) x_is_middle_told ?_
  exact (by repeat' first | exact trivial | exact (f_twice h).mono (by decide) | exact (f_is_integer h).mono (by decide) | exact (f_is_simplest h).mono (by decide) | exact (f_are_beside h).mono (by decide) | exact He.free_ok h.kin h.ns (h.says.says.fact 52 rfl) | exact He.free_ok h.kin h.ns (h.says.says.fact 53 rfl) | exact He.free_ok h.kin h.ns (h.says.says.fact 59 rfl) | exact He.free_ok h.kin h.ns (h.says.says.fact 61 rfl) | refine And.intro ?_ ?_ : ndTs (NdOk P w K mg base 4) t_is_middle_told)
theorem f_shows_middle_size (h : Has K mg base) : Fd P w K mg base 6 "shows_middle_size" 2 F_shows_middle_size := by
  obtain ⟨fd, F⟩ := h.says.says.def_ 29 (d := d_shows_middle_size) rfl
  refine fd_of (N := N_shows_middle_size) F y_shows_middle_size rfl (F.bindsN fun _ _ _ _ _ _ us hl => match us, hl with | [_, _], _ => rfl) (He.glo_ok h.kin h.ns (h.says.says.fact 29 rfl)) x_shows_middle_size ?_
  exact (by repeat' first | exact trivial | exact (f_check_stretch h).mono (by decide) | exact (f_is_middle_told h).mono (by decide) | refine And.intro ?_ ?_ : ndTs (NdOk P w K mg base 5) t_shows_middle_size)
theorem f__law_take (h : Has K mg base) : Fd P w K mg base 1 "_law_take" 2 F__law_take := by
  obtain ⟨fd, F⟩ := h.says.says.def_ 30 (d := d__law_take) rfl
  refine fd_of (N := N__law_take) F y__law_take rfl (F.bindsN fun _ _ _ _ _ _ us hl => match us, hl with | [_, _], _ => rfl) (He.glo_ok h.kin h.ns (h.says.says.fact 30 rfl)) x__law_take ?_
  exact (by repeat' first | exact trivial | exact He.free_ok h.kin h.ns (h.says.says.fact 51 rfl) | refine And.intro ?_ ?_ : ndTs (NdOk P w K mg base 0) t__law_take)
theorem f__law_of (h : Has K mg base) : Fd P w K mg base 2 "_law_of" 2 F__law_of := by
  obtain ⟨fd, F⟩ := h.says.says.def_ 31 (d := d__law_of) rfl
  refine fd_of (N := N__law_of) F y__law_of rfl (F.bindsN fun _ _ _ _ _ _ us hl => match us, hl with | [_, _], _ => rfl) (He.glo_ok h.kin h.ns (h.says.says.fact 31 rfl)) x__law_of ?_
  exact (by repeat' first | exact trivial | exact (f__law_take h).mono (by decide) | exact He.free_ok h.kin h.ns (h.says.says.fact 53 rfl) | refine And.intro ?_ ?_ : ndTs (NdOk P w K mg base 1) t__law_of)
theorem f__law_cells (h : Has K mg base) : Fd P w K mg base 1 "_law_cells" 2 F__law_cells := by
  obtain ⟨fd, F⟩ := h.says.says.def_ 32 (d := d__law_cells) rfl
  refine fd_of (N := N__law_cells) F y__law_cells rfl (F.bindsN fun _ _ _ _ _ _ us hl => match us, hl with | [_, _], _ => rfl) (He.glo_ok h.kin h.ns (h.says.says.fact 32 rfl)) x__law_cells ?_
  exact (by repeat' first | exact trivial | exact He.free_ok h.kin h.ns (h.says.says.fact 53 rfl) | exact He.free_ok h.kin h.ns (h.says.says.fact 54 rfl) | exact He.free_ok h.kin h.ns (h.says.says.fact 55 rfl) | exact He.free_ok h.kin h.ns (h.says.says.fact 56 rfl) | exact He.free_ok h.kin h.ns (h.says.says.fact 57 rfl) | refine And.intro ?_ ?_ : ndTs (NdOk P w K mg base 0) t__law_cells)
theorem f__law_reduced (h : Has K mg base) : Fd P w K mg base 1 "_law_reduced" 2 F__law_reduced := by
  obtain ⟨fd, F⟩ := h.says.says.def_ 33 (d := d__law_reduced) rfl
  refine fd_of (N := N__law_reduced) F y__law_reduced rfl (F.bindsN fun _ _ _ _ _ _ us hl => match us, hl with | [_, _], _ => rfl) (He.glo_ok h.kin h.ns (h.says.says.fact 33 rfl)) x__law_reduced ?_
  exact (by repeat' first | exact trivial | exact He.free_ok h.kin h.ns (h.says.says.fact 48 rfl) | exact He.free_ok h.kin h.ns (h.says.says.fact 51 rfl) | refine And.intro ?_ ?_ : ndTs (NdOk P w K mg base 0) t__law_reduced)
theorem f__law_less (h : Has K mg base) : Fd P w K mg base 1 "_law_less" 2 F__law_less := by
  obtain ⟨fd, F⟩ := h.says.says.def_ 34 (d := d__law_less) rfl
  refine fd_of (N := N__law_less) F y__law_less rfl (F.bindsN fun _ _ _ _ _ _ us hl => match us, hl with | [_, _], _ => rfl) (He.glo_ok h.kin h.ns (h.says.says.fact 34 rfl)) x__law_less ?_
  exact (by repeat' first | exact trivial | refine And.intro ?_ ?_ : ndTs (NdOk P w K mg base 0) t__law_less)
theorem f__law_added (h : Has K mg base) : Fd P w K mg base 2 "_law_added" 2 F__law_added := by
  obtain ⟨fd, F⟩ := h.says.says.def_ 35 (d := d__law_added) rfl
  refine fd_of (N := N__law_added) F y__law_added rfl (F.bindsN fun _ _ _ _ _ _ us hl => match us, hl with | [_, _], _ => rfl) (He.glo_ok h.kin h.ns (h.says.says.fact 35 rfl)) x__law_added ?_
  exact (by repeat' first | exact trivial | exact (f__law_reduced h).mono (by decide) | refine And.intro ?_ ?_ : ndTs (NdOk P w K mg base 1) t__law_added)
theorem f__law_minus (h : Has K mg base) : Fd P w K mg base 1 "_law_minus" 1 F__law_minus := by
  obtain ⟨fd, F⟩ := h.says.says.def_ 36 (d := d__law_minus) rfl
  refine fd_of (N := N__law_minus) F y__law_minus rfl (F.bindsN fun _ _ _ _ _ _ us hl => match us, hl with | [_], _ => rfl) (He.glo_ok h.kin h.ns (h.says.says.fact 36 rfl)) x__law_minus ?_
  exact (by repeat' first | exact trivial | refine And.intro ?_ ?_ : ndTs (NdOk P w K mg base 0) t__law_minus)
theorem f__law_is_in (h : Has K mg base) : Fd P w K mg base 2 "_law_is_in" 2 F__law_is_in := by
  obtain ⟨fd, F⟩ := h.says.says.def_ 37 (d := d__law_is_in) rfl
  refine fd_of (N := N__law_is_in) F y__law_is_in rfl (F.bindsN fun _ _ _ _ _ _ us hl => match us, hl with | [_, _], _ => rfl) (He.glo_ok h.kin h.ns (h.says.says.fact 37 rfl)) x__law_is_in ?_
  exact (by repeat' first | exact trivial | exact (f__law_less h).mono (by decide) | refine And.intro ?_ ?_ : ndTs (NdOk P w K mg base 1) t__law_is_in)
theorem f__law_stretch (h : Has K mg base) : Fd P w K mg base 3 "_law_stretch" 1 F__law_stretch := by
  obtain ⟨fd, F⟩ := h.says.says.def_ 38 (d := d__law_stretch) rfl
  refine fd_of (N := N__law_stretch) F y__law_stretch rfl (F.bindsN fun _ _ _ _ _ _ us hl => match us, hl with | [_], _ => rfl) (He.glo_ok h.kin h.ns (h.says.says.fact 38 rfl)) x__law_stretch ?_
  exact (by repeat' first | exact trivial | exact (f__law_reduced h).mono (by decide) | exact (f__law_take h).mono (by decide) | exact (f__law_of h).mono (by decide) | exact (f__law_added h).mono (by decide) | refine And.intro ?_ ?_ : ndTs (NdOk P w K mg base 2) t__law_stretch)
theorem f__law_shifted (h : Has K mg base) : Fd P w K mg base 3 "_law_shifted" 2 F__law_shifted := by
  obtain ⟨fd, F⟩ := h.says.says.def_ 39 (d := d__law_shifted) rfl
  refine fd_of (N := N__law_shifted) F y__law_shifted rfl (F.bindsN fun _ _ _ _ _ _ us hl => match us, hl with | [_, _], _ => rfl) (He.glo_ok h.kin h.ns (h.says.says.fact 39 rfl)) x__law_shifted ?_
  exact (by repeat' first | exact trivial | exact (f__law_added h).mono (by decide) | refine And.intro ?_ ?_ : ndTs (NdOk P w K mg base 2) t__law_shifted)
theorem f__law_mirrored (h : Has K mg base) : Fd P w K mg base 3 "_law_mirrored" 2 F__law_mirrored := by
  obtain ⟨fd, F⟩ := h.says.says.def_ 40 (d := d__law_mirrored) rfl
  refine fd_of (N := N__law_mirrored) F y__law_mirrored rfl (F.bindsN fun _ _ _ _ _ _ us hl => match us, hl with | [_, _], _ => rfl) (He.glo_ok h.kin h.ns (h.says.says.fact 40 rfl)) x__law_mirrored ?_
  exact (by repeat' first | exact trivial | exact (f__law_added h).mono (by decide) | exact (f__law_minus h).mono (by decide) | refine And.intro ?_ ?_ : ndTs (NdOk P w K mg base 2) t__law_mirrored)
theorem f__law_inverted (h : Has K mg base) : Fd P w K mg base 1 "_law_inverted" 1 F__law_inverted := by
  obtain ⟨fd, F⟩ := h.says.says.def_ 41 (d := d__law_inverted) rfl
  refine fd_of (N := N__law_inverted) F y__law_inverted rfl (F.bindsN fun _ _ _ _ _ _ us hl => match us, hl with | [_], _ => rfl) (He.glo_ok h.kin h.ns (h.says.says.fact 41 rfl)) x__law_inverted ?_
  exact (by repeat' first | exact trivial | refine And.intro ?_ ?_ : ndTs (NdOk P w K mg base 0) t__law_inverted)
theorem f__law_is_shift_right (h : Has K mg base) : Fd P w K mg base 7 "_law_is_shift_right" 3 F__law_is_shift_right := by
  obtain ⟨fd, F⟩ := h.says.says.def_ 42 (d := d__law_is_shift_right) rfl
  refine fd_of (N := N__law_is_shift_right) F y__law_is_shift_right rfl (F.bindsN fun _ _ _ _ _ _ us hl => match us, hl with | [_, _, _], _ => rfl) (He.glo_ok h.kin h.ns (h.says.says.fact 42 rfl)) x__law_is_shift_right ?_
  exact (by repeat' first | exact trivial | exact (f__law_of h).mono (by decide) | exact (f__law_take h).mono (by decide) | exact (f__law_shifted h).mono (by decide) | exact (f_simplest h).mono (by decide) | exact (f__law_added h).mono (by decide) | exact (f_shows_simplest h).mono (by decide) | exact (f_edge_size h).mono (by decide) | exact (f_shows_edge_size h).mono (by decide) | exact (f_middle_size h).mono (by decide) | exact (f__law_reduced h).mono (by decide) | exact (f__law_is_in h).mono (by decide) | exact (f_shows_middle_size h).mono (by decide) | exact He.free_ok h.kin h.ns (h.says.says.fact 51 rfl) | exact He.free_ok h.kin h.ns (h.says.says.fact 58 rfl) | refine And.intro ?_ ?_ : ndTs (NdOk P w K mg base 6) t__law_is_shift_right)
theorem f__law_is_turn_right (h : Has K mg base) : Fd P w K mg base 7 "_law_is_turn_right" 3 F__law_is_turn_right := by
  obtain ⟨fd, F⟩ := h.says.says.def_ 43 (d := d__law_is_turn_right) rfl
  refine fd_of (N := N__law_is_turn_right) F y__law_is_turn_right rfl (F.bindsN fun _ _ _ _ _ _ us hl => match us, hl with | [_, _, _], _ => rfl) (He.glo_ok h.kin h.ns (h.says.says.fact 43 rfl)) x__law_is_turn_right ?_
  exact (by repeat' first | exact trivial | exact (f_simplest h).mono (by decide) | exact (f__law_inverted h).mono (by decide) | exact (f__law_take h).mono (by decide) | exact (f__law_mirrored h).mono (by decide) | exact (f__law_added h).mono (by decide) | exact (f__law_minus h).mono (by decide) | exact He.free_ok h.kin h.ns (h.says.says.fact 51 rfl) | exact He.free_ok h.kin h.ns (h.says.says.fact 58 rfl) | refine And.intro ?_ ?_ : ndTs (NdOk P w K mg base 6) t__law_is_turn_right)
theorem f__law_is_inner_right (h : Has K mg base) : Fd P w K mg base 7 "_law_is_inner_right" 3 F__law_is_inner_right := by
  obtain ⟨fd, F⟩ := h.says.says.def_ 44 (d := d__law_is_inner_right) rfl
  refine fd_of (N := N__law_is_inner_right) F y__law_is_inner_right rfl (F.bindsN fun _ _ _ _ _ _ us hl => match us, hl with | [_, _, _], _ => rfl) (He.glo_ok h.kin h.ns (h.says.says.fact 44 rfl)) x__law_is_inner_right ?_
  exact (by repeat' first | exact trivial | exact (f__law_reduced h).mono (by decide) | exact (f__law_of h).mono (by decide) | exact (f_simplest h).mono (by decide) | exact (f__law_is_in h).mono (by decide) | exact He.free_ok h.kin h.ns (h.says.says.fact 58 rfl) | refine And.intro ?_ ?_ : ndTs (NdOk P w K mg base 6) t__law_is_inner_right)
theorem f__law_right (h : Has K mg base) : Fd P w K mg base 8 "_law_right" 1 F__law_right := by
  obtain ⟨fd, F⟩ := h.says.says.def_ 45 (d := d__law_right) rfl
  refine fd_of (N := N__law_right) F y__law_right rfl (F.bindsN fun _ _ _ _ _ _ us hl => match us, hl with | [_], _ => rfl) (He.glo_ok h.kin h.ns (h.says.says.fact 45 rfl)) x__law_right ?_
  exact (by repeat' first | exact trivial | exact (f__law_stretch h).mono (by decide) | exact (f_simplest h).mono (by decide) | exact (f__law_is_in h).mono (by decide) | exact (f_shows_simplest h).mono (by decide) | exact (f__law_is_shift_right h).mono (by decide) | exact (f__law_is_turn_right h).mono (by decide) | exact (f__law_is_inner_right h).mono (by decide) | refine And.intro ?_ ?_ : ndTs (NdOk P w K mg base 7) t__law_right)
theorem f_pot (h : Has K mg base) : Fdn P w K mg base 1 "_law_pot" 2 F_pot := by
  obtain ⟨fd, F⟩ := h.says.says.def_ 46 (d := d__law_pot) rfl
  refine fdn_of (N := N_pot) F y_pot rfl (F.bindsN fun _ _ _ _ _ _ us hl => match us, hl with | [_, _], _ => rfl) (He.glo_ok h.kin h.ns (h.says.says.fact 46 rfl)) x_pot ?_ ?_ ?_ ?_
  · exact (by repeat' first | exact trivial | exact He.free_ok h.kin h.ns (h.says.says.fact 48 rfl) | exact He.free_ok h.kin h.ns (h.says.says.fact 51 rfl) | exact He.free_ok h.kin h.ns (h.says.says.fact 53 rfl) | exact He.free_ok h.kin h.ns (h.says.says.fact 60 rfl) | refine And.intro ?_ ?_ : ndT (NdOk P w K mg base 0) pt1)
  · exact (by repeat' first | exact trivial | exact He.free_ok h.kin h.ns (h.says.says.fact 48 rfl) | exact He.free_ok h.kin h.ns (h.says.says.fact 51 rfl) | exact He.free_ok h.kin h.ns (h.says.says.fact 53 rfl) | exact He.free_ok h.kin h.ns (h.says.says.fact 60 rfl) | refine And.intro ?_ ?_ : ndT (NdOk P w K mg base 0) pt2)
  · exact (by repeat' first | exact trivial | exact He.free_ok h.kin h.ns (h.says.says.fact 48 rfl) | exact He.free_ok h.kin h.ns (h.says.says.fact 51 rfl) | exact He.free_ok h.kin h.ns (h.says.says.fact 53 rfl) | exact He.free_ok h.kin h.ns (h.says.says.fact 60 rfl) | refine And.intro ?_ ?_ : ndT (NdOk P w K mg base 0) pt3)
  · exact (by repeat' first | exact trivial | exact He.free_ok h.kin h.ns (h.says.says.fact 48 rfl) | exact He.free_ok h.kin h.ns (h.says.says.fact 51 rfl) | exact He.free_ok h.kin h.ns (h.says.says.fact 53 rfl) | exact He.free_ok h.kin h.ns (h.says.says.fact 60 rfl) | refine And.intro ?_ ?_ : ndF (NdOk P w K mg base 0) ptf)
theorem Fdn_up {j k : Nat} {x : Str} {n : Nat} {F : List D → W → R (List D)} (h : Fdn P w K mg base j x n F) (l : j ≤ k) : Fdn P w K mg base k x n F := by
  obtain ⟨f, fd, ps, a, r⟩ := h.ex
  exact ⟨f, fd, ps, a.mono l, r⟩
theorem f_law {ok : List Int → Prop} {f : Addr} {fd : FuncData} (h : Has K mg base) (F : FunD K d_law.name d_law.qual d_law.params d_law.body d_law.scope [] [] f fd) (hok : ∀ ns, ok ns → LawOk lit F_pot lt2 ns) : FnG P w K mg base 9 f fd ["script"] (spL K ok) :=
  Rf.law_of (N := N_law) F y_law rfl x_law (by repeat' first | exact trivial | exact (f__law_cells h).mono (by decide) | exact (f__law_right h).mono (by decide) | exact He.free_ok h.kin h.ns (h.says.says.fact 49 rfl) | exact He.free_ok h.kin h.ns (h.says.says.fact 57 rfl) | refine And.intro ?_ ?_ : ndI (NdOk P w K mg base 8) lit) (by repeat' first | exact trivial | exact (f__law_cells h).mono (by decide) | exact (f__law_right h).mono (by decide) | exact He.free_ok h.kin h.ns (h.says.says.fact 49 rfl) | exact He.free_ok h.kin h.ns (h.says.says.fact 57 rfl) | refine And.intro ?_ ?_ : ndT (NdOk P w K mg base 8) lt2) (Fdn_up (f_pot h) (by decide)) hok
end
end Rf.K00
namespace Sf
theorem lel {a b c : Rat} (h : a ≤ b) (h' : b < c) : a < c := by grind
theorem ltl {a b c : Rat} (h : a < b) (h' : b ≤ c) : a < c := by grind
theorem leor {a b : Rat} (h : a ≤ b) : a < b ∨ a = b := by grind
/-! ## fractions by their parts -/
theorem divInt_parts {a b : Int} (hb : 0 < b) (hg : Int.gcd a b = 1) : (Rat.divInt a b).num = a ∧ ((Rat.divInt a b).den : Int) = b := by
  obtain ⟨n, rfl⟩ : ∃ n : Nat, b = n := ⟨b.toNat, by omega⟩
  have hn : n ≠ 0 := by omega
  have e : Rat.divInt a (n : Int) = Rat.normalize a n hn := by
    show mkRat a n = _
    unfold mkRat
    rw [dif_neg hn]
  have hg' : a.natAbs.gcd n = 1 := hg
  rw [e, Rat.normalize_eq]
  constructor
  · show a / ((a.natAbs.gcd n : Nat) : Int) = a
    rw [hg']; simp
  · show ((n / a.natAbs.gcd n : Nat) : Int) = n
    rw [hg']; simp
theorem dpos (x : Rat) : 0 < (x.den : Int) := by have := x.den_pos; omega
theorem gcd_nd (x : Rat) : Int.gcd x.num x.den = 1 := x.reduced
theorem eq_divInt (x : Rat) : x = Rat.divInt x.num x.den := (Rat.num_divInt_den x).symm
theorem ext_nd {x y : Rat} (h : x.num = y.num) (h' : (x.den : Int) = y.den) : x = y := Rat.ext h (by omega)
theorem lt_nd {x y : Rat} : x < y ↔ x.num * y.den < y.num * x.den := Rat.lt_iff x y
theorem int_num (n : Int) : ((n : Rat)).num = n := rfl
theorem int_den (n : Int) : ((n : Rat)).den = 1 := rfl
theorem gcd_add_mul (a b k : Int) : Int.gcd (a + k * b) b = Int.gcd a b := by
  rw [Int.gcd_add_mul_right_left]
theorem add_int (x : Rat) (n : Int) : (x + n).num = x.num + n * x.den ∧ (x + n).den = x.den := by
  have e : x + n = Rat.divInt (x.num + n * x.den) x.den := by
    have h := Rat.divInt_add_divInt x.num n (d₁ := x.den) (d₂ := 1) (by have := dpos x; omega) (by decide)
    rw [Rat.num_divInt_den] at h
    have h1 : Rat.divInt n 1 = (n : Rat) := Rat.num_divInt_den (n : Rat)
    rw [h1] at h
    rw [h]; congr 1 <;> simp
  have hp := divInt_parts (a := x.num + n * x.den) (dpos x) (by rw [gcd_add_mul]; exact gcd_nd x)
  rw [e]
  exact ⟨hp.1, by have := hp.2; omega⟩
theorem cast_neg (n : Int) : ((-n : Int) : Rat) = -(n : Rat) := Rat.intCast_neg n
theorem sub_int (x : Rat) (n : Int) : (x - n).num = x.num - n * x.den ∧ (x - n).den = x.den := by
  have := add_int x (-n)
  rw [cast_neg, ← Rat.sub_eq_add_neg] at this
  refine ⟨?_, this.2⟩
  rw [this.1]; grind
theorem num_pos {x : Rat} (h : 0 < x) : 0 < x.num := by
  rw [lt_nd] at h
  simpa using h
theorem pos_num {x : Rat} (h : 0 < x.num) : 0 < x := by
  rw [lt_nd]
  simpa using h
theorem inv_nd {x : Rat} (h : 0 < x) : (1 / x).num = x.den ∧ ((1 / x).den : Int) = x.num := by
  have e : 1 / x = Rat.divInt x.den x.num := by
    rw [Rat.div_def, Rat.one_mul]
    have := Rat.inv_divInt x.num x.den
    rw [Rat.num_divInt_den] at this
    exact this
  rw [e]
  exact divInt_parts (num_pos h) (by rw [Int.gcd_comm]; exact gcd_nd x)
theorem int_of_den {x : Rat} (h : x.den = 1) : x = (x.num : Rat) := ext_nd rfl (by rw [h]; rfl)
theorem mul_lt {a b c : Rat} (h : 0 < c) (h1 : a < b) : a * c < b * c := Rat.mul_lt_mul_of_pos_right h1 h
theorem inv_pos {a : Rat} (ha : 0 < a) : 0 < 1 / a := by
  refine pos_num ?_
  rw [(inv_nd ha).1]; exact dpos a
theorem mul_inv {a : Rat} (ha : 0 < a) : a * (1 / a) = 1 := by
  rw [Rat.div_def, Rat.one_mul, Rat.mul_inv_cancel]
  grind
theorem inv_lt {a b : Rat} (ha : 0 < a) (hb : 0 < b) : 1 / a < 1 / b ↔ b < a := by
  constructor
  · intro h
    have h1 := mul_lt (c := a * b) (Rat.mul_pos ha hb) h
    have e1 := mul_inv ha
    have e2 := mul_inv hb
    generalize 1 / a = u at *
    generalize 1 / b = v at *
    rw [show u * (a * b) = (a * u) * b by grind, show v * (a * b) = (b * v) * a by grind, e1, e2, Rat.one_mul, Rat.one_mul] at h1
    exact h1
  · intro h
    have h1 := mul_lt (c := 1 / a * (1 / b)) (Rat.mul_pos (inv_pos ha) (inv_pos hb)) h
    have e1 := mul_inv ha
    have e2 := mul_inv hb
    generalize 1 / a = u at *
    generalize 1 / b = v at *
    rw [show b * (u * v) = (b * v) * u by grind, show a * (u * v) = (a * u) * v by grind, e1, e2, Rat.one_mul, Rat.one_mul] at h1
    exact h1
theorem inv_inj {a b : Rat} (ha : 0 < a) (hb : 0 < b) (h : 1 / a = 1 / b) : a = b := by
  have e1 := mul_inv ha
  have e2 := mul_inv hb
  rw [h] at e1
  generalize 1 / b = v at *
  have : a * v * b = b * v * a := by grind
  rw [e1, e2, Rat.one_mul, Rat.one_mul] at this
  exact this.symm
theorem floor_le (x : Rat) : (x.floor : Rat) ≤ x := Rat.floor_le x
theorem lt_floor (x : Rat) : x < (x.floor : Rat) + 1 := by
  have := Rat.lt_floor_add_one x
  rwa [Rat.intCast_add] at this
/-! ## stretches -/
structure St where
  lo : Rat
  li : Bool
  hi : Option Rat
  hn : Bool
def St.up (S : St) (x : Rat) : Prop := match S.hi with
  | none => True
  | some h => x < h ∨ (x = h ∧ S.hn = true)
def St.In (S : St) (x : Rat) : Prop := (S.lo < x ∨ (x = S.lo ∧ S.li = true)) ∧ S.up x
/-- no low of which is below, no top -/
def Min (S : St) (s : Rat) : Prop := S.In s ∧ ∀ x, S.In x → s.num ≤ x.num ∧ s.den ≤ x.den
theorem Min.uniq {S : St} {s t : Rat} (h : Min S s) (h' : Min S t) : s = t := by
  have a := h.2 t h'.1
  have b := h'.2 s h.1
  exact ext_nd (by omega) (by omega)
theorem Min.sub {S T : St} {s : Rat} (h : Min S s) (hT : ∀ x, T.In x → S.In x) (hs : T.In s) : Min T s := ⟨hs, fun x hx => h.2 x (hT x hx)⟩
/-- a stretch of numbers not below 0, one at least -/
structure Ok (S : St) : Prop where
  n0 : 0 ≤ S.lo
  ne : ∀ h, S.hi = some h → S.lo < h ∨ (S.lo = h ∧ S.li = true ∧ S.hn = true)
theorem In.ge {S : St} {x : Rat} (h : S.In x) : S.lo ≤ x := by
  rcases h.1 with q | q
  · exact Rat.le_of_lt q
  · rw [q.1]; exact Rat.le_refl
def whole (S : St) : Int := S.lo.floor
open Classical in
noncomputable def first (S : St) : Int := if S.li = true ∧ S.lo.den = 1 then whole S else whole S + 1
theorem den_floor {x : Rat} (h : x.den = 1) : (x.floor : Rat) = x := by
  have e := int_of_den h
  have : x.floor = x.num := by
    rw [Rat.floor_def, h]; simp
  rw [this]; exact e.symm
theorem floor_den {x : Rat} (h : x.den ≠ 1) : (x.floor : Rat) < x := by
  rcases leor (floor_le x) with q | q
  · exact q
  · exact absurd (by rw [← q]; rfl) h
theorem first_lo (S : St) : S.lo < (first S : Rat) ∨ ((first S : Rat) = S.lo ∧ S.li = true) := by
  unfold first
  split
  · rename_i h
    exact .inr ⟨den_floor h.2, h.1⟩
  · refine .inl ?_
    have := lt_floor S.lo
    show S.lo < ((S.lo.floor + 1 : Int) : Rat)
    rw [Rat.intCast_add]; exact this
theorem le_of_num {x : Rat} {n : Int} (h0 : 0 ≤ n) (h : (n : Rat) ≤ x) : n ≤ x.num := by
  rcases leor h with q | q
  · rw [lt_nd, int_num, int_den] at q
    have hd := dpos x
    have : n * 1 ≤ n * x.den := Int.mul_le_mul_of_nonneg_left (by omega) h0
    omega
  · rw [← q, int_num]; exact Int.le_refl _
theorem first_min {S : St} (o : Ok S) (h : S.In (first S)) : Min S (first S) := by
  refine ⟨h, fun x hx => ⟨?_, ?_⟩⟩
  · rw [int_num]
    have f0 : 0 ≤ S.lo.floor := by
      rw [Rat.le_floor_iff]; exact o.n0
    have hge := In.ge hx
    have hf := floor_le S.lo
    unfold first
    split
    · exact le_of_num f0 (Rat.le_trans hf hge)
    · rename_i hn
      -- x is above the whole part
      have hlt : (S.lo.floor : Rat) < x := by
        rcases hx.1 with q | q
        · exact lel hf q
        · have hd : S.lo.den ≠ 1 := fun z => hn ⟨q.2, z⟩
          rw [q.1]; exact floor_den hd
      rw [lt_nd, int_num, int_den] at hlt
      have hd := dpos x
      show S.lo.floor + 1 ≤ x.num
      have : S.lo.floor * 1 ≤ S.lo.floor * x.den := Int.mul_le_mul_of_nonneg_left (by omega) f0
      omega
  · rw [int_den]; have := x.den_pos; omega
/-! ## the next stretch -/
open Classical in
noncomputable def next (S : St) : St where
  lo := match S.hi with
    | some h => 1 / (h - whole S)
    | none => 0
  li := S.hn
  hi := if S.lo = (whole S : Rat) then none else some (1 / (S.lo - whole S))
  hn := S.li
structure Go (S : St) (h : Rat) : Prop where
  ok : Ok S
  hi : S.hi = some h
  le1 : h ≤ (whole S : Rat) + 1
  gt : (whole S : Rat) < h
  lw : S.lo = (whole S : Rat) → S.li = false
  top : h = (whole S : Rat) + 1 → S.hn = false
theorem go_of {S : St} (o : Ok S) (hn : ¬ S.In (first S)) : ∃ h, Go S h := by
  cases e : S.hi with
  | none => exact absurd ⟨first_lo S, by unfold St.up; rw [e]; trivial⟩ hn
  | some h =>
    have hu : ¬ ((first S : Rat) < h ∨ ((first S : Rat) = h ∧ S.hn = true)) := fun q => hn ⟨first_lo S, by unfold St.up; rw [e]; exact q⟩
    have hne := o.ne h e
    have hf := floor_le S.lo
    have h1 : h ≤ (first S : Rat) := Rat.not_lt.mp fun q => hu (.inl q)
    by_cases c : S.li = true ∧ S.lo.den = 1
    · exfalso
      have ef : (first S : Rat) = S.lo := by
        unfold first; rw [if_pos c]; exact den_floor c.2
      rw [ef] at h1
      rcases hne with q | q
      · exact absurd (ltl q h1) Rat.lt_irrefl
      · exact hu (.inr ⟨by rw [ef, q.1], q.2.2⟩)
    · have ef : (first S : Rat) = (whole S : Rat) + 1 := by
        unfold first; rw [if_neg c, Rat.intCast_add]; rfl
      rw [ef] at h1 hu
      have lw : S.lo = (whole S : Rat) → S.li = false := fun q => by
        cases hl : S.li with
        | false => rfl
        | true => exact absurd ⟨hl, by rw [q]; rfl⟩ c
      refine ⟨h, o, e, h1, ?_, lw, fun q => ?_⟩
      · rcases hne with q | q
        · exact lel hf q
        · rcases leor hf with r | r
          · rw [← q.1]; exact r
          · have := lw r.symm
            rw [this] at q; cases q.2.1
      · cases hl : S.hn with
        | false => rfl
        | true => exact absurd (.inr ⟨q.symm, hl⟩) hu
section
variable {S : St} {h : Rat} (g : Go S h)
include g
theorem Go.lo_eq : (next S).lo = 1 / (h - whole S) := by unfold next; rw [g.hi]
theorem Go.hpos : 0 < h - (whole S : Rat) := by have := g.gt; grind
theorem Go.ge1 : 1 ≤ (next S).lo := by
  rw [g.lo_eq]
  have h1 : h - (whole S : Rat) ≤ 1 := by have := g.le1; grind
  have e := mul_inv g.hpos
  rcases leor h1 with q | q
  · have := mul_lt (inv_pos g.hpos) q
    rw [e, Rat.one_mul] at this
    exact Rat.le_of_lt this
  · rw [q]; grind
theorem Go.between {x : Rat} (hx : S.In x) : (whole S : Rat) < x ∧ x < (whole S : Rat) + 1 := by
  constructor
  · rcases hx.1 with q | q
    · exact lel (floor_le S.lo) q
    · rcases leor (floor_le S.lo) with r | r
      · rw [q.1]; exact r
      · have := g.lw r.symm
        rw [this] at q; cases q.2
  · have hu := hx.2
    unfold St.up at hu
    rw [g.hi] at hu
    rcases hu with q | q
    · exact ltl q g.le1
    · rcases leor g.le1 with r | r
      · rw [q.1]; exact r
      · have := g.top r
        rw [this] at q; cases q.2
theorem Go.lo_pos (hl : S.lo ≠ (whole S : Rat)) : 0 < S.lo - (whole S : Rat) := by
  have := Rat.lt_of_le_of_ne (floor_le S.lo) (fun z => hl z.symm)
  have : (whole S : Rat) < S.lo := this
  grind
/-- what is in the one is, turned about, in the next one -/
theorem Go.into {x : Rat} (hx : S.In x) : (next S).In (1 / (x - whole S)) := by
  obtain ⟨b1, b2⟩ := g.between hx
  have xp : 0 < x - (whole S : Rat) := by grind
  refine ⟨?_, ?_⟩
  · rw [g.lo_eq, inv_lt g.hpos xp]
    have hu := hx.2
    unfold St.up at hu
    rw [g.hi] at hu
    rcases hu with q | q
    · exact .inl (by grind)
    · exact .inr ⟨by rw [q.1], q.2⟩
  · unfold St.up next
    simp only
    by_cases c : S.lo = (whole S : Rat)
    · rw [if_pos c]; trivial
    · rw [if_neg c]
      show 1 / (x - (whole S : Rat)) < 1 / (S.lo - (whole S : Rat)) ∨ _
      rw [inv_lt xp (g.lo_pos c)]
      rcases hx.1 with q | q
      · exact .inl (by grind)
      · exact .inr ⟨by rw [q.1], q.2⟩
theorem Go.back {y : Rat} (hy : (next S).In y) : S.In ((whole S : Rat) + 1 / y) := by
  have y1 := Rat.le_trans g.ge1 (In.ge hy)
  have yp : 0 < y := ltl (by decide +kernel) y1
  have ip := inv_pos yp
  have e0 : (whole S : Rat) + 1 / y - (whole S : Rat) = 1 / y := by grind
  refine ⟨?_, ?_⟩
  · have hu := hy.2
    unfold St.up next at hu
    simp only at hu
    by_cases c : S.lo = (whole S : Rat)
    · exact .inl (by rw [c]; have : (whole S : Rat) + 0 < (whole S : Rat) + 1 / y := by grind
                     have e : whole { lo := (whole S : Rat), li := S.li, hi := S.hi, hn := S.hn } = whole S := by
                       show Rat.floor (whole S : Rat) = _
                       exact Rat.floor_intCast _
                     grind)
    · rw [if_neg c] at hu
      have lp := g.lo_pos c
      rcases hu with q | q
      · refine .inl ?_
        have h1 : 1 / (1 / (S.lo - (whole S : Rat))) < 1 / y := by rw [inv_lt (inv_pos lp) yp]; exact q
        have e := mul_inv (inv_pos lp)
        have e2 := mul_inv lp
        have : 1 / (1 / (S.lo - (whole S : Rat))) = S.lo - (whole S : Rat) := by
          refine inv_inj (inv_pos (inv_pos lp)) lp ?_
          have e3 := mul_inv (inv_pos (inv_pos lp))
          grind
        grind
      · refine .inr ⟨?_, q.2⟩
        rw [q.1]
        have e2 := mul_inv lp
        have e3 := mul_inv (inv_pos lp)
        grind
  · unfold St.up
    rw [g.hi]
    have hl := hy.1
    rw [g.lo_eq] at hl
    rcases hl with q | q
    · refine .inl ?_
      have h1 : 1 / y < 1 / (1 / (h - (whole S : Rat))) := by rw [inv_lt yp (inv_pos g.hpos)]; exact q
      have e2 := mul_inv g.hpos
      have e3 := mul_inv (inv_pos g.hpos)
      grind
    · refine .inr ⟨?_, q.2⟩
      rw [q.1]
      have e2 := mul_inv g.hpos
      have e3 := mul_inv (inv_pos g.hpos)
      grind
theorem Go.next_ok : Ok (next S) := by
  refine ⟨Rat.le_trans (by decide +kernel) g.ge1, fun k hk => ?_⟩
  unfold next at hk
  simp only at hk
  by_cases c : S.lo = (whole S : Rat)
  · rw [if_pos c] at hk; cases hk
  · rw [if_neg c] at hk
    cases hk
    rw [g.lo_eq, inv_lt g.hpos (g.lo_pos c)]
    rcases g.ok.ne h g.hi with q | q
    · exact .inl (by grind)
    · exact .inr ⟨by rw [q.1], q.2.2, q.2.1⟩
theorem frac_nd {x : Rat} {w : Int} (hx : (w : Rat) < x) : (1 / (x - w)).num = x.den ∧ ((1 / (x - w)).den : Int) = x.num - w * x.den := by
  have xp : 0 < x - (w : Rat) := by grind
  obtain ⟨i1, i2⟩ := inv_nd xp
  obtain ⟨s1, s2⟩ := sub_int x w
  exact ⟨by rw [i1, s2], by rw [i2, s1]⟩
theorem Go.min {t : Rat} (m : Min (next S) t) : Min S ((whole S : Rat) + 1 / t) := by
  refine ⟨g.back m.1, fun x hx => ?_⟩
  have t1 := Rat.le_trans g.ge1 (In.ge m.1)
  have tp : 0 < t := ltl (by decide +kernel) t1
  have hb := g.between hx
  have f := frac_nd g hb.1
  obtain ⟨a1, a2⟩ := m.2 _ (g.into hx)
  rw [f.1] at a1
  have a2' : (t.den : Int) ≤ ((1 / (x - (whole S : Rat))).den : Int) := by omega
  rw [f.2] at a2'
  obtain ⟨i1, i2⟩ := inv_nd tp
  obtain ⟨s1, s2⟩ := add_int (1 / t) (whole S)
  rw [Rat.add_comm, s1, i1]
  have w0 : 0 ≤ whole S := by
    show 0 ≤ S.lo.floor
    rw [Rat.le_floor_iff]; exact g.ok.n0
  refine ⟨?_, ?_⟩
  · rw [i2]
    have : whole S * t.num ≤ whole S * x.den := Int.mul_le_mul_of_nonneg_left a1 w0
    omega
  · have e : (((whole S : Rat) + 1 / t).den : Int) = t.num := by rw [Rat.add_comm, s2]; exact i2
    rw [Rat.add_comm] at e
    omega
end
end Sf
namespace Sf
/-! ## the walk to the simplest one -/
open Classical in
noncomputable def walk : Nat → St → Option (List Int × Int)
  | 0, _ => none
  | n + 1, S => if S.In (first S) then some ([], first S) else (walk n (next S)).map fun p => (whole S :: p.1, p.2)
def val : List Int → Int → Rat
  | [], f => f
  | w :: ws, f => (w : Rat) + 1 / val ws f
theorem walk_min : ∀ (n : Nat) {S : St} {ws : List Int} {f : Int}, Ok S → walk n S = some (ws, f) → Min S (val ws f)
  | 0, S, ws, f, o, h => by cases h
  | n + 1, S, ws, f, o, h => by
    unfold walk at h
    split at h
    · rename_i hi
      cases h
      exact first_min o hi
    · rename_i hi
      obtain ⟨k, g⟩ := go_of o hi
      obtain ⟨p, e, q⟩ := Option.map_eq_some_iff.mp h
      cases q
      exact g.min (walk_min n g.next_ok e)
theorem walk_none {S : St} (h : S.hi = none) (n : Nat) : ∃ p, walk (n + 1) S = some p := by
  unfold walk
  rw [if_pos ⟨first_lo S, by unfold St.up; rw [h]; trivial⟩]
  exact ⟨_, rfl⟩
/-- what is above: none, or of a low below 2 ^ n -/
def Low (n : Nat) (S : St) : Prop := ∀ h, S.hi = some h → h.den < 2 ^ n
theorem next_hi {S : St} {h : Rat} (g : Go S h) : (next S).hi = none ∨ ∃ k, (next S).hi = some k ∧ (k.den : Int) = S.lo.num - whole S * S.lo.den ∧ k.num = S.lo.den ∧ (whole S : Rat) < S.lo := by
  unfold next
  simp only
  by_cases c : S.lo = (whole S : Rat)
  · rw [if_pos c]; exact .inl rfl
  · rw [if_neg c]
    have lp := g.lo_pos c
    have hw : (whole S : Rat) < S.lo := by grind
    obtain ⟨f1, f2⟩ := frac_nd g hw
    exact .inr ⟨_, rfl, f2, f1, hw⟩
theorem next_lo {S : St} {h : Rat} (g : Go S h) : (next S).lo.num = h.den ∧ ((next S).lo.den : Int) = h.num - whole S * h.den := by
  rw [g.lo_eq]
  exact frac_nd g g.gt
theorem next_den_le {S : St} {h : Rat} (g : Go S h) : ((next S).lo.den : Int) ≤ h.den := by
  rw [(next_lo g).2]
  have h1 := g.le1
  have : h.num ≤ (whole S + 1) * h.den := by
    rcases leor h1 with q | q
    · have q : h < ((whole S + 1 : Int) : Rat) := by rw [Rat.intCast_add]; exact q
      rw [lt_nd, int_num, int_den] at q
      omega
    · have q : h = ((whole S + 1 : Int) : Rat) := by rw [Rat.intCast_add]; exact q
      rw [q, int_num, int_den]; omega
  have e : (whole S + 1) * (h.den : Int) = whole S * h.den + h.den := by grind
  omega
theorem walk_some : ∀ (n : Nat) {S : St}, Ok S → Low n S → ∃ p, walk (2 * n + 2) S = some p
  | 0, S, o, hl => by
    cases e : S.hi with
    | none => exact walk_none e _
    | some h => have := hl h e; have := h.den_pos; omega
  | n + 1, S, o, hl => by
    show ∃ p, walk (2 * n + 3 + 1) S = some p
    unfold walk
    by_cases c : S.In (first S)
    · rw [if_pos c]; exact ⟨_, rfl⟩
    rw [if_neg c]
    obtain ⟨h, g⟩ := go_of o c
    have o1 := g.next_ok
    suffices q : ∃ p, walk (2 * n + 3) (next S) = some p by
      obtain ⟨p, e⟩ := q
      exact ⟨_, by rw [e]; rfl⟩
    show ∃ p, walk (2 * n + 2 + 1) (next S) = some p
    unfold walk
    by_cases c1 : (next S).In (first (next S))
    · rw [if_pos c1]; exact ⟨_, rfl⟩
    rw [if_neg c1]
    obtain ⟨h1, g1⟩ := go_of o1 c1
    suffices q : ∃ p, walk (2 * n + 2) (next (next S)) = some p by
      obtain ⟨p, e⟩ := q
      exact ⟨_, by rw [e]; rfl⟩
    refine walk_some n g1.next_ok fun k hk => ?_
    rcases next_hi g1 with q | ⟨k', q1, q2, _, q4⟩
    · rw [q] at hk; cases hk
    · rw [q1] at hk; cases hk
      have hd := hl h g.hi
      obtain ⟨l1, l2⟩ := next_lo g
      have l3 := next_den_le g
      rw [l1] at q2
      -- the rest of a division by no more than itself is less than its half
      have w1 : 1 ≤ whole (next S) := by
        show 1 ≤ (next S).lo.floor
        rw [Rat.le_floor_iff]; exact g.ge1
      have lt : k.den < (next S).lo.den := by
        have hf := lt_floor (next S).lo
        have hf : (next S).lo < ((whole (next S) + 1 : Int) : Rat) := by rw [Rat.intCast_add]; exact hf
        rw [lt_nd, int_num, int_den, l1] at hf
        have e : (whole (next S) + 1) * ((next S).lo.den : Int) = whole (next S) * (next S).lo.den + (next S).lo.den := by grind
        omega
      have ge : ((next S).lo.den : Int) * 1 ≤ whole (next S) * (next S).lo.den := by
        rw [Int.mul_comm (whole (next S))]
        exact Int.mul_le_mul_of_nonneg_left w1 (by omega)
      rw [Nat.pow_succ] at hd
      omega
theorem walk_up : ∀ (n : Nat) {S : St} {p : List Int × Int}, walk n S = some p → ∀ m, n ≤ m → walk m S = some p
  | 0, S, p, h, m, l => by cases h
  | n + 1, S, p, h, m, l => by
    obtain ⟨k, rfl⟩ : ∃ k, m = k + 1 := ⟨m - 1, by omega⟩
    unfold walk at h ⊢
    split
    · rename_i c; rw [if_pos c] at h; exact h
    · rename_i c; rw [if_neg c] at h
      obtain ⟨q, e1, e2⟩ := Option.map_eq_some_iff.mp h
      rw [walk_up n e1 k (by omega)]
      exact congrArg some e2
/-! ## parents -/
/-- a fraction by top and low -/
def frac (a b : Int) : Rat := Rat.divInt a b
structure Par (s : Rat) (l0 l1 r0 r1 : Int) : Prop where
  a0 : 0 ≤ l0
  a1 : 0 < l1
  c0 : 0 < r0
  c1 : 0 ≤ r1
  tops : l0 + r0 = s.num
  lows : l1 + r1 = s.den
  det : r0 * l1 - l0 * r1 = 1
section
variable {s : Rat} {l0 l1 r0 r1 : Int} (p : Par s l0 l1 r0 r1)
include p
theorem Par.gl : Int.gcd l0 l1 = 1 := by
  have h := p.det
  refine Int.gcd_eq_one_iff.mpr fun c h1 h2 => ?_
  have : c ∣ r0 * l1 - l0 * r1 := Int.dvd_sub (Int.dvd_mul_of_dvd_right h2) (Int.dvd_mul_of_dvd_left h1)
  rwa [h] at this
theorem Par.gr : Int.gcd r0 r1 = 1 := by
  have h := p.det
  refine Int.gcd_eq_one_iff.mpr fun c h1 h2 => ?_
  have : c ∣ r0 * l1 - l0 * r1 := Int.dvd_sub (Int.dvd_mul_of_dvd_left h1) (Int.dvd_mul_of_dvd_right h2)
  rwa [h] at this
theorem Par.left : (frac l0 l1).num = l0 ∧ ((frac l0 l1).den : Int) = l1 := divInt_parts p.a1 p.gl
theorem Par.right (h : 0 < r1) : (frac r0 r1).num = r0 ∧ ((frac r0 r1).den : Int) = r1 := divInt_parts h p.gr
/-- what lies strictly between both parents -/
theorem Par.between {x : Rat} (h1 : l0 * x.den < x.num * l1) (h2 : x.num * r1 < r0 * x.den) : s.num ≤ x.num ∧ s.den ≤ x.den ∧ (0 < r1 → x.den = s.den → x = s) := by
  have hd := p.det
  have ha1 := p.a1
  generalize eu : x.num * l1 - l0 * x.den = u at *
  generalize ev : r0 * x.den - x.num * r1 = v at *
  have hu : 1 ≤ u := by omega
  have hv : 1 ≤ v := by omega
  have e1 : x.num = u * r0 + v * l0 := by
    rw [← eu, ← ev]
    have : (x.num * l1 - l0 * x.den) * r0 + (r0 * x.den - x.num * r1) * l0 = x.num * (r0 * l1 - l0 * r1) := by grind
    rw [this, hd]; omega
  have e2 : (x.den : Int) = u * r1 + v * l1 := by
    rw [← eu, ← ev]
    have : (x.num * l1 - l0 * x.den) * r1 + (r0 * x.den - x.num * r1) * l1 = x.den * (r0 * l1 - l0 * r1) := by grind
    rw [this, hd]; omega
  have m1 : 1 * r0 ≤ u * r0 := Int.mul_le_mul_of_nonneg_right hu (by have := p.c0; omega)
  have m2 : 1 * l0 ≤ v * l0 := Int.mul_le_mul_of_nonneg_right hv p.a0
  have m3 : 1 * r1 ≤ u * r1 := Int.mul_le_mul_of_nonneg_right hu p.c1
  have m4 : 1 * l1 ≤ v * l1 := Int.mul_le_mul_of_nonneg_right hv (by have := p.a1; omega)
  have t := p.tops
  have t2 := p.lows
  refine ⟨by omega, by omega, fun hr hx => ?_⟩
  have hu1 : u = 1 := by
    by_cases c : u = 1
    · exact c
    · have : 2 * r1 ≤ u * r1 := Int.mul_le_mul_of_nonneg_right (by omega) p.c1
      omega
  rw [hu1] at e1 e2
  have hv1 : v = 1 := by
    by_cases c : v = 1
    · exact c
    · have : 2 * l1 ≤ v * l1 := Int.mul_le_mul_of_nonneg_right (by omega) (by have := p.a1; omega)
      omega
  rw [hv1] at e1 e2
  exact ext_nd (by omega) (by omega)
end
/-- no parent of the simplest one is in the stretch -/
theorem Par.out {S : St} {s : Rat} {l0 l1 r0 r1 : Int} (p : Par s l0 l1 r0 r1) (m : Min S s) (hr : 0 < r1) : ¬ S.In (frac l0 l1) ∧ ¬ S.In (frac r0 r1) := by
  constructor
  · intro h
    have a := (m.2 _ h).2
    have b := p.left.2
    have := p.lows
    omega
  · intro h
    have a := (m.2 _ h).2
    have b := (p.right hr).2
    have := p.lows
    have := p.a1
    omega
/-- the same low, between both: the simplest one itself -/
theorem Par.same {S : St} {s x : Rat} {l0 l1 r0 r1 : Int} (p : Par s l0 l1 r0 r1) (m : Min S s) (hr : 0 < r1) (hx : S.In x) (hd : x.den = s.den) : x = s := by
  obtain ⟨o1, o2⟩ := p.out m hr
  obtain ⟨e1, e2⟩ := p.left
  obtain ⟨f1, f2⟩ := p.right hr
  have hs := m.1
  -- the left one is left of s
  have ls : frac l0 l1 < s := by
    rw [lt_nd, e1, e2]
    have := p.det
    have t1 := p.tops
    have t2 := p.lows
    rw [← t1, ← t2]
    have : (l0 + r0) * l1 - l0 * (l1 + r1) = r0 * l1 - l0 * r1 := by grind
    omega
  have rs : s < frac r0 r1 := by
    rw [lt_nd, f1, f2]
    have := p.det
    have t1 := p.tops
    have t2 := p.lows
    rw [← t1, ← t2]
    have : r0 * (l1 + r1) - (l0 + r0) * r1 = r0 * l1 - l0 * r1 := by grind
    omega
  have up_mono : ∀ {a b : Rat}, a < b → S.up b → S.up a := fun {a b} q hb => by
    unfold St.up at hb ⊢
    split
    · trivial
    · rename_i h he
      rw [he] at hb
      rcases hb with r | r
      · exact .inl (by grind)
      · exact .inl (by rw [← r.1]; exact q)
  have xl : frac l0 l1 < x := by
    refine Rat.not_le.mp fun q => o1 ⟨?_, up_mono ls hs.2⟩
    rcases hx.1 with r | r
    · exact .inl (ltl r q)
    · rcases leor q with z | z
      · exact .inl (by rw [← r.1]; exact z)
      · exact .inr ⟨by rw [← z]; exact r.1, r.2⟩
  have xr : x < frac r0 r1 := by
    refine Rat.not_le.mp fun q => o2 ⟨?_, ?_⟩
    · exact .inl (by
        have := In.ge hs
        exact lel this rs)
    · rcases leor q with z | z
      · exact up_mono z hx.2
      · rw [z]; exact hx.2
  rw [lt_nd, e1, e2] at xl
  rw [lt_nd, f1, f2] at xr
  exact (p.between xl xr).2.2 hr hd
end Sf
namespace Sf
/-! ## halves of a stretch, odd tops -/
def lp (S : St) (t : Rat) : St := ⟨S.lo, S.li, some t, false⟩
def rp (S : St) (t : Rat) : St := ⟨t, false, S.hi, S.hn⟩
theorem up_mono {S : St} {a b : Rat} (q : a < b) (hb : S.up b) : S.up a := by
  unfold St.up at hb ⊢
  split
  · trivial
  · rename_i h he
    rw [he] at hb
    rcases hb with r | r
    · exact .inl (by grind)
    · exact .inl (by rw [← r.1]; exact q)
theorem lp_lt {S : St} {t x : Rat} (h : (lp S t).In x) : x < t := by
  rcases h.2 with q | q
  · exact q
  · cases q.2
theorem rp_gt {S : St} {t x : Rat} (h : (rp S t).In x) : t < x := by
  rcases h.1 with q | q
  · exact q
  · cases q.2
theorem lp_in {S : St} {t x : Rat} (ht : S.In t) (h : (lp S t).In x) : S.In x := ⟨h.1, up_mono (lp_lt h) ht.2⟩
theorem rp_in {S : St} {t x : Rat} (ht : S.In t) (h : (rp S t).In x) : S.In x := by
  refine ⟨.inl ?_, h.2⟩
  have := rp_gt h
  have := In.ge ht
  exact lel this (rp_gt h)
def HasPar (u : Rat) : Prop := u.den = 1 ∨ (u.den ≠ 1 ∧ ∃ l0 l1 r0 r1, Par u l0 l1 r0 r1 ∧ 0 < r1)
theorem no_even {l0 l1 r0 r1 a b : Int} (h : r0 * l1 - l0 * r1 = 1) (h1 : r0 = 2 * a) (h2 : l0 = 2 * b) : False := by
  subst h1; subst h2
  have : 2 * (a * l1 - b * r1) = 1 := by rw [← h]; grind
  omega
theorem par_lt {s : Rat} {l0 l1 r0 r1 : Int} (p : Par s l0 l1 r0 r1) (hr : 0 < r1) : frac l0 l1 < s ∧ s < frac r0 r1 := by
  obtain ⟨e1, e2⟩ := p.left
  obtain ⟨f1, f2⟩ := p.right hr
  have := p.det
  have t1 := p.tops
  have t2 := p.lows
  constructor
  · rw [lt_nd, e1, e2, ← t1, ← t2]
    have : (l0 + r0) * l1 - l0 * (l1 + r1) = r0 * l1 - l0 * r1 := by grind
    omega
  · rw [lt_nd, f1, f2, ← t1, ← t2]
    have : r0 * (l1 + r1) - (l0 + r0) * r1 = r0 * l1 - l0 * r1 := by grind
    omega
theorem int_lt {x y : Rat} (hx : x.den = 1) (hy : y.den = 1) (h : x < y) : x.num < y.num := by
  rw [lt_nd, hx, hy] at h
  omega
theorem par_mid {u t : Rat} {l0 l1 r0 r1 : Int} (p : Par u l0 l1 r0 r1) (hr : 0 < r1) (h1 : frac l0 l1 < t) (h2 : t < frac r0 r1) (hd : t.den ≤ u.den) : t = u := by
  obtain ⟨e1, e2⟩ := p.left
  obtain ⟨f1, f2⟩ := p.right hr
  rw [lt_nd, e1, e2] at h1
  rw [lt_nd, f1, f2] at h2
  obtain ⟨_, b, c⟩ := p.between h1 h2
  exact c hr (by omega)
theorem odd_left {S : St} {t u : Rat} (mt : Min S t) (ev : t.num % 2 = 0) (mu : Min (lp S t) u) (hp : HasPar u) : u.num % 2 = 1 := by
  have ult := lp_lt mu.1
  have us := lp_in mt.1 mu.1
  obtain ⟨n1, d1⟩ := mt.2 u us
  rcases hp with hd | ⟨hd, l0, l1, r0, r1, p, hr⟩
  · have td : t.den = 1 := by have := t.den_pos; omega
    have := int_lt hd td ult
    omega
  · obtain ⟨pl, pr⟩ := par_lt p hr
    obtain ⟨o1, o2⟩ := p.out mu hr
    have ge : ¬ frac r0 r1 < t := fun q => o2 ⟨by
      have := In.ge mu.1
      exact .inl (lel this pr), .inl q⟩
    rcases leor (Rat.not_lt.mp ge) with q | q
    · have := par_mid p hr (by grind) q d1
      rw [this] at ult; exact absurd ult Rat.lt_irrefl
    · have e := (p.right hr).1
      rw [← q] at e
      by_cases c : u.num % 2 = 1
      · exact c
      · have tp := p.tops
        exact (no_even p.det (a := r0 / 2) (b := l0 / 2) (by omega) (by omega)).elim
theorem odd_right {S : St} {t u : Rat} (mt : Min S t) (ev : t.num % 2 = 0) (mu : Min (rp S t) u) (hp : HasPar u) : u.num % 2 = 1 := by
  have ugt := rp_gt mu.1
  have us := rp_in mt.1 mu.1
  obtain ⟨n1, d1⟩ := mt.2 u us
  rcases hp with hd | ⟨hd, l0, l1, r0, r1, p, hr⟩
  · have td : t.den = 1 := by have := t.den_pos; omega
    have lt := int_lt td hd ugt
    by_cases c : u.num % 2 = 1
    · exact c
    · exfalso
      have e1 : ((t.num + 1 : Int) : Rat) < u := by
        rw [lt_nd, Sf.int_num, Sf.int_den, hd]; omega
      have e2 : t < ((t.num + 1 : Int) : Rat) := by
        rw [lt_nd, Sf.int_num, Sf.int_den, td]; omega
      have := (mu.2 _ ⟨.inl e2, up_mono (S := rp S t) e1 mu.1.2⟩).1
      rw [Sf.int_num] at this
      omega
  · obtain ⟨pl, pr⟩ := par_lt p hr
    obtain ⟨o1, o2⟩ := p.out mu hr
    have ge : ¬ t < frac l0 l1 := fun q => o1 ⟨.inl q, up_mono (S := rp S t) pl mu.1.2⟩
    rcases leor (Rat.not_lt.mp ge) with q | q
    · have := par_mid p hr q (by grind) d1
      rw [this] at ugt; exact absurd ugt Rat.lt_irrefl
    · have e := p.left.1
      rw [q] at e
      by_cases c : u.num % 2 = 1
      · exact c
      · have tp := p.tops
        exact (no_even p.det (a := r0 / 2) (b := l0 / 2) (by omega) (by omega)).elim
end Sf
namespace Sf
/-! ## shifted, mirrored, turned about -/
def sh (S : St) (n : Int) : St := ⟨S.lo + n, S.li, S.hi.map (· + (n : Rat)), S.hn⟩
theorem sh_in {S : St} {n : Int} {x : Rat} : (sh S n).In (x + n) ↔ S.In x := by
  unfold St.In St.up sh
  cases S.hi with
  | none => grind
  | some h =>
    simp only [Option.map_some]
    have e1 : S.lo + (n : Rat) < x + n ↔ S.lo < x := by grind
    have e2 : x + (n : Rat) < h + n ↔ x < h := by grind
    have e3 : x + (n : Rat) = S.lo + n ↔ x = S.lo := by grind
    have e4 : x + (n : Rat) = h + n ↔ x = h := by grind
    rw [e1, e2, e3, e4]
theorem sub_add {x y : Rat} : x - y + y = x := by grind
theorem sh_min {S : St} {n : Int} {s s' : Rat} (m : Min S s) (p : HasPar s) (m' : Min (sh S n) s') : s' = s + n := by
  have h1 := m'.2 _ (sh_in.mpr m.1)
  have i2 : S.In (s' - n) := by rw [← sh_in (n := n), sub_add]; exact m'.1
  have h2 := m.2 _ i2
  obtain ⟨a1, a2⟩ := add_int s n
  obtain ⟨b1, b2⟩ := sub_int s' n
  rw [a1, a2] at h1
  rw [b1, b2] at h2
  have hd : s'.den = s.den := by omega
  rcases p with c | ⟨c, l0, l1, r0, r1, p, hr⟩
  · refine ext_nd ?_ (by rw [a2, hd])
    rw [a1]
    rw [hd, c] at h2
    rw [c] at h1 ⊢
    omega
  · have := p.same m hr i2 (by rw [b2, hd])
    rw [← this, sub_add]
def mi (S : St) (h : Rat) (n : Int) : St := ⟨n - h, S.hn, some (n - S.lo), S.li⟩
theorem neg_nd (x : Rat) (n : Int) : ((n : Rat) - x).den = x.den := by
  have := (add_int (-x) n).2
  rw [Rat.neg_den] at this
  rw [← this]; congr 1; grind
theorem mi_in {S : St} {n : Int} {x h : Rat} (e : S.hi = some h) : (mi S h n).In (n - x) ↔ S.In x := by
  unfold St.In St.up mi
  rw [e]
  simp only
  have e1 : (n : Rat) - h < n - x ↔ x < h := by grind
  have e2 : (n : Rat) - x < n - S.lo ↔ S.lo < x := by grind
  have e3 : (n : Rat) - x = n - h ↔ x = h := by grind
  have e4 : (n : Rat) - x = n - S.lo ↔ x = S.lo := by grind
  rw [e1, e2, e3, e4]
  exact And.comm
theorem sub_sub {x y : Rat} : y - (y - x) = x := by grind
theorem mi_min {S : St} {n : Int} {s s' h : Rat} (e : S.hi = some h) (m : Min S s) (p : HasPar s) (m' : Min (mi S h n) s') : s'.den = s.den ∧ (s.den ≠ 1 → s' = n - s) := by
  have h1 := m'.2 _ ((mi_in e).mpr m.1)
  have i2 : S.In (n - s') := by rw [← mi_in (n := n) e, sub_sub]; exact m'.1
  have h2 := m.2 _ i2
  rw [neg_nd] at h1 h2
  have hd : s'.den = s.den := by omega
  refine ⟨hd, fun c => ?_⟩
  rcases p with c' | ⟨c', l0, l1, r0, r1, p, hr⟩
  · exact absurd c' c
  · have := p.same m hr i2 (by rw [neg_nd, hd])
    rw [← this, sub_sub]
def iv (S : St) (h : Rat) : St := ⟨1 / h, S.hn, some (1 / S.lo), S.li⟩
theorem inv_inv {x : Rat} (h : 0 < x) : 1 / (1 / x) = x := by
  have e1 := mul_inv h
  have e2 := mul_inv (inv_pos h)
  grind
theorem iv_in {S : St} {x h : Rat} (e : S.hi = some h) (l0 : 0 < S.lo) (h0 : 0 < h) (hx : 0 < x) : (iv S h).In (1 / x) ↔ S.In x := by
  unfold St.In St.up iv
  rw [e]
  simp only
  have e3 : 1 / x = 1 / h ↔ x = h := ⟨fun q => inv_inj hx h0 q, fun q => by rw [q]⟩
  have e4 : 1 / x = 1 / S.lo ↔ x = S.lo := ⟨fun q => inv_inj hx l0 q, fun q => by rw [q]⟩
  rw [inv_lt h0 hx, inv_lt hx l0, e3, e4]
  exact And.comm
theorem iv_min {S : St} {s s' h : Rat} (e : S.hi = some h) (l0 : 0 < S.lo) (h0 : 0 < h) (m : Min S s) (m' : Min (iv S h) s') : s' = 1 / s := by
  have s0 : 0 < s := ltl l0 (In.ge m.1)
  refine Min.uniq m' ⟨(iv_in e l0 h0 s0).mpr m.1, fun x hx => ?_⟩
  have x0 : 0 < x := ltl (inv_pos h0) (In.ge hx)
  have i2 : S.In (1 / x) := by
    rw [← iv_in e l0 h0 (inv_pos x0), inv_inv x0]; exact hx
  obtain ⟨a, b⟩ := m.2 _ i2
  obtain ⟨c1, c2⟩ := inv_nd s0
  obtain ⟨d1, d2⟩ := inv_nd x0
  omega
/-! ## middles -/
def db (S : St) : St := ⟨2 * S.lo, S.li, S.hi.map ((2 : Rat) * ·), S.hn⟩
theorem db_in {S : St} {x : Rat} : (db S).In (2 * x) ↔ S.In x := by
  unfold St.In St.up db
  cases S.hi with
  | none => grind
  | some h =>
    simp only [Option.map_some]
    have e1 : 2 * S.lo < 2 * x ↔ S.lo < x := by grind
    have e2 : 2 * x < 2 * h ↔ x < h := by grind
    have e3 : 2 * x = 2 * S.lo ↔ x = S.lo := by grind
    have e4 : 2 * x = 2 * h ↔ x = h := by grind
    rw [e1, e2, e3, e4]
theorem db_sh (S : St) (n : Int) : db (sh S n) = sh (db S) (2 * n) := by
  unfold db sh
  have e : ((2 * n : Int) : Rat) = 2 * (n : Rat) := by rw [Rat.intCast_mul]; rfl
  simp only [St.mk.injEq, e, true_and, and_true]
  refine ⟨by grind, ?_⟩
  cases S.hi with
  | none => rfl
  | some h => simp only [Option.map_some]; congr 1; grind
theorem lp_sh (W : St) (k : Int) (t : Rat) : lp (sh W k) (t + k) = sh (lp W t) k := rfl
theorem rp_sh (W : St) (k : Int) (t : Rat) : rp (sh W k) (t + k) = sh (rp W t) k := rfl
/-- of two, the one of the least low, the least one of these -/
def bt (u v : Rat) : Rat := if (v.den : Int) < u.den ∨ ((v.den : Int) = u.den ∧ v.num < u.num) then v else u
theorem bt_sh (u v : Rat) (k : Int) : bt (u + k) (v + k) = bt u v + k := by
  unfold bt
  obtain ⟨a1, a2⟩ := add_int u k
  obtain ⟨b1, b2⟩ := add_int v k
  rw [a1, a2, b1, b2]
  by_cases c : (v.den : Int) = u.den
  · have : ((v.den : Int) < u.den ∨ ((v.den : Int) = u.den ∧ v.num + k * v.den < u.num + k * u.den)) ↔ ((v.den : Int) < u.den ∨ ((v.den : Int) = u.den ∧ v.num < u.num)) := by
      rw [c]; omega
    simp only [this]
    split <;> rfl
  · have : ((v.den : Int) < u.den ∨ ((v.den : Int) = u.den ∧ v.num + k * v.den < u.num + k * u.den)) ↔ ((v.den : Int) < u.den ∨ ((v.den : Int) = u.den ∧ v.num < u.num)) := by
      constructor
      · rintro (q | q)
        · exact .inl q
        · exact absurd q.1 c
      · rintro (q | q)
        · exact .inl q
        · exact absurd q.1 c
    simp only [this]
    split <;> rfl
end Sf
namespace Rf.K00
open PySem L2 PySem.Spec PyProof.Rows Rf
/-! ## defs by their statements -/
def q_simplest_of_0 : Rf.T := (.par3 1 2 3 (.f (.lst .nil)) (.v (.k (.int 0))) (.v (.v 0)))
def q_simplest_of_1_0 : Rf.T := (.asg (.t4 (.n 5) (.n 6) (.n 7) (.n 8)) (.v 3))
def q_simplest_of_1_1 : Rf.T := (.set 9 (.call "floor_of" 1 F_floor_of (.cons (.v 5) .nil)))
def q_simplest_of_1_2 : Rf.T := (.set 2 (.ite (.bo true (.cons (.v 6) (.cons (.cmp .Eq (.ix (.v 5) (.k (.int 1))) (.k (.int 1))) .nil))) (.v 9) (.bin .Add (.v 9) (.k (.int 1)))))
def q_simplest_of_1_3 : Rf.T := (.ite (.call "is_inside" 2 F_is_inside (.cons (.v 3) (.cons (.tup (.cons (.v 2) (.cons (.k (.int 1)) .nil))) .nil))) (.cons .brk .nil) .nil)
def q_simplest_of_1_4 : Rf.T := (.app 1 (.v 9))
def q_simplest_of_1_5 : Rf.T := (.set 10 (.call "difference" 2 F_difference (.cons (.v 5) (.cons (.tup (.cons (.v 9) (.cons (.k (.int 1)) .nil))) .nil))))
def q_simplest_of_1_6 : Rf.T := (.set 11 (.call "quotient" 2 F_quotient (.cons (.g "ONE" c_ONE) (.cons (.call "difference" 2 F_difference (.cons (.v 7) (.cons (.tup (.cons (.v 9) (.cons (.k (.int 1)) .nil))) .nil))) .nil))))
def q_simplest_of_1_7 : Rf.T := (.set 3 (.tup (.cons (.v 11) (.cons (.v 8) (.cons (.ite (.cmp .Eq (.v 10) (.g "NOTHING" c_NOTHING)) (.k .non) (.call "quotient" 2 F_quotient (.cons (.g "ONE" c_ONE) (.cons (.v 10) .nil)))) (.cons (.v 6) .nil))))))
def b_simplest_of_1 : Ts := (.cons q_simplest_of_1_0 (.cons q_simplest_of_1_1 (.cons q_simplest_of_1_2 (.cons q_simplest_of_1_3 (.cons q_simplest_of_1_4 (.cons q_simplest_of_1_5 (.cons q_simplest_of_1_6 (.cons q_simplest_of_1_7 .nil))))))))
def q_simplest_of_1 : Rf.T := (.for (.n 4) (.r1 (.g "MOST_PARTS" c_MOST_PARTS)) b_simplest_of_1)
def q_simplest_of_2 : Rf.T := (.set 12 (.tup (.cons (.v 2) (.cons (.k (.int 1)) .nil))))
def q_simplest_of_3_0 : Rf.T := (.set 12 (.tup (.cons (.bin .Add (.bin .Mult (.v 9) (.ix (.v 12) (.k (.int 0)))) (.ix (.v 12) (.k (.int 1)))) (.cons (.ix (.v 12) (.k (.int 0))) .nil))))
def b_simplest_of_3 : Ts := (.cons q_simplest_of_3_0 .nil)
def q_simplest_of_3 : Rf.T := (.for (.n 9) (.seq (.fr (.rev (.o 1)))) b_simplest_of_3)
def q_simplest_of_4 : Rf.T := (.ret (.v 12))
theorem tree_simplest_of : t_simplest_of = (.cons q_simplest_of_0 (.cons q_simplest_of_1 (.cons q_simplest_of_2 (.cons q_simplest_of_3 (.cons q_simplest_of_4 .nil))))) := rfl
def q_parents_of_0 : Rf.T := (.ite (.cmp .Eq (.ix (.v 0) (.k (.int 1))) (.k (.int 1))) (.cons (.ret (.tup .nil)) .nil) .nil)
def q_parents_of_1 : Rf.T := (.asg (.t4 (.n 1) (.n 2) (.n 3) (.n 4)) (.tup (.cons (.tup (.cons (.k (.int 0)) (.cons (.k (.int 1)) .nil))) (.cons (.tup (.cons (.k (.int 1)) (.cons (.k (.int 0)) .nil))) (.cons (.v 0) (.cons (.k (.bl true)) .nil))))))
def q_parents_of_2_0 : Rf.T := (.par2 5 6 (.v (.bin .FloorDiv (.ix (.v 3) (.k (.int 0))) (.ix (.v 3) (.k (.int 1))))) (.v (.bin .Mod (.ix (.v 3) (.k (.int 0))) (.ix (.v 3) (.k (.int 1))))))
def q_parents_of_2_1 : Rf.T := (.set 7 (.ite (.cmp .NotEq (.v 6) (.k (.int 0))) (.v 5) (.bin .Sub (.v 5) (.k (.int 1)))))
def q_parents_of_2_2 : Rf.T := (.ite (.v 4) (.cons (.set 1 (.tup (.cons (.bin .Add (.ix (.v 1) (.k (.int 0))) (.bin .Mult (.v 7) (.ix (.v 2) (.k (.int 0))))) (.cons (.bin .Add (.ix (.v 1) (.k (.int 1))) (.bin .Mult (.v 7) (.ix (.v 2) (.k (.int 1))))) .nil)))) .nil) (.cons (.set 2 (.tup (.cons (.bin .Add (.ix (.v 2) (.k (.int 0))) (.bin .Mult (.v 7) (.ix (.v 1) (.k (.int 0))))) (.cons (.bin .Add (.ix (.v 2) (.k (.int 1))) (.bin .Mult (.v 7) (.ix (.v 1) (.k (.int 1))))) .nil)))) .nil))
def q_parents_of_2_3 : Rf.T := (.par2 3 4 (.v (.tup (.cons (.ix (.v 3) (.k (.int 1))) (.cons (.v 6) .nil)))) (.v (.not (.v 4))))
def b_parents_of_2 : Ts := (.cons q_parents_of_2_0 (.cons q_parents_of_2_1 (.cons q_parents_of_2_2 (.cons q_parents_of_2_3 .nil))))
def q_parents_of_2 : Rf.T := (.while (fun _ _ => 10 ^ 18) (.cmp .NotEq (.ix (.v 3) (.k (.int 1))) (.k (.int 0))) b_parents_of_2)
def q_parents_of_3 : Rf.T := (.ret (.tup (.cons (.v 1) (.cons (.v 2) .nil))))
theorem tree_parents_of : t_parents_of = (.cons q_parents_of_0 (.cons q_parents_of_1 (.cons q_parents_of_2 (.cons q_parents_of_3 .nil)))) := rfl
def q_is_simplest_0 : Rf.T := (.ite (.bo false (.cons (.not (.isi .tuple (.v 1))) (.cons (.cmp .NotEq (.bi .len (.cons (.v 1) .nil)) (.k (.int 2))) (.cons (.not (.call "is_fraction" 1 F_is_fraction (.cons (.ix (.v 1) (.k (.int 0))) .nil))) (.cons (.not (.call "is_inside" 2 F_is_inside (.cons (.v 0) (.cons (.ix (.v 1) (.k (.int 0))) .nil)))) .nil))))) (.cons (.ret (.k (.bl false))) .nil) .nil)
def q_is_simplest_1 : Rf.T := (.asg (.t2 (.t2 (.n 2) (.n 3)) (.n 4)) (.v 1))
def q_is_simplest_2 : Rf.T := (.ite (.cmp .Eq (.v 3) (.k (.int 1))) (.cons (.ret (.bo true (.cons (.cmp .Eq (.v 4) (.tup .nil)) (.cons (.isi .tuple (.v 4)) (.cons (.not (.call "is_inside" 2 F_is_inside (.cons (.v 0) (.cons (.tup (.cons (.bin .Sub (.v 2) (.k (.int 1))) (.cons (.k (.int 1)) .nil))) .nil)))) .nil))))) .nil) .nil)
def q_is_simplest_3 : Rf.T := (.ite (.not (.call "are_parents" 1 F_are_parents (.cons (.v 4) .nil))) (.cons (.ret (.k (.bl false))) .nil) .nil)
def q_is_simplest_4 : Rf.T := (.asg (.t2 (.t2 (.n 5) (.n 6)) (.t2 (.n 7) (.n 8))) (.v 4))
def q_is_simplest_5 : Rf.T := (.ite (.bo false (.cons (.cmp .NotEq (.tup (.cons (.bin .Add (.v 5) (.v 7)) (.cons (.bin .Add (.v 6) (.v 8)) .nil))) (.tup (.cons (.v 2) (.cons (.v 3) .nil)))) (.cons (.cmp .NotEq (.bin .Sub (.bin .Mult (.v 7) (.v 6)) (.bin .Mult (.v 5) (.v 8))) (.k (.int 1))) .nil))) (.cons (.ret (.k (.bl false))) .nil) .nil)
def q_is_simplest_6 : Rf.T := (.ret (.bo true (.cons (.not (.call "is_inside" 2 F_is_inside (.cons (.v 0) (.cons (.tup (.cons (.v 5) (.cons (.v 6) .nil))) .nil)))) (.cons (.bo false (.cons (.cmp .Eq (.v 8) (.k (.int 0))) (.cons (.not (.call "is_inside" 2 F_is_inside (.cons (.v 0) (.cons (.tup (.cons (.v 7) (.cons (.v 8) .nil))) .nil)))) .nil))) .nil))))
theorem tree_is_simplest : t_is_simplest = (.cons q_is_simplest_0 (.cons q_is_simplest_1 (.cons q_is_simplest_2 (.cons q_is_simplest_3 (.cons q_is_simplest_4 (.cons q_is_simplest_5 (.cons q_is_simplest_6 .nil))))))) := rfl
def q_middle_told_0 : Rf.T := (.set 1 (.call "twice" 1 F_twice (.cons (.v 0) .nil)))
def q_middle_told_1 : Rf.T := (.set 2 (.call "simplest_of" 1 F_simplest_of (.cons (.v 1) .nil)))
def q_middle_told_2 : Rf.T := (.ite (.cmp .Eq (.bin .Mod (.ix (.v 2) (.k (.int 0))) (.k (.int 2))) (.k (.int 1))) (.cons (.ret (.tup (.cons (.ix (.v 2) (.k (.int 1))) (.cons (.bin .FloorDiv (.ix (.v 2) (.k (.int 0))) (.k (.int 2))) (.cons (.tup (.cons (.call "with_parents" 1 F_with_parents (.cons (.v 2) .nil)) .nil)) .nil))))) .nil) .nil)
def q_middle_told_3 : Rf.T := (.own 3 (.comp [("part", 4)] (.n 4) (.seq (.call "halves_of" 2 F_halves_of (.cons (.v 1) (.cons (.v 2) .nil)))) .none (.call "simplest_of" 1 F_simplest_of (.cons (.v 4) .nil))))
def q_middle_told_5 : Rf.T := (.ite (.cmp .Eq (.v 3) (.fr (.lst .nil))) (.cons (.ret (.k .non)) .nil) .nil)
def q_middle_told_6 : Rf.T := (.asg (.t2 (.n 5) (.n 6)) (.ix (.fr (.srt (.fr (.comp [("one", 7)] (.n 7) (.seq (.v 3)) .none (.tup (.cons (.ix (.v 7) (.k (.int 1))) (.cons (.ix (.v 7) (.k (.int 0))) .nil))))))) (.k (.int 0))))
def q_middle_told_7 : Rf.T := (.ret (.tup (.cons (.v 5) (.cons (.bin .FloorDiv (.v 6) (.k (.int 2))) (.cons (.bi .tuple (.cons (.fr (.comp [("one", 7)] (.n 7) (.seq (.fr (.lst (.cons (.v 2) (.star (.v 3) .nil))))) .none (.call "with_parents" 1 F_with_parents (.cons (.v 7) .nil)))) .nil)) .nil)))))
theorem tree_middle_told : t_middle_told = (.cons q_middle_told_0 (.cons q_middle_told_1 (.cons q_middle_told_2 (.cons q_middle_told_3 (.fz 3 (.cons q_middle_told_5 (.cons q_middle_told_6 (.cons q_middle_told_7 .nil)))))))) := rfl
def q_is_middle_told_0 : Rf.T := (.set 2 (.call "twice" 1 F_twice (.cons (.v 0) .nil)))
def q_is_middle_told_1 : Rf.T := (.ite (.cmp .Is (.v 1) (.k .non)) (.cons (.ret (.bo true (.cons (.cmp .Eq (.ix (.v 2) (.k (.int 0))) (.ix (.v 2) (.k (.int 2)))) (.cons (.cmp .Eq (.bin .Mod (.ix (.ix (.v 2) (.k (.int 0))) (.k (.int 0))) (.k (.int 2))) (.k (.int 0))) .nil)))) .nil) .nil)
def q_is_middle_told_2 : Rf.T := (.ite (.bo false (.cons (.not (.isi .tuple (.v 1))) (.cons (.cmp .NotEq (.bi .len (.cons (.v 1) .nil)) (.k (.int 3))) (.cons (.not (.call "is_integer" 1 F_is_integer (.cons (.ix (.v 1) (.k (.int 0))) .nil))) (.cons (.not (.call "is_integer" 1 F_is_integer (.cons (.ix (.v 1) (.k (.int 1))) .nil))) .nil))))) (.cons (.ret (.k (.bl false))) .nil) .nil)
def q_is_middle_told_3 : Rf.T := (.set 3 (.ix (.v 1) (.k (.int 2))))
def q_is_middle_told_4 : Rf.T := (.ite (.bo false (.cons (.not (.isi .tuple (.v 3))) (.cons (.cmp .Eq (.v 3) (.tup .nil)) .nil))) (.cons (.ret (.k (.bl false))) .nil) .nil)
def q_is_middle_told_5 : Rf.T := (.ite (.cmp .Eq (.bi .len (.cons (.v 3) .nil)) (.k (.int 1))) (.cons (.ite (.not (.call "is_simplest" 2 F_is_simplest (.cons (.v 2) (.cons (.ix (.v 3) (.k (.int 0))) .nil)))) (.cons (.ret (.k (.bl false))) .nil) .nil) (.cons (.set 4 (.fr (.lst (.cons (.ix (.ix (.v 3) (.k (.int 0))) (.k (.int 0))) .nil)))) .nil)) (.cons (.ite (.not (.call "are_beside" 2 F_are_beside (.cons (.v 2) (.cons (.v 3) .nil)))) (.cons (.ret (.k (.bl false))) .nil) (.cons (.own 4 (.comp [("one", 5)] (.n 5) (.seq (.sl (.v 3) (.some (.k (.int 1))) .none)) .none (.ix (.v 5) (.k (.int 0))))) (.fz 4 .nil))) .nil))
def q_is_middle_told_6 : Rf.T := (.asg (.t2 (.n 6) (.n 7)) (.ix (.fr (.srt (.fr (.comp [("one", 5)] (.n 5) (.seq (.v 4)) .none (.tup (.cons (.ix (.v 5) (.k (.int 1))) (.cons (.ix (.v 5) (.k (.int 0))) .nil))))))) (.k (.int 0))))
def q_is_middle_told_7 : Rf.T := (.ret (.bo true (.cons (.cmp .Eq (.bin .Mod (.v 7) (.k (.int 2))) (.k (.int 1))) (.cons (.cmp .Eq (.tup (.cons (.v 6) (.cons (.bin .FloorDiv (.v 7) (.k (.int 2))) .nil))) (.tup (.cons (.ix (.v 1) (.k (.int 0))) (.cons (.ix (.v 1) (.k (.int 1))) .nil)))) .nil))))
theorem tree_is_middle_told : t_is_middle_told = (.cons q_is_middle_told_0 (.cons q_is_middle_told_1 (.cons q_is_middle_told_2 (.cons q_is_middle_told_3 (.cons q_is_middle_told_4 (.cons q_is_middle_told_5 (.cons q_is_middle_told_6 (.cons q_is_middle_told_7 .nil)))))))) := rfl
def q__law_is_shift_right_0 : Rf.T := (.set 3 (.bi .int (.cons (.call "_law_of" 2 F__law_of (.cons (.v 0) (.cons (.fr (.lst (.cons (.bin .Add (.k (.int 1)) (.call "_law_take" 2 F__law_take (.cons (.v 0) (.cons (.k (.int 9)) .nil)))) (.cons (.bin .Add (.bin .Pow (.k (.int 10)) (.k (.int 40))) (.k (.int 7))) .nil)))) .nil))) .nil)))
def q__law_is_shift_right_1 : Rf.T := (.set 4 (.call "_law_shifted" 2 F__law_shifted (.cons (.v 1) (.cons (.v 3) .nil))))
def q__law_is_shift_right_2 : Rf.T := (.set 5 (.call "simplest" 1 F_simplest (.cons (.v 4) .nil)))
def q__law_is_shift_right_3 : Rf.T := (.ite (.bo false (.cons (.cmp .NotEq (.bi .repr (.cons (.ix (.v 5) (.k (.int 0))) .nil)) (.bi .repr (.cons (.call "_law_added" 2 F__law_added (.cons (.v 2) (.cons (.tup (.cons (.v 3) (.cons (.k (.int 1)) .nil))) .nil))) .nil))) (.cons (.cmp .IsNot (.call "shows_simplest" 2 F_shows_simplest (.cons (.v 4) (.cons (.v 5) .nil))) (.k (.bl true))) .nil))) (.cons (.ret (.k (.bl false))) .nil) .nil)
def q__law_is_shift_right_4 : Rf.T := (.par2 6 7 (.v (.call "edge_size" 1 F_edge_size (.cons (.v 1) .nil))) (.v (.call "edge_size" 1 F_edge_size (.cons (.v 4) .nil))))
def q__law_is_shift_right_5 : Rf.T := (.ite (.bo false (.cons (.cmp .NotEq (.sl (.v 6) .none (.some (.k (.int 2)))) (.tup (.cons (.ix (.v 2) (.k (.int 1))) (.cons (.ix (.v 2) (.k (.int 0))) .nil)))) (.cons (.cmp .NotEq (.sl (.v 7) .none (.some (.k (.int 2)))) (.tup (.cons (.ix (.v 2) (.k (.int 1))) (.cons (.bin .Add (.ix (.v 2) (.k (.int 0))) (.bin .Mult (.v 3) (.ix (.v 2) (.k (.int 1))))) .nil)))) .nil))) (.cons (.ret (.k (.bl false))) .nil) .nil)
def q__law_is_shift_right_6 : Rf.T := (.ite (.bo false (.cons (.cmp .IsNot (.call "shows_simplest" 2 F_shows_simplest (.cons (.v 1) (.cons (.tup (.cons (.v 2) (.cons (.ix (.v 6) (.k (.int 2))) .nil))) .nil))) (.k (.bl true))) (.cons (.cmp .IsNot (.call "shows_edge_size" 2 F_shows_edge_size (.cons (.v 4) (.cons (.v 7) .nil))) (.k (.bl true))) .nil))) (.cons (.ret (.k (.bl false))) .nil) .nil)
def q__law_is_shift_right_7 : Rf.T := (.par2 8 9 (.v (.call "middle_size" 1 F_middle_size (.cons (.v 1) .nil))) (.v (.call "middle_size" 1 F_middle_size (.cons (.v 4) .nil))))
def q__law_is_shift_right_8 : Rf.T := (.ite (.bo false (.cons (.cmp .Is (.v 8) (.k .non)) (.cons (.cmp .Is (.v 9) (.k .non)) .nil))) (.cons (.ret (.bo true (.cons (.cmp .Is (.v 8) (.k .non)) (.cons (.cmp .Is (.v 9) (.k .non)) .nil)))) .nil) .nil)
def q__law_is_shift_right_9 : Rf.T := (.ite (.bo false (.cons (.cmp .NotEq (.ix (.v 9) (.k (.int 0))) (.ix (.v 8) (.k (.int 0)))) (.cons (.cmp .NotEq (.ix (.v 9) (.k (.int 1))) (.bin .Add (.ix (.v 8) (.k (.int 1))) (.bin .Mult (.v 3) (.ix (.v 8) (.k (.int 0)))))) .nil))) (.cons (.ret (.k (.bl false))) .nil) .nil)
def q__law_is_shift_right_10 : Rf.T := (.set 10 (.call "_law_reduced" 2 F__law_reduced (.cons (.bin .Add (.bin .Mult (.k (.int 2)) (.ix (.v 8) (.k (.int 1)))) (.k (.int 1))) (.cons (.bin .Mult (.k (.int 2)) (.ix (.v 8) (.k (.int 0)))) .nil))))
def q__law_is_shift_right_11 : Rf.T := (.ret (.bo true (.cons (.call "_law_is_in" 2 F__law_is_in (.cons (.v 1) (.cons (.v 10) .nil))) (.cons (.cmp .Is (.call "shows_middle_size" 2 F_shows_middle_size (.cons (.v 4) (.cons (.v 9) .nil))) (.k (.bl true))) .nil))))
theorem tree__law_is_shift_right : t__law_is_shift_right = (.cons q__law_is_shift_right_0 (.cons q__law_is_shift_right_1 (.cons q__law_is_shift_right_2 (.cons q__law_is_shift_right_3 (.cons q__law_is_shift_right_4 (.cons q__law_is_shift_right_5 (.cons q__law_is_shift_right_6 (.cons q__law_is_shift_right_7 (.cons q__law_is_shift_right_8 (.cons q__law_is_shift_right_9 (.cons q__law_is_shift_right_10 (.cons q__law_is_shift_right_11 .nil)))))))))))) := rfl
def q__law_right_0 : Rf.T := (.set 1 (.call "_law_stretch" 1 F__law_stretch (.cons (.v 0) .nil)))
def q__law_right_1 : Rf.T := (.asg (.t2 (.n 2) (.n 3)) (.call "simplest" 1 F_simplest (.cons (.v 1) .nil)))
def q__law_right_2 : Rf.T := (.ite (.bo false (.cons (.not (.call "_law_is_in" 2 F__law_is_in (.cons (.v 1) (.cons (.v 2) .nil)))) (.cons (.cmp .IsNot (.call "shows_simplest" 2 F_shows_simplest (.cons (.v 1) (.cons (.tup (.cons (.v 2) (.cons (.v 3) .nil))) .nil))) (.k (.bl true))) .nil))) (.cons (.ret (.k (.bl false))) .nil) .nil)
def q__law_right_3 : Rf.T := (.ite (.bo false (.cons (.not (.call "_law_is_shift_right" 3 F__law_is_shift_right (.cons (.v 0) (.cons (.v 1) (.cons (.v 2) .nil))))) (.cons (.not (.call "_law_is_turn_right" 3 F__law_is_turn_right (.cons (.v 0) (.cons (.v 1) (.cons (.v 2) .nil))))) .nil))) (.cons (.ret (.k (.bl false))) .nil) .nil)
def q__law_right_4 : Rf.T := (.ret (.call "_law_is_inner_right" 3 F__law_is_inner_right (.cons (.v 0) (.cons (.v 1) (.cons (.v 2) .nil)))))
theorem tree__law_right : t__law_right = (.cons q__law_right_0 (.cons q__law_right_1 (.cons q__law_right_2 (.cons q__law_right_3 (.cons q__law_right_4 .nil))))) := rfl
def q__law_is_turn_right_0 : Rf.T := (.ite (.cmp .NotEq (.bi .repr (.cons (.ix (.call "simplest" 1 F_simplest (.cons (.call "_law_inverted" 1 F__law_inverted (.cons (.v 1) .nil)) .nil)) (.k (.int 0))) .nil)) (.bi .repr (.cons (.tup (.cons (.ix (.v 2) (.k (.int 1))) (.cons (.ix (.v 2) (.k (.int 0))) .nil))) .nil))) (.cons (.ret (.k (.bl false))) .nil) .nil)
def q__law_is_turn_right_1 : Rf.T := (.set 3 (.bi .int (.cons (.bin .Add (.bin .Add (.bin .FloorDiv (.ix (.ix (.v 1) (.k (.int 2))) (.k (.int 0))) (.ix (.ix (.v 1) (.k (.int 2))) (.k (.int 1)))) (.k (.int 1))) (.call "_law_take" 2 F__law_take (.cons (.v 0) (.cons (.k (.int 3)) .nil)))) .nil)))
def q__law_is_turn_right_2 : Rf.T := (.set 4 (.ix (.call "simplest" 1 F_simplest (.cons (.call "_law_mirrored" 2 F__law_mirrored (.cons (.v 1) (.cons (.v 3) .nil))) .nil)) (.k (.int 0))))
def q__law_is_turn_right_3 : Rf.T := (.ite (.bo true (.cons (.cmp .Gt (.ix (.v 2) (.k (.int 1))) (.k (.int 1))) (.cons (.cmp .NotEq (.bi .repr (.cons (.v 4) .nil)) (.bi .repr (.cons (.call "_law_added" 2 F__law_added (.cons (.tup (.cons (.v 3) (.cons (.k (.int 1)) .nil))) (.cons (.call "_law_minus" 1 F__law_minus (.cons (.v 2) .nil)) .nil))) .nil))) .nil))) (.cons (.ret (.k (.bl false))) .nil) .nil)
def q__law_is_turn_right_4 : Rf.T := (.ret (.cmp .Eq (.cmp .Eq (.ix (.v 2) (.k (.int 1))) (.k (.int 1))) (.cmp .Eq (.ix (.v 4) (.k (.int 1))) (.k (.int 1)))))
theorem tree__law_is_turn_right : t__law_is_turn_right = (.cons q__law_is_turn_right_0 (.cons q__law_is_turn_right_1 (.cons q__law_is_turn_right_2 (.cons q__law_is_turn_right_3 (.cons q__law_is_turn_right_4 .nil))))) := rfl
def q__law_is_inner_right_0 : Rf.T := (.asg (.t4 (.n 3) (.n 4) (.n 5) (.n 6)) (.v 1))
def q__law_is_inner_right_1 : Rf.T := (.ite (.cmp .Eq (.v 3) (.v 5)) (.cons (.ret (.k (.bl true))) .nil) .nil)
def q__law_is_inner_right_2 : Rf.T := (.set 7 (.call "_law_reduced" 2 F__law_reduced (.cons (.bin .Add (.bin .Mult (.ix (.v 3) (.k (.int 0))) (.ix (.v 5) (.k (.int 1)))) (.bin .Mult (.ix (.v 5) (.k (.int 0))) (.ix (.v 3) (.k (.int 1))))) (.cons (.bin .Mult (.bin .Mult (.k (.int 2)) (.ix (.v 3) (.k (.int 1)))) (.ix (.v 5) (.k (.int 1)))) .nil))))
def q__law_is_inner_right_3 : Rf.T := (.set 8 (.call "_law_of" 2 F__law_of (.cons (.v 0) (.cons (.fr (.lst (.cons (.tup (.cons (.v 3) (.cons (.v 4) (.cons (.v 7) (.cons (.k (.bl true)) .nil))))) (.cons (.tup (.cons (.v 7) (.cons (.k (.bl false)) (.cons (.v 5) (.cons (.v 6) .nil))))) (.cons (.tup (.cons (.v 7) (.cons (.k (.bl true)) (.cons (.v 7) (.cons (.k (.bl true)) .nil))))) .nil))))) .nil))))
def q__law_is_inner_right_4 : Rf.T := (.set 9 (.ix (.call "simplest" 1 F_simplest (.cons (.v 8) .nil)) (.k (.int 0))))
def q__law_is_inner_right_5 : Rf.T := (.ite (.call "_law_is_in" 2 F__law_is_in (.cons (.v 8) (.cons (.v 2) .nil))) (.cons (.ret (.cmp .Eq (.bi .repr (.cons (.v 9) .nil)) (.bi .repr (.cons (.v 2) .nil)))) .nil) .nil)
def q__law_is_inner_right_6 : Rf.T := (.ret (.bo true (.cons (.cmp .GtE (.ix (.v 9) (.k (.int 1))) (.ix (.v 2) (.k (.int 1)))) (.cons (.call "_law_is_in" 2 F__law_is_in (.cons (.v 8) (.cons (.v 9) .nil))) .nil))))
theorem tree__law_is_inner_right : t__law_is_inner_right = (.cons q__law_is_inner_right_0 (.cons q__law_is_inner_right_1 (.cons q__law_is_inner_right_2 (.cons q__law_is_inner_right_3 (.cons q__law_is_inner_right_4 (.cons q__law_is_inner_right_5 (.cons q__law_is_inner_right_6 .nil))))))) := rfl
def q_are_parents_0 : Rf.T := (.ite (.bo false (.cons (.not (.isi .tuple (.v 0))) (.cons (.cmp .NotEq (.bi .len (.cons (.v 0) .nil)) (.k (.int 2))) .nil))) (.cons (.ret (.k (.bl false))) .nil) .nil)
def q_are_parents_1_0 : Rf.T := (.ite (.bo false (.cons (.not (.isi .tuple (.v 1))) (.cons (.cmp .NotEq (.bi .len (.cons (.v 1) .nil)) (.k (.int 2))) (.cons (.not (.bi .all (.cons (.fr (.comp [("part", 2)] (.n 2) (.seq (.v 1)) .none (.bo true (.cons (.call "is_integer" 1 F_is_integer (.cons (.v 2) .nil)) (.cons (.cmp .GtE (.v 2) (.k (.int 0))) .nil))))) .nil))) .nil)))) (.cons (.ret (.k (.bl false))) .nil) .nil)
def b_are_parents_1 : Ts := (.cons q_are_parents_1_0 .nil)
def q_are_parents_1 : Rf.T := (.for (.n 1) (.seq (.v 0)) b_are_parents_1)
def q_are_parents_2 : Rf.T := (.ret (.cmp .Gt (.ix (.ix (.v 0) (.k (.int 0))) (.k (.int 1))) (.k (.int 0))))
theorem tree_are_parents : t_are_parents = (.cons q_are_parents_0 (.cons q_are_parents_1 (.cons q_are_parents_2 .nil))) := rfl
end Rf.K00
namespace Rf.K00
open PySem L2 PySem.Spec PyProof.Rows Rf
section
variable {p q : Rat} {w : W}
theorem k_difference (hp : Sz 1000 p) (hq : Sz 1000 q) : F_difference [fr p, fr q] w = .ok (fr (p - q)) w := Wd.e_difference hp hq (by decide) (by decide)
theorem k_product (hp : Sz 1000 p) (hq : Sz 1000 q) : F_product_of [fr p, fr q] w = .ok (fr (p * q)) w := Wd.e_product hp hq (by decide) (by decide)
theorem k_quotient (hp : Sz 1000 p) (hq : Sz 1000 q) (h : 0 < q) : F_quotient [fr p, fr q] w = .ok (fr (p / q)) w := Wd.e_quotient hp hq (by decide) (by decide) h
theorem k_less (hp : Sz 1000 p) (hq : Sz 1000 q) : F_is_less [fr p, fr q] w = .ok (.bl (decide (p < q))) w := Wd.e_less hp hq (by decide) (by decide)
theorem k_floor (hp : Sz 1000 p) : F_floor_of [fr p] w = .ok (.int p.floor) w := Wd.e_floor hp (by decide) (by decide)
theorem k_told (hp : Sz 990 p) : F_is_told_fraction [fr p] w = .ok (.bl true) w := Wd.e_told hp (by decide)
theorem k_isfr : F_is_fraction [fr p] w = .ok (.bl true) w := Wd.e_isfr
theorem k_ladded (hp : Sz 1000 p) (hq : Sz 1000 q) : F__law_added [fr p, fr q] w = .ok (fr (p + q)) w := Wd.e_ladded hp hq (by decide) (by decide)
theorem k_lminus : F__law_minus [fr p] w = .ok (fr (-p)) w := Wd.e_lminus
theorem k_lless (hp : Sz 1000 p) (hq : Sz 1000 q) : F__law_less [fr p, fr q] w = .ok (.bl (decide (p < q))) w := Wd.e_lless hp hq (by decide) (by decide)
theorem k_lreduced {a b : Int} (hb : 0 < b) (h : b.natAbs < 2 ^ 1000) : F__law_reduced [.int a, .int b] w = .ok (fr (Rat.divInt a b)) w := Wd.e_lreduced hb (Nat.lt_of_lt_of_le h (Nat.pow_le_pow_right (by decide) (by decide)))
end
theorem Rlt_trans {a b c : Rat} (h : a < b) (h' : b < c) : a < c := by grind
/-! ## stretches -/
def hiD : Option Rat → D
  | none => .non
  | some h => fr h
def sD (S : Sf.St) : D := .tup [fr S.lo, .bl S.li, hiD S.hi, .bl S.hn]
def upB (S : Sf.St) (x : Rat) : Bool := match S.hi with
  | none => true
  | some h => decide (x < h) || (decide (x = h) && S.hn)
def inB (S : Sf.St) (x : Rat) : Bool := !(decide (x < S.lo) || (decide (x = S.lo) && !S.li)) && upB S x
theorem inB_iff {S : Sf.St} {x : Rat} : inB S x = true ↔ S.In x := by
  unfold inB Sf.St.In
  rw [Bool.and_eq_true]
  constructor
  · rintro ⟨h1, h2⟩
    simp only [Bool.not_eq_true', Bool.or_eq_false_iff, Bool.and_eq_false_iff, decide_eq_false_iff_not, Bool.not_eq_false'] at h1
    refine ⟨?_, ?_⟩
    · rcases Sf.leor (Rat.not_lt.mp h1.1) with q | q
      · exact .inl q
      · rcases h1.2 with r | r
        · exact absurd q.symm r
        · exact .inr ⟨q.symm, r⟩
    · unfold upB at h2; unfold Sf.St.up
      split
      · trivial
      · rename_i h e
        rw [e] at h2
        simpa using h2
  · rintro ⟨h1, h2⟩
    refine ⟨?_, ?_⟩
    · simp only [Bool.not_eq_true', Bool.or_eq_false_iff, Bool.and_eq_false_iff, decide_eq_false_iff_not, Bool.not_eq_false']
      rcases h1 with q | q
      · exact ⟨fun z => absurd (Rlt_trans q z) Rat.lt_irrefl, .inl fun z => by rw [z] at q; exact Rat.lt_irrefl q⟩
      · exact ⟨fun z => by rw [q.1] at z; exact Rat.lt_irrefl z, .inr q.2⟩
    · unfold Sf.St.up at h2; unfold upB
      split
      · rfl
      · rename_i h e
        rw [e] at h2
        simpa using h2
/-- the numbers of a stretch are of bounded size -/
structure Zs (n : Nat) (S : Sf.St) : Prop where
  lo : Sz n S.lo
  hi : ∀ h, S.hi = some h → Sz n h
section
variable {S : Sf.St} {x : Rat} {w : W}
theorem e_inside (z : Zs 1000 S) (zx : Sz 1000 x) : F_is_inside [sD S, fr x] w = .ok (.bl (inB S x)) w := by
  obtain ⟨lo, li, hi, hn⟩ := S
  have a := k_less (w := w) zx z.lo
  have e1 := p_eqfr x lo
  cases hi with
  | none =>
    unfold inB upB sD hiD
    simp only at a ⊢
    generalize decide (x < lo) = A at *
    generalize decide (x = lo) = B at *
    cases A <;> cases B <;> cases li <;> simp [F_is_inside, t_is_inside, st0, a, e1, isNon]
  | some h =>
    have b := k_less (w := w) zx (z.hi h rfl)
    have e2 := p_eqfr x h
    have i0 : isNon (fr h) = false := rfl
    unfold inB upB sD hiD
    simp only at a b ⊢
    generalize decide (x < lo) = A at *
    generalize decide (x = lo) = B at *
    generalize decide (x < h) = C at *
    generalize decide (x = h) = E at *
    cases A <;> cases B <;> cases li <;> cases C <;> cases E <;> simp [F_is_inside, t_is_inside, st0, a, b, e1, e2, i0]
end
end Rf.K00
namespace Rf.K00
open PySem L2 PySem.Spec PyProof.Rows Rf
open Sf (Go Ok whole first next)
theorem whole_le {S : Sf.St} (o : Ok S) : 0 ≤ whole S ∧ whole S ≤ S.lo.num := by
  have h0 : 0 ≤ whole S := by
    show 0 ≤ S.lo.floor
    rw [Rat.le_floor_iff]; exact o.n0
  exact ⟨h0, Sf.le_of_num h0 (Sf.floor_le S.lo)⟩
theorem sz_whole {S : Sf.St} {n : Nat} (o : Ok S) (z : Sz n S.lo) (hn : 0 < n) : Sz n (whole S : Rat) := by
  obtain ⟨a, b⟩ := whole_le o
  exact sz_i (by have := z.1; omega) hn
/-- what is left behind the whole part is no larger -/
theorem sz_rest {x : Rat} {n : Nat} {k : Int} (z : Sz n x) (h0 : 0 ≤ k) (h1 : (k : Rat) ≤ x) : Sz n (x - k) := by
  obtain ⟨s1, s2⟩ := Sf.sub_int x k
  have hd := Sf.dpos x
  have a : k * x.den ≤ x.num := by
    rcases Sf.leor h1 with q | q
    · rw [Sf.lt_nd, Sf.int_num, Sf.int_den] at q; omega
    · rw [← q, Sf.int_num, Sf.int_den]; omega
  have b : 0 ≤ k * x.den := Int.mul_nonneg h0 (by omega)
  refine ⟨?_, by rw [s2]; exact z.2⟩
  rw [s1]
  have := z.1
  omega
theorem sz_inv {x : Rat} {n : Nat} (z : Sz n x) (h : 0 < x) : Sz n (1 / x) := by
  obtain ⟨i1, i2⟩ := Sf.inv_nd h
  have := Sf.num_pos h
  have := z.1
  have := z.2
  refine ⟨by rw [i1]; simpa using z.2, by omega⟩
theorem zs_next {S : Sf.St} {h : Rat} {n : Nat} (g : Go S h) (z : Zs n S) : Zs n (next S) := by
  obtain ⟨w0, _⟩ := whole_le g.ok
  refine ⟨?_, fun k hk => ?_⟩
  · rw [g.lo_eq]
    exact sz_inv (sz_rest (z.hi h g.hi) w0 (Rat.le_of_lt g.gt)) g.hpos
  · unfold next at hk
    simp only at hk
    by_cases c : S.lo = (whole S : Rat)
    · rw [if_pos c] at hk; cases hk
    · rw [if_neg c] at hk
      cases hk
      exact sz_inv (sz_rest z.lo w0 (Sf.floor_le S.lo)) (g.lo_pos c)
section
variable {S : Sf.St} {w : W} {d0 : D} {ws : List D} {b2 b4 b5 b6 b7 b8 b9 b10 b11 b12 : Sl}
theorem first_eq (S : Sf.St) : first S = if (S.li && decide (((S.lo.den : Nat) : Int) = 1)) = true then whole S else whole S + 1 := by
  unfold first
  by_cases c : S.li = true ∧ S.lo.den = 1
  · rw [if_pos c, if_pos (by rw [c.1, c.2]; rfl)]
  · rw [if_neg c, if_neg]
    intro q
    rw [Bool.and_eq_true, decide_eq_true_eq] at q
    exact c ⟨q.1, by omega⟩
theorem sz_first {n : Nat} (o : Ok S) (z : Sz n S.lo) : Sz (n + 1) (first S : Rat) := by
  obtain ⟨a, b⟩ := whole_le o
  have := z.1
  have hp : (2 : Nat) ^ (n + 1) = 2 ^ n + 2 ^ n := by rw [Nat.pow_succ]; omega
  refine sz_i ?_ (by omega)
  rw [first_eq]
  split <;> omega
theorem loop_stop (z : Zs 900 S) (o : Ok S) (c : S.In (first S)) : evTs b_simplest_of_1 [.v d0, .o ws, b2, .v (sD S), b4, b5, b6, b7, b8, b9, b10, b11, b12] w =
    .ok (.bk [.v d0, .o ws, .v (.int (first S)), .v (sD S), b4, .v (fr S.lo), .v (.bl S.li), .v (hiD S.hi), .v (.bl S.hn), .v (.int (whole S)), b10, b11, b12]) w := by
  have z1 : Zs 1000 S := ⟨z.lo.up (by decide), fun h q => (z.hi h q).up (by decide)⟩
  have a := k_floor (w := w) z1.lo
  have e := e_inside (w := w) z1 ((sz_first o z.lo).up (by decide : 901 ≤ 1000))
  rw [inB_iff.mpr c] at e
  have hf := first_eq S
  have e : F_is_inside [sD S, .tup [.int (first S), .int 1]] w = .ok (.bl true) w := e
  have hw : S.lo.floor = whole S := rfl
  rw [hw] at a
  unfold sD at e ⊢
  generalize first S = f at *
  generalize whole S = q at *
  obtain ⟨lo, li, hi, hn⟩ := S
  simp only at *
  have hd : cmpD .Eq (.int ((lo.den : Nat) : Int)) (.int 1) = some (.bl (decide (((lo.den : Nat) : Int) = 1))) := p_eqi _ _
  cases li with
  | false =>
    simp only [Bool.false_and, Bool.false_eq_true, if_false] at hf
    simp [b_simplest_of_1, q_simplest_of_1_0, q_simplest_of_1_1, q_simplest_of_1_2, q_simplest_of_1_3, sizeLine, a, ← hf, e]
  | true =>
    generalize decide (((lo.den : Nat) : Int) = 1) = dd at *
    cases dd with
    | true =>
      simp only [Bool.and_self, if_true] at hf
      subst hf
      simp [b_simplest_of_1, q_simplest_of_1_0, q_simplest_of_1_1, q_simplest_of_1_2, q_simplest_of_1_3, sizeLine, a, e, hd, -p_eqi]
    | false =>
      simp only [Bool.and_false, Bool.false_eq_true, if_false] at hf
      simp [b_simplest_of_1, q_simplest_of_1_0, q_simplest_of_1_1, q_simplest_of_1_2, q_simplest_of_1_3, sizeLine, a, ← hf, e, hd, -p_eqi]
end
end Rf.K00
namespace Rf.K00
open PySem L2 PySem.Spec PyProof.Rows Rf
open Sf (Go Ok whole first next)
section
variable {S : Sf.St} {w : W} {d0 : D} {ws : List D} {b2 b4 b5 b6 b7 b8 b9 b10 b11 b12 : Sl}
theorem one_eq : c_ONE = fr 1 := by kernel_rfl
theorem nothing_eq : c_NOTHING = fr 0 := by kernel_rfl
theorem sub_zero {a b : Rat} : a - b = 0 ↔ a = b := by
  constructor
  · intro h; grind
  · intro h; grind
theorem loop_go {h : Rat} (g : Go S h) (z : Zs 900 S) (hl : ws.length < 10000) (c : ¬ S.In (first S)) : evTs b_simplest_of_1 [.v d0, .o ws, b2, .v (sD S), b4, b5, b6, b7, b8, b9, b10, b11, b12] w =
    .ok (.nx [.v d0, .o (ws ++ [.int (whole S)]), .v (.int (first S)), .v (sD (next S)), b4, .v (fr S.lo), .v (.bl S.li), .v (fr h), .v (.bl S.hn), .v (.int (whole S)), .v (fr (S.lo - (whole S : Rat))), .v (fr (1 / (h - (whole S : Rat)))), b12]) w := by
  have o := g.ok
  have z1 : Zs 1000 S := ⟨z.lo.up (by decide), fun h q => (z.hi h q).up (by decide)⟩
  have zw := (sz_whole o z.lo (by decide)).up (by decide : 900 ≤ 1000)
  have zh := (z1.hi h g.hi)
  have a := k_floor (w := w) z1.lo
  have e := e_inside (w := w) z1 ((sz_first o z.lo).up (by decide : 901 ≤ 1000))
  have ei : inB S (first S) = false := by
    cases q : inB S (first S) with
    | false => rfl
    | true => exact absurd (inB_iff.mp q) c
  rw [ei] at e
  obtain ⟨w0, _⟩ := whole_le o
  have hf := first_eq S
  have e : F_is_inside [sD S, .tup [.int (first S), .int 1]] w = .ok (.bl false) w := e
  have f1 := k_difference (w := w) z1.lo zw
  rw [← fr_i] at f1
  have f2 := k_difference (w := w) zh zw
  rw [← fr_i] at f2
  have z1' : Sz 1000 (1 : Rat) := sz_i (k := 1) (by decide) (by decide)
  have f3 := k_quotient (w := w) z1' (sz_rest zh w0 (Rat.le_of_lt g.gt)) g.hpos
  have ec : cmpD .Eq (fr (S.lo - (whole S : Rat))) (fr 0) = some (.bl (decide (S.lo = (whole S : Rat)))) := by
    rw [p_eqfr, decide_eq_decide.mpr sub_zero]
  have f4 : S.lo ≠ (whole S : Rat) → F_quotient [fr 1, fr (S.lo - (whole S : Rat))] w = .ok (fr (1 / (S.lo - (whole S : Rat)))) w := fun q => k_quotient (w := w) z1' (sz_rest z1.lo w0 (Sf.floor_le S.lo)) (g.lo_pos q)
  have hw : S.lo.floor = whole S := rfl
  rw [hw] at a
  have nx : sD (next S) = .tup [fr (1 / (h - (whole S : Rat))), .bl S.hn, (if decide (S.lo = (whole S : Rat)) = true then .non else fr (1 / (S.lo - (whole S : Rat)))), .bl S.li] := by
    unfold sD
    rw [g.lo_eq]
    unfold next
    simp only
    congr 4
    by_cases q : S.lo = (whole S : Rat)
    · rw [if_pos q, if_pos (decide_eq_true q)]; rfl
    · rw [if_neg q, if_neg (by simpa using q)]; rfl
  have hh : hiD S.hi = fr h := by rw [g.hi]; rfl
  have wq : ∀ x : Int, (whole S = x) → True := fun _ _ => trivial
  rw [nx]
  unfold sD at e ⊢
  rw [hh] at e ⊢
  have f4' : decide (S.lo = (whole S : Rat)) = false → F_quotient [fr 1, fr (S.lo - (whole S : Rat))] w = .ok (fr (1 / (S.lo - (whole S : Rat)))) w := fun q => f4 (by simpa using q)
  clear f4 nx hh g z z1 zw zh ei w0
  generalize decide (S.lo = (whole S : Rat)) = dq at *
  generalize fr (S.lo - (whole S : Rat)) = R1 at *
  generalize fr (1 / (S.lo - (whole S : Rat))) = R2 at *
  generalize fr (1 / (h - (whole S : Rat))) = R3 at *
  generalize fr (h - (whole S : Rat)) = R4 at *
  generalize first S = f at *
  generalize whole S = q at *
  obtain ⟨lo, li, hi, hn⟩ := S
  simp only at *
  have hd : cmpD .Eq (.int ((lo.den : Nat) : Int)) (.int 1) = some (.bl (decide (((lo.den : Nat) : Int) = 1))) := p_eqi _ _
  have hl2 : ws.length < 16777216 := by omega
  have f4'' : (if dq = true then (R.ok D.non w) else F_quotient [fr 1, R1] w) = .ok (if dq = true then .non else R2) w := by
    cases dq with
    | true => rfl
    | false => rw [if_neg (by decide), if_neg (by decide)]; exact f4' rfl
  cases li with
  | false =>
    simp only [Bool.false_and, Bool.false_eq_true, if_false] at hf
    simp [b_simplest_of_1, q_simplest_of_1_0, q_simplest_of_1_1, q_simplest_of_1_2, q_simplest_of_1_3, q_simplest_of_1_4, q_simplest_of_1_5, q_simplest_of_1_6, q_simplest_of_1_7, sizeLine, a, ← hf, e, f1, f2, f3, f4'', ec, one_eq, nothing_eq, hl2]
  | true =>
    generalize decide (((lo.den : Nat) : Int) = 1) = dd at *
    cases dd with
    | true =>
      simp only [Bool.and_self, if_true] at hf
      subst hf
      simp [b_simplest_of_1, q_simplest_of_1_0, q_simplest_of_1_1, q_simplest_of_1_2, q_simplest_of_1_3, q_simplest_of_1_4, q_simplest_of_1_5, q_simplest_of_1_6, q_simplest_of_1_7, sizeLine, a, e, f1, f2, f3, f4'', ec, one_eq, nothing_eq, hl2, hd, -p_eqi]
    | false =>
      simp only [Bool.and_false, Bool.false_eq_true, if_false] at hf
      simp [b_simplest_of_1, q_simplest_of_1_0, q_simplest_of_1_1, q_simplest_of_1_2, q_simplest_of_1_3, q_simplest_of_1_4, q_simplest_of_1_5, q_simplest_of_1_6, q_simplest_of_1_7, sizeLine, a, ← hf, e, f1, f2, f3, f4'', ec, one_eq, nothing_eq, hl2, hd, -p_eqi]
end
end Rf.K00
namespace Rf.K00
open PySem L2 PySem.Spec PyProof.Rows Rf
open Sf (Go Ok whole first next)
section
variable {w : W} {d0 : D}
theorem loop_all : ∀ (n : Nat) (ds : List D) {S : Sf.St} {ws : List D} {b2 b4 b5 b6 b7 b8 b9 b10 b11 b12 : Sl} {vs : List Int} {f : Int}, Zs 900 S → Ok S → Sf.walk n S = some (vs, f) → n ≤ ds.length → ws.length + n ≤ 10000 →
    ∃ b3 b4' b5' b6' b7' b8' b9' b10' b11', forL (evTg (.n 4)) (evTs b_simplest_of_1) ds [.v d0, .o ws, b2, .v (sD S), b4, b5, b6, b7, b8, b9, b10, b11, b12] w =
      .ok (.nx [.v d0, .o (ws ++ vs.map .int), .v (.int f), b3, b4', b5', b6', b7', b8', b9', b10', b11', b12]) w
  | 0, ds, S, ws, b2, b4, b5, b6, b7, b8, b9, b10, b11, b12, vs, f, z, o, h, hn, hl => by cases h
  | n + 1, [], S, ws, b2, b4, b5, b6, b7, b8, b9, b10, b11, b12, vs, f, z, o, h, hn, hl => by simp at hn
  | n + 1, d :: ds, S, ws, b2, b4, b5, b6, b7, b8, b9, b10, b11, b12, vs, f, z, o, h, hn, hl => by
    unfold Sf.walk at h
    unfold forL
    simp only [p_tgn, List.set_cons_succ, List.set_cons_zero]
    split at h
    · rename_i c
      cases h
      rw [loop_stop z o c, List.map_nil, List.append_nil]
      exact ⟨_, _, _, _, _, _, _, _, _, rfl⟩
    · rename_i c
      obtain ⟨q, e1, e2⟩ := Option.map_eq_some_iff.mp h
      cases e2
      obtain ⟨k, g⟩ := Sf.go_of o c
      rw [loop_go g z (by omega) c]
      simp only [p_bnd]
      obtain ⟨c3, c4, c5, c6, c7, c8, c9, c10, c11, e⟩ := loop_all n ds (ws := ws ++ [.int (whole S)]) (b2 := .v (.int (first S))) (b4 := .v d) (b5 := .v (fr S.lo)) (b6 := .v (.bl S.li)) (b7 := .v (fr k)) (b8 := .v (.bl S.hn)) (b9 := .v (.int (whole S))) (b10 := .v (fr (S.lo - (whole S : Rat)))) (b11 := .v (fr (1 / (k - (whole S : Rat))))) (b12 := b12) (zs_next g z) g.next_ok e1 (by simp at hn; omega) (by simp; omega)
      refine ⟨c3, c4, c5, c6, c7, c8, c9, c10, c11, ?_⟩
      rw [e]
      simp
end
theorem walk_facts : ∀ (n : Nat) {S : Sf.St} {vs : List Int} {f : Int}, Ok S → Sf.walk n S = some (vs, f) → (1 ≤ S.lo → 1 ≤ f) ∧ (vs = [] ∨ 1 ≤ f) ∧ ∀ v ∈ vs, 0 ≤ v
  | 0, S, vs, f, o, h => by cases h
  | n + 1, S, vs, f, o, h => by
    unfold Sf.walk at h
    split at h
    · rename_i c
      cases h
      refine ⟨fun h1 => ?_, .inl rfl, fun v hv => by cases hv⟩
      have : 1 ≤ whole S := by
        show 1 ≤ S.lo.floor
        rw [Rat.le_floor_iff]; exact h1
      rw [first_eq]; split <;> omega
    · rename_i c
      obtain ⟨q, e1, e2⟩ := Option.map_eq_some_iff.mp h
      cases e2
      obtain ⟨k, g⟩ := Sf.go_of o c
      obtain ⟨a1, a2, a3⟩ := walk_facts n g.next_ok e1
      have := a1 g.ge1
      refine ⟨fun _ => this, .inr this, fun v hv => ?_⟩
      rcases List.mem_cons.mp hv with q | q
      · rw [q]; exact (whole_le o).1
      · exact a3 v q
/-- the whole parts, from the innermost one on -/
def rval : List Int → Rat → Rat
  | [], x => x
  | v :: l, x => rval l ((v : Rat) + 1 / x)
theorem rval_app : ∀ (l : List Int) (v : Int) (x : Rat), rval (l ++ [v]) x = (v : Rat) + 1 / rval l x
  | [], v, x => rfl
  | u :: l, v, x => rval_app l v _
theorem rval_val : ∀ (ws : List Int) (f : Int), rval ws.reverse (f : Rat) = Sf.val ws f
  | [], f => rfl
  | v :: ws, f => by
    rw [List.reverse_cons, rval_app, rval_val ws f]; rfl
theorem lap_nd {v : Int} {x : Rat} (h : 0 < x) : ((v : Rat) + 1 / x).num = v * x.num + x.den ∧ ((((v : Rat) + 1 / x).den : Nat) : Int) = x.num := by
  obtain ⟨i1, i2⟩ := Sf.inv_nd h
  obtain ⟨s1, s2⟩ := Sf.add_int (1 / x) v
  rw [Rat.add_comm, s1, s2, i1, i2]
  exact ⟨by omega, rfl⟩
theorem lap_pos {v : Int} {x : Rat} (h : 0 < x) (hv : 0 ≤ v) : 0 < (v : Rat) + 1 / x := by
  refine Sf.pos_num ?_
  rw [(lap_nd h).1]
  have := Int.mul_nonneg hv (Int.le_of_lt (Sf.num_pos h))
  have := Sf.dpos x
  omega
theorem lap_sz {v : Int} {x : Rat} {n : Nat} (h : 0 < x) (hv : 0 ≤ v) (z : Sz n ((v : Rat) + 1 / x)) : Sz n x ∧ v.natAbs < 2 ^ n := by
  obtain ⟨e1, e2⟩ := lap_nd (v := v) h
  have hn := Sf.num_pos h
  have m := Int.mul_nonneg hv (Int.le_of_lt hn)
  have m2 : v * 1 ≤ v * x.num := Int.mul_le_mul_of_nonneg_left (by omega) hv
  have := Sf.dpos x
  obtain ⟨z1, z2⟩ := z
  rw [e1] at z1
  refine ⟨⟨by omega, by omega⟩, by omega⟩
theorem rval_sz {n : Nat} : ∀ (l : List Int) {x : Rat}, 0 < x → (∀ v ∈ l, 0 ≤ v) → Sz n (rval l x) → Sz n x
  | [], x, h, h0, z => z
  | v :: l, x, h, h0, z => by
    have hv := h0 v (List.mem_cons_self ..)
    exact (lap_sz h hv (rval_sz l (lap_pos h hv) (fun u hu => h0 u (List.mem_cons_of_mem _ hu)) z)).1
section
variable {w : W} {d0 : D}
theorem lap_ok {x : Rat} {v : Int} {b1 b2 b3 b4 b5 b6 b7 b8 b10 b11 : Sl} (h : 0 < x) (hv : 0 ≤ v) (z : Sz 900 ((v : Rat) + 1 / x)) :
    evTs b_simplest_of_3 [.v d0, b1, b2, b3, b4, b5, b6, b7, b8, .v (.int v), b10, b11, .v (fr x)] w = .ok (.nx [.v d0, b1, b2, b3, b4, b5, b6, b7, b8, .v (.int v), b10, b11, .v (fr ((v : Rat) + 1 / x))]) w := by
  obtain ⟨z1, z2⟩ := lap_sz h hv z
  have m : CMulW v x.num := Wd.cm z2 z1.1 (by decide) (by decide)
  obtain ⟨e1, e2⟩ := lap_nd (v := v) h
  have e : fr ((v : Rat) + 1 / x) = .tup [.int (v * x.num + x.den), .int x.num] := by
    unfold fr; rw [e1, e2]
  rw [e]
  simp [b_simplest_of_3, q_simplest_of_3_0, m, sizeLine]
theorem loop_back : ∀ (l : List Int) {x : Rat} {b1 b2 b3 b4 b5 b6 b7 b8 b9 b10 b11 : Sl}, (l = [] ∨ 0 < x) → (∀ v ∈ l, 0 ≤ v) → Sz 900 (rval l x) →
    ∃ b9', forL (evTg (.n 9)) (evTs b_simplest_of_3) (l.map .int) [.v d0, b1, b2, b3, b4, b5, b6, b7, b8, b9, b10, b11, .v (fr x)] w = .ok (.nx [.v d0, b1, b2, b3, b4, b5, b6, b7, b8, b9', b10, b11, .v (fr (rval l x))]) w
  | [], x, b1, b2, b3, b4, b5, b6, b7, b8, b9, b10, b11, h, h0, z => ⟨b9, rfl⟩
  | v :: l, x, b1, b2, b3, b4, b5, b6, b7, b8, b9, b10, b11, h, h0, z => by
    have hv := h0 v (List.mem_cons_self ..)
    have hx : 0 < x := h.resolve_left (by simp)
    have h0' : ∀ u ∈ l, 0 ≤ u := fun u hu => h0 u (List.mem_cons_of_mem _ hu)
    have z' := rval_sz l (lap_pos hx hv) h0' z
    obtain ⟨b9', e2⟩ := loop_back l (b1 := b1) (b2 := b2) (b3 := b3) (b4 := b4) (b5 := b5) (b6 := b6) (b7 := b7) (b8 := b8) (b9 := .v (.int v)) (b10 := b10) (b11 := b11) (.inr (lap_pos hx hv)) h0' z
    refine ⟨b9', ?_⟩
    rw [List.map_cons]
    unfold forL
    simp only [p_tgn, List.set_cons_succ, List.set_cons_zero]
    rw [lap_ok hx hv z']
    simp only [p_bnd]
    exact e2
end
end Rf.K00
namespace Rf.K00
open PySem L2 PySem.Spec PyProof.Rows Rf
open Sf (Go Ok whole first next)
/-- the half between is inside -/
theorem half_in {a b : Rat} (h : a < b) : a < (a + b) * (1 / 2 : Rat) ∧ (a + b) * (1 / 2 : Rat) < b := by
  have e : (1 / 2 : Rat) + 1 / 2 = 1 := by decide +kernel
  constructor
  · have : (a + a) * (1 / 2 : Rat) < (a + b) * (1 / 2 : Rat) := Sf.mul_lt (by decide +kernel) (by grind)
    have : (a + a) * (1 / 2 : Rat) = a := by grind
    grind
  · have : (a + b) * (1 / 2 : Rat) < (b + b) * (1 / 2 : Rat) := Sf.mul_lt (by decide +kernel) (by grind)
    have : (b + b) * (1 / 2 : Rat) = b := by grind
    grind
theorem some_in {S : Sf.St} {h : Rat} {n : Nat} (o : Ok S) (e : S.hi = some h) (z : Zs n S) : ∃ x, S.In x ∧ Sz (2 * n + 3) x := by
  rcases o.ne h e with q | q
  · obtain ⟨a, b⟩ := half_in q
    refine ⟨_, ⟨.inl a, by unfold Sf.St.up; rw [e]; exact .inl b⟩, ?_⟩
    exact z_mul (z_add z.lo (z.hi h e) (Nat.le_refl _)) (show Sz 2 (1 / 2 : Rat) from by unfold Sz; decide +kernel) (by omega)
  · exact ⟨S.lo, ⟨.inr ⟨rfl, q.2.1⟩, by unfold Sf.St.up; rw [e]; exact .inr ⟨q.1, q.2.2⟩⟩, z.lo.up (by omega)⟩
theorem min_ge {S : Sf.St} {s : Rat} (o : Ok S) (m : Sf.Min S s) : 0 ≤ s := Rat.le_trans o.n0 (Sf.In.ge m.1)
theorem num_ge {s : Rat} (h : 0 ≤ s) : 0 ≤ s.num := Rat.num_nonneg.mpr h
theorem min_sz {S : Sf.St} {s h : Rat} {n : Nat} (o : Ok S) (e : S.hi = some h) (z : Zs n S) (m : Sf.Min S s) : Sz (2 * n + 3) s := by
  obtain ⟨x, hx, zx⟩ := some_in o e z
  obtain ⟨a, b⟩ := m.2 x hx
  have := num_ge (min_ge o m)
  exact ⟨by have := zx.1; omega, by have := zx.2; omega⟩
theorem most_eq : c_MOST_PARTS = .int 1000000 := by kernel_rfl
theorem sq_nx {t : Rf.T} {r : Ts} {s s1 : Rf.S} {w w1 : W} {x : R Fl} (h : evT t s w = .ok (.nx s1) w1) (k : evTs r s1 w1 = x) : evTs (.cons t r) s w = x := by
  rw [p_tsC, h]; exact k
theorem sq_rt {t : Rf.T} {r : Ts} {s : Rf.S} {w w1 : W} {d : D} (h : evT t s w = .ok (.rt d) w1) : evTs (.cons t r) s w = .ok (.rt d) w1 := by
  rw [p_tsC, h]; rfl
theorem run_of {n : Nat} {g : Ts} {a : List D} {w w1 : W} {d : D} (h : evTs g (st0 n a) w = .ok (.rt d) w1) : runF n (evTs g) a w = .ok d w1 := by
  rw [p_runF, h]; rfl
theorem for_r1 {x : Str} {d : D} {rg : List D} {tg : Tg} {b : Ts} {s : Rf.S} {w : W} (h : rangeD1 d = some rg) : evT (.for tg (.r1 (.g x d)) b) s w = forL (evTg tg) (evTs b) rg s w := by
  rw [p_tfor, p_ir1, p_g]
  simp only [p_bnd]
  rw [h]
  rfl
theorem rg_ex : ∃ rg, rangeD1 c_MOST_PARTS = some rg ∧ rg.length = 1000000 := by
  rw [most_eq]
  refine ⟨_, r1_ok (k := 1000000) (by decide), ?_⟩
  rw [rng_eq, List.length_map, List.length_range]; rfl
/-- a stretch as the code meets it -/
structure Gd (n : Nat) (S : Sf.St) : Prop where
  ok : Ok S
  zs : Zs n S
  end_ : ∃ h, S.hi = some h
theorem simplest_run {S : Sf.St} (g : Gd 400 S) : ∃ s, Sf.Min S s ∧ ∀ w, F_simplest_of [sD S] w = .ok (fr s) w := by
  obtain ⟨o, z, h, e⟩ := g
  have hl : Sf.Low 400 S := fun k hk => (z.hi k hk).2
  obtain ⟨⟨ws, f⟩, hw⟩ := Sf.walk_some 400 o hl
  have m := Sf.walk_min _ o hw
  refine ⟨_, m, fun w => ?_⟩
  obtain ⟨f1, f2, f3⟩ := walk_facts _ o hw
  have zs := (min_sz o e z m).up (show 2 * 400 + 3 ≤ 900 by decide)
  obtain ⟨rg, hr, hlen⟩ := rg_ex
  obtain ⟨b3, b4, b5, b6, b7, b8, b9, b10, b11, l1⟩ := loop_all 802 rg (w := w) (d0 := sD S) (ws := []) (b2 := .v (.int 0)) (b4 := .e) (b5 := .e) (b6 := .e) (b7 := .e) (b8 := .e) (b9 := .e) (b10 := .e) (b11 := .e) (b12 := .e) ⟨z.lo.up (by decide), fun k hk => (z.hi k hk).up (by decide)⟩ o hw (by rw [hlen]; decide) (by decide)
  rw [List.nil_append] at l1
  obtain ⟨b9', l2⟩ := loop_back ws.reverse (x := (f : Rat)) (w := w) (d0 := sD S) (b1 := .o (ws.map .int)) (b2 := .v (.int f)) (b3 := b3) (b4 := b4) (b5 := b5) (b6 := b6) (b7 := b7) (b8 := b8) (b9 := b9) (b10 := b10) (b11 := b11)
    (by rcases f2 with q | q
        · exact .inl (by rw [q]; rfl)
        · refine .inr (Sf.pos_num ?_)
          rw [Sf.int_num]; omega) (fun v hv => f3 v (List.mem_reverse.mp hv)) (by rw [rval_val]; exact zs)
  rw [rval_val, ← fr_i] at l2
  have hl2 : ((ws.map D.int).reverse) = ws.reverse.map D.int := by rw [List.map_reverse]
  generalize sD S = d at *
  generalize fr (Sf.val ws f) = F at *
  have q0 : evT q_simplest_of_0 [.v d, .e, .e, .e, .e, .e, .e, .e, .e, .e, .e, .e, .e] w = .ok (.nx [.v d, .o [], .v (.int 0), .v d, .e, .e, .e, .e, .e, .e, .e, .e, .e]) w := by
    simp [q_simplest_of_0]
  have q1 : evT q_simplest_of_1 [.v d, .o [], .v (.int 0), .v d, .e, .e, .e, .e, .e, .e, .e, .e, .e] w = .ok (.nx [.v d, .o (ws.map .int), .v (.int f), b3, b4, b5, b6, b7, b8, b9, b10, b11, .e]) w := by
    unfold q_simplest_of_1
    rw [for_r1 hr]
    exact l1
  have q2 : evT q_simplest_of_2 [.v d, .o (ws.map .int), .v (.int f), b3, b4, b5, b6, b7, b8, b9, b10, b11, .e] w = .ok (.nx [.v d, .o (ws.map .int), .v (.int f), b3, b4, b5, b6, b7, b8, b9, b10, b11, .v (.tup [.int f, .int 1])]) w := by
    simp [q_simplest_of_2, sizeLine]
  have q3 : evT q_simplest_of_3 [.v d, .o (ws.map .int), .v (.int f), b3, b4, b5, b6, b7, b8, b9, b10, b11, .v (.tup [.int f, .int 1])] w = .ok (.nx [.v d, .o (ws.map .int), .v (.int f), b3, b4, b5, b6, b7, b8, b9', b10, b11, .v F]) w := by
    unfold q_simplest_of_3
    rw [p_tfor]
    simp [revD]
    rw [← List.map_reverse]
    exact l2
  have q4 : evT q_simplest_of_4 [.v d, .o (ws.map .int), .v (.int f), b3, b4, b5, b6, b7, b8, b9', b10, b11, .v F] w = .ok (.rt F) w := by
    simp [q_simplest_of_4]
  unfold F_simplest_of
  rw [tree_simplest_of]
  exact run_of (sq_nx q0 (sq_nx q1 (sq_nx q2 (sq_nx q3 (sq_rt q4)))))
end Rf.K00
namespace Rf.K00
open PySem L2 PySem.Spec PyProof.Rows Rf
def pr (a b : Int) : D := .tup [.int a, .int b]
theorem mul_bd {x u a : Int} (h : 0 < x) (h0 : 0 ≤ u) (h1 : x * u ≤ a) : u ≤ a := by
  have : 1 * u ≤ x * u := Int.mul_le_mul_of_nonneg_right h h0
  omega
theorem step_eq {x y q t a u v : Int} (hx : x = q * y + t) (ha : a = x * u + y * v) : a = y * (v + q * u) + t * u := by
  subst hx; rw [ha]; grind
theorem det_l {l0 l1 r0 r1 q : Int} (h : r0 * l1 - l0 * r1 = 1) : r0 * (l1 + q * r1) - (l0 + q * r0) * r1 = 1 := by
  rw [← h]; grind
theorem det_r {l0 l1 r0 r1 q : Int} (h : r0 * l1 - l0 * r1 = 1) : (r0 + q * l0) * l1 - l0 * (r1 + q * l1) = 1 := by
  rw [← h]; grind
structure Nn (l0 l1 r0 r1 : Int) : Prop where
  a0 : 0 ≤ l0
  a1 : 0 < l1
  c0 : 0 < r0
  c1 : 0 ≤ r1
  det : r0 * l1 - l0 * r1 = 1
/-- the pair by which both are told: near times x, far times y -/
def Iv (a b : Int) (isr : Bool) (l0 l1 r0 r1 x y : Int) : Prop :=
  a = x * (if isr then r0 else l0) + y * (if isr then l0 else r0) ∧ b = x * (if isr then r1 else l1) + y * (if isr then l1 else r1)
def pC : S → W → R D := ev (.cmp .NotEq (.ix (.v 3) (.k (.int 1))) (.k (.int 0)))
def pB : S → W → R Fl := evTs b_parents_of_2
section
variable {d0 : D} {l0 l1 r0 r1 x y : Int} {b5 b6 b7 : Sl} {w : W}
theorem pC_ok {isr : Bool} : pC [.v d0, .v (pr l0 l1), .v (pr r0 r1), .v (pr x y), .v (.bl isr), b5, b6, b7] w = .ok (.bl (!decide (y = 0))) w := by
  simp [pC, pr]
theorem pB_t {q t m : Int} (hy : 0 < y) (yb : y.natAbs < 2 ^ 900) (eq : x / y = q) (et : x % y = t) (em : (if t = 0 then q - 1 else q) = m) (h1 : m.natAbs < 2 ^ 900) (h2 : r0.natAbs < 2 ^ 900) (h3 : r1.natAbs < 2 ^ 900) :
    pB [.v d0, .v (pr l0 l1), .v (pr r0 r1), .v (pr x y), .v (.bl true), b5, b6, b7] w = .ok (.nx [.v d0, .v (pr (l0 + m * r0) (l1 + m * r1)), .v (pr r0 r1), .v (pr y t), .v (.bl false), .v (.int q), .v (.int t), .v (.int m)]) w := by
  have d : CDivW x y := cdiv_of hy yb (by decide) (by decide)
  have m1 : CMulW m r0 := Wd.cm h1 h2 (by decide) (by decide)
  have m2 : CMulW m r1 := Wd.cm h1 h3 (by decide) (by decide)
  by_cases c : t = 0
  · subst c
    simp only [if_true] at em
    simp [pB, pr, b_parents_of_2, q_parents_of_2_0, q_parents_of_2_1, q_parents_of_2_2, q_parents_of_2_3, hy, d, eq, et, em, m1, m2, sizeLine]
  · rw [if_neg c] at em
    subst em
    simp [pB, pr, b_parents_of_2, q_parents_of_2_0, q_parents_of_2_1, q_parents_of_2_2, q_parents_of_2_3, hy, d, eq, et, c, m1, m2, sizeLine]
theorem pB_f {q t m : Int} (hy : 0 < y) (yb : y.natAbs < 2 ^ 900) (eq : x / y = q) (et : x % y = t) (em : (if t = 0 then q - 1 else q) = m) (h1 : m.natAbs < 2 ^ 900) (h2 : l0.natAbs < 2 ^ 900) (h3 : l1.natAbs < 2 ^ 900) :
    pB [.v d0, .v (pr l0 l1), .v (pr r0 r1), .v (pr x y), .v (.bl false), b5, b6, b7] w = .ok (.nx [.v d0, .v (pr l0 l1), .v (pr (r0 + m * l0) (r1 + m * l1)), .v (pr y t), .v (.bl true), .v (.int q), .v (.int t), .v (.int m)]) w := by
  have d : CDivW x y := cdiv_of hy yb (by decide) (by decide)
  have m1 : CMulW m l0 := Wd.cm h1 h2 (by decide) (by decide)
  have m2 : CMulW m l1 := Wd.cm h1 h3 (by decide) (by decide)
  by_cases c : t = 0
  · subst c
    simp only [if_true] at em
    simp [pB, pr, b_parents_of_2, q_parents_of_2_0, q_parents_of_2_1, q_parents_of_2_2, q_parents_of_2_3, hy, d, eq, et, em, m1, m2, sizeLine]
  · rw [if_neg c] at em
    subst em
    simp [pB, pr, b_parents_of_2, q_parents_of_2_0, q_parents_of_2_1, q_parents_of_2_2, q_parents_of_2_3, hy, d, eq, et, c, m1, m2, sizeLine]
end
end Rf.K00
namespace Rf.K00
open PySem L2 PySem.Spec PyProof.Rows Rf
theorem na_lt {u a : Int} {n : Nat} (h0 : 0 ≤ u) (h : u ≤ a) (ha : a.natAbs < 2 ^ n) : u.natAbs < 2 ^ n := by omega
theorem quo_le {x y q t : Int} (hx : x = q * y + t) (hy : 0 < y) (ht : 0 ≤ t) (hq : 0 ≤ q) : q ≤ x := by
  have : q * 1 ≤ q * y := Int.mul_le_mul_of_nonneg_left (by omega) hq
  omega
theorem one_of {a b y u1 v1 u2 v2 q : Int} (hg : Int.gcd a b = 1) (hy : 0 < y) (h1 : a = q * y * u1 + y * v1) (h2 : b = q * y * u2 + y * v2) : y = 1 := by
  have d1 : y ∣ a := ⟨q * u1 + v1, by rw [h1]; grind⟩
  have d2 : y ∣ b := ⟨q * u2 + v2, by rw [h2]; grind⟩
  have := Int.gcd_eq_one_iff.mp hg y d1 d2
  have := Int.le_of_dvd (by decide) this
  omega
theorem par_step {d0 : D} {a b l0 l1 r0 r1 x y : Int} {isr : Bool} (hg : Int.gcd a b = 1) (ab : a.natAbs < 2 ^ 900) (bb : b.natAbs < 2 ^ 900) (n : Nn l0 l1 r0 r1) (iv : Iv a b isr l0 l1 r0 r1 x y) (hx : 0 < x) (hy : 0 < y) :
    ∃ l0' l1' r0' r1' b5' b6' b7', (∀ w b5 b6 b7, pB [.v d0, .v (pr l0 l1), .v (pr r0 r1), .v (pr x y), .v (.bl isr), b5, b6, b7] w = .ok (.nx [.v d0, .v (pr l0' l1'), .v (pr r0' r1'), .v (pr y (x % y)), .v (.bl !isr), b5', b6', b7']) w) ∧
      Nn l0' l1' r0' r1' ∧ (x % y ≠ 0 → Iv a b (!isr) l0' l1' r0' r1' y (x % y)) ∧ (x % y = 0 → l0' + r0' = a ∧ l1' + r1' = b) := by
  obtain ⟨na0, na1, nc0, nc1, nd⟩ := n
  generalize eq : x / y = q
  generalize et : x % y = t
  have ht : 0 ≤ t := by rw [← et]; exact Int.emod_nonneg _ (by omega)
  have hq : 0 ≤ q := by rw [← eq]; exact Int.ediv_nonneg (by omega) (by omega)
  have hxq : x = q * y + t := by rw [← eq, ← et, Int.mul_comm]; exact (Int.mul_ediv_add_emod x y).symm
  have qx := quo_le hxq hy ht hq
  have q1 : t = 0 → 1 ≤ q := fun z => by
    by_cases c : q = 0
    · subst c; subst z; omega
    · omega
  generalize em : (if t = 0 then q - 1 else q) = m
  have hm : 0 ≤ m := by
    rw [← em]; split
    · rename_i c; have := q1 c; omega
    · exact hq
  have mq : m ≤ q := by rw [← em]; split <;> omega
  cases isr with
  | true =>
    obtain ⟨i1, i2⟩ := iv
    simp only [if_true] at i1 i2
    have p1 : 0 ≤ y * l0 := Int.mul_nonneg (by omega) na0
    have p2 : 0 ≤ x * r1 := Int.mul_nonneg (by omega) nc1
    have p3 : 0 ≤ y * l1 := Int.mul_nonneg (by omega) (by omega)
    have xa : x ≤ a := by
      have : x * 1 ≤ x * r0 := Int.mul_le_mul_of_nonneg_left (by omega) (by omega)
      omega
    have yb : y ≤ b := by
      have : y * 1 ≤ y * l1 := Int.mul_le_mul_of_nonneg_left (by omega) (by omega)
      omega
    have r0a := mul_bd (a := a) hx (by omega : 0 ≤ r0) (by omega)
    have r1b := mul_bd (a := b) hx nc1 (by omega)
    refine ⟨l0 + m * r0, l1 + m * r1, r0, r1, _, _, _, fun w b5 b6 b7 => pB_t hy (na_lt (by omega) yb bb) eq et em (na_lt hm (by omega) ab) (na_lt (by omega) r0a ab) (na_lt nc1 r1b bb), ⟨by have := Int.mul_nonneg hm (by omega : 0 ≤ r0); omega, by have := Int.mul_nonneg hm nc1; omega, nc0, nc1, det_l nd⟩, fun c => ?_, fun c => ?_⟩
    · rw [if_neg c] at em
      subst em
      exact ⟨step_eq hxq i1, step_eq hxq i2⟩
    · subst c
      rw [if_pos rfl] at em
      have hxq : x = q * y := by omega
      subst hxq
      have := one_of hg hy i1 i2
      subst this
      subst em
      constructor <;> grind
  | false =>
    obtain ⟨i1, i2⟩ := iv
    simp only [Bool.false_eq_true, if_false] at i1 i2
    have p1 : 0 ≤ x * l0 := Int.mul_nonneg (by omega) na0
    have p2 : 0 ≤ y * r1 := Int.mul_nonneg (by omega) nc1
    have p3 : 0 ≤ x * l1 := Int.mul_nonneg (by omega) (by omega)
    have p4 : 0 ≤ y * r0 := Int.mul_nonneg (by omega) (by omega)
    have xb : x ≤ b := by
      have : x * 1 ≤ x * l1 := Int.mul_le_mul_of_nonneg_left (by omega) (by omega)
      omega
    have ya : y ≤ a := by
      have : y * 1 ≤ y * r0 := Int.mul_le_mul_of_nonneg_left (by omega) (by omega)
      omega
    have l0a := mul_bd (a := a) hx na0 (by omega)
    have l1b := mul_bd (a := b) hx (by omega : 0 ≤ l1) (by omega)
    refine ⟨l0, l1, r0 + m * l0, r1 + m * l1, _, _, _, fun w b5 b6 b7 => pB_f hy (na_lt (by omega) ya ab) eq et em (na_lt hm (by omega) bb) (na_lt na0 l0a ab) (na_lt (by omega) l1b bb), ⟨na0, na1, by have := Int.mul_nonneg hm na0; omega, by have := Int.mul_nonneg hm (by omega : 0 ≤ l1); omega, det_r nd⟩, fun c => ?_, fun c => ?_⟩
    · rw [if_neg c] at em
      subst em
      exact ⟨step_eq hxq i1, step_eq hxq i2⟩
    · subst c
      rw [if_pos rfl] at em
      have hxq : x = q * y := by omega
      subst hxq
      have := one_of hg hy i1 i2
      subst this
      subst em
      constructor <;> grind
theorem half_step {x y : Int} {k : Nat} (hy : 0 < y) (h : y ≤ x) (hb : x * y < 2 ^ (k + 1)) : y * (x % y) < 2 ^ k := by
  have h1 := Int.emod_lt_of_pos x hy
  have h2 := Int.emod_nonneg x (show y ≠ 0 by omega)
  have h3 : y * (x / y) + x % y = x := Int.mul_ediv_add_emod x y
  have h4 : 1 ≤ x / y := by
    have := Int.ediv_nonneg (a := x) (b := y) (by omega) (by omega)
    by_cases c : x / y = 0
    · rw [c] at h3; omega
    · omega
  have h5 : y * 1 ≤ y * (x / y) := Int.mul_le_mul_of_nonneg_left h4 (by omega)
  generalize x % y = t at *
  have h6 : 2 * t ≤ x := by omega
  have h7 : (2 * t) * y ≤ x * y := Int.mul_le_mul_of_nonneg_right h6 (by omega)
  rw [Int.pow_succ] at hb
  have h8 : (2 * t) * y = 2 * (y * t) := by grind
  omega
theorem par_loop {d0 : D} {a b : Int} (hg : Int.gcd a b = 1) (ab : a.natAbs < 2 ^ 900) (bb : b.natAbs < 2 ^ 900) : ∀ (k n : Nat) {l0 l1 r0 r1 x y : Int} {isr : Bool}, Nn l0 l1 r0 r1 → Iv a b isr l0 l1 r0 r1 x y → 0 < y → y ≤ x → x * y < 2 ^ k → k + 1 ≤ n →
    ∃ l0' l1' r0' r1' b3 b4 b5' b6' b7', (∀ w b5 b6 b7, whileL pC pB n [.v d0, .v (pr l0 l1), .v (pr r0 r1), .v (pr x y), .v (.bl isr), b5, b6, b7] w = .ok (.nx [.v d0, .v (pr l0' l1'), .v (pr r0' r1'), b3, b4, b5', b6', b7']) w) ∧ Nn l0' l1' r0' r1' ∧ l0' + r0' = a ∧ l1' + r1' = b
  | 0, n, l0, l1, r0, r1, x, y, isr, nn, iv, hy, hl, hb, hn => by
    have : 1 * 1 ≤ x * y := Int.mul_le_mul (by omega) (by omega) (by decide) (by omega)
    simp at hb; omega
  | k + 1, 0, l0, l1, r0, r1, x, y, isr, nn, iv, hy, hl, hb, hn => by omega
  | k + 1, n + 1, l0, l1, r0, r1, x, y, isr, nn, iv, hy, hl, hb, hn => by
    obtain ⟨l0', l1', r0', r1', c5, c6, c7, e, nn', h1, h2⟩ := par_step (d0 := d0) hg ab bb nn iv (by omega) hy
    have hs := half_step hy hl hb
    have st : ∀ w b5 b6 b7, whileL pC pB (n + 1) [.v d0, .v (pr l0 l1), .v (pr r0 r1), .v (pr x y), .v (.bl isr), b5, b6, b7] w = whileL pC pB n [.v d0, .v (pr l0' l1'), .v (pr r0' r1'), .v (pr y (x % y)), .v (.bl !isr), c5, c6, c7] w := fun w b5 b6 b7 => by
      refine Wd.while_step ?_ (e w b5 b6 b7)
      rw [pC_ok, decide_eq_false (by omega : ¬ y = 0)]; rfl
    by_cases c : x % y = 0
    · obtain ⟨m, rfl⟩ : ∃ m, n = m + 1 := ⟨n - 1, by omega⟩
      refine ⟨l0', l1', r0', r1', .v (pr y (x % y)), .v (.bl !isr), c5, c6, c7, fun w b5 b6 b7 => ?_, nn', h2 c⟩
      rw [st]
      refine Wd.while_end ?_
      rw [pC_ok, decide_eq_true c]; rfl
    · have hp : 0 < x % y := by have := Int.emod_nonneg x (show y ≠ 0 by omega); omega
      obtain ⟨m0, m1, m2, m3, c3, c4, d5, d6, d7, e2, r⟩ := par_loop hg ab bb k n nn' (h1 c) hp (Int.le_of_lt (Int.emod_lt_of_pos x hy)) hs (by omega)
      exact ⟨m0, m1, m2, m3, c3, c4, d5, d6, d7, fun w b5 b6 b7 => by rw [st, e2], r⟩
end Rf.K00
namespace Rf.K00
open PySem L2 PySem.Spec PyProof.Rows Rf
/-- the paper of a fraction -/
def Pap (s : Rat) (d : D) : Prop := (s.den = 1 ∧ d = .tup []) ∨ (s.den ≠ 1 ∧ ∃ l0 l1 r0 r1, Sf.Par s l0 l1 r0 r1 ∧ d = .tup [pr l0 l1, pr r0 r1])
theorem par_all {d0 : D} {a b : Int} (hg : Int.gcd a b = 1) (ha : 0 < a) (hb : 0 < b) (ab : a.natAbs < 2 ^ 900) (bb : b.natAbs < 2 ^ 900) {n : Nat} (hn : 2000 ≤ n) :
    ∃ l0' l1' r0' r1' b3 b4 b5' b6' b7', (∀ w, whileL pC pB n [.v d0, .v (pr 0 1), .v (pr 1 0), .v (pr a b), .v (.bl true), .e, .e, .e] w = .ok (.nx [.v d0, .v (pr l0' l1'), .v (pr r0' r1'), b3, b4, b5', b6', b7']) w) ∧ Nn l0' l1' r0' r1' ∧ l0' + r0' = a ∧ l1' + r1' = b := by
  have nn : Nn 0 1 1 0 := ⟨by decide, by decide, by decide, by decide, by decide⟩
  have iv : Iv a b true 0 1 1 0 a b := ⟨by simp, by simp⟩
  have big : ∀ {x y : Int}, 0 < x → 0 < y → x.natAbs < 2 ^ 900 → y.natAbs < 2 ^ 900 → x * y < 2 ^ 1800 := fun {x y} h1 h2 h3 h4 => by
    have h := natAbs_mul_lt h3 h4
    have e : (2 : Int) ^ 1800 = ((2 ^ (900 + 900) : Nat) : Int) := by norm_cast
    rw [e]
    have := Int.mul_pos h1 h2
    omega
  by_cases c : b ≤ a
  · obtain ⟨m0, m1, m2, m3, c3, c4, d5, d6, d7, e2, r⟩ := par_loop (d0 := d0) hg ab bb 1800 n nn iv hb c (big ha hb ab bb) (by omega)
    exact ⟨m0, m1, m2, m3, c3, c4, d5, d6, d7, fun w => e2 w .e .e .e, r⟩
  · obtain ⟨l0', l1', r0', r1', c5, c6, c7, e, nn', h1, h2⟩ := par_step (d0 := d0) hg ab bb nn iv ha hb
    have em : a % b = a := Int.emod_eq_of_lt (by omega) (by omega)
    rw [em] at e h1
    obtain ⟨m, rfl⟩ : ∃ m, n = m + 1 := ⟨n - 1, by omega⟩
    obtain ⟨m0, m1, m2, m3, c3, c4, d5, d6, d7, e2, r⟩ := par_loop (d0 := d0) hg ab bb 1800 m nn' (h1 (by omega)) ha (by omega) (big hb ha bb ab) (by omega)
    refine ⟨m0, m1, m2, m3, c3, c4, d5, d6, d7, fun w => ?_, r⟩
    rw [Wd.while_step (by rw [pC_ok, decide_eq_false (by omega : ¬ b = 0)]; rfl) (e w .e .e .e)]
    exact e2 _ _ _ _
theorem wh_of {n : S → W → Nat} {c : E} {b : Ts} {s : S} {w : W} {x : R Fl} {k : Nat} (hn : n s w = k) (h : whileL (ev c) (evTs b) k s w = x) : evT (.while n c b) s w = x := by
  rw [p_twhile]
  unfold fWhile
  rw [hn]; exact h
theorem parents_run {s : Rat} (h0 : 0 ≤ s) (z : Sz 900 s) : ∃ d, Pap s d ∧ ∀ w, F_parents_of [fr s] w = .ok d w := by
  by_cases c : s.den = 1
  · refine ⟨.tup [], .inl ⟨c, rfl⟩, fun w => ?_⟩
    have q0 : evT q_parents_of_0 [.v (fr s), .e, .e, .e, .e, .e, .e, .e] w = .ok (.rt (.tup [])) w := by
      simp [q_parents_of_0, c, sizeLine]
    unfold F_parents_of
    rw [tree_parents_of]
    exact run_of (sq_rt q0)
  · have hp : 0 < s.num := by
      have := num_ge h0
      by_cases e : s.num = 0
      · exact absurd (by have := s.reduced; rw [e] at this; simpa using this) c
      · omega
    obtain ⟨l0, l1, r0, r1, b3, b4, b5, b6, b7, e, nn, t1, t2⟩ := par_all (d0 := fr s) (Sf.gcd_nd s) hp (Sf.dpos s) z.1 (by simpa using z.2) (n := 10 ^ 18) (by decide)
    refine ⟨.tup [pr l0 l1, pr r0 r1], .inr ⟨c, l0, l1, r0, r1, ⟨nn.a0, nn.a1, nn.c0, nn.c1, t1, t2, nn.det⟩, rfl⟩, fun w => ?_⟩
    have cd : ¬ ((s.den : Nat) : Int) = 1 := by omega
    have q0 : evT q_parents_of_0 [.v (fr s), .e, .e, .e, .e, .e, .e, .e] w = .ok (.nx [.v (fr s), .e, .e, .e, .e, .e, .e, .e]) w := by
      simp [q_parents_of_0, cd]
    have q1 : evT q_parents_of_1 [.v (fr s), .e, .e, .e, .e, .e, .e, .e] w = .ok (.nx [.v (fr s), .v (pr 0 1), .v (pr 1 0), .v (fr s), .v (.bl true), .e, .e, .e]) w := by
      simp [q_parents_of_1, pr, sizeLine]
    have q2 : evT q_parents_of_2 [.v (fr s), .v (pr 0 1), .v (pr 1 0), .v (fr s), .v (.bl true), .e, .e, .e] w = _ := wh_of rfl (e w)
    have q3 : evT q_parents_of_3 [.v (fr s), .v (pr l0 l1), .v (pr r0 r1), b3, b4, b5, b6, b7] w = .ok (.rt (.tup [pr l0 l1, pr r0 r1])) w := by
      simp [q_parents_of_3, sizeLine]
    unfold F_parents_of
    rw [tree_parents_of]
    exact run_of (sq_nx q0 (sq_nx q1 (sq_nx q2 (sq_rt q3))))
theorem with_run {s : Rat} {d : D} (h : ∀ w, F_parents_of [fr s] w = .ok d w) (w : W) : F_with_parents [fr s] w = .ok (.tup [fr s, d]) w := by
  simp [F_with_parents, t_with_parents, st0, h, sizeLine]
end Rf.K00
namespace Rf.K00
open PySem L2 PySem.Spec PyProof.Rows Rf
theorem Gd.z9 {n : Nat} {S : Sf.St} (g : Gd n S) {m : Nat} (h : n ≤ m) : Zs m S := ⟨g.zs.lo.up h, fun k q => (g.zs.hi k q).up h⟩
section
variable {S : Sf.St} {w : W}
theorem stretch_ok (g : Gd 400 S) : F_is_stretch [sD S] w = .ok (.bl true) w := by
  obtain ⟨o, z, h, e⟩ := g
  have a1 := k_told (w := w) (z.lo.up (by decide : 400 ≤ 990))
  have a2 := k_told (w := w) ((z.hi h e).up (by decide : 400 ≤ 990))
  have a3 := k_less (w := w) (z.lo.up (by decide : 400 ≤ 1000)) ((z.hi h e).up (by decide : 400 ≤ 1000))
  have a4 := p_eqfr S.lo h
  have n0 := num_ge o.n0
  have n0' : ¬ S.lo.num < 0 := by omega
  have hb : bare [1] ([.v (sD S), .e] : Rf.S) = true := rfl
  have ha : biD .all [.lst [.bl true, .bl true]] = some (.bl true) := rfl
  have ht : ∀ x : Bool, isiD .bool (.bl x) = some (.bl true) := fun _ => rfl
  have ht' : ∀ x : List D, isiD .tuple (.tup x) = some (.bl true) := fun _ => rfl
  have hd : decide (S.lo < h) = true ∨ (decide (S.lo < h) = false ∧ decide (S.lo = h) = true ∧ S.li = true ∧ S.hn = true) := by
    rcases o.ne h e with q | q
    · exact .inl (decide_eq_true q)
    · by_cases c : S.lo < h
      · exact .inl (decide_eq_true c)
      · exact .inr ⟨decide_eq_false c, decide_eq_true q.1, q.2⟩
  unfold sD at hb ⊢
  rw [e] at hb ⊢
  simp only [hiD] at hb ⊢
  generalize decide (S.lo < h) = A at *
  generalize decide (S.lo = h) = B at *
  generalize hF : fr S.lo = F at *
  have i1 : ixD2 F (.int 0) = some (.int S.lo.num) := by rw [← hF]; exact p_ixf0 _
  generalize fr h = F' at *
  generalize S.li = li at *
  generalize S.hn = hn at *
  rcases hd with hd | ⟨h1, h2, h3, h4⟩
  · subst hd
    simp -implicitDefEqProofs [F_is_stretch, t_is_stretch, st0, a1, a2, a3, a4, hb, ha, ht, ht', i1, n0', compL, sizeLine]
  · subst h1; subst h2; subst h3; subst h4
    simp -implicitDefEqProofs [F_is_stretch, t_is_stretch, st0, a1, a2, a3, a4, hb, ha, ht, ht', i1, n0', compL, sizeLine]
theorem check_ok (g : Gd 400 S) : F_check_stretch [sD S] w = .ok .non w := by
  have e := stretch_ok (w := w) g
  generalize sD S = d at *
  simp -implicitDefEqProofs [F_check_stretch, t_check_stretch, st0, e]
theorem simplest_ok (g : Gd 400 S) : ∃ s d, Sf.Min S s ∧ Pap s d ∧ Sz 900 s ∧ (∀ w, F_simplest [sD S] w = .ok (.tup [fr s, d]) w) ∧ ∀ w, F_edge_size [sD S] w = .ok (.tup [.int ((s.den : Nat) : Int), .int s.num, d]) w := by
  obtain ⟨s, m, e⟩ := simplest_run g
  obtain ⟨h, eh⟩ := g.end_
  have zs := (min_sz g.ok eh g.zs m).up (show 2 * 400 + 3 ≤ 900 by decide)
  obtain ⟨d, p, e2⟩ := parents_run (min_ge g.ok m) zs
  refine ⟨s, d, m, p, zs, fun w => ?_, fun w => ?_⟩
  · have c := check_ok (w := w) g
    have e3 := with_run e2 w
    have e1 := e w
    generalize sD S = x at *
    simp -implicitDefEqProofs [F_simplest, t_simplest, st0, c, e1, e3]
  · have c := check_ok (w := w) g
    have e1 := e w
    have e3 := e2 w
    have e4 : F_edge_told [sD S] w = .ok (.tup [.int ((s.den : Nat) : Int), .int s.num, d]) w := by
      generalize sD S = x at *
      simp -implicitDefEqProofs [F_edge_told, t_edge_told, st0, e1, e3, sizeLine]
    generalize sD S = x at *
    simp -implicitDefEqProofs [F_edge_size, t_edge_size, st0, c, e4]
end
theorem par_sz {s : Rat} {l0 l1 r0 r1 : Int} (p : Sf.Par s l0 l1 r0 r1) {n : Nat} (z : Sz n s) : l0.natAbs < 2 ^ n ∧ l1.natAbs < 2 ^ n ∧ r0.natAbs < 2 ^ n ∧ r1.natAbs < 2 ^ n := by
  have := p.a0; have := p.a1; have := p.c0; have := p.c1; have := p.tops; have := p.lows
  have := z.1; have := z.2
  refine ⟨?_, ?_, ?_, ?_⟩ <;> omega
theorem par_r1 {s : Rat} {l0 l1 r0 r1 : Int} (p : Sf.Par s l0 l1 r0 r1) (h : s.den ≠ 1) : 0 < r1 := by
  have := p.c1
  by_cases c : r1 = 0
  · have hd := p.det
    subst c
    have l := p.lows
    have a1 := p.a1
    have : r0 * l1 = 1 := by omega
    have c0 := p.c0
    have : 1 * l1 ≤ r0 * l1 := Int.mul_le_mul_of_nonneg_right (by omega) (by omega)
    omega
  · omega
end Rf.K00
namespace Rf.K00
open PySem L2 PySem.Spec PyProof.Rows Rf
section
variable {S : Sf.St} {w : W}
theorem parents_told {l0 l1 r0 r1 : Int} (h0 : 0 ≤ l0) (h1 : 0 < l1) (h2 : 0 ≤ r0) (h3 : 0 ≤ r1) : F_are_parents [.tup [pr l0 l1, pr r0 r1]] w = .ok (.bl true) w := by
  have a1 : ∀ i : Int, F_is_integer [.int i] w = .ok (.bl true) w := fun _ => rfl
  have hb : bare [2] ([.v (.tup [pr l0 l1, pr r0 r1]), .v (pr l0 l1), .e] : Rf.S) = true := rfl
  have hb2 : bare [2] ([.v (.tup [pr l0 l1, pr r0 r1]), .v (pr r0 r1), .e] : Rf.S) = true := rfl
  have ht : ∀ x : List D, isiD .tuple (.tup x) = some (.bl true) := fun _ => rfl
  have ha : biD .all [.lst [.bl true, .bl true]] = some (.bl true) := rfl
  have s1 : evTs b_are_parents_1 [.v (.tup [pr l0 l1, pr r0 r1]), .v (pr l0 l1), .e] w = .ok (.nx [.v (.tup [pr l0 l1, pr r0 r1]), .v (pr l0 l1), .e]) w := by
    have h1' : 0 ≤ l1 := by omega
    unfold pr at *
    simp -implicitDefEqProofs [b_are_parents_1, q_are_parents_1_0, a1, hb, ht, ha, h0, h1', compL, sizeLine]
  have s2 : evTs b_are_parents_1 [.v (.tup [pr l0 l1, pr r0 r1]), .v (pr r0 r1), .e] w = .ok (.nx [.v (.tup [pr l0 l1, pr r0 r1]), .v (pr r0 r1), .e]) w := by
    unfold pr at *
    simp -implicitDefEqProofs [b_are_parents_1, q_are_parents_1_0, a1, hb2, ht, ha, h2, h3, compL, sizeLine]
  unfold F_are_parents
  rw [tree_are_parents]
  refine run_of (sq_nx (s1 := [.v (.tup [pr l0 l1, pr r0 r1]), .e, .e]) (w1 := w) ?_ (sq_nx (s1 := [.v (.tup [pr l0 l1, pr r0 r1]), .v (pr r0 r1), .e]) (w1 := w) ?_ (sq_rt ?_)))
  · show evT q_are_parents_0 [.v (.tup [pr l0 l1, pr r0 r1]), .e, .e] w = _
    simp -implicitDefEqProofs [q_are_parents_0, ht, sizeLine]
  · unfold q_are_parents_1
    rw [p_tfor]
    simp -implicitDefEqProofs [s1, s2, forL]
  · unfold pr
    simp -implicitDefEqProofs [q_are_parents_2, h1]
theorem sz_pred {s : Rat} {n : Nat} (z : Sz n s) : Sz (n + 1) ((s.num - 1 : Int) : Rat) := by
  have := z.1
  have hp : (2 : Nat) ^ (n + 1) = 2 ^ n + 2 ^ n := by rw [Nat.pow_succ]; omega
  have : 0 < 2 ^ n := Nat.two_pow_pos _
  exact sz_i (by omega) (by omega)
theorem inB_not {x : Rat} (h : ¬ S.In x) : inB S x = false := by
  cases e : inB S x with
  | false => rfl
  | true => exact absurd (inB_iff.mp e) h
theorem fr_left {s : Rat} {l0 l1 r0 r1 : Int} (p : Sf.Par s l0 l1 r0 r1) : pr l0 l1 = fr (Sf.frac l0 l1) := by
  unfold fr pr; rw [p.left.1, p.left.2]
theorem fr_right {s : Rat} {l0 l1 r0 r1 : Int} (p : Sf.Par s l0 l1 r0 r1) (h : 0 < r1) : pr r0 r1 = fr (Sf.frac r0 r1) := by
  unfold fr pr; rw [(p.right h).1, (p.right h).2]
theorem judge_ok {s : Rat} {d : D} (z : Zs 1000 S) (m : Sf.Min S s) (zs : Sz 900 s) (s0 : 0 ≤ s) (p : Pap s d) : F_is_simplest [sD S, .tup [fr s, d]] w = .ok (.bl true) w := by
  have ht : ∀ x : List D, isiD .tuple (.tup x) = some (.bl true) := fun _ => rfl
  have a1 := k_isfr (p := s) (w := w)
  have a2 := e_inside (w := w) z (zs.up (by decide : 900 ≤ 1000))
  rw [inB_iff.mpr m.1] at a2
  rcases p with ⟨hd, rfl⟩ | ⟨hd, l0, l1, r0, r1, p, rfl⟩
  · have n0 := num_ge s0
    have zt := sz_pred (zs.up (by decide : 900 ≤ 999))
    have a3 := e_inside (w := w) z zt
    rw [inB_not fun q => by
      have := (m.2 _ q).1
      rw [Sf.int_num] at this
      omega, ← fr_i] at a3
    have e0 := eq_same (a := .tup []) rfl (by decide)
    generalize sD S = x at *
    have q0 : evT q_is_simplest_0 [.v x, .v (.tup [fr s, .tup []]), .e, .e, .e, .e, .e, .e, .e] w = .ok (.nx [.v x, .v (.tup [fr s, .tup []]), .e, .e, .e, .e, .e, .e, .e]) w := by
      generalize fr s = f at *
      simp -implicitDefEqProofs [q_is_simplest_0, a1, a2, ht, sizeLine]
    have q1 : evT q_is_simplest_1 [.v x, .v (.tup [fr s, .tup []]), .e, .e, .e, .e, .e, .e, .e] w = .ok (.nx [.v x, .v (.tup [fr s, .tup []]), .v (.int s.num), .v (.int ((s.den : Nat) : Int)), .v (.tup []), .e, .e, .e, .e]) w := by
      unfold fr
      simp -implicitDefEqProofs [q_is_simplest_1, sizeLine]
    have q2 : evT q_is_simplest_2 [.v x, .v (.tup [fr s, .tup []]), .v (.int s.num), .v (.int ((s.den : Nat) : Int)), .v (.tup []), .e, .e, .e, .e] w = .ok (.rt (.bl true)) w := by
      rw [hd]
      generalize fr s = f at *
      generalize s.num = k at *
      simp -implicitDefEqProofs [q_is_simplest_2, a3, e0, ht, sizeLine]
    unfold F_is_simplest
    rw [tree_is_simplest]
    exact run_of (sq_nx q0 (sq_nx q1 (sq_rt q2)))
  · have r1p := par_r1 p hd
    obtain ⟨b1, b2, b3, b4⟩ := par_sz p (zs.up (by decide : 900 ≤ 1000))
    have zl : Sz 1000 (Sf.frac l0 l1) := ⟨by rw [p.left.1]; exact b1, by have := p.left.2; omega⟩
    have zr : Sz 1000 (Sf.frac r0 r1) := ⟨by rw [(p.right r1p).1]; exact b3, by have := (p.right r1p).2; omega⟩
    obtain ⟨o1, o2⟩ := p.out m r1p
    have a3 := e_inside (w := w) z zl
    rw [inB_not o1, ← fr_left p] at a3
    have a4 := e_inside (w := w) z zr
    rw [inB_not o2, ← fr_right p r1p] at a4
    have a5 := parents_told (w := w) p.a0 p.a1 (Int.le_of_lt p.c0) p.c1
    have dn : ¬ ((s.den : Nat) : Int) = 1 := by omega
    have m1 : CMulW r0 l1 := Wd.cm b3 b2 (by decide) (by decide)
    have m2 : CMulW l0 r1 := Wd.cm b1 b4 (by decide) (by decide)
    have e1 := ne_same (a := fr s) (plD_fr s) (by rw [dpD_fr]; decide)
    have rn : ¬ r1 = 0 := by omega
    have dt := p.det
    have tp := p.tops
    have lw := p.lows
    generalize sD S = x at *
    generalize hP : D.tup [pr l0 l1, pr r0 r1] = P at *
    have q0 : evT q_is_simplest_0 [.v x, .v (.tup [fr s, P]), .e, .e, .e, .e, .e, .e, .e] w = .ok (.nx [.v x, .v (.tup [fr s, P]), .e, .e, .e, .e, .e, .e, .e]) w := by
      generalize fr s = f at *
      simp -implicitDefEqProofs [q_is_simplest_0, a1, a2, ht, sizeLine]
    have q1 : evT q_is_simplest_1 [.v x, .v (.tup [fr s, P]), .e, .e, .e, .e, .e, .e, .e] w = .ok (.nx [.v x, .v (.tup [fr s, P]), .v (.int s.num), .v (.int ((s.den : Nat) : Int)), .v P, .e, .e, .e, .e]) w := by
      unfold fr
      simp -implicitDefEqProofs [q_is_simplest_1, sizeLine]
    have q2 : evT q_is_simplest_2 [.v x, .v (.tup [fr s, P]), .v (.int s.num), .v (.int ((s.den : Nat) : Int)), .v P, .e, .e, .e, .e] w = .ok (.nx [.v x, .v (.tup [fr s, P]), .v (.int s.num), .v (.int ((s.den : Nat) : Int)), .v P, .e, .e, .e, .e]) w := by
      simp -implicitDefEqProofs [q_is_simplest_2, dn]
    have q3 : evT q_is_simplest_3 [.v x, .v (.tup [fr s, P]), .v (.int s.num), .v (.int ((s.den : Nat) : Int)), .v P, .e, .e, .e, .e] w = .ok (.nx [.v x, .v (.tup [fr s, P]), .v (.int s.num), .v (.int ((s.den : Nat) : Int)), .v P, .e, .e, .e, .e]) w := by
      simp -implicitDefEqProofs [q_is_simplest_3, a5]
    have q4 : evT q_is_simplest_4 [.v x, .v (.tup [fr s, P]), .v (.int s.num), .v (.int ((s.den : Nat) : Int)), .v P, .e, .e, .e, .e] w = .ok (.nx [.v x, .v (.tup [fr s, P]), .v (.int s.num), .v (.int ((s.den : Nat) : Int)), .v P, .v (.int l0), .v (.int l1), .v (.int r0), .v (.int r1)]) w := by
      rw [← hP]
      unfold pr
      simp -implicitDefEqProofs [q_is_simplest_4, sizeLine]
    have q5 : evT q_is_simplest_5 [.v x, .v (.tup [fr s, P]), .v (.int s.num), .v (.int ((s.den : Nat) : Int)), .v P, .v (.int l0), .v (.int l1), .v (.int r0), .v (.int r1)] w = .ok (.nx [.v x, .v (.tup [fr s, P]), .v (.int s.num), .v (.int ((s.den : Nat) : Int)), .v P, .v (.int l0), .v (.int l1), .v (.int r0), .v (.int r1)]) w := by
      unfold fr at e1
      simp -implicitDefEqProofs [q_is_simplest_5, tp, lw, m1, m2, dt, e1, sizeLine]
    have q6 : evT q_is_simplest_6 [.v x, .v (.tup [fr s, P]), .v (.int s.num), .v (.int ((s.den : Nat) : Int)), .v P, .v (.int l0), .v (.int l1), .v (.int r0), .v (.int r1)] w = .ok (.rt (.bl true)) w := by
      unfold pr at a3 a4
      simp -implicitDefEqProofs [q_is_simplest_6, a3, a4, rn, sizeLine]
    unfold F_is_simplest
    rw [tree_is_simplest]
    exact run_of (sq_nx q0 (sq_nx q1 (sq_nx q2 (sq_nx q3 (sq_nx q4 (sq_nx q5 (sq_rt q6)))))))
theorem shows_ok {s : Rat} {d : D} (g : Gd 400 S) (m : Sf.Min S s) (zs : Sz 900 s) (p : Pap s d) : F_shows_simplest [sD S, .tup [fr s, d]] w = .ok (.bl true) w := by
  have c := check_ok (w := w) g
  have e := judge_ok (w := w) (g.z9 (by decide)) m zs (min_ge g.ok m) p
  generalize sD S = x at *
  generalize D.tup [fr s, d] = y at *
  simp -implicitDefEqProofs [F_shows_simplest, t_shows_simplest, st0, c, e]
theorem shows_edge_ok {s : Rat} {d : D} (g : Gd 400 S) (m : Sf.Min S s) (zs : Sz 900 s) (p : Pap s d) : F_shows_edge_size [sD S, .tup [.int ((s.den : Nat) : Int), .int s.num, d]] w = .ok (.bl true) w := by
  have c := check_ok (w := w) g
  have e := judge_ok (w := w) (g.z9 (by decide)) m zs (min_ge g.ok m) p
  have ht : ∀ x : List D, isiD .tuple (.tup x) = some (.bl true) := fun _ => rfl
  have a1 : ∀ i : Int, F_is_integer [.int i] w = .ok (.bl true) w := fun _ => rfl
  unfold fr at e
  generalize sD S = x at *
  simp -implicitDefEqProofs [F_shows_edge_size, t_shows_edge_size, st0, c, e, ht, a1, sizeLine]
end
end Rf.K00
namespace Rf.K00
open PySem L2 PySem.Spec PyProof.Rows Rf
theorem two_eq : c_TWO = fr 2 := by kernel_rfl
section
variable {S : Sf.St} {w : W}
theorem twice_ok {n : Nat} (g : Gd n S) (hn : n ≤ 990) : F_twice [sD S] w = .ok (sD (Sf.db S)) w := by
  obtain ⟨h, e⟩ := g.end_
  have z2 : Sz 1000 (2 : Rat) := sz_i (k := 2) (by decide) (by decide)
  have a1 := k_product (w := w) z2 ((g.zs.lo).up (by omega : n ≤ 1000))
  have a2 := k_product (w := w) z2 ((g.zs.hi h e).up (by omega : n ≤ 1000))
  unfold sD Sf.db
  rw [e]
  simp only [hiD, Option.map_some]
  generalize S.lo = x at *
  generalize fr (2 * x) = y at *
  generalize fr (2 * h) = y' at *
  simp -implicitDefEqProofs [F_twice, t_twice, st0, two_eq, a1, a2, sizeLine]
theorem db_gd {n : Nat} (g : Gd n S) : Gd (n + 2) (Sf.db S) := by
  obtain ⟨h, e⟩ := g.end_
  have z2 : Sz 2 (2 : Rat) := sz_i (k := 2) (by decide) (by decide)
  refine ⟨⟨?_, fun k hk => ?_⟩, ⟨?_, fun k hk => ?_⟩, ⟨2 * h, by unfold Sf.db; rw [e]; rfl⟩⟩
  · have := g.ok.n0
    show 0 ≤ 2 * S.lo
    exact Rat.mul_nonneg (by decide +kernel) this
  · unfold Sf.db at hk
    rw [e] at hk
    cases hk
    show 2 * S.lo < 2 * h ∨ _
    rcases g.ok.ne h e with q | q
    · exact .inl (by grind)
    · exact .inr ⟨by show 2 * S.lo = 2 * h; rw [q.1], q.2⟩
  · exact z_mul z2 g.zs.lo (by omega)
  · unfold Sf.db at hk
    rw [e] at hk
    cases hk
    exact z_mul z2 (g.zs.hi h e) (by omega)
def hvs (W : Sf.St) (t h : Rat) : List Sf.St := (if W.lo < t then [Sf.lp W t] else []) ++ (if t < h then [Sf.rp W t] else [])
theorem add_ll (xs ys : List D) : binD .Add (.lst xs) (.lst ys) = if xs.length + ys.length ≤ sizeLine then some (.lst (xs ++ ys)) else none := rfl
theorem halves_ok {t h : Rat} (e : S.hi = some h) (z : Zs 1000 S) (zt : Sz 1000 t) : F_halves_of [sD S, fr t] w = .ok (.lst ((hvs S t h).map sD)) w := by
  have a1 := k_less (w := w) z.lo zt
  have a2 := k_less (w := w) zt (z.hi h e)
  unfold hvs sD Sf.lp Sf.rp
  rw [e]
  simp only [hiD]
  by_cases c1 : S.lo < t <;> by_cases c2 : t < h
  all_goals
    first | rw [decide_eq_true c1] at a1 | rw [decide_eq_false c1] at a1
    first | rw [decide_eq_true c2] at a2 | rw [decide_eq_false c2] at a2
    first | rw [if_pos c1] | rw [if_neg c1]
    first | rw [if_pos c2] | rw [if_neg c2]
    simp only [List.nil_append, List.cons_append, List.map_cons, List.map_nil, List.append_nil]
    generalize fr S.lo = x at *
    generalize fr t = y at *
    generalize fr h = y' at *
    simp -implicitDefEqProofs [F_halves_of, t_halves_of, st0, a1, a2, add_ll, sizeLine]
/-! ## middles told -/
/-- the simplest ones of the parts beside t -/
inductive Hv (W : Sf.St) (t h : Rat) : List (Rat × D) → Prop where
  | none : ¬ W.lo < t → ¬ t < h → Hv W t h []
  | left {u d} : W.lo < t → ¬ t < h → Sf.Min (Sf.lp W t) u → Pap u d → Sz 900 u → Hv W t h [(u, d)]
  | right {u d} : ¬ W.lo < t → t < h → Sf.Min (Sf.rp W t) u → Pap u d → Sz 900 u → Hv W t h [(u, d)]
  | both {u d v c} : W.lo < t → t < h → Sf.Min (Sf.lp W t) u → Pap u d → Sz 900 u → Sf.Min (Sf.rp W t) v → Pap v c → Sz 900 v → Hv W t h [(u, d), (v, c)]
def pick : List (Rat × D) → Option Rat
  | [] => none
  | [u] => some u.1
  | u :: v :: _ => some (Sf.bt u.1 v.1)
def ppD (p : Rat × D) : D := .tup [fr p.1, p.2]
def midD (t : Rat) (dt : D) (us : List (Rat × D)) : D :=
  if t.num % 2 = 1 then .tup [.int ((t.den : Nat) : Int), .int (t.num / 2), .tup [ppD (t, dt)]]
  else match pick us with
    | none => .non
    | some u => .tup [.int ((u.den : Nat) : Int), .int (u.num / 2), .tup (((t, dt) :: us).map ppD)]
theorem lp_gd {n : Nat} {t h : Rat} (g : Gd n S) (e : S.hi = some h) (hn : n ≤ 400) (zt : Sz 400 t) (c : S.lo < t) : Gd 400 (Sf.lp S t) :=
  ⟨⟨g.ok.n0, fun k hk => by cases hk; exact .inl c⟩, ⟨g.zs.lo.up hn, fun k hk => by cases hk; exact zt⟩, ⟨t, rfl⟩⟩
theorem rp_gd {n : Nat} {t h : Rat} (g : Gd n S) (e : S.hi = some h) (hn : n ≤ 400) (zt : Sz 400 t) (t0 : 0 ≤ t) (c : t < h) : Gd 400 (Sf.rp S t) :=
  ⟨⟨t0, fun k hk => by rw [show (Sf.rp S t).hi = S.hi from rfl, e] at hk; cases hk; exact .inl c⟩, ⟨zt, fun k hk => by rw [show (Sf.rp S t).hi = S.hi from rfl, e] at hk; cases hk; exact (g.zs.hi _ e).up hn⟩, ⟨h, e⟩⟩
theorem simp_of (g : Gd 400 S) : ∃ s d, Sf.Min S s ∧ Pap s d ∧ Sz 900 s ∧ (∀ w, F_simplest_of [sD S] w = .ok (fr s) w) ∧ ∀ w, F_with_parents [fr s] w = .ok (ppD (s, d)) w := by
  obtain ⟨s, m, e⟩ := simplest_run g
  obtain ⟨h, eh⟩ := g.end_
  have zs := (min_sz g.ok eh g.zs m).up (show 2 * 400 + 3 ≤ 900 by decide)
  obtain ⟨d, p, e2⟩ := parents_run (min_ge g.ok m) zs
  exact ⟨s, d, m, p, zs, e, fun w => with_run e2 w⟩
end
end Rf.K00
namespace Rf.K00
open PySem L2 PySem.Spec PyProof.Rows Rf
theorem eq_l0 : cmpD .Eq (.lst []) (.lst []) = some (.bl true) := by rw [eq_pl rfl rfl (by decide)]; rfl
theorem eq_l1 (u : Rat) : cmpD .Eq (.lst [fr u]) (.lst []) = some (.bl false) := by
  rw [eq_pl (by simp [plD, plDs, plD_fr]) rfl (by simp [dpD, dpDs])]
  simp [beqD, beqDs]
theorem eq_l2 (u v : Rat) : cmpD .Eq (.lst [fr u, fr v]) (.lst []) = some (.bl false) := by
  rw [eq_pl (by simp [plD, plDs, plD_fr]) rfl (by simp [dpD, dpDs])]
  simp [beqD, beqDs]
section
variable {w : W} {x y : D} {t u v : Rat} {hs : List D}
theorem m_q2_odd (a2 : F_with_parents [fr t] w = .ok u' w) (c : t.num % 2 = 1) : evT q_middle_told_2 [.v x, .v y, .v (fr t), .e, .e, .e, .e, .e] w = .ok (.rt (.tup [.int ((t.den : Nat) : Int), .int (t.num / 2), .tup [u']])) w := by
  have d : CDivW t.num 2 := cdiv_of (n := 2) (by decide) (by decide) (by decide) (by decide)
  simp -implicitDefEqProofs [q_middle_told_2, a2, c, d, sizeLine]
theorem m_q2_ev (c : ¬ t.num % 2 = 1) : evT q_middle_told_2 [.v x, .v y, .v (fr t), .e, .e, .e, .e, .e] w = .ok (.nx [.v x, .v y, .v (fr t), .e, .e, .e, .e, .e]) w := by
  simp -implicitDefEqProofs [q_middle_told_2, c]
theorem m_q3_0 (a : F_halves_of [y, fr t] w = .ok (.lst []) w) : evT q_middle_told_3 [.v x, .v y, .v (fr t), .e, .e, .e, .e, .e] w = .ok (.nx [.v x, .v y, .v (fr t), .o [], .e, .e, .e, .e]) w := by
  have hb : bare [4] ([.v x, .v y, .v (fr t), .e, .e, .e, .e, .e] : Rf.S) = true := rfl
  unfold q_middle_told_3
  generalize F_simplest_of = FS
  simp -implicitDefEqProofs [a, hb, compL, sizeLine]
theorem m_q3_1 {p : D} (a : F_halves_of [y, fr t] w = .ok (.lst [p]) w) (b : F_simplest_of [p] w = .ok (fr u) w) : evT q_middle_told_3 [.v x, .v y, .v (fr t), .e, .e, .e, .e, .e] w = .ok (.nx [.v x, .v y, .v (fr t), .o [fr u], .e, .e, .e, .e]) w := by
  have hb : bare [4] ([.v x, .v y, .v (fr t), .e, .e, .e, .e, .e] : Rf.S) = true := rfl
  unfold q_middle_told_3
  generalize F_simplest_of = FS at *
  simp -implicitDefEqProofs [a, b, hb, compL, sizeLine]
theorem m_q3_2 {p q : D} (a : F_halves_of [y, fr t] w = .ok (.lst [p, q]) w) (b : F_simplest_of [p] w = .ok (fr u) w) (b' : F_simplest_of [q] w = .ok (fr v) w) : evT q_middle_told_3 [.v x, .v y, .v (fr t), .e, .e, .e, .e, .e] w = .ok (.nx [.v x, .v y, .v (fr t), .o [fr u, fr v], .e, .e, .e, .e]) w := by
  have hb : bare [4] ([.v x, .v y, .v (fr t), .e, .e, .e, .e, .e] : Rf.S) = true := rfl
  unfold q_middle_told_3
  generalize F_simplest_of = FS at *
  simp -implicitDefEqProofs [a, b, b', hb, compL, sizeLine]
theorem m_q5_0 : evT q_middle_told_5 [.v x, .v y, .v (fr t), .v (.lst []), .e, .e, .e, .e] w = .ok (.rt .non) w := by
  simp -implicitDefEqProofs [q_middle_told_5, eq_l0, sizeLine]
theorem m_q5_1 : evT q_middle_told_5 [.v x, .v y, .v (fr t), .v (.lst [fr u]), .e, .e, .e, .e] w = .ok (.nx [.v x, .v y, .v (fr t), .v (.lst [fr u]), .e, .e, .e, .e]) w := by
  simp -implicitDefEqProofs [q_middle_told_5, eq_l1, sizeLine]
theorem m_q5_2 : evT q_middle_told_5 [.v x, .v y, .v (fr t), .v (.lst [fr u, fr v]), .e, .e, .e, .e] w = .ok (.nx [.v x, .v y, .v (fr t), .v (.lst [fr u, fr v]), .e, .e, .e, .e]) w := by
  simp -implicitDefEqProofs [q_middle_told_5, eq_l2, sizeLine]
theorem m_q6_1 : evT q_middle_told_6 [.v x, .v y, .v (fr t), .v (.lst [fr u]), .e, .e, .e, .e] w = .ok (.nx [.v x, .v y, .v (fr t), .v (.lst [fr u]), .e, .v (.int ((u.den : Nat) : Int)), .v (.int u.num), .e]) w := by
  have hb : bare [7] ([.v x, .v y, .v (fr t), .v (.lst [fr u]), .e, .e, .e, .e] : Rf.S) = true := rfl
  simp -implicitDefEqProofs [q_middle_told_6, hb, compL, srt1, sizeLine]
theorem m_q6_2 : evT q_middle_told_6 [.v x, .v y, .v (fr t), .v (.lst [fr u, fr v]), .e, .e, .e, .e] w = .ok (.nx [.v x, .v y, .v (fr t), .v (.lst [fr u, fr v]), .e, .v (.int (((Sf.bt u v).den : Nat) : Int)), .v (.int (Sf.bt u v).num), .e]) w := by
  have hb : bare [7] ([.v x, .v y, .v (fr t), .v (.lst [fr u, fr v]), .e, .e, .e, .e] : Rf.S) = true := rfl
  have e := srt2 ((u.den : Nat) : Int) u.num ((v.den : Nat) : Int) v.num
  unfold Sf.bt
  by_cases c : ((v.den : Nat) : Int) < ((u.den : Nat) : Int) ∨ (((v.den : Nat) : Int) = ((u.den : Nat) : Int) ∧ v.num < u.num)
  · rw [if_pos c] at e ⊢
    simp -implicitDefEqProofs [q_middle_told_6, hb, compL, e, sizeLine]
  · rw [if_neg c] at e ⊢
    simp -implicitDefEqProofs [q_middle_told_6, hb, compL, e, sizeLine]
theorem m_q7_1 {a k : Int} {p q : D} (h1 : F_with_parents [fr t] w = .ok p w) (h2 : F_with_parents [fr u] w = .ok q w) : evT q_middle_told_7 [.v x, .v y, .v (fr t), .v (.lst [fr u]), .e, .v (.int a), .v (.int k), .e] w = .ok (.rt (.tup [.int a, .int (k / 2), .tup [p, q]])) w := by
  have hb : bare [7] ([.v x, .v y, .v (fr t), .v (.lst [fr u]), .e, .v (.int a), .v (.int k), .e] : Rf.S) = true := rfl
  have d : CDivW k 2 := cdiv_of (n := 2) (by decide) (by decide) (by decide) (by decide)
  simp -implicitDefEqProofs [q_middle_told_7, hb, compL, d, h1, h2, sizeLine]
theorem m_q7_2 {a k : Int} {p q r : D} (h1 : F_with_parents [fr t] w = .ok p w) (h2 : F_with_parents [fr u] w = .ok q w) (h3 : F_with_parents [fr v] w = .ok r w) : evT q_middle_told_7 [.v x, .v y, .v (fr t), .v (.lst [fr u, fr v]), .e, .v (.int a), .v (.int k), .e] w = .ok (.rt (.tup [.int a, .int (k / 2), .tup [p, q, r]])) w := by
  have hb : bare [7] ([.v x, .v y, .v (fr t), .v (.lst [fr u, fr v]), .e, .v (.int a), .v (.int k), .e] : Rf.S) = true := rfl
  have d : CDivW k 2 := cdiv_of (n := 2) (by decide) (by decide) (by decide) (by decide)
  simp -implicitDefEqProofs [q_middle_told_7, hb, compL, d, h1, h2, h3, sizeLine]
end
end Rf.K00
namespace Rf.K00
open PySem L2 PySem.Spec PyProof.Rows Rf
section
variable {S : Sf.St}
/-- what is told of the middle: the simplest one of the doubled stretch, those beside it -/
structure Mid (S : Sf.St) (t : Rat) (dt : D) (us : List (Rat × D)) : Prop where
  mt : Sf.Min (Sf.db S) t
  pt : Pap t dt
  zt : Sz 900 t
  t0 : 0 ≤ t
  hv : t.num % 2 = 1 ∨ (t.num % 2 = 0 ∧ ∃ h, (Sf.db S).hi = some h ∧ Hv (Sf.db S) t h us)
theorem sq_fz {i : Nat} {xs : List D} {r : Ts} {s : Rf.S} {w : W} {x : R Fl} (h : s[i]? = some (.o xs)) (k : evTs r (s.set i (.v (.lst xs))) w = x) : evTs (.fz i r) s w = x := by
  rw [p_tsF, p_fz h]; exact k
theorem pap_pos {s : Rat} {d : D} (p : Pap s d) : Sf.HasPar s := by
  rcases p with q | ⟨q, l0, l1, r0, r1, p, _⟩
  · exact .inl q.1
  · exact .inr ⟨q, l0, l1, r0, r1, p, par_r1 p q⟩
theorem middle_run (g : Gd 160 S) : ∃ t dt us, Mid S t dt us ∧ ∀ w, F_middle_told [sD S] w = .ok (midD t dt us) w := by
  have gw := db_gd g
  obtain ⟨h, eh⟩ := gw.end_
  have gw4 : Gd 400 (Sf.db S) := ⟨gw.ok, gw.z9 (by decide), gw.end_⟩
  obtain ⟨t, dt, mt, pt, zt, et, ep⟩ := simp_of gw4
  have zt4 := (min_sz gw.ok eh gw.zs mt).up (show 2 * (160 + 2) + 3 ≤ 400 by decide)
  have t0 := min_ge gw.ok mt
  have q0 : ∀ w, evT q_middle_told_0 [.v (sD S), .e, .e, .e, .e, .e, .e, .e] w = .ok (.nx [.v (sD S), .v (sD (Sf.db S)), .e, .e, .e, .e, .e, .e]) w := fun w => by
    have a := twice_ok (w := w) g (by decide)
    generalize sD S = x at *
    generalize sD (Sf.db S) = y at *
    simp -implicitDefEqProofs [q_middle_told_0, a]
  have q1 : ∀ w, evT q_middle_told_1 [.v (sD S), .v (sD (Sf.db S)), .e, .e, .e, .e, .e, .e] w = .ok (.nx [.v (sD S), .v (sD (Sf.db S)), .v (fr t), .e, .e, .e, .e, .e]) w := fun w => by
    have a := et w
    unfold q_middle_told_1
    generalize F_simplest_of = FS at *
    generalize sD S = x at *
    generalize sD (Sf.db S) = y at *
    simp -implicitDefEqProofs [a]
  have un : ∀ w, F_middle_told [sD S] w = runF 8 (evTs (.cons q_middle_told_0 (.cons q_middle_told_1 (.cons q_middle_told_2 (.cons q_middle_told_3 (.fz 3 (.cons q_middle_told_5 (.cons q_middle_told_6 (.cons q_middle_told_7 .nil))))))))) [sD S] w := fun w => by
    unfold F_middle_told
    rw [tree_middle_told]
  by_cases c : t.num % 2 = 1
  · refine ⟨t, dt, [], ⟨mt, pt, zt, t0, .inl c⟩, fun w => ?_⟩
    rw [un]
    unfold midD
    rw [if_pos c]
    exact run_of (sq_nx (q0 w) (sq_nx (q1 w) (sq_rt (m_q2_odd (ep w) c))))
  have c0 : t.num % 2 = 0 := by omega
  have hh := fun w => halves_ok (w := w) eh (gw.z9 (by decide)) (zt.up (by decide : 900 ≤ 1000))
  have fin : ∀ us, midD t dt us = match pick us with
    | none => .non
    | some u => .tup [.int ((u.den : Nat) : Int), .int (u.num / 2), .tup (((t, dt) :: us).map ppD)] := fun us => by
    unfold midD; rw [if_neg c] <;> (cases pick us <;> rfl)
  by_cases c1 : (Sf.db S).lo < t
  · obtain ⟨u, du, mu, pu, zu, eu, epu⟩ := simp_of (lp_gd gw eh (by decide) zt4 c1)
    by_cases c2 : t < h
    · obtain ⟨v, dv, mv, pv, zv, ev, epv⟩ := simp_of (rp_gd gw eh (by decide) zt4 t0 c2)
      refine ⟨t, dt, [(u, du), (v, dv)], ⟨mt, pt, zt, t0, .inr ⟨c0, h, eh, .both c1 c2 mu pu zu mv pv zv⟩⟩, fun w => ?_⟩
      rw [un, fin]
      have hw := hh w
      unfold hvs at hw
      rw [if_pos c1, if_pos c2] at hw
      exact run_of (sq_nx (q0 w) (sq_nx (q1 w) (sq_nx (m_q2_ev c) (sq_nx (m_q3_2 hw (eu w) (ev w)) (sq_fz rfl (sq_nx m_q5_2 (sq_nx m_q6_2 (sq_rt (m_q7_2 (ep w) (epu w) (epv w))))))))))
    · refine ⟨t, dt, [(u, du)], ⟨mt, pt, zt, t0, .inr ⟨c0, h, eh, .left c1 c2 mu pu zu⟩⟩, fun w => ?_⟩
      rw [un, fin]
      have hw := hh w
      unfold hvs at hw
      rw [if_pos c1, if_neg c2] at hw
      exact run_of (sq_nx (q0 w) (sq_nx (q1 w) (sq_nx (m_q2_ev c) (sq_nx (m_q3_1 hw (eu w)) (sq_fz rfl (sq_nx m_q5_1 (sq_nx m_q6_1 (sq_rt (m_q7_1 (ep w) (epu w))))))))))
  · by_cases c2 : t < h
    · obtain ⟨v, dv, mv, pv, zv, ev, epv⟩ := simp_of (rp_gd gw eh (by decide) zt4 t0 c2)
      refine ⟨t, dt, [(v, dv)], ⟨mt, pt, zt, t0, .inr ⟨c0, h, eh, .right c1 c2 mv pv zv⟩⟩, fun w => ?_⟩
      rw [un, fin]
      have hw := hh w
      unfold hvs at hw
      rw [if_neg c1, if_pos c2] at hw
      exact run_of (sq_nx (q0 w) (sq_nx (q1 w) (sq_nx (m_q2_ev c) (sq_nx (m_q3_1 hw (ev w)) (sq_fz rfl (sq_nx m_q5_1 (sq_nx m_q6_1 (sq_rt (m_q7_1 (ep w) (epv w))))))))))
    · refine ⟨t, dt, [], ⟨mt, pt, zt, t0, .inr ⟨c0, h, eh, .none c1 c2⟩⟩, fun w => ?_⟩
      rw [un, fin]
      have hw := hh w
      unfold hvs at hw
      rw [if_neg c1, if_neg c2] at hw
      exact run_of (sq_nx (q0 w) (sq_nx (q1 w) (sq_nx (m_q2_ev c) (sq_nx (m_q3_0 hw) (sq_fz rfl (sq_rt m_q5_0))))))
theorem middle_size_ok (g : Gd 160 S) : ∃ t dt us, Mid S t dt us ∧ ∀ w, F_middle_size [sD S] w = .ok (midD t dt us) w := by
  obtain ⟨t, dt, us, m, e⟩ := middle_run g
  refine ⟨t, dt, us, m, fun w => ?_⟩
  have c := check_ok (w := w) (⟨g.ok, g.z9 (by decide), g.end_⟩ : Gd 400 S)
  have e := e w
  unfold F_middle_size t_middle_size
  generalize F_middle_told = F at *
  generalize sD S = x at *
  generalize midD t dt us = y at *
  simp -implicitDefEqProofs [st0, c, e]
end
end Rf.K00
namespace Rf.K00
open PySem L2 PySem.Spec PyProof.Rows Rf
theorem toPy_fr (p : Rat) : toPy (fr p) = some (.tuple [.int p.num, .int ((p.den : Nat) : Int)]) := by simp [fr, toPy, toPyAll]
theorem toPy_hi (o : Option Rat) : ∃ q, toPy (hiD o) = some q := by
  cases o with
  | none => exact ⟨.none, by simp [hiD, toPy]⟩
  | some h => exact ⟨_, toPy_fr h⟩
theorem toPy_s (S : Sf.St) : ∃ q, toPy (sD S) = some q := by
  obtain ⟨q, e⟩ := toPy_hi S.hi
  exact ⟨_, by simp [sD, toPy, toPyAll, toPy_fr, e]; rfl⟩
theorem toPys_s (l : List Sf.St) : ∃ qs, toPyAll (l.map sD) = some qs := by
  induction l with
  | nil => exact ⟨[], by simp [toPyAll]⟩
  | cons S l ih =>
    obtain ⟨q, e⟩ := toPy_s S
    obtain ⟨qs, e2⟩ := ih
    exact ⟨q :: qs, by simp [toPyAll, e, e2]⟩
theorem eq_snil (S : Sf.St) (l : List Sf.St) : cmpD .Eq (.lst ((S :: l).map sD)) (.lst []) = some (.bl false) := by
  obtain ⟨q, e⟩ := toPy_s S
  obtain ⟨qs, e2⟩ := toPys_s l
  have go : eqD0 (.lst ((S :: l).map sD)) (.lst []) = some (.bl false) := by
    unfold eqD0
    simp only [List.map_cons, toPy, toPyAll, e, e2, Option.map_some]
    rw [if_pos (by simp [PyData.depth, PyData.depthAll])]
    simp [PyData.eqv, PyData.eqvAll]
  exact go
theorem cut1 (a b : D) : cutD [a, b] (some 1) none = [b] := rfl
theorem cut2 (a b c : D) : cutD [a, b, c] (some 1) none = [b, c] := rfl
section
variable {w : W} {x y T : D} {t u v : Rat} {dt du dv : D}
theorem beside_1 {P : Sf.St} (ev : t.num % 2 = 0) (j0 : F_is_simplest [y, ppD (t, dt)] w = .ok (.bl true) w) (hh : F_halves_of [y, fr t] w = .ok (.lst [sD P]) w) (j1 : F_is_simplest [sD P, ppD (u, du)] w = .ok (.bl true) w) :
    F_are_beside [y, .tup [ppD (t, dt), ppD (u, du)]] w = .ok (.bl true) w := by
  have e := eq_snil P []
  simp only [List.map_cons, List.map_nil] at e
  have ha : biD .all [.lst [.bl true]] = some (.bl true) := rfl
  have i0 : ixD2 (ppD (t, dt)) (.int 0) = some (fr t) := by simp [ppD]
  have hb : bare [3, 4] ([.v y, .v (.tup [ppD (t, dt), ppD (u, du)]), .v (.lst [sD P]), .e, .e] : Rf.S) = true := rfl
  have ev' : ¬ t.num % 2 = 1 := by omega
  generalize sD P = p at *
  generalize ppD (t, dt) = a at *
  generalize ppD (u, du) = b at *
  simp -implicitDefEqProofs [F_are_beside, t_are_beside, st0, j0, i0, ev', hh, e, hb, cut1, cut2, zipI, itemsD, zipD, compL, j1, ha, sizeLine]
theorem beside_2 {P Q : Sf.St} (ev : t.num % 2 = 0) (j0 : F_is_simplest [y, ppD (t, dt)] w = .ok (.bl true) w) (hh : F_halves_of [y, fr t] w = .ok (.lst [sD P, sD Q]) w) (j1 : F_is_simplest [sD P, ppD (u, du)] w = .ok (.bl true) w) (j2 : F_is_simplest [sD Q, ppD (v, dv)] w = .ok (.bl true) w) :
    F_are_beside [y, .tup [ppD (t, dt), ppD (u, du), ppD (v, dv)]] w = .ok (.bl true) w := by
  have e := eq_snil P [Q]
  simp only [List.map_cons, List.map_nil] at e
  have ha : biD .all [.lst [.bl true, .bl true]] = some (.bl true) := rfl
  have i0 : ixD2 (ppD (t, dt)) (.int 0) = some (fr t) := by simp [ppD]
  have hb : bare [3, 4] ([.v y, .v (.tup [ppD (t, dt), ppD (u, du), ppD (v, dv)]), .v (.lst [sD P, sD Q]), .e, .e] : Rf.S) = true := rfl
  have ev' : ¬ t.num % 2 = 1 := by omega
  generalize sD P = p at *
  generalize sD Q = q at *
  generalize ppD (t, dt) = a at *
  generalize ppD (u, du) = b at *
  generalize ppD (v, dv) = c at *
  simp -implicitDefEqProofs [F_are_beside, t_are_beside, st0, j0, i0, ev', hh, e, hb, cut1, cut2, zipI, itemsD, zipD, compL, j1, j2, ha, sizeLine]
end
end Rf.K00
namespace Rf.K00
open PySem L2 PySem.Spec PyProof.Rows Rf
theorem isD_non (a : List D) : cmpD .Is (.tup a) .non = some (.bl false) := rfl
section
variable {w : W} {x y : D} {t u v : Rat} {dt du dv : D} {a k : Int} {P : List D}
theorem i_q0 (h : F_twice [x] w = .ok y w) {d : D} : evT q_is_middle_told_0 [.v x, .v d, .e, .e, .e, .e, .e, .e] w = .ok (.nx [.v x, .v d, .v y, .e, .e, .e, .e, .e]) w := by
  simp -implicitDefEqProofs [q_is_middle_told_0, h]
theorem i_q1 {l : List D} : evT q_is_middle_told_1 [.v x, .v (.tup l), .v y, .e, .e, .e, .e, .e] w = .ok (.nx [.v x, .v (.tup l), .v y, .e, .e, .e, .e, .e]) w := by
  simp -implicitDefEqProofs [q_is_middle_told_1, isD_non, isNon]
theorem i_q2 {p : D} : evT q_is_middle_told_2 [.v x, .v (.tup [.int a, .int k, p]), .v y, .e, .e, .e, .e, .e] w = .ok (.nx [.v x, .v (.tup [.int a, .int k, p]), .v y, .e, .e, .e, .e, .e]) w := by
  have ht : ∀ x : List D, isiD .tuple (.tup x) = some (.bl true) := fun _ => rfl
  have a1 : ∀ i : Int, F_is_integer [.int i] w = .ok (.bl true) w := fun _ => rfl
  simp -implicitDefEqProofs [q_is_middle_told_2, ht, a1, sizeLine]
theorem i_q3 {p : D} : evT q_is_middle_told_3 [.v x, .v (.tup [.int a, .int k, p]), .v y, .e, .e, .e, .e, .e] w = .ok (.nx [.v x, .v (.tup [.int a, .int k, p]), .v y, .v p, .e, .e, .e, .e]) w := by
  simp -implicitDefEqProofs [q_is_middle_told_3]
theorem i_q4 {d : D} (e : cmpD .Eq (.tup P) (.tup []) = some (.bl false)) : evT q_is_middle_told_4 [.v x, .v d, .v y, .v (.tup P), .e, .e, .e, .e] w = .ok (.nx [.v x, .v d, .v y, .v (.tup P), .e, .e, .e, .e]) w := by
  have ht : ∀ x : List D, isiD .tuple (.tup x) = some (.bl true) := fun _ => rfl
  simp -implicitDefEqProofs [q_is_middle_told_4, ht, e, sizeLine]
theorem i0_pp (p : Rat × D) : ixD2 (ppD p) (.int 0) = some (fr p.1) := by simp [ppD]
theorem i_q5_1 {d : D} (j : F_is_simplest [y, ppD (t, dt)] w = .ok (.bl true) w) : evT q_is_middle_told_5 [.v x, .v d, .v y, .v (.tup [ppD (t, dt)]), .e, .e, .e, .e] w = .ok (.nx [.v x, .v d, .v y, .v (.tup [ppD (t, dt)]), .v (.lst [fr t]), .e, .e, .e]) w := by
  have i0 := i0_pp (t, dt)
  generalize ppD (t, dt) = b at *
  simp -implicitDefEqProofs [q_is_middle_told_5, j, i0, sizeLine]
theorem i_q5_2 {d : D} (j : F_are_beside [y, .tup [ppD (t, dt), ppD (u, du)]] w = .ok (.bl true) w) : evT q_is_middle_told_5 [.v x, .v d, .v y, .v (.tup [ppD (t, dt), ppD (u, du)]), .e, .e, .e, .e] w = .ok (.nx [.v x, .v d, .v y, .v (.tup [ppD (t, dt), ppD (u, du)]), .v (.lst [fr u]), .e, .e, .e]) w := by
  have i0 := i0_pp (u, du)
  have hb : bare [5] ([.v x, .v d, .v y, .v (.tup [ppD (t, dt), ppD (u, du)]), .e, .e, .e, .e] : Rf.S) = true := rfl
  generalize ppD (t, dt) = b at *
  generalize ppD (u, du) = c at *
  simp -implicitDefEqProofs [q_is_middle_told_5, j, i0, hb, cut1, compL, itemsD, sizeLine]
theorem i_q5_3 {d : D} (j : F_are_beside [y, .tup [ppD (t, dt), ppD (u, du), ppD (v, dv)]] w = .ok (.bl true) w) : evT q_is_middle_told_5 [.v x, .v d, .v y, .v (.tup [ppD (t, dt), ppD (u, du), ppD (v, dv)]), .e, .e, .e, .e] w = .ok (.nx [.v x, .v d, .v y, .v (.tup [ppD (t, dt), ppD (u, du), ppD (v, dv)]), .v (.lst [fr u, fr v]), .e, .e, .e]) w := by
  have i0 := i0_pp (u, du)
  have i1 := i0_pp (v, dv)
  have hb : bare [5] ([.v x, .v d, .v y, .v (.tup [ppD (t, dt), ppD (u, du), ppD (v, dv)]), .e, .e, .e, .e] : Rf.S) = true := rfl
  generalize ppD (t, dt) = b at *
  generalize ppD (u, du) = c at *
  generalize ppD (v, dv) = c' at *
  simp -implicitDefEqProofs [q_is_middle_told_5, j, i0, i1, hb, cut2, compL, itemsD, sizeLine]
theorem i_q6_1 {d p : D} : evT q_is_middle_told_6 [.v x, .v d, .v y, .v p, .v (.lst [fr u]), .e, .e, .e] w = .ok (.nx [.v x, .v d, .v y, .v p, .v (.lst [fr u]), .e, .v (.int ((u.den : Nat) : Int)), .v (.int u.num)]) w := by
  have hb : bare [5] ([.v x, .v d, .v y, .v p, .v (.lst [fr u]), .e, .e, .e] : Rf.S) = true := rfl
  simp -implicitDefEqProofs [q_is_middle_told_6, hb, compL, srt1, sizeLine]
theorem i_q6_2 {d p : D} : evT q_is_middle_told_6 [.v x, .v d, .v y, .v p, .v (.lst [fr u, fr v]), .e, .e, .e] w = .ok (.nx [.v x, .v d, .v y, .v p, .v (.lst [fr u, fr v]), .e, .v (.int (((Sf.bt u v).den : Nat) : Int)), .v (.int (Sf.bt u v).num)]) w := by
  have hb : bare [5] ([.v x, .v d, .v y, .v p, .v (.lst [fr u, fr v]), .e, .e, .e] : Rf.S) = true := rfl
  have e := srt2 ((u.den : Nat) : Int) u.num ((v.den : Nat) : Int) v.num
  unfold Sf.bt
  by_cases c : ((v.den : Nat) : Int) < ((u.den : Nat) : Int) ∨ (((v.den : Nat) : Int) = ((u.den : Nat) : Int) ∧ v.num < u.num)
  · rw [if_pos c] at e ⊢
    simp -implicitDefEqProofs [q_is_middle_told_6, hb, compL, e, sizeLine]
  · rw [if_neg c] at e ⊢
    simp -implicitDefEqProofs [q_is_middle_told_6, hb, compL, e, sizeLine]
theorem i_q7 {p q : D} {z : Sl} {m : Int} (hm : m % 2 = 1) : evT q_is_middle_told_7 [.v x, .v (.tup [.int a, .int (m / 2), q]), .v y, .v p, z, .e, .v (.int a), .v (.int m)] w = .ok (.rt (.bl true)) w := by
  have d : CDivW m 2 := cdiv_of (n := 2) (by decide) (by decide) (by decide) (by decide)
  have e := eq_same (a := .tup [.int a, .int (m / 2)]) (by simp [plD, plDs]) (by simp [dpD, dpDs])
  simp -implicitDefEqProofs [q_is_middle_told_7, hm, d, e, sizeLine]
end
end Rf.K00
namespace Rf.K00
open PySem L2 PySem.Spec PyProof.Rows Rf
def mid (t : Rat) (us : List (Rat × D)) : Option Rat := if t.num % 2 = 1 then some t else pick us
theorem bt_or (u v : Rat) : Sf.bt u v = u ∨ Sf.bt u v = v := by
  unfold Sf.bt; split
  · exact .inr rfl
  · exact .inl rfl
section
variable {S : Sf.St} {t : Rat} {dt : D} {us : List (Rat × D)} {w : W}
theorem mid_facts (m : Mid S t dt us) {z : Rat} (h : mid t us = some z) : z.num % 2 = 1 ∧ (Sf.db S).In z ∧ Sz 900 z := by
  unfold mid at h
  by_cases c : t.num % 2 = 1
  · rw [if_pos c] at h
    cases h
    exact ⟨c, m.mt.1, m.zt⟩
  · rw [if_neg c] at h
    rcases m.hv with q | ⟨ev, k, ek, q⟩
    · exact absurd q c
    cases q with
    | none => cases h
    | left c1 c2 mu pu zu =>
      cases h
      exact ⟨Sf.odd_left m.mt ev mu (pap_pos pu), Sf.lp_in m.mt.1 mu.1, zu⟩
    | right c1 c2 mu pu zu =>
      cases h
      exact ⟨Sf.odd_right m.mt ev mu (pap_pos pu), Sf.rp_in m.mt.1 mu.1, zu⟩
    | both c1 c2 mu pu zu mv pv zv =>
      have hb := Option.some.inj h
      rcases bt_or _ _ with e | e
      · rw [← hb, e]
        exact ⟨Sf.odd_left m.mt ev mu (pap_pos pu), Sf.lp_in m.mt.1 mu.1, zu⟩
      · rw [← hb, e]
        exact ⟨Sf.odd_right m.mt ev mv (pap_pos pv), Sf.rp_in m.mt.1 mv.1, zv⟩
theorem mid_non (h : mid t us = none) : midD t dt us = .non := by
  unfold mid at h; unfold midD
  split
  · rename_i c; rw [if_pos c] at h; cases h
  · rename_i c; rw [if_neg c] at h; rw [h]
theorem mid_some {z : Rat} (h : mid t us = some z) : ∃ P, midD t dt us = .tup [.int ((z.den : Nat) : Int), .int (z.num / 2), P] := by
  unfold mid at h; unfold midD
  split
  · rename_i c; rw [if_pos c] at h; cases h; exact ⟨_, rfl⟩
  · rename_i c; rw [if_neg c] at h; rw [h]; exact ⟨_, rfl⟩
theorem plD_pap {s : Rat} {d : D} (p : Pap s d) : plD d = true := by
  rcases p with ⟨_, rfl⟩ | ⟨_, l0, l1, r0, r1, _, rfl⟩
  · rfl
  · simp [plD, plDs, pr]
theorem plD_pp {s : Rat} {d : D} (p : Pap s d) : plD (ppD (s, d)) = true := by simp [ppD, plD, plDs, plD_fr, plD_pap p]
theorem ne_tnil {x : D} {l : List D} (h : plDs (x :: l) = true) : cmpD .Eq (.tup (x :: l)) (.tup []) = some (.bl false) := by
  rw [eq_pl (by unfold plD; exact h) rfl (by simp [dpD, dpDs])]
  simp [beqD, beqDs]
theorem lp_z {n : Nat} (z : Zs n S) (zt : Sz n t) : Zs n (Sf.lp S t) := ⟨z.lo, fun k hk => by cases hk; exact zt⟩
theorem rp_z {n : Nat} (z : Zs n S) (zt : Sz n t) : Zs n (Sf.rp S t) := ⟨zt, fun k hk => z.hi k hk⟩
theorem lp_0 {u : Rat} (h : 0 ≤ S.lo) (m : Sf.Min (Sf.lp S t) u) : 0 ≤ u := Rat.le_trans h (Sf.In.ge (S := Sf.lp S t) m.1)
theorem rp_0 {u : Rat} (h : 0 ≤ t) (m : Sf.Min (Sf.rp S t) u) : 0 ≤ u := Rat.le_trans h (Sf.In.ge (S := Sf.rp S t) m.1)
theorem is_middle_ok (g : Gd 160 S) (m : Mid S t dt us) {z : Rat} (h : mid t us = some z) : F_is_middle_told [sD S, midD t dt us] w = .ok (.bl true) w := by
  obtain ⟨od, iz, zz⟩ := mid_facts m h
  have gw := db_gd g
  have q0 := fun d => i_q0 (twice_ok (w := w) g (by decide)) (d := d)
  have zW : Zs 1000 (Sf.db S) := gw.z9 (by decide)
  have jt := judge_ok (w := w) zW m.mt m.zt m.t0 m.pt
  have un : ∀ d, F_is_middle_told [sD S, d] w = runF 8 (evTs (.cons q_is_middle_told_0 (.cons q_is_middle_told_1 (.cons q_is_middle_told_2 (.cons q_is_middle_told_3 (.cons q_is_middle_told_4 (.cons q_is_middle_told_5 (.cons q_is_middle_told_6 (.cons q_is_middle_told_7 .nil))))))))) [sD S, d] w := fun d => by
    unfold F_is_middle_told
    rw [tree_is_middle_told]
  have zt1 := m.zt.up (by decide : 900 ≤ 1000)
  rw [un]
  unfold mid at h
  unfold midD
  by_cases c : t.num % 2 = 1
  · rw [if_pos c] at h ⊢
    cases h
    exact run_of (sq_nx (q0 _) (sq_nx i_q1 (sq_nx i_q2 (sq_nx i_q3 (sq_nx (i_q4 (ne_tnil (by simp [plDs, plD_pp m.pt]))) (sq_nx (i_q5_1 jt) (sq_nx i_q6_1 (sq_rt (i_q7 od)))))))))
  · rw [if_neg c] at h ⊢
    rcases m.hv with q | ⟨ev, k, ek, q⟩
    · exact absurd q c
    have hh := halves_ok (w := w) ek zW zt1
    unfold hvs at hh
    cases q with
    | none => cases h
    | left c1 c2 mu pu zu =>
      cases h
      rw [if_pos c1, if_neg c2] at hh
      have ju := judge_ok (w := w) (lp_z zW zt1) mu zu (lp_0 gw.ok.n0 mu) pu
      exact run_of (sq_nx (q0 _) (sq_nx i_q1 (sq_nx i_q2 (sq_nx i_q3 (sq_nx (i_q4 (ne_tnil (by simp [plDs, plD_pp m.pt, plD_pp pu]))) (sq_nx (i_q5_2 (beside_1 ev jt hh ju)) (sq_nx i_q6_1 (sq_rt (i_q7 od)))))))))
    | right c1 c2 mu pu zu =>
      cases h
      rw [if_neg c1, if_pos c2] at hh
      have ju := judge_ok (w := w) (rp_z zW zt1) mu zu (rp_0 m.t0 mu) pu
      exact run_of (sq_nx (q0 _) (sq_nx i_q1 (sq_nx i_q2 (sq_nx i_q3 (sq_nx (i_q4 (ne_tnil (by simp [plDs, plD_pp m.pt, plD_pp pu]))) (sq_nx (i_q5_2 (beside_1 ev jt hh ju)) (sq_nx i_q6_1 (sq_rt (i_q7 od)))))))))
    | both c1 c2 mu pu zu mv pv zv =>
      cases h
      rw [if_pos c1, if_pos c2] at hh
      have ju := judge_ok (w := w) (lp_z zW zt1) mu zu (lp_0 gw.ok.n0 mu) pu
      have jv := judge_ok (w := w) (rp_z zW zt1) mv zv (rp_0 m.t0 mv) pv
      exact run_of (sq_nx (q0 _) (sq_nx i_q1 (sq_nx i_q2 (sq_nx i_q3 (sq_nx (i_q4 (ne_tnil (by simp [plDs, plD_pp m.pt, plD_pp pu, plD_pp pv]))) (sq_nx (i_q5_3 (beside_2 ev jt hh ju jv)) (sq_nx i_q6_2 (sq_rt (i_q7 od)))))))))
theorem shows_middle_ok (g : Gd 160 S) (m : Mid S t dt us) {z : Rat} (h : mid t us = some z) : F_shows_middle_size [sD S, midD t dt us] w = .ok (.bl true) w := by
  have c := check_ok (w := w) (⟨g.ok, g.z9 (by decide), g.end_⟩ : Gd 400 S)
  have e := is_middle_ok (w := w) g m h
  generalize sD S = x at *
  generalize midD t dt us = y at *
  simp -implicitDefEqProofs [F_shows_middle_size, t_shows_middle_size, st0, c, e]
/-- the middle goes along -/
theorem mid_sh {n : Int} {t' : Rat} {dt' : D} {us' : List (Rat × D)} (m : Mid S t dt us) (m' : Mid (Sf.sh S n) t' dt' us') : mid t' us' = (mid t us).map (· + ((2 * n : Int) : Rat)) := by
  have mt' := m'.mt
  rw [Sf.db_sh] at mt'
  have et := Sf.sh_min m.mt (pap_pos m.pt) mt'
  subst et
  obtain ⟨a1, a2⟩ := Sf.add_int t (2 * n)
  have par : (t + ((2 * n : Int) : Rat)).num % 2 = t.num % 2 := by
    rw [a1, Int.mul_assoc]; omega
  unfold mid
  rw [par]
  by_cases c : t.num % 2 = 1
  · rw [if_pos c, if_pos c]; rfl
  · rw [if_neg c, if_neg c]
    rcases m.hv with q | ⟨ev, k, ek, q⟩
    · exact absurd q c
    rcases m'.hv with q' | ⟨ev', k', ek', q'⟩
    · rw [par] at q'; exact absurd q' c
    rw [Sf.db_sh] at ek' q'
    have ek2 : (Sf.sh (Sf.db S) (2 * n)).hi = some (k + ((2 * n : Int) : Rat)) := by unfold Sf.sh; rw [ek]; rfl
    rw [ek2] at ek'
    cases ek'
    have l1 : (Sf.sh (Sf.db S) (2 * n)).lo < t + ((2 * n : Int) : Rat) ↔ (Sf.db S).lo < t := by
      unfold Sf.sh; simp only; constructor <;> intro <;> grind
    have l2 : t + ((2 * n : Int) : Rat) < k + ((2 * n : Int) : Rat) ↔ t < k := by constructor <;> intro <;> grind
    cases q with
    | none c1 c2 =>
      cases q' with
      | none => rfl
      | left d1 => exact absurd (l1.mp d1) c1
      | right _ d2 => exact absurd (l2.mp d2) c2
      | both d1 => exact absurd (l1.mp d1) c1
    | left c1 c2 mu pu zu =>
      cases q' with
      | none d1 => exact absurd (l1.mpr c1) d1
      | left d1 d2 mu' pu' zu' =>
        rw [Sf.lp_sh] at mu'
        have := Sf.sh_min mu (pap_pos pu) mu'
        subst this
        rfl
      | right d1 d2 => exact absurd (l1.mpr c1) d1
      | both d1 d2 => exact absurd (l2.mp d2) c2
    | right c1 c2 mu pu zu =>
      cases q' with
      | none d1 d2 => exact absurd (l2.mpr c2) d2
      | left d1 d2 => exact absurd (l1.mp d1) c1
      | right d1 d2 mu' pu' zu' =>
        rw [Sf.rp_sh] at mu'
        have := Sf.sh_min mu (pap_pos pu) mu'
        subst this
        rfl
      | both d1 d2 => exact absurd (l1.mp d1) c1
    | both c1 c2 mu pu zu mv pv zv =>
      cases q' with
      | none d1 d2 => exact absurd (l2.mpr c2) d2
      | left d1 d2 => exact absurd (l2.mpr c2) d2
      | right d1 d2 => exact absurd (l1.mpr c1) d1
      | both d1 d2 mu' pu' zu' mv' pv' zv' =>
        rw [Sf.lp_sh] at mu'
        rw [Sf.rp_sh] at mv'
        have e1 := Sf.sh_min mu (pap_pos pu) mu'
        have e2 := Sf.sh_min mv (pap_pos pv) mv'
        subst e1
        subst e2
        exact congrArg some (Sf.bt_sh _ _ _)
end
end Rf.K00
namespace Rf.K00
open PySem L2 PySem.Spec PyProof.Rows Rf
theorem k_take : TakeOk F__law_take := take_ok (c1 := 173151) (c2 := 8115) (c3 := 12639) (c4 := 3723) (by decide) (by decide) (by decide) (by decide)
theorem k_of {m : Nat} {w : W} {xs : List D} (hp : Pk (m + 1) w) (h1 : 1 ≤ xs.length) (h2 : xs.length < 100) : ∃ d w', F__law_of [.pot, .lst xs] w = .ok d w' ∧ d ∈ xs ∧ Pk m w' :=
  of_ok k_take hp h1 (Nat.lt_of_lt_of_le h2 (by decide))
theorem k_of3 {m : Nat} {w : W} {a b c : Int} (hp : Pk (m + 1) w) (h : 1 ≤ a ∧ a ≤ b ∧ b ≤ c) : ∃ d w', F__law_of [.pot, .lst [.int a, .int b, .int c]] w = .ok (.int d) w' ∧ 1 ≤ d ∧ d ≤ c ∧ Pk m w' := by
  obtain ⟨d, w', e, hd, p⟩ := k_of hp (xs := [.int a, .int b, .int c]) (by simp) (by simp)
  simp only [List.mem_cons, List.not_mem_nil, or_false] at hd
  rcases hd with q | q | q <;> subst q
  · exact ⟨a, w', e, by omega, by omega, p⟩
  · exact ⟨b, w', e, by omega, by omega, p⟩
  · exact ⟨c, w', e, by omega, by omega, p⟩
theorem small {a : Int} {k : Nat} (h : a.natAbs < 2 ^ 10) (hk : 10 ≤ k := by decide) : a.natAbs < 2 ^ k := Nat.lt_of_lt_of_le h (Nat.pow_le_pow_right (by decide) hk)
/-- a drawn stretch -/
structure Dr (S : Sf.St) : Prop where
  g : Gd 21 S
  lo : 0 < S.lo
theorem e_stretch {k : Nat} {w : W} (hp : Pk (k + 8) w) : ∃ S w', F__law_stretch [.pot] w = .ok (sD S) w' ∧ Dr S ∧ Pk k w' := by
  obtain ⟨r1, w1, e1, a1, b1, p1⟩ := k_take (k + 7) w 60 hp (by decide) (small (by decide))
  obtain ⟨u2, w2, e2, a2, b2, p2⟩ := k_of3 (m := k + 6) (w := w1) (a := 3) (b := 20) (c := 60) p1 (by decide)
  obtain ⟨r3, w3, e3, a3, b3, p3⟩ := k_take (k + 5) w2 u2 p2 a2 (small (by omega))
  obtain ⟨r4, w4, e4, a4, b4, p4⟩ := k_take (k + 4) w3 9 p3 (by decide) (small (by decide))
  obtain ⟨u5, w5, e5, a5, b5, p5⟩ := k_of3 (m := k + 3) (w := w4) (a := 2) (b := 30) (c := 1000) p4 (by decide)
  obtain ⟨r6, w6, e6, a6, b6, p6⟩ := k_take (k + 2) w5 u5 p5 a5 (small (by omega))
  have hr1 := k_lreduced (w := w3) (a := 1 + r1) (b := 1 + r3) (by omega) (small (by omega))
  have hr2 := k_lreduced (w := w6) (a := r4) (b := 1 + r6) (by omega) (small (by omega))
  have z1 : Sz 10 (Rat.divInt (1 + r1) (1 + r3)) := sz_div (by omega) (by omega) (by omega)
  have z2 : Sz 10 (Rat.divInt r4 (1 + r6)) := sz_div (by omega) (by omega) (by omega)
  have l1 : 0 < Rat.divInt (1 + r1) (1 + r3) := by
    rw [Rat.divInt_eq_div]
    rw [Rat.lt_div_iff (Rat.intCast_pos.mpr (by omega)), Rat.zero_mul]
    exact Rat.intCast_pos.mpr (by omega)
  have l2 : 0 ≤ Rat.divInt r4 (1 + r6) := Rat.divInt_nonneg a4 (by omega)
  generalize Rat.divInt (1 + r1) (1 + r3) = lo at *
  generalize Rat.divInt r4 (1 + r6) = wi at *
  by_cases c : wi.num = 0
  · refine ⟨⟨lo, true, some lo, true⟩, w6, ?_, ⟨⟨⟨Rat.le_of_lt l1, fun h q => by cases q; exact .inr ⟨rfl, rfl, rfl⟩⟩, ⟨z1.up (by decide), fun h q => by cases q; exact z1.up (by decide)⟩, ⟨lo, rfl⟩⟩, l1⟩, p6.le (by omega)⟩
    unfold sD hiD
    simp -implicitDefEqProofs [F__law_stretch, t__law_stretch, st0, e1, e2, e3, e4, e5, e6, hr1, hr2, c, sizeLine]
  · obtain ⟨r7, w7, e7, a7, b7, p7⟩ := k_take (k + 1) w6 2 p6 (by decide) (small (by decide))
    obtain ⟨r8, w8, e8, a8, b8, p8⟩ := k_take k w7 2 p7 (by decide) (small (by decide))
    have ha := k_ladded (w := w7) (p := lo) (q := wi) (z1.up (by decide)) (z2.up (by decide))
    have wp : 0 < wi := by
      rcases Sf.leor l2 with q | q
      · exact q
      · exact absurd (by rw [← q]; rfl) c
    have lt : lo < lo + wi := by grind
    refine ⟨⟨lo, decide (r7 = 0), some (lo + wi), decide (r8 = 0)⟩, w8, ?_, ⟨⟨⟨Rat.le_of_lt l1, fun h q => by cases q; exact .inl lt⟩, ⟨z1.up (by decide), fun h q => by cases q; exact z_add z1 z2 (by decide)⟩, ⟨_, rfl⟩⟩, l1⟩, p8⟩
    unfold sD hiD
    simp only
    generalize fr (lo + wi) = F at *
    simp -implicitDefEqProofs [F__law_stretch, t__law_stretch, st0, e1, e2, e3, e4, e5, e6, e7, e8, hr1, hr2, ha, c, sizeLine]
section
variable {S : Sf.St} {h : Rat} {w : W}
theorem shifted_ok {n : Int} (z : Zs 900 S) (e : S.hi = some h) (zn : Sz 900 (n : Rat)) : F__law_shifted [sD S, .int n] w = .ok (sD (Sf.sh S n)) w := by
  have a1 := k_ladded (w := w) (z.lo.up (by decide : 900 ≤ 1000)) (zn.up (by decide : 900 ≤ 1000))
  have a2 := k_ladded (w := w) ((z.hi h e).up (by decide : 900 ≤ 1000)) (zn.up (by decide : 900 ≤ 1000))
  rw [← fr_i] at a1 a2
  unfold sD Sf.sh
  rw [e]
  simp only [hiD, Option.map_some]
  generalize fr (S.lo + (n : Rat)) = x1 at *
  generalize fr (h + (n : Rat)) = x2 at *
  generalize fr S.lo = x3 at *
  generalize fr h = x4 at *
  simp -implicitDefEqProofs [F__law_shifted, t__law_shifted, st0, a1, a2, sizeLine]
theorem mirrored_ok {n : Int} (z : Zs 900 S) (e : S.hi = some h) (zn : Sz 900 (n : Rat)) : F__law_mirrored [sD S, .int n] w = .ok (sD (Sf.mi S h n)) w := by
  have a1 := k_ladded (w := w) (zn.up (by decide : 900 ≤ 1000)) (Wd.sz_neg (z.lo.up (by decide : 900 ≤ 1000)))
  have a2 := k_ladded (w := w) (zn.up (by decide : 900 ≤ 1000)) (Wd.sz_neg ((z.hi h e).up (by decide : 900 ≤ 1000)))
  have b1 := k_lminus (p := S.lo) (w := w)
  have b2 := k_lminus (p := h) (w := w)
  rw [← Rat.sub_eq_add_neg, ← fr_i] at a1 a2
  unfold sD Sf.mi
  rw [e]
  simp only [hiD]
  generalize fr ((n : Rat) - S.lo) = x1 at *
  generalize fr ((n : Rat) - h) = x2 at *
  generalize fr S.lo = x3 at *
  generalize fr h = x4 at *
  generalize fr (-S.lo) = x5 at *
  generalize fr (-h) = x6 at *
  simp -implicitDefEqProofs [F__law_mirrored, t__law_mirrored, st0, a1, a2, b1, b2, sizeLine]
theorem fr_inv {x : Rat} (h : 0 < x) : fr (1 / x) = .tup [.int ((x.den : Nat) : Int), .int x.num] := by
  obtain ⟨a, b⟩ := Sf.inv_nd h
  unfold fr; rw [a, b]
theorem inverted_ok (e : S.hi = some h) (l0 : 0 < S.lo) (h0 : 0 < h) : F__law_inverted [sD S] w = .ok (sD (Sf.iv S h)) w := by
  unfold sD Sf.iv
  rw [e]
  simp only [hiD]
  rw [fr_inv l0, fr_inv h0]
  simp -implicitDefEqProofs [F__law_inverted, t__law_inverted, st0, sizeLine]
theorem is_in_ok {x : Rat} (z : Zs 1000 S) (e : S.hi = some h) (zx : Sz 1000 x) : F__law_is_in [sD S, fr x] w = .ok (.bl (inB S x)) w := by
  have a1 := k_lless (w := w) zx z.lo
  have a2 := k_lless (w := w) (z.hi h e) zx
  have e1 := p_nefr x S.lo
  have e2 := p_nefr x h
  have key : inB S x = (if decide (x < S.lo) || decide (h < x) then false else (!decide (x = S.lo) || S.li) && (!decide (x = h) || S.hn)) := by
    unfold inB upB
    rw [e]
    simp only
    by_cases c1 : x < S.lo
    · simp [c1]
    · by_cases c2 : x = S.lo
      · subst c2
        by_cases c3 : h < S.lo
        · have : ¬ S.lo < h := fun q => absurd (Rlt_trans q c3) Rat.lt_irrefl
          have n : ¬ S.lo = h := fun q => by rw [← q] at c3; exact Rat.lt_irrefl c3
          simp [this, n, c3]
        · by_cases c4 : S.lo = h
          · rw [← c4]; simp [Rat.lt_irrefl]
          · have : S.lo < h := Rat.lt_of_le_of_ne (Rat.not_lt.mp c3) c4
            simp [this, c3, c4, Rat.lt_irrefl]
      · by_cases c3 : h < x
        · have : ¬ x < h := fun q => absurd (Rlt_trans q c3) Rat.lt_irrefl
          have n : ¬ x = h := fun q => by rw [← q] at c3; exact Rat.lt_irrefl c3
          simp [this, n, c1, c2, c3]
        · by_cases c4 : x = h
          · rw [← c4]; simp [Rat.lt_irrefl, c1, c2]
          · have : x < h := Rat.lt_of_le_of_ne (Rat.not_lt.mp c3) c4
            simp [this, c1, c2, c3, c4]
  rw [key]
  unfold sD
  rw [e]
  simp only [hiD]
  generalize decide (x < S.lo) = A at *
  generalize decide (h < x) = B at *
  generalize decide (x = S.lo) = C at *
  generalize decide (x = h) = E at *
  generalize fr S.lo = x1 at *
  generalize fr h = x2 at *
  generalize fr x = x3 at *
  generalize S.li = li at *
  generalize S.hn = hn at *
  cases A <;> cases B <;> cases C <;> cases E <;> cases li <;> simp -implicitDefEqProofs [F__law_is_in, t__law_is_in, st0, a1, a2, e1, e2, sizeLine]
end
end Rf.K00
namespace Rf.K00
open PySem L2 PySem.Spec PyProof.Rows Rf
theorem isn_tt : cmpD .IsNot (.bl true) (.bl true) = some (.bl false) := rfl
theorem is_tt : cmpD .Is (.bl true) (.bl true) = some (.bl true) := rfl
theorem cut01 (a b c : D) : cutD [a, b, c] none (some 2) = [a, b] := rfl
theorem nn_t (l : List D) : cmpD .Is (.tup l) .non = some (.bl false) := rfl
theorem nn_n : cmpD .Is .non .non = some (.bl true) := rfl
section
variable {w : W} {S O : D} {s s' t : Rat} {n : Int} {d d' : D} {b0 b1 b2 b3 b4 b5 b6 b7 b8 b9 b10 : Sl}
theorem s_q0 {k : Nat} (hp : Pk (k + 2) w) : ∃ n w', evT q__law_is_shift_right_0 [.v .pot, .v S, .v d, .e, .e, .e, .e, .e, .e, .e, .e] w = .ok (.nx [.v .pot, .v S, .v d, .v (.int n), .e, .e, .e, .e, .e, .e, .e]) w' ∧ 1 ≤ n ∧ n.natAbs < 2 ^ 133 ∧ Pk k w' := by
  obtain ⟨r, w1, e1, a1, c1, p1⟩ := k_take (k + 1) w 9 hp (by decide) (small (by decide))
  obtain ⟨x, w2, e2, hx, p2⟩ := k_of p1 (xs := [.int (1 + r), .int (10 ^ 40 + 7)]) (by simp) (by simp)
  have pw : binD .Pow (.int 10) (.int 40) = some (.int (10 ^ 40)) := p_pow 10 40 (by decide)
  have bg : (10 ^ 40 + 7 : Int).natAbs < 2 ^ 133 := by decide +kernel
  have bg2 : (1 : Int) ≤ 10 ^ 40 + 7 := by decide +kernel
  generalize hX : (10 ^ 40 : Int) = X at *
  simp only [List.mem_cons, List.not_mem_nil, or_false] at hx
  have st : ∀ m, x = .int m → evT q__law_is_shift_right_0 [.v .pot, .v S, .v d, .e, .e, .e, .e, .e, .e, .e, .e] w = .ok (.nx [.v .pot, .v S, .v d, .v (.int m), .e, .e, .e, .e, .e, .e, .e]) w2 := fun m q => by
    subst q
    simp -implicitDefEqProofs [q__law_is_shift_right_0, e1, e2, pw, sizeLine]
  rcases hx with q | q
  · exact ⟨_, w2, st _ q, by omega, Nat.lt_of_lt_of_le (show (1 + r).natAbs < 2 ^ 10 by omega) (Nat.pow_le_pow_right (by decide) (by decide)), p2⟩
  · exact ⟨_, w2, st _ q, bg2, bg, p2⟩
theorem s_q1 (h : F__law_shifted [S, .int n] w = .ok O w) : evT q__law_is_shift_right_1 [.v .pot, .v S, .v d, .v (.int n), .e, .e, .e, .e, .e, .e, .e] w = .ok (.nx [.v .pot, .v S, .v d, .v (.int n), .v O, .e, .e, .e, .e, .e, .e]) w := by
  simp -implicitDefEqProofs [q__law_is_shift_right_1, h]
theorem s_q2 {A : D} (h : F_simplest [O] w = .ok A w) : evT q__law_is_shift_right_2 [.v .pot, .v S, .v d, .v (.int n), .v O, .e, .e, .e, .e, .e, .e] w = .ok (.nx [.v .pot, .v S, .v d, .v (.int n), .v O, .v A, .e, .e, .e, .e, .e]) w := by
  unfold q__law_is_shift_right_2
  generalize F_simplest = F at *
  simp -implicitDefEqProofs [h]
theorem s_q3 (z : Sz 900 (s + (n : Rat))) (h1 : F__law_added [fr s, .tup [.int n, .int 1]] w = .ok (fr (s + (n : Rat))) w) (h2 : F_shows_simplest [O, .tup [fr (s + (n : Rat)), d']] w = .ok (.bl true) w) :
    evT q__law_is_shift_right_3 [.v .pot, .v S, .v (fr s), .v (.int n), .v O, .v (.tup [fr (s + (n : Rat)), d']), .e, .e, .e, .e, .e] w = .ok (.nx [.v .pot, .v S, .v (fr s), .v (.int n), .v O, .v (.tup [fr (s + (n : Rat)), d']), .e, .e, .e, .e, .e]) w := by
  obtain ⟨tx, ht⟩ := rep_fr z (by decide)
  generalize fr (s + (n : Rat)) = x at *
  generalize fr s = y at *
  simp -implicitDefEqProofs [q__law_is_shift_right_3, h1, h2, ht, p_nes, isn_tt, sizeLine]
theorem s_q4 {A E1 E2 : D} (h1 : F_edge_size [S] w = .ok E1 w) (h2 : F_edge_size [O] w = .ok E2 w) : evT q__law_is_shift_right_4 [.v .pot, .v S, .v d, .v (.int n), .v O, .v A, .e, .e, .e, .e, .e] w = .ok (.nx [.v .pot, .v S, .v d, .v (.int n), .v O, .v A, .v E1, .v E2, .e, .e, .e]) w := by
  unfold q__law_is_shift_right_4
  generalize F_edge_size = F at *
  simp -implicitDefEqProofs [h1, h2]
theorem s_q5 {A p q : D} {a b : Int} (ha : a = ((s.den : Nat) : Int)) (hb : b = s.num + n * ((s.den : Nat) : Int)) (m : CMulW n ((s.den : Nat) : Int)) : evT q__law_is_shift_right_5 [.v .pot, .v S, .v (fr s), .v (.int n), .v O, .v A, .v (.tup [.int ((s.den : Nat) : Int), .int s.num, p]), .v (.tup [.int a, .int b, q]), .e, .e, .e] w = .ok (.nx [.v .pot, .v S, .v (fr s), .v (.int n), .v O, .v A, .v (.tup [.int ((s.den : Nat) : Int), .int s.num, p]), .v (.tup [.int a, .int b, q]), .e, .e, .e]) w := by
  subst ha; subst hb
  have e1 := ne_same (a := .tup [.int ((s.den : Nat) : Int), .int s.num]) (by simp [plD, plDs]) (by simp [dpD, dpDs])
  have e2 := ne_same (a := .tup [.int ((s.den : Nat) : Int), .int (s.num + n * ((s.den : Nat) : Int))]) (by simp [plD, plDs]) (by simp [dpD, dpDs])
  simp -implicitDefEqProofs [q__law_is_shift_right_5, e1, e2, m, cut01, sizeLine]
theorem s_q6 {A p q r E2 : D} (h1 : F_shows_simplest [S, .tup [d, r]] w = .ok (.bl true) w) (h2 : F_shows_edge_size [O, E2] w = .ok (.bl true) w) : evT q__law_is_shift_right_6 [.v .pot, .v S, .v d, .v (.int n), .v O, .v A, .v (.tup [p, q, r]), .v E2, .e, .e, .e] w = .ok (.nx [.v .pot, .v S, .v d, .v (.int n), .v O, .v A, .v (.tup [p, q, r]), .v E2, .e, .e, .e]) w := by
  simp -implicitDefEqProofs [q__law_is_shift_right_6, h1, h2, isn_tt, sizeLine]
theorem s_q7 {A E1 E2 M1 M2 : D} (h1 : F_middle_size [S] w = .ok M1 w) (h2 : F_middle_size [O] w = .ok M2 w) : evT q__law_is_shift_right_7 [.v .pot, .v S, .v d, .v (.int n), .v O, .v A, .v E1, .v E2, .e, .e, .e] w = .ok (.nx [.v .pot, .v S, .v d, .v (.int n), .v O, .v A, .v E1, .v E2, .v M1, .v M2, .e]) w := by
  unfold q__law_is_shift_right_7
  generalize F_middle_size = F at *
  simp -implicitDefEqProofs [h1, h2]
theorem s_q8n {A E1 E2 : D} : evT q__law_is_shift_right_8 [.v .pot, .v S, .v d, .v (.int n), .v O, .v A, .v E1, .v E2, .v .non, .v .non, .e] w = .ok (.rt (.bl true)) w := by
  simp -implicitDefEqProofs [q__law_is_shift_right_8, nn_n, isNon]
theorem s_q8 {A E1 E2 : D} {l l' : List D} : evT q__law_is_shift_right_8 [.v .pot, .v S, .v d, .v (.int n), .v O, .v A, .v E1, .v E2, .v (.tup l), .v (.tup l'), .e] w = .ok (.nx [.v .pot, .v S, .v d, .v (.int n), .v O, .v A, .v E1, .v E2, .v (.tup l), .v (.tup l'), .e]) w := by
  simp -implicitDefEqProofs [q__law_is_shift_right_8, nn_t, isNon]
theorem s_q9 {A E1 E2 p q : D} {a b b' : Int} (m : CMulW n a) (hb : b' = b + n * a) : evT q__law_is_shift_right_9 [.v .pot, .v S, .v d, .v (.int n), .v O, .v A, .v E1, .v E2, .v (.tup [.int a, .int b, p]), .v (.tup [.int a, .int b', q]), .e] w = .ok (.nx [.v .pot, .v S, .v d, .v (.int n), .v O, .v A, .v E1, .v E2, .v (.tup [.int a, .int b, p]), .v (.tup [.int a, .int b', q]), .e]) w := by
  subst hb
  simp -implicitDefEqProofs [q__law_is_shift_right_9, m, sizeLine]
theorem s_q10 {A E1 E2 p q : D} {a b : Int} {y : D} (m1 : CMulW 2 b) (m2 : CMulW 2 a) (h : F__law_reduced [.int (2 * b + 1), .int (2 * a)] w = .ok y w) : evT q__law_is_shift_right_10 [.v .pot, .v S, .v d, .v (.int n), .v O, .v A, .v E1, .v E2, .v (.tup [.int a, .int b, p]), .v q, .e] w = .ok (.nx [.v .pot, .v S, .v d, .v (.int n), .v O, .v A, .v E1, .v E2, .v (.tup [.int a, .int b, p]), .v q, .v y]) w := by
  simp -implicitDefEqProofs [q__law_is_shift_right_10, m1, m2, h, sizeLine]
theorem s_q11 {A E1 E2 M1 M2 y : D} (h1 : F__law_is_in [S, y] w = .ok (.bl true) w) (h2 : F_shows_middle_size [O, M2] w = .ok (.bl true) w) : evT q__law_is_shift_right_11 [.v .pot, .v S, .v d, .v (.int n), .v O, .v A, .v E1, .v E2, .v M1, .v M2, .v y] w = .ok (.rt (.bl true)) w := by
  simp -implicitDefEqProofs [q__law_is_shift_right_11, h1, h2, is_tt, sizeLine]
end
end Rf.K00
namespace Rf.K00
open PySem L2 PySem.Spec PyProof.Rows Rf
theorem sh_gd {S : Sf.St} {n : Int} {a b m : Nat} (g : Gd a S) (zn : Sz b (n : Rat)) (hn : 0 ≤ n) (h : a + b + 1 ≤ m) : Gd m (Sf.sh S n) := by
  obtain ⟨k, e⟩ := g.end_
  have hs : (Sf.sh S n).hi = some (k + (n : Rat)) := by unfold Sf.sh; rw [e]; rfl
  have n0 : (0 : Rat) ≤ (n : Rat) := Rat.intCast_nonneg.mpr hn
  refine ⟨⟨?_, fun x hx => ?_⟩, ⟨z_add g.zs.lo zn h, fun x hx => ?_⟩, ⟨_, hs⟩⟩
  · have := g.ok.n0
    show 0 ≤ S.lo + (n : Rat)
    grind
  · rw [hs] at hx; cases hx
    rcases g.ok.ne k e with q | q
    · exact .inl (by show S.lo + (n : Rat) < k + n; grind)
    · exact .inr ⟨by show S.lo + (n : Rat) = k + n; rw [q.1], q.2⟩
  · rw [hs] at hx; cases hx
    exact z_add (g.zs.hi k e) zn h
theorem half_of {z : Rat} (h : Sz 900 z) : ∃ y, Rat.divInt z.num (2 * ((z.den : Nat) : Int)) = y ∧ z = 2 * y ∧ Sz 910 y := by
  refine ⟨_, rfl, ?_, ?_⟩
  · have e := Rat.divInt_mul_divInt 2 z.num (d₁ := 1) (d₂ := 2 * ((z.den : Nat) : Int))
    have e2 : Rat.divInt 2 1 = (2 : Rat) := by decide +kernel
    rw [e2] at e
    rw [e, Int.one_mul, Rat.divInt_mul_left (by decide)]
    exact (Rat.num_divInt_den z).symm
  · have hp := Sf.dpos z
    refine sz_div (by omega) ?_ ?_
    · exact Nat.lt_of_lt_of_le h.1 (Nat.pow_le_pow_right (by decide) (by decide))
    · have h2 := h.2
      have : (2 : Nat) ^ 910 = 2 ^ 10 * 2 ^ 900 := by rw [← Nat.pow_add]
      omega
theorem shift_ok {S : Sf.St} {s : Rat} {ds : D} {k : Nat} {w : W} (hp : Pk (k + 2) w) (dr : Dr S) (ms : Sf.Min S s) (ps : Pap s ds) (zs : Sz 900 s) (es : ∀ w, F_edge_size [sD S] w = .ok (.tup [.int ((s.den : Nat) : Int), .int s.num, ds]) w) :
    ∃ w', F__law_is_shift_right [.pot, sD S, fr s] w = .ok (.bl true) w' ∧ Pk k w' := by
  obtain ⟨n, w1, e0, n1, nb, p1⟩ := s_q0 (S := sD S) (d := fr s) hp
  refine ⟨w1, ?_, p1⟩
  have zn : Sz 133 (n : Rat) := sz_i nb (by decide)
  have gS : Gd 160 S := ⟨dr.g.ok, dr.g.z9 (by decide), dr.g.end_⟩
  have gS4 : Gd 400 S := ⟨dr.g.ok, dr.g.z9 (by decide), dr.g.end_⟩
  have gO : Gd 160 (Sf.sh S n) := sh_gd dr.g zn (by omega) (by decide)
  have gO4 : Gd 400 (Sf.sh S n) := ⟨gO.ok, gO.z9 (by decide), gO.end_⟩
  obtain ⟨h, eh⟩ := dr.g.end_
  obtain ⟨s', d', ms', ps', zs', ea, eb⟩ := simplest_ok gO4
  obtain ⟨t, dt, us, m, em⟩ := middle_size_ok gS
  obtain ⟨t', dt', us', m', em'⟩ := middle_size_ok gO
  have q := Sf.sh_min ms (pap_pos ps) ms'
  subst q
  obtain ⟨a1, a2⟩ := Sf.add_int s n
  have za := k_ladded (w := w1) (zs.up (by decide : 900 ≤ 1000)) (zn.up (by decide : 133 ≤ 1000))
  rw [← fr_i] at za
  have mn : CMulW n ((s.den : Nat) : Int) := cmul_of nb (show ((s.den : Nat) : Int).natAbs < 2 ^ 900 by simpa using zs.2) (by decide) (by decide) (by decide)
  have e1 := s_q1 (d := fr s) (shifted_ok (w := w1) (dr.g.z9 (by decide)) eh (zn.up (by decide : 133 ≤ 900)))
  have e2 := s_q2 (S := sD S) (d := fr s) (n := n) (ea w1)
  have e3 := s_q3 (S := sD S) (n := n) zs' za (shows_ok (w := w1) gO4 ms' zs' ps')
  have e4 := s_q4 (d := fr s) (n := n) (A := .tup [fr (s + (n : Rat)), d']) (es w1) (eb w1)
  have e5 := s_q5 (S := sD S) (O := sD (Sf.sh S n)) (n := n) (A := .tup [fr (s + (n : Rat)), d']) (s := s) (p := ds) (q := d') (w := w1) (a := (((s + (n : Rat)).den : Nat) : Int)) (b := (s + (n : Rat)).num) (by rw [a2]) a1 mn
  have e6 := s_q6 (n := n) (A := .tup [fr (s + (n : Rat)), d']) (p := .int ((s.den : Nat) : Int)) (q := .int s.num) (shows_ok (w := w1) gS4 ms zs ps) (shows_edge_ok (w := w1) gO4 ms' zs' ps')
  have e7 := s_q7 (d := fr s) (n := n) (A := .tup [fr (s + (n : Rat)), d']) (E1 := .tup [.int ((s.den : Nat) : Int), .int s.num, ds]) (E2 := .tup [.int (((s + (n : Rat)).den : Nat) : Int), .int (s + (n : Rat)).num, d']) (em w1) (em' w1)
  have ms2 := mid_sh m m'
  unfold F__law_is_shift_right
  rw [tree__law_is_shift_right]
  cases hm : mid t us with
  | none =>
    rw [hm] at ms2
    have i1 := mid_non (dt := dt) hm
    have i2 := mid_non (dt := dt') (show mid t' us' = none from ms2)
    rw [i1, i2] at e7
    exact run_of (sq_nx e0 (sq_nx e1 (sq_nx e2 (sq_nx e3 (sq_nx e4 (sq_nx e5 (sq_nx e6 (sq_nx e7 (sq_rt s_q8n)))))))))
  | some z =>
    rw [hm] at ms2
    have hm' : mid t' us' = some (z + ((2 * n : Int) : Rat)) := ms2
    obtain ⟨P, i1⟩ := mid_some (dt := dt) hm
    obtain ⟨P', i2⟩ := mid_some (dt := dt') hm'
    obtain ⟨od, iz, zz⟩ := mid_facts m hm
    have sm := shows_middle_ok (w := w1) gO m' hm'
    rw [i2] at sm
    rw [i1, i2] at e7
    obtain ⟨c1, c2⟩ := Sf.add_int z (2 * n)
    rw [c2] at e7 sm
    obtain ⟨y, ey, ez, zy⟩ := half_of zz
    have zd : ((z.den : Nat) : Int).natAbs < 2 ^ 900 := by simpa using zz.2
    have znn : z.num.natAbs < 2 ^ 900 := zz.1
    have hy : F__law_reduced [.int (2 * (z.num / 2) + 1), .int (2 * ((z.den : Nat) : Int))] w1 = .ok (fr y) w1 := by
      have := Sf.dpos z
      have h := k_lreduced (w := w1) (a := z.num) (b := 2 * ((z.den : Nat) : Int)) (by omega) (by
        have : (2 : Nat) ^ 1000 = 2 ^ 100 * 2 ^ 900 := by rw [← Nat.pow_add]
        have : 2 * 2 ^ 900 ≤ 2 ^ 100 * 2 ^ 900 := Nat.mul_le_mul_right _ (by decide)
        omega)
      rw [ey] at h
      have e : 2 * (z.num / 2) + 1 = z.num := by omega
      rw [e]; exact h
    have iy : S.In y := by rw [← Sf.db_in, ← ez]; exact iz
    have iny := is_in_ok (w := w1) (dr.g.z9 (by decide)) eh (zy.up (by decide : 910 ≤ 1000))
    rw [inB_iff.mpr iy] at iny
    have mm1 : CMulW 2 (z.num / 2) := cmul_of (show (2 : Int).natAbs < 2 ^ 2 by decide) (show (z.num / 2).natAbs < 2 ^ 900 by omega) (by decide) (by decide) (by decide)
    have mm2 : CMulW 2 ((z.den : Nat) : Int) := cmul_of (show (2 : Int).natAbs < 2 ^ 2 by decide) zd (by decide) (by decide) (by decide)
    have mm3 : CMulW n ((z.den : Nat) : Int) := cmul_of nb zd (by decide) (by decide) (by decide)
    have hb' : (z + ((2 * n : Int) : Rat)).num / 2 = z.num / 2 + n * ((z.den : Nat) : Int) := by
      rw [c1, Int.mul_assoc]; omega
    exact run_of (sq_nx e0 (sq_nx e1 (sq_nx e2 (sq_nx e3 (sq_nx e4 (sq_nx e5 (sq_nx e6 (sq_nx e7 (sq_nx s_q8 (sq_nx (s_q9 mm3 hb') (sq_nx (s_q10 mm1 mm2 hy) (sq_rt (s_q11 iny sm)))))))))))))
end Rf.K00
namespace Rf.K00
open PySem L2 PySem.Spec PyProof.Rows Rf
theorem mi_gd {S : Sf.St} {n : Int} {h : Rat} {a b m : Nat} (g : Gd a S) (e : S.hi = some h) (zn : Sz b (n : Rat)) (hn : h ≤ (n : Rat)) (hm : b + a + 1 ≤ m) : Gd m (Sf.mi S h n) := by
  refine ⟨⟨?_, fun x hx => ?_⟩, ⟨?_, fun x hx => ?_⟩, ⟨_, rfl⟩⟩
  · show 0 ≤ (n : Rat) - h
    grind
  · cases hx
    rcases g.ok.ne h e with q | q
    · exact .inl (by show (n : Rat) - h < n - S.lo; grind)
    · exact .inr ⟨by show (n : Rat) - h = n - S.lo; rw [q.1], q.2.2, q.2.1⟩
  · show Sz m ((n : Rat) - h)
    rw [Rat.sub_eq_add_neg]
    exact z_add zn (Wd.sz_neg (g.zs.hi h e)) hm
  · cases hx
    rw [Rat.sub_eq_add_neg]
    exact z_add zn (Wd.sz_neg g.zs.lo) hm
theorem hi_pos {S : Sf.St} {h : Rat} (o : Sf.Ok S) (e : S.hi = some h) (l0 : 0 < S.lo) : 0 < h := by
  rcases o.ne h e with q | q
  · exact Rlt_trans l0 q
  · rw [← q.1]; exact l0
theorem iv_gd {S : Sf.St} {h : Rat} {a : Nat} (g : Gd a S) (e : S.hi = some h) (l0 : 0 < S.lo) : Gd a (Sf.iv S h) := by
  have h0 := hi_pos g.ok e l0
  refine ⟨⟨Rat.le_of_lt (Sf.inv_pos h0), fun x hx => ?_⟩, ⟨sz_inv (g.zs.hi h e) h0, fun x hx => ?_⟩, ⟨_, rfl⟩⟩
  · cases hx
    rcases g.ok.ne h e with q | q
    · exact .inl (by show 1 / h < 1 / S.lo; rw [Sf.inv_lt h0 l0]; exact q)
    · exact .inr ⟨by show 1 / h = 1 / S.lo; rw [q.1], q.2.2, q.2.1⟩
  · cases hx
    exact sz_inv g.zs.lo l0
section
variable {w : W} {S : Sf.St} {s s' t h : Rat} {n : Int} {x X d d' : D}
theorem t_q0 (z : Sz 900 (1 / s)) (s0 : 0 < s) (h1 : F__law_inverted [x] w = .ok X w) (h2 : F_simplest [X] w = .ok (.tup [fr (1 / s), d']) w) : evT q__law_is_turn_right_0 [.v .pot, .v x, .v (fr s), .e, .e] w = .ok (.nx [.v .pot, .v x, .v (fr s), .e, .e]) w := by
  obtain ⟨tx, ht⟩ := rep_fr z (by decide)
  have e := fr_inv s0
  rw [e] at ht h2
  unfold q__law_is_turn_right_0
  generalize F_simplest = F at *
  simp -implicitDefEqProofs [h1, h2, ht, p_nes, sizeLine]
theorem t_q1 {k : Nat} (hp : Pk (k + 1) w) (e : S.hi = some h) (zh : Sz 21 h) (h0 : 0 < h) : ∃ n w', evT q__law_is_turn_right_1 [.v .pot, .v (sD S), .v d, .e, .e] w = .ok (.nx [.v .pot, .v (sD S), .v d, .v (.int n), .e]) w' ∧ h ≤ (n : Rat) ∧ Sz 30 (n : Rat) ∧ Pk k w' := by
  obtain ⟨r, w1, e1, a1, c1, p1⟩ := k_take k w 3 hp (by decide) (small (by decide))
  have dv : CDivW h.num ((h.den : Nat) : Int) := cdiv_of (Sf.dpos h) (show ((h.den : Nat) : Int).natAbs < 2 ^ 21 by simpa using zh.2) (by decide) (by decide)
  have fl : h.floor = h.num / ((h.den : Nat) : Int) := by
    rw [Rat.floor_def]
  have f1 := Sf.lt_floor h
  have f0 : 0 ≤ h.floor := by
    rw [Rat.le_floor_iff]; exact Rat.le_of_lt h0
  have f2 := Sf.le_of_num f0 (Sf.floor_le h)
  refine ⟨h.num / ((h.den : Nat) : Int) + 1 + r, w1, ?_, ?_, ?_, p1⟩
  · unfold sD
    rw [e]
    simp only [hiD]
    simp -implicitDefEqProofs [q__law_is_turn_right_1, e1, dv, sizeLine]
  · rw [← fl, Rat.intCast_add, Rat.intCast_add]
    have : (0 : Rat) ≤ (r : Rat) := Rat.intCast_nonneg.mpr a1
    have i1 : ((1 : Int) : Rat) = 1 := rfl
    rw [i1]
    grind
  · rw [← fl]
    have := zh.1
    exact sz_i (by omega) (by decide)
theorem t_q2 (h1 : F__law_mirrored [x, .int n] w = .ok X w) (h2 : F_simplest [X] w = .ok (.tup [fr s', d']) w) : evT q__law_is_turn_right_2 [.v .pot, .v x, .v d, .v (.int n), .e] w = .ok (.nx [.v .pot, .v x, .v d, .v (.int n), .v (fr s')]) w := by
  unfold q__law_is_turn_right_2
  generalize F_simplest = F at *
  generalize fr s' = y at *
  simp -implicitDefEqProofs [h1, h2, sizeLine]
theorem t_q3 (h1 : F__law_minus [fr s] w = .ok (fr (-s)) w) (h2 : F__law_added [.tup [.int n, .int 1], fr (-s)] w = .ok (fr ((n : Rat) - s)) w) (z : Sz 900 s') (hs : s.den ≠ 1 → s' = n - s) : evT q__law_is_turn_right_3 [.v .pot, .v x, .v (fr s), .v (.int n), .v (fr s')] w = .ok (.nx [.v .pot, .v x, .v (fr s), .v (.int n), .v (fr s')]) w := by
  by_cases c : s.den = 1
  · simp -implicitDefEqProofs [q__law_is_turn_right_3, c]
  · have c2 : (1 : Int) < ((s.den : Nat) : Int) := by have := s.den_pos; omega
    have := hs c
    subst this
    obtain ⟨tx, ht⟩ := rep_fr z (by decide)
    generalize fr ((n : Rat) - s) = y at *
    generalize fr (-s) = y' at *
    simp -implicitDefEqProofs [q__law_is_turn_right_3, c2, h1, h2, ht, p_nes, sizeLine]
theorem t_q4 (hd : s'.den = s.den) : evT q__law_is_turn_right_4 [.v .pot, .v x, .v (fr s), .v (.int n), .v (fr s')] w = .ok (.rt (.bl true)) w := by
  simp -implicitDefEqProofs [q__law_is_turn_right_4, hd, p_eqbl]
end
theorem turn_ok {S : Sf.St} {s : Rat} {ds : D} {k : Nat} {w : W} (hp : Pk (k + 1) w) (dr : Dr S) (ms : Sf.Min S s) (ps : Pap s ds) (zs : Sz 900 s) :
    ∃ w', F__law_is_turn_right [.pot, sD S, fr s] w = .ok (.bl true) w' ∧ Pk k w' := by
  obtain ⟨h, eh⟩ := dr.g.end_
  have h0 := hi_pos dr.g.ok eh dr.lo
  have s0 : 0 < s := Sf.ltl dr.lo (Sf.In.ge ms.1)
  obtain ⟨n, w1, e1, hn, zn, p1⟩ := t_q1 (S := S) (d := fr s) hp eh (dr.g.zs.hi h eh) h0
  refine ⟨w1, ?_, p1⟩
  have gI := iv_gd dr.g eh dr.lo
  have gI4 : Gd 400 (Sf.iv S h) := ⟨gI.ok, gI.z9 (by decide), gI.end_⟩
  have gM : Gd 400 (Sf.mi S h n) := mi_gd dr.g eh zn hn (by decide)
  obtain ⟨s1, d1, ms1, ps1, zs1, ea1, eb1⟩ := simplest_ok gI4
  obtain ⟨s2, d2, ms2, ps2, zs2, ea2, eb2⟩ := simplest_ok gM
  have q1 := Sf.iv_min eh dr.lo h0 ms ms1
  subst q1
  obtain ⟨hd, hs⟩ := Sf.mi_min eh ms (pap_pos ps) ms2
  have za := k_ladded (w := w1) (zn.up (by decide : 30 ≤ 1000)) (Wd.sz_neg (zs.up (by decide : 900 ≤ 1000)))
  rw [← Rat.sub_eq_add_neg, ← fr_i] at za
  have e0 := t_q0 (w := w) zs1 s0 (inverted_ok (w := w) eh dr.lo h0) (ea1 w)
  have e2 := t_q2 (d := fr s) (mirrored_ok (w := w1) (dr.g.z9 (by decide)) eh (zn.up (by decide : 30 ≤ 900))) (ea2 w1)
  unfold F__law_is_turn_right
  rw [tree__law_is_turn_right]
  exact run_of (sq_nx e0 (sq_nx e1 (sq_nx e2 (sq_nx (t_q3 k_lminus za zs2 hs) (sq_rt (t_q4 hd))))))
end Rf.K00
namespace Rf.K00
open PySem L2 PySem.Spec PyProof.Rows Rf
theorem half_dv {p q : Rat} : Rat.divInt (p.num * ((q.den : Nat) : Int) + q.num * ((p.den : Nat) : Int)) (2 * ((p.den : Nat) : Int) * ((q.den : Nat) : Int)) = (p + q) * (1 / 2 : Rat) := by
  have e := Rat.divInt_mul_divInt (p.num * ((q.den : Nat) : Int) + q.num * ((p.den : Nat) : Int)) 1 (d₁ := ((p.den : Nat) : Int) * ((q.den : Nat) : Int)) (d₂ := 2)
  rw [Wd.divInt_add] at e
  have e2 : Rat.divInt 1 2 = (1 / 2 : Rat) := by decide +kernel
  rw [e2] at e
  rw [e, Int.mul_one]
  congr 1
  grind
/-- a stretch within -/
structure Within (S I : Sf.St) : Prop where
  g : Gd 60 I
  sub : ∀ x, I.In x → S.In x
section
variable {w : W} {S I : Sf.St} {s h m t : Rat} {x y d d' : D} {k : Nat}
theorem n_q0 {li hn : Bool} {a b : D} : evT q__law_is_inner_right_0 [.v .pot, .v (.tup [a, .bl li, b, .bl hn]), .v d, .e, .e, .e, .e, .e, .e, .e] w = .ok (.nx [.v .pot, .v (.tup [a, .bl li, b, .bl hn]), .v d, .v a, .v (.bl li), .v b, .v (.bl hn), .e, .e, .e]) w := by
  simp -implicitDefEqProofs [q__law_is_inner_right_0, sizeLine]
theorem n_q1e {li hn : D} : evT q__law_is_inner_right_1 [.v .pot, .v x, .v d, .v (fr h), .v li, .v (fr h), .v hn, .e, .e, .e] w = .ok (.rt (.bl true)) w := by
  have e := p_eqfr h h
  rw [decide_eq_true rfl] at e
  generalize fr h = y at *
  simp -implicitDefEqProofs [q__law_is_inner_right_1, e]
theorem n_q1 {li hn : D} {l : Rat} (c : l ≠ h) : evT q__law_is_inner_right_1 [.v .pot, .v x, .v d, .v (fr l), .v li, .v (fr h), .v hn, .e, .e, .e] w = .ok (.nx [.v .pot, .v x, .v d, .v (fr l), .v li, .v (fr h), .v hn, .e, .e, .e]) w := by
  have e := p_eqfr l h
  rw [decide_eq_false c] at e
  generalize fr h = y at *
  generalize fr l = y' at *
  simp -implicitDefEqProofs [q__law_is_inner_right_1, e]
theorem n_q2 {li hn : D} {l : Rat} (zl : Sz 21 l) (zh : Sz 21 h) : evT q__law_is_inner_right_2 [.v .pot, .v x, .v d, .v (fr l), .v li, .v (fr h), .v hn, .e, .e, .e] w = .ok (.nx [.v .pot, .v x, .v d, .v (fr l), .v li, .v (fr h), .v hn, .v (fr ((l + h) * (1 / 2 : Rat))), .e, .e]) w := by
  have m1 : CMulW l.num ((h.den : Nat) : Int) := Wd.cm zl.1 (Wd.szn zh) (by decide) (by decide)
  have m2 : CMulW h.num ((l.den : Nat) : Int) := Wd.cm zh.1 (Wd.szn zl) (by decide) (by decide)
  have b2 : (2 * ((l.den : Nat) : Int)).natAbs < 2 ^ 23 := natAbs_mul_lt (show (2 : Int).natAbs < 2 ^ 2 by decide) (Wd.szn zl)
  have m3 : CMulW 2 ((l.den : Nat) : Int) := cmul_of (show (2 : Int).natAbs < 2 ^ 2 by decide) (Wd.szn zl) (by decide) (by decide) (by decide)
  have m4 : CMulW (2 * ((l.den : Nat) : Int)) ((h.den : Nat) : Int) := cmul_of b2 (Wd.szn zh) (by decide) (by decide) (by decide)
  have e := k_lreduced (w := w) (a := l.num * ((h.den : Nat) : Int) + h.num * ((l.den : Nat) : Int)) (b := 2 * ((l.den : Nat) : Int) * ((h.den : Nat) : Int)) (by
    have := Int.mul_pos (Sf.dpos l) (Sf.dpos h)
    rw [Int.mul_assoc]; omega) (Nat.lt_of_lt_of_le (natAbs_mul_lt b2 (Wd.szn zh)) (Nat.pow_le_pow_right (by decide) (by decide)))
  rw [half_dv] at e
  generalize fr ((l + h) * (1 / 2 : Rat)) = y at *
  simp -implicitDefEqProofs [q__law_is_inner_right_2, e, m1, m2, m3, m4]
theorem n_q3 {li hn : Bool} {a b c I1 : D} (hp : Pk (k + 1) w) : ∃ I w', (I = .tup [a, .bl li, c, .bl true] ∨ I = .tup [c, .bl false, b, .bl hn] ∨ I = .tup [c, .bl true, c, .bl true]) ∧
    evT q__law_is_inner_right_3 [.v .pot, .v x, .v d, .v a, .v (.bl li), .v b, .v (.bl hn), .v c, .e, .e] w = .ok (.nx [.v .pot, .v x, .v d, .v a, .v (.bl li), .v b, .v (.bl hn), .v c, .v I, .e]) w' ∧ Pk k w' := by
  obtain ⟨I, w1, e, hm, p⟩ := k_of (w := w) hp (xs := [.tup [a, .bl li, c, .bl true], .tup [c, .bl false, b, .bl hn], .tup [c, .bl true, c, .bl true]]) (by simp) (by simp)
  simp only [List.mem_cons, List.not_mem_nil, or_false] at hm
  refine ⟨I, w1, hm, ?_, p⟩
  simp -implicitDefEqProofs [q__law_is_inner_right_3, e, sizeLine]
theorem n_q4 {a b c e f X : D} (h1 : F_simplest [X] w = .ok (.tup [fr t, d']) w) : evT q__law_is_inner_right_4 [.v .pot, .v x, .v d, .v a, .v b, .v c, .v e, .v f, .v X, .e] w = .ok (.nx [.v .pot, .v x, .v d, .v a, .v b, .v c, .v e, .v f, .v X, .v (fr t)]) w := by
  unfold q__law_is_inner_right_4
  generalize F_simplest = F at *
  generalize fr t = y at *
  simp -implicitDefEqProofs [h1]
theorem n_q5t {a b c e f X : D} (z : Sz 900 s) (h1 : F__law_is_in [X, fr s] w = .ok (.bl true) w) : evT q__law_is_inner_right_5 [.v .pot, .v x, .v (fr s), .v a, .v b, .v c, .v e, .v f, .v X, .v (fr s)] w = .ok (.rt (.bl true)) w := by
  obtain ⟨tx, ht⟩ := rep_fr z (by decide)
  generalize fr s = y at *
  simp -implicitDefEqProofs [q__law_is_inner_right_5, h1, ht, p_eqs]
theorem n_q5f {a b c e f X : D} (h1 : F__law_is_in [X, fr s] w = .ok (.bl false) w) : evT q__law_is_inner_right_5 [.v .pot, .v x, .v (fr s), .v a, .v b, .v c, .v e, .v f, .v X, .v (fr t)] w = .ok (.nx [.v .pot, .v x, .v (fr s), .v a, .v b, .v c, .v e, .v f, .v X, .v (fr t)]) w := by
  generalize fr s = y at *
  simp -implicitDefEqProofs [q__law_is_inner_right_5, h1]
theorem n_q6 {a b c e f X : D} (h0 : s.den ≤ t.den) (h1 : F__law_is_in [X, fr t] w = .ok (.bl true) w) : evT q__law_is_inner_right_6 [.v .pot, .v x, .v (fr s), .v a, .v b, .v c, .v e, .v f, .v X, .v (fr t)] w = .ok (.rt (.bl true)) w := by
  have i1 : ixD2 (fr t) (.int 1) = some (.int ((t.den : Nat) : Int)) := p_ixf1 t
  have hd : ((s.den : Nat) : Int) ≤ ((t.den : Nat) : Int) := by omega
  generalize fr t = y at *
  simp -implicitDefEqProofs [q__law_is_inner_right_6, h1, hd, i1]
end
theorem mem_end {S : Sf.St} {h x : Rat} (e : S.hi = some h) (hx : x < h) : S.up x := by
  unfold Sf.St.up; rw [e]; exact .inl hx
theorem inner_ok {S : Sf.St} {s : Rat} {k : Nat} {w : W} (hp : Pk (k + 1) w) (dr : Dr S) (ms : Sf.Min S s) (zs : Sz 900 s) :
    ∃ w', F__law_is_inner_right [.pot, sD S, fr s] w = .ok (.bl true) w' ∧ Pk k w' := by
  obtain ⟨h, eh⟩ := dr.g.end_
  have hD : sD S = .tup [fr S.lo, .bl S.li, fr h, .bl S.hn] := by unfold sD; rw [eh]; rfl
  have un : ∀ w, F__law_is_inner_right [.pot, sD S, fr s] w = runF 10 (evTs (.cons q__law_is_inner_right_0 (.cons q__law_is_inner_right_1 (.cons q__law_is_inner_right_2 (.cons q__law_is_inner_right_3 (.cons q__law_is_inner_right_4 (.cons q__law_is_inner_right_5 (.cons q__law_is_inner_right_6 .nil)))))))) [.pot, sD S, fr s] w := fun w => by
    unfold F__law_is_inner_right
    rw [tree__law_is_inner_right]
  by_cases c : S.lo = h
  · refine ⟨w, ?_, hp.le (by omega)⟩
    rw [un, hD, c]
    exact run_of (sq_nx n_q0 (sq_rt n_q1e))
  have lt : S.lo < h := by
    rcases dr.g.ok.ne h eh with q | q
    · exact q
    · exact absurd q.1 c
  have zl := dr.g.zs.lo
  have zh := dr.g.zs.hi h eh
  obtain ⟨i1, i2⟩ := half_in lt
  have zm : Sz 60 ((S.lo + h) * (1 / 2 : Rat)) := z_mul (z_add zl zh (Nat.le_refl _)) (show Sz 2 (1 / 2 : Rat) from by unfold Sz; decide +kernel) (by decide)
  have e2 := n_q2 (w := w) (x := sD S) (d := fr s) (li := .bl S.li) (hn := .bl S.hn) zl zh
  generalize (S.lo + h) * (1 / 2 : Rat) = m at *
  obtain ⟨X, w1, hX, e3, p1⟩ := n_q3 (x := sD S) (d := fr s) (li := S.li) (hn := S.hn) (a := fr S.lo) (b := fr h) (c := fr m) (I1 := .non) hp
  have m0 : 0 ≤ m := Rat.le_of_lt (Rlt_trans dr.lo i1)
  have key : ∃ I, X = sD I ∧ Within S I := by
    rcases hX with q | q | q
    · refine ⟨⟨S.lo, S.li, some m, true⟩, q, ⟨⟨dr.g.ok.n0, fun x hx => by cases hx; exact .inl i1⟩, ⟨zl.up (by decide), fun x hx => by cases hx; exact zm⟩, ⟨_, rfl⟩⟩, fun x hx => ⟨hx.1, mem_end eh ?_⟩⟩
      rcases hx.2 with r | r
      · exact Rlt_trans r i2
      · rw [r.1]; exact i2
    · refine ⟨⟨m, false, some h, S.hn⟩, q, ⟨⟨m0, fun x hx => by cases hx; exact .inl i2⟩, ⟨zm, fun x hx => by cases hx; exact zh.up (by decide)⟩, ⟨_, rfl⟩⟩, fun x hx => ⟨?_, ?_⟩⟩
      · rcases hx.1 with r | r
        · exact .inl (Rlt_trans i1 r)
        · cases r.2
      · unfold Sf.St.up
        rw [eh]
        exact hx.2
    · refine ⟨⟨m, true, some m, true⟩, q, ⟨⟨m0, fun x hx => by cases hx; exact .inr ⟨rfl, rfl, rfl⟩⟩, ⟨zm, fun x hx => by cases hx; exact zm⟩, ⟨_, rfl⟩⟩, fun x hx => ?_⟩
      have ge := Sf.In.ge hx
      have ge : m ≤ x := ge
      refine ⟨.inl (Sf.ltl i1 ge), mem_end eh ?_⟩
      rcases hx.2 with r | r
      · exact Rlt_trans r i2
      · rw [r.1]; exact i2
  obtain ⟨I, rfl, wi⟩ := key
  have gI : Gd 400 I := ⟨wi.g.ok, wi.g.z9 (by decide), wi.g.end_⟩
  obtain ⟨hI, eI⟩ := gI.end_
  obtain ⟨t, dt, mt, pt, zt, ea, eb⟩ := simplest_ok gI
  refine ⟨w1, ?_, p1⟩
  have zI : Zs 1000 I := gI.z9 (by decide)
  have e4 := n_q4 (x := sD S) (d := fr s) (a := fr S.lo) (b := .bl S.li) (c := fr h) (e := .bl S.hn) (f := fr m) (ea w1)
  have is := is_in_ok (w := w1) zI eI (zs.up (by decide : 900 ≤ 1000))
  have it := is_in_ok (w := w1) zI eI (zt.up (by decide : 900 ≤ 1000))
  rw [inB_iff.mpr mt.1] at it
  rw [un]
  have e0 : evT q__law_is_inner_right_0 [.v .pot, .v (sD S), .v (fr s), .e, .e, .e, .e, .e, .e, .e] w = .ok (.nx [.v .pot, .v (sD S), .v (fr s), .v (fr S.lo), .v (.bl S.li), .v (fr h), .v (.bl S.hn), .e, .e, .e]) w := by
    rw [hD]; exact n_q0
  have e1 := n_q1 (w := w) (x := sD S) (d := fr s) (li := .bl S.li) (hn := .bl S.hn) c
  by_cases ci : I.In s
  · rw [inB_iff.mpr ci] at is
    have := Sf.Min.uniq mt (ms.sub wi.sub ci)
    subst this
    exact run_of (sq_nx e0 (sq_nx e1 (sq_nx e2 (sq_nx e3 (sq_nx e4 (sq_rt (n_q5t zt is)))))))
  · rw [inB_not ci] at is
    exact run_of (sq_nx e0 (sq_nx e1 (sq_nx e2 (sq_nx e3 (sq_nx e4 (sq_nx (n_q5f is) (sq_rt (n_q6 (ms.2 _ (wi.sub t mt.1)).2 it))))))))
section
variable {w : W} {x d e : D}
theorem r_q0 {w' : W} (h : F__law_stretch [.pot] w = .ok x w') : evT q__law_right_0 [.v .pot, .e, .e, .e] w = .ok (.nx [.v .pot, .v x, .e, .e]) w' := by
  simp -implicitDefEqProofs [q__law_right_0, h]
theorem r_q1 (h : F_simplest [x] w = .ok (.tup [d, e]) w) : evT q__law_right_1 [.v .pot, .v x, .e, .e] w = .ok (.nx [.v .pot, .v x, .v d, .v e]) w := by
  unfold q__law_right_1
  generalize F_simplest = F at *
  simp -implicitDefEqProofs [h]
theorem r_q2 (h1 : F__law_is_in [x, d] w = .ok (.bl true) w) (h2 : F_shows_simplest [x, .tup [d, e]] w = .ok (.bl true) w) : evT q__law_right_2 [.v .pot, .v x, .v d, .v e] w = .ok (.nx [.v .pot, .v x, .v d, .v e]) w := by
  simp -implicitDefEqProofs [q__law_right_2, h1, h2, isn_tt, sizeLine]
theorem r_q3 {w1 w2 : W} (h1 : F__law_is_shift_right [.pot, x, d] w = .ok (.bl true) w1) (h2 : F__law_is_turn_right [.pot, x, d] w1 = .ok (.bl true) w2) : evT q__law_right_3 [.v .pot, .v x, .v d, .v e] w = .ok (.nx [.v .pot, .v x, .v d, .v e]) w2 := by
  unfold q__law_right_3
  generalize F__law_is_shift_right = F1 at *
  generalize F__law_is_turn_right = F2 at *
  simp -implicitDefEqProofs [h1, h2]
theorem r_q4 {w1 : W} (h1 : F__law_is_inner_right [.pot, x, d] w = .ok (.bl true) w1) : evT q__law_right_4 [.v .pot, .v x, .v d, .v e] w = .ok (.rt (.bl true)) w1 := by
  unfold q__law_right_4
  generalize F__law_is_inner_right = F1 at *
  simp -implicitDefEqProofs [h1]
end
theorem right_ok : RightOk 12 F__law_right := by
  intro k w hp
  obtain ⟨S, w1, e1, dr, p1⟩ := e_stretch (k := k + 4) (w := w) hp
  have g4 : Gd 400 S := ⟨dr.g.ok, dr.g.z9 (by decide), dr.g.end_⟩
  obtain ⟨h, eh⟩ := dr.g.end_
  obtain ⟨s, ds, ms, ps, zs, ea, eb⟩ := simplest_ok g4
  obtain ⟨w2, s2, p2⟩ := shift_ok (k := k + 2) (w := w1) p1 dr ms ps zs eb
  obtain ⟨w3, s3, p3⟩ := turn_ok (k := k + 1) (w := w2) p2 dr ms ps zs
  obtain ⟨w4, s4, p4⟩ := inner_ok (k := k) (w := w3) p3 dr ms zs
  refine ⟨w4, ?_, p4⟩
  have ii := is_in_ok (w := w1) (dr.g.z9 (by decide)) eh (zs.up (by decide : 900 ≤ 1000))
  rw [inB_iff.mpr ms.1] at ii
  unfold F__law_right
  rw [tree__law_right]
  exact run_of (sq_nx (r_q0 e1) (sq_nx (r_q1 (ea w1)) (sq_nx (r_q2 ii (shows_ok (w := w1) g4 ms zs ps)) (sq_nx (r_q3 s2 s3) (sq_rt (r_q4 s4))))))
theorem ok_all (ns : List Int) (h : ns.length ≤ 63) (h2 : ∀ z ∈ ns, Builtin.Int.intBits z ≤ 1048576) : LawOk lit F_pot lt2 ns := by
  obtain ⟨zs, e, hz⟩ := cells_ok (ns := ns) (most := 4) (w := none) h (by decide) (by decide)
  refine ⟨zs, ?_, fun z hzm => ?_⟩
  · have e : F__law_cells [.scr ns, .int 4] none = .ok (.lst (zs.map .int)) none := e
    simp -implicitDefEqProofs [lit, e]
  · obtain ⟨pot, e1, p1⟩ := pot_ok (c1 := 14188) (c2 := 28928) (c3 := 143671) (c4 := 58408) (ns := ns) (by decide) (by decide) (by decide) (hz z hzm)
    exact ⟨pot, e1, lt2_ok (T := 12) (L := 6) right_ok (by decide) (by decide) p1⟩
end Rf.K00
/-! ## the law -/
open PySem PySem.W PySem.Calls PyProof.Rows in
theorem PySem.Challenge.cw_whatthepicturesays_k00_whole_simplest_sh_holds : PySem.Challenge.rw_whatthepicturesays_k00_whole_simplest_sh.Holds := by
  w_on; o_law
  refine HandSHeadRun.head_imp (r := Rf.K00.R0) (q := (PySem.W.view Rf.K00.R0.prog [0, 59])) (H := Rf.K00.hk) (ob := Rf.K00.ob) (M := 4000) (loose := Rf.K00.loose) (d := HandSHeadRun.topDef Rf.K00.R0.prog 59) (kwd := []) Rf.K00.ob_eq
    Rf.K00.run (by kernel_rfl) (by kernel_rfl) (by kernel_rfl) (by rfl) (by first | assumption | decide +kernel) (by decide +kernel) ⟨rfl, rfl, rfl, rfl, rfl, by decide +kernel⟩ ?hw ?hc
  case hw => w_witness2
  case hc =>
    refine Rf.walk_g (l := PySem.Challenge.rw_whatthepicturesays_k00_whole_simplest_sh) (n := 63) (k := 9) (x := "script") (ok := fun ns => ns.length ≤ 63 ∧ ∀ z ∈ ns, Builtin.Int.intBits z ≤ 1048576) rfl (by decide) (by kernel_rfl) ⟨rfl, by decide, by decide⟩ (fun ns a b => ⟨a, b⟩) ?F
    intro w mg fa h Y G hmg0
    obtain ⟨K, KX, c⟩ := Y
    obtain ⟨fd, F⟩ := c.says.def_ 47 (d := Rf.K00.d_law) rfl
    have hmg : mg ("law" : PySem.Str) = some (.ref fa) := by
      have e : (HandSHeadRun.topDef Rf.K00.R0.prog 59).name = ("law" : PySem.Str) := by kernel_rfl
      rw [← e]; exact hmg0
    have e := hmg.symm.trans (He.glo_ok KX G (c.says.fact 47 (f := .glo "law") rfl))
    cases e
    have b := L2.FunD.bindsA (ps := ["script"]) F fun _ _ _ _ _ _ us hl => match us, hl with | [_], _ => rfl
    exact ⟨K, fd, KX, fun s u => b s [u] rfl, fun base kin ns => Rf.K00.f_law ⟨kin, ns, c⟩ F fun l hl => Rf.K00.ok_all l hl.1 hl.2⟩
