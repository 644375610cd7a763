import PyProof.Rows.All
import Wide.All
import OpenK.AllK
import Wide.FinOn
import HandS.HeadHook2
import HandS.Words
import KE.KStateDown
import HandS.Ends
import HandS.HeadEnd
import HandS.Head0
import HandS.Head1
import HandS.Head2
import HandS.ForMost
import HandS.Exc
import HandS.CallSlots
import HandS.TryMany
import HandS.TupAny
import HandS.TupMul
import HandS.Wide
import HandS.Flow
import HandS.Style
import HandS.Deep
import HandS.IsInst
import KE.DataMinMax
import KE.SortData
import HandS.ExcOwn
import HandS.Zip
import HandS.WordsExc
import HandS.Defaults
import HandS.CallLocal
import KE.GoesEnum
import HandS.TupSets
import HandS.SetFor
import HandS.ExcIs
import HandS.DictTup
import HandS.Small
import HandS.Conv
import PySem.Challenge.RW_linesoftwo_k10_whole_what_is_refused
set_option Elab.async false
set_option linter.all false
set_option maxRecDepth 100000
set_option maxHeartbeats 4000000
namespace Pu
open PySem L2
/-! ### the Hook -/
def excCB (K : PySem.W.Frag) (D : Addr) : Bool := He.eqO (PySem.W.findIn K (.ref D) "__getattribute__") (some (some (.builtin "BaseException.__getattribute__"))) && (He.eqO (PySem.W.findIn K (.ref D) "__getattr__") (some none) && (decide (PySem.W.subIn K (.ref D) (.type "BaseException") = some true) &&
  (PySem.W.hasDictIn K D && (He.eqO (PySem.W.findIn K (.ref D) "__class__") (some (some (.builtin "object.__class__"))) && (He.eqO (PySem.W.specialIn K (.builtin "object.__class__") "__get__") (some (some (.builtin "getset_descriptor.__get__"))) && (decide (PySem.W.takesIn K (.builtin "object.__class__") = some true) &&
  (decide (PySem.W.mroIn K D (.type "object") = some true) && decide (PySem.W.kitOne K (.ref D) (.type "ValueError") = some true))))))))
abbrev AlX : Type := He.AlD × Bool
def obXG (n : Nat) (fa : List He.Fa) (fn : List He.DefD) (xb : PySem.W.Frag → Bool) (g : Addr → Option Obj) : AlX := (He.obsD fa fn (He.frG g (He.asD g n)), xb (He.frG g (He.asD g n)))
def hookX (n : Nat) (fa : List He.Fa) (fn : List He.DefD) (xb : PySem.W.Frag → Bool) : PySem.W.Hook where
  α := AlX
  obs := fun s => obXG n fa fn xb s.heap.get?
  val := fun _ => (He.valD fn, true)
  says := fun _ h => ∃ K : PySem.W.Frag, K.In h ∧ He.SaysD fa fn K ∧ xb K = true
  of := fun _ _ e => ⟨_, He.frG_in, congrArg (fun z : AlX => z.1) e, congrArg (fun z : AlX => z.2) e⟩
  keeps := fun _ _ _ ⟨K, hK, c⟩ k => ⟨K, PySem.W.Frag.In.keeps hK k, c⟩
theorem obXG_eq {n : Nat} {fa : List He.Fa} {fn : List He.DefD} {xb : PySem.W.Frag → Bool} {g : Addr → Option Obj} {s : Shared} (h : ∀ a, g a = s.heap.get? a) : obXG n fa fn xb g = (hookX n fa fn xb).obs s := by
  have e : g = s.heap.get? := funext h
  rw [e]
  rfl
end Pu

set_option Elab.async false
set_option linter.all false
set_option maxRecDepth 100000
set_option maxHeartbeats 4000000
namespace Lw
open PySem PySem.Spec PyProof.Rows L2
def top (i : Nat) : Stmt := PySem.Challenge.pw_linesoftwo_k10_whole_what_is_refused.main.body.getD i (.Pass ⟨0, 0, 0, 0⟩)
def nmF : List Str := (["is_number", "is_within", "sure_within", "is_long", "are_numbers", "tupled", "common", "is_set", "lowest", "is_fraction_in", "plus", "less", "times", "over", "is_under", "compared", "is_near_fraction", "is_point_in", "is_ahead", "are_points_in", "sure_point", "sure_points", "turn_of", "are_all_in_line", "are_on_one_line", "is_line_in", "sure_line", "line_by", "line_in", "height_at"] : List Str) ++ (["is_on", "along_in", "foot_in", "square_to", "meeting", "lines_in", "line_through", "lies_on", "meet_of", "foot_of", "squared_to", "along", "lines_of", "lines_with", "places_on", "on_line", "line_at", "is_near_in", "square_of", "nears_in", "ordered_along", "next_in", "steps_in", "sure_spread", "sure_near", "is_near", "all_nears", "near_square", "nearest", "next_near"] : List Str) ++ (["near_steps", "line_of_two", "is_nearer", "counts_in", "with_two", "rest_in", "pairs_in", "at_each", "line_counts", "how_many_lines", "lines_of_two", "lines_at", "beyond_three", "pairs_told", "busiest_line", "is_near_pencil", "lonely_place", "shear_in", "slopes_in", "corner_of", "corners_in", "by_slope", "by_across", "picture_of", "next_way", "ways_in", "round_from", "sides_in", "shear_of", "dual_lines"] : List Str) ++ (["dual_corners", "regions", "told_sum", "beyond_triangles", "is_simple", "corner_ways", "_law_box", "_law_take", "_law_cells", "_law_pick", "_law_same", "_law_call", "_law_slip", "_law_are_all_unfit", "law"] : List Str)
def ixF : List Nat := [5, 6, 7, 8, 9, 10, 11, 12, 17, 18, 19, 20, 21, 22, 23, 24, 25, 26, 27, 28, 29, 30, 31, 32, 33, 36, 37, 38, 39, 40] ++ [41, 42, 43, 44, 45, 46, 47, 48, 49, 50, 51, 52, 53, 54, 55, 57, 58, 59, 60, 61, 62, 63, 64, 65, 66, 67, 68, 69, 70, 71] ++ [72, 73, 74, 76, 77, 78, 79, 80, 81, 82, 83, 84, 85, 86, 87, 88, 89, 91, 92, 93, 94, 95, 96, 97, 98, 99, 100, 101, 102, 103] ++ [104, 105, 106, 107, 108, 109, 111, 112, 113, 114, 115, 116, 117, 118, 119]
def nmC : List Str := ["CanNot", "TooMany", "Unfit"]
def frL : List Str := ["ValueError", "abs", "all", "bool", "dict", "enumerate", "int", "isinstance", "len", "list", "max", "min", "range", "set", "sorted", "str", "sum", "tuple", "zip"]
def itL : List (Str × Int) := [("MOST_SIZE", 1000000), ("LEAST_POINTS", 3), ("MOST_POINTS", 30), ("MOST_LINE", 10000000000000000000000000000000000000000)]
end Lw

set_option Elab.async false
set_option linter.all false
set_option maxRecDepth 100000
set_option maxHeartbeats 0
namespace Lw
open PySem PySem.Spec PyProof.Rows L2 Pu
def loose : List Str := (["CanNot", "TooMany", "Unfit", "MOST_SIZE", "LEAST_POINTS", "MOST_POINTS", "MOST_LINE", "is_number", "is_within", "sure_within", "is_long", "are_numbers", "tupled", "common", "is_set", "lowest", "is_fraction_in", "plus", "less", "times", "over", "is_under", "compared", "is_near_fraction", "is_point_in", "is_ahead", "are_points_in", "sure_point", "sure_points", "turn_of"] : List Str) ++ (["are_all_in_line", "are_on_one_line", "is_line_in", "sure_line", "line_by", "line_in", "height_at", "is_on", "along_in", "foot_in", "square_to", "meeting", "lines_in", "line_through", "lies_on", "meet_of", "foot_of", "squared_to", "along", "lines_of", "lines_with", "places_on", "on_line", "line_at", "is_near_in", "square_of", "nears_in", "ordered_along", "next_in", "steps_in"] : List Str) ++ (["sure_spread", "sure_near", "is_near", "all_nears", "near_square", "nearest", "next_near", "near_steps", "line_of_two", "is_nearer", "counts_in", "with_two", "rest_in", "pairs_in", "at_each", "line_counts", "how_many_lines", "lines_of_two", "lines_at", "beyond_three", "pairs_told", "busiest_line", "is_near_pencil", "lonely_place", "shear_in", "slopes_in", "corner_of", "corners_in", "by_slope", "by_across"] : List Str) ++ (["picture_of", "next_way", "ways_in", "round_from", "sides_in", "shear_of", "dual_lines", "dual_corners", "regions", "told_sum", "beyond_triangles", "is_simple", "corner_ways", "_law_box", "_law_take", "_law_cells", "_law_pick", "_law_same", "_law_call", "_law_slip", "_law_are_all_unfit"] : List Str)
def mkD (x : Str) (j : Nat) : He.DefD := ⟨(x, none), x, x, defArgs (top j), defBody (top j), defScope (top j), [], []⟩
def fn : List He.DefD := (nmF.zip ixF).map fun p => mkD p.1 p.2
def fa : List He.Fa := nmF.map He.Fa.glo ++ (frL.map He.Fa.free ++ (itL.map (fun p => He.Fa.int p.1 p.2) ++ (nmC.map He.Fa.glo ++ nmC.map He.Fa.exc)))
def gc (K : PySem.W.Frag) (c : Nat) : Addr := He.ga K (nmC.getD c "")
def xb (K : PySem.W.Frag) : Bool := ((List.range nmC.length).all fun c => excCB K (gc K c)) && (List.range nmC.length).all fun c => (List.range nmC.length).all fun d => decide (PySem.W.exmOne K (.ref (gc K c)) (.ref (gc K d)) = some (decide (c = d)))
abbrev R : PySem.W.OpenRow := PySem.W.OpenLaw.row PySem.Challenge.rw_linesoftwo_k10_whole_what_is_refused
abbrev hk : PySem.W.Hook := hookX 3 fa fn xb
def ob (s : PySem.W.SharedT) : AlX := obXG 3 fa fn xb (HandSHeadRun.getT s)
theorem ob_eq (s : PySem.W.SharedT) : ob s = hk.obs s.abs := obXG_eq (HandSHeadRun.getT_eq s)
def fg (s : PySem.W.SharedT) : PySem.W.Frag := He.frG (HandSHeadRun.getT s) (He.asD (HandSHeadRun.getT s) 3)
noncomputable def endR (w : World) (os : OsState) : Option PySem.W.SharedT := HandSHeadRun.endF (HandSHeadRun.stepQ (HandSHeadRun.denQ HandSHeadRun.tabQ) R.prog w) 6000 R.prog w os
theorem run1 (w : World) (os : OsState) : (endR w os).map (fun s => HandSHeadRun.looksF R.prog (PySem.W.boot_heap w.params) s.abs) = some true := by kernel_rfl
theorem run2 (w : World) (os : OsState) : (endR w os).map (fun s => HandSHeadRun.seenQ (PySem.W.view R.prog [119]) loose (importedModules R.prog.main.body) (fun s => PySem.W.xlAt (PySem.W.view R.prog [119]) [] s && PySem.W.recOk R.toRowW.records s) s.abs) = some (PySem.W.openGood (PySem.W.view R.prog [119]) loose) := by kernel_rfl
theorem run3 (w : World) (os : OsState) : (endR w os).map (fun s => fa.all fun f => f.ok (fg s)) = some true := by kernel_rfl
theorem run4 (w : World) (os : OsState) : (endR w os).map (fun s => fn.all fun d => d.ok (fg s)) = some true := by kernel_rfl
theorem run5 (w : World) (os : OsState) : (endR w os).map (fun s => fn.map fun d => He.fnW (fg s) d.at_) = some (fn.map He.DefD.val) := by kernel_rfl
theorem run6 (w : World) (os : OsState) : (endR w os).map (fun s => xb (fg s)) = some true := by kernel_rfl
theorem run (w : World) : HandSHeadRun.RunEq R (PySem.W.view R.prog [119]) hk ob 6000 loose w := fun os => by
  obtain ⟨s, hs, e1⟩ := Option.map_eq_some_iff.mp (run1 w os)
  have at_ : ∀ {α : Type} {f : PySem.W.SharedT → α} {v : α}, (endR w os).map f = some v → f s = v := fun {α f v} h => by
    rw [hs] at h
    exact Option.some.inj h
  have e2 := at_ (run2 w os)
  have e3 := at_ (run3 w os)
  have e4 := at_ (run4 w os)
  have e5 := at_ (run5 w os)
  have e6 := at_ (run6 w os)
  have eo : ob s = (He.valD fn, true) := Prod.ext (Prod.ext (by show ((fa.all fun f => f.ok (fg s)) && fn.all fun d => d.ok (fg s)) = true; rw [e3, e4]; rfl) e5) e6
  have hs' : HandSHeadRun.endF (HandSHeadRun.stepQ (HandSHeadRun.denQ HandSHeadRun.tabQ) R.prog w) 6000 R.prog w os = some s := hs
  rw [hs']
  exact congrArg some (Prod.ext e1 (Prod.ext e2 eo))
end Lw

set_option Elab.async false
set_option linter.all false
set_option maxRecDepth 100000
set_option maxHeartbeats 4000000
/-! The pure layer, part A: plain data D, the answers M, how data lie in the heap (Rep), the readings of expressions (SE) -/
namespace Pu
open PySem L2

/-! ### data -/
inductive D where
  | non | bl (b : Bool) | int (i : Int) | str (x : Str) | tup (xs : List D) | lst (xs : List D)
  | box | fn (i : Nat) | ty (n : String)
  | fro (xs : List D)
  | own (xs : List D)
  | mdc (kvs : List (D × D))
abbrev DEnv := List (Option D)
/-- an exception: which class, and its field -/
structure Xc where
  c : Nat
  arg : Option Int := none
  deriving DecidableEq
abbrev Bx := List Int
inductive Res (α : Type) where
  | ok (a : α) (b : Bx)
  | exc (x : Xc) (b : Bx)
  | stk
def M (α : Type) := Bx → Res α
@[reducible] def M.pure {α : Type} (a : α) : M α := fun b => .ok a b
def Res.bind {α β : Type} (r : Res α) (k : α → M β) : Res β := match r with
  | .ok a b => k a b
  | .exc x b => .exc x b
  | .stk => .stk
@[reducible] def M.bind {α β : Type} (m : M α) (k : α → M β) : M β := fun b => (m b).bind k
instance : Monad M where
  pure := M.pure
  bind := M.bind
def stuck {α : Type} : M α := fun _ => .stk
def raise {α : Type} (x : Xc) : M α := fun b => .exc x b
theorem pure_bind' {α β : Type} (a : α) (k : α → M β) : (pure a >>= k) = k a := rfl
theorem bind_pure' {α : Type} (m : M α) : (m >>= pure) = m := by
  funext b
  show (m b).bind _ = m b
  cases m b <;> rfl
theorem bind_assoc' {α β γ : Type} (m : M α) (k : α → M β) (l : β → M γ) : ((m >>= k) >>= l) = (m >>= fun a => k a >>= l) := by
  funext b
  show ((m b).bind k).bind l = (m b).bind _
  cases m b <;> rfl
theorem stuck_bind {α β : Type} (k : α → M β) : ((stuck : M α) >>= k) = stuck := rfl
theorem raise_bind {α β : Type} (x : Xc) (k : α → M β) : ((raise x : M α) >>= k) = raise x := rfl
instance : LawfulMonad M := LawfulMonad.mk' M (fun m => bind_pure' m) (fun a k => rfl) (fun m k l => bind_assoc' m k l)

/-! ### how data lie -/
/-- what all of a proof shares: the written part, where the defs and the classes stand -/
structure Px where
  K : PySem.W.Frag
  fa : Nat → Addr
  ca : Nat → Addr
/-- the ghosts of a call: O0, what no one but the callers touches; O, that and what this call owns; bx, the box -/
structure Gh where
  P : Px
  O0 : Addr → Prop
  O : Addr → Prop
  bx : Option Addr

mutual
inductive Rep (P : Px) (O : Addr → Prop) (bx : Option Addr) (H : Hp) : D → V → Prop
  | non : Rep P O bx H .non .non
  | bl (b : Bool) : Rep P O bx H (.bl b) (.bl b)
  | int (i : Int) : Rep P O bx H (.int i) (.int i)
  | str (x : Str) : Rep P O bx H (.str x) (.str x)
  | ty (n : String) : Rep P O bx H (.ty n) (.ty n)
  | fn (i : Nat) : Rep P O bx H (.fn i) (.ref (P.fa i))
  | box {a : Addr} (h : bx = some a) : Rep P O bx H .box (.ref a)
  | tup {a : Addr} {ds : List D} {vs : List V} (h : H a = some (.tup vs)) (r : Reps P O bx H ds vs) : Rep P O bx H (.tup ds) (.ref a)
  | lst {a : Addr} {ds : List D} {vs : List V} (h : H a = some (.lst vs)) (n : ¬ O a) (r : Reps P O bx H ds vs) : Rep P O bx H (.lst ds) (.ref a)
  | fro {a : Addr} {ds : List D} {vs : List V} (h : (∃ o, H a = some (.frz o (.lst vs))) ∨ ((∀ H', SqL P.K H' a vs))) (r : Reps P O bx H ds vs) : Rep P O bx H (.fro ds) (.ref a)
inductive Reps (P : Px) (O : Addr → Prop) (bx : Option Addr) (H : Hp) : List D → List V → Prop
  | nil : Reps P O bx H [] []
  | cons {d : D} {v : V} {ds : List D} {vs : List V} (h : Rep P O bx H d v) (t : Reps P O bx H ds vs) : Reps P O bx H (d :: ds) (v :: vs)
end

/-- nothing tracked changes but the box -/
def Ex1 (bx : Option Addr) (H H' : Hp) : Prop := ∀ a o, bx ≠ some a → H a = some o → H' a = some o
theorem Ex1.refl {bx : Option Addr} {H : Hp} : Ex1 bx H H := fun _ _ _ h => h
theorem Ex1.trans {bx : Option Addr} {H H1 H2 : Hp} (a : Ex1 bx H H1) (b : Ex1 bx H1 H2) : Ex1 bx H H2 := fun x o n h => b x o n (a x o n h)
theorem Ex1.new {bx : Option Addr} {H : Hp} {p : Addr} {o : HO} (h : H p = none) : Ex1 bx H (upd H p o) := fun a u _ e => by
  rw [upd_ne (ne_of_none e h)]
  exact e
/-- the box stands as a list -/
def BxL (O : Addr → Prop) (bx : Option Addr) (H : Hp) : Prop := ∀ a, bx = some a → O a ∧ ∃ vs, H a = some (.lst vs)

theorem rd_ex {bx : Option Addr} {O : Addr → Prop} {H H' : Hp} {a : Addr} {u : HO} (B : BxL O bx H) (e : Ex1 bx H H') (hu : ∀ vs, u ≠ .lst vs) (h : Rd H a u) : Rd H' a u := by
  rcases h with h | ⟨o, h⟩
  · refine .inl (e a _ (fun z => ?_) h)
    obtain ⟨_, vs, q⟩ := B a z
    rw [h] at q
    exact hu vs (Option.some.inj q)
  · refine .inr ⟨o, e a _ (fun z => ?_) h⟩
    obtain ⟨_, vs, q⟩ := B a z
    rw [h] at q
    cases q
theorem sqt_ex {K : PySem.W.Frag} {bx : Option Addr} {O : Addr → Prop} {H H' : Hp} {a : Addr} {vs : List V} (B : BxL O bx H) (e : Ex1 bx H H') (h : SqT K H a vs) : SqT K H' a vs := by
  rcases h with h | h
  · exact .inl (rd_ex B e (fun vs z => by cases z) h)
  · exact .inr h
theorem sqt {K : PySem.W.Frag} {H : Hp} {a : Addr} {vs : List V} (h : H a = some (.tup vs)) : SqT K H a vs := .inl (.inl h)
section
variable {P : Px} {O O' : Addr → Prop} {bx : Option Addr} {H H' : Hp}
mutual
theorem Rep.mono (B : BxL O bx H) (e : Ex1 bx H H') : ∀ {d : D} {v : V}, Rep P O bx H d v → Rep P O bx H' d v
  | _, _, .non => .non
  | _, _, .bl b => .bl b
  | _, _, .int i => .int i
  | _, _, .str x => .str x
  | _, _, .ty n => .ty n
  | _, _, .fn i => .fn i
  | _, _, .box h => .box h
  | _, _, .tup (a := a) h r => .tup (e a _ (fun z => by
      obtain ⟨_, vs, q⟩ := B a z
      rw [h] at q
      cases q) h) (Reps.mono B e r)
  | _, _, .lst (a := a) h n r => .lst (e a _ (fun z => n (B a z).1) h) n (Reps.mono B e r)
  | _, _, .fro (a := a) h r => .fro (h.elim (fun ⟨ob, q⟩ => .inl ⟨ob, e a _ (fun z => by
      obtain ⟨_, vs, q'⟩ := B a z
      rw [q] at q'
      cases q') q⟩) .inr) (Reps.mono B e r)
theorem Reps.mono (B : BxL O bx H) (e : Ex1 bx H H') : ∀ {ds : List D} {vs : List V}, Reps P O bx H ds vs → Reps P O bx H' ds vs
  | _, _, .nil => .nil
  | _, _, .cons h t => .cons (Rep.mono B e h) (Reps.mono B e t)
end
mutual
/-- other owned ones: those that were not tracked -/
theorem Rep.own (w : ∀ a, O' a → O a ∨ H a = none) : ∀ {d : D} {v : V}, Rep P O bx H d v → Rep P O' bx H d v
  | _, _, .non => .non
  | _, _, .bl b => .bl b
  | _, _, .int i => .int i
  | _, _, .str x => .str x
  | _, _, .ty n => .ty n
  | _, _, .fn i => .fn i
  | _, _, .box h => .box h
  | _, _, .tup h r => .tup h (Reps.own w r)
  | _, _, .lst (a := a) h n r => .lst h (fun z => (w a z).elim n fun q => by rw [h] at q; cases q) (Reps.own w r)
  | _, _, .fro h r => .fro h (Reps.own w r)
theorem Reps.own (w : ∀ a, O' a → O a ∨ H a = none) : ∀ {ds : List D} {vs : List V}, Reps P O bx H ds vs → Reps P O' bx H ds vs
  | _, _, .nil => .nil
  | _, _, .cons h t => .cons (Rep.own w h) (Reps.own w t)
end
mutual
/-- a change at an address that is owned (and no box: its content isn't told) -/
theorem Rep.write {p : Addr} {u : List V} {vs0 : List V} (hp : O p) (h0 : H p = some (.lst vs0)) : ∀ {d : D} {v : V}, Rep P O bx H d v → Rep P O bx (upd H p (.lst u)) d v
  | _, _, .non => .non
  | _, _, .bl b => .bl b
  | _, _, .int i => .int i
  | _, _, .str x => .str x
  | _, _, .ty n => .ty n
  | _, _, .fn i => .fn i
  | _, _, .box h => .box h
  | _, _, .tup (a := a) h r => .tup (by rw [upd_ne (ne_of h h0 (by intro z; cases z))]; exact h) (Reps.write hp h0 r)
  | _, _, .lst (a := a) h n r => .lst (by rw [upd_ne (fun z => n (by rw [z]; exact hp))]; exact h) n (Reps.write hp h0 r)
  | _, _, .fro (a := a) h r => .fro (h.elim (fun ⟨ob, q⟩ => .inl ⟨ob, by rw [upd_ne (ne_of q h0 (by intro z; cases z))]; exact q⟩) .inr) (Reps.write hp h0 r)
theorem Reps.write {p : Addr} {u : List V} {vs0 : List V} (hp : O p) (h0 : H p = some (.lst vs0)) : ∀ {ds : List D} {vs : List V}, Reps P O bx H ds vs → Reps P O bx (upd H p (.lst u)) ds vs
  | _, _, .nil => .nil
  | _, _, .cons h t => .cons (Rep.write hp h0 h) (Reps.write hp h0 t)
end
theorem Reps.length : ∀ {ds : List D} {vs : List V}, Reps P O bx H ds vs → ds.length = vs.length
  | _, _, .nil => rfl
  | _, _, .cons _ t => congrArg (· + 1) (Reps.length t)
theorem Reps.get : ∀ {ds : List D} {vs : List V} {i : Nat} {d : D}, Reps P O bx H ds vs → ds[i]? = some d → ∃ v, vs[i]? = some v ∧ Rep P O bx H d v
  | _, _, 0, _, .cons h _, e => by
    have e' := Option.some.inj e
    subst e'
    exact ⟨_, rfl, h⟩
  | _, _, i + 1, _, .cons _ t, e => by
    obtain ⟨v, h1, h2⟩ := Reps.get (i := i) t (by simpa using e)
    exact ⟨v, by simpa using h1, h2⟩
theorem Reps.append : ∀ {ds es : List D} {vs us : List V}, Reps P O bx H ds vs → Reps P O bx H es us → Reps P O bx H (ds ++ es) (vs ++ us)
  | _, _, _, _, .nil, s => s
  | _, _, _, _, .cons h t, s => .cons h (Reps.append t s)
theorem Reps.drop : ∀ {ds : List D} {vs : List V} (n : Nat), Reps P O bx H ds vs → Reps P O bx H (ds.drop n) (vs.drop n)
  | _, _, 0, h => h
  | _, _, _ + 1, .nil => .nil
  | _, _, n + 1, .cons _ t => Reps.drop n t
theorem Reps.take : ∀ {ds : List D} {vs : List V} (n : Nat), Reps P O bx H ds vs → Reps P O bx H (ds.take n) (vs.take n)
  | _, _, 0, _ => .nil
  | _, _, _ + 1, .nil => .nil
  | _, _, n + 1, .cons h t => .cons h (Reps.take n t)
theorem Reps.set {d : D} {v : V} (r : Rep P O bx H d v) : ∀ {ds : List D} {vs : List V} (i : Nat), Reps P O bx H ds vs → Reps P O bx H (ds.set i d) (vs.set i v)
  | _, _, _, .nil => .nil
  | _, _, 0, .cons _ t => .cons r t
  | _, _, i + 1, .cons h t => .cons h (Reps.set r i t)
theorem Reps.erase : ∀ {ds : List D} {vs : List V} (i : Nat), Reps P O bx H ds vs → Reps P O bx H (ds.eraseIdx i) (vs.eraseIdx i)
  | _, _, _, .nil => .nil
  | _, _, 0, .cons _ t => t
  | _, _, i + 1, .cons h t => .cons h (Reps.erase i t)
theorem Reps.reverse {ds : List D} {vs : List V} (r : Reps P O bx H ds vs) : Reps P O bx H ds.reverse vs.reverse := by
  induction ds generalizing vs with
  | nil => cases r; exact .nil
  | cons d ds ih =>
    cases r with
    | cons h t =>
      rw [List.reverse_cons, List.reverse_cons]
      exact (ih t).append (.cons h .nil)
end

/-- what an expression's value may be besides: what the call owns itself -/
inductive RepT (g : Gh) (H : Hp) : D → V → Prop
  | rep {d : D} {v : V} (h : Rep g.P g.O g.bx H d v) : RepT g H d v
  | own {ds : List D} {vs : List V} {a : Addr} (h : H a = some (.lst vs)) (o : g.O a) (n : ¬ g.O0 a) (nb : g.bx ≠ some a) (r : Reps g.P g.O g.bx H ds vs) : RepT g H (.own ds) (.ref a)
def BoxOk (g : Gh) (b : Bx) (H : Hp) : Prop := match g.bx with
  | none => b = []
  | some a => (g.O0 a ∧ g.O a) ∧ H a = some (.lst (b.map V.int))
theorem BoxOk.bxl {g : Gh} {b : Bx} {H : Hp} (h : BoxOk g b H) : BxL g.O g.bx H := fun a e => by
  unfold BoxOk at h
  rw [e] at h
  obtain ⟨⟨_, o⟩, q⟩ := h
  exact ⟨o, _, q⟩
theorem RepT.mono {g : Gh} {H H' : Hp} (B : BxL g.O g.bx H) (e : Ex1 g.bx H H') {d : D} {v : V} (h : RepT g H d v) : RepT g H' d v := by
  cases h with
  | rep h => exact .rep (h.mono B e)
  | own h o n nb r => exact .own (e _ _ nb h) o n nb (r.mono B e)

/-- the state of a call, in an expression's eyes -/
structure StE (g : Gh) (ρ : DEnv) (b : Bx) (σ : St) (H : Hp) : Prop where
  len : σ.length = ρ.length
  val : ∀ (i : Nat) (d : D), ρ[i]? = some (some d) → ∃ v, σ[i]? = some (some v) ∧ RepT g H d v
  sep : ∀ (i j : Nat) (ds es : List D) (a : Addr), ρ[i]? = some (some (.own ds)) → ρ[j]? = some (some (.own es)) → σ[i]? = some (some (.ref a)) → σ[j]? = some (some (.ref a)) → i = j
  box : BoxOk g b H
  mt : ∀ a, g.O a → Mut (H a)
theorem mut_some {o : Option HO} (h : Mut o) : o ≠ none := fun e => by
  rw [e] at h
  exact h
theorem StE.trk {g : Gh} {ρ : DEnv} {b : Bx} {σ : St} {H : Hp} (s : StE g ρ b σ H) : ∀ a, g.O a → H a ≠ none := fun a h => mut_some (s.mt a h)
theorem StE.mono {g : Gh} {ρ : DEnv} {b b' : Bx} {σ : St} {H H' : Hp} (s : StE g ρ b σ H) (e : Ex1 g.bx H H') (B : BoxOk g b' H') : StE g ρ b' σ H' :=
  ⟨s.len, fun i d h => by
    obtain ⟨v, h1, h2⟩ := s.val i d h
    exact ⟨v, h1, h2.mono s.box.bxl e⟩, s.sep, B, fun a o => by
    by_cases z : g.bx = some a
    · obtain ⟨_, vs, q⟩ := B.bxl a z
      rw [q]
      trivial
    · have m := s.mt a o
      cases q : H a with
      | none => rw [q] at m; exact m.elim
      | some u =>
        rw [q] at m
        rw [e a u z q]
        exact m⟩
/-- how an exception lies -/
def XRep (P : Px) (x : Xc) (cls : Value) (dd : Option Addr) (H : Hp) : Prop :=
  cls = .ref (P.ca x.c) ∧ match x.arg with
    | none => dd = none
    | some i => ∃ d f, dd = some d ∧ H d = some (.xd [(f, .int i)])

def wpG {α β : Type} (g : Gh) (W : WX) (σ : St) (R : Hp → α → β → Prop) (H : Hp) (m : Res α) (Q : β → Hp → Prop) : Prop := match m with
  | .ok a b => ∀ v H', Ex1 g.bx H H' → BoxOk g b H' → R H' a v → Q v H'
  | .exc x b => ∀ cls dd H', Ex1 g.bx H H' → BoxOk g b H' → XRep g.P x cls dd H' → W cls dd σ H'
  | .stk => False
section
variable {α β γ δ : Type} {g : Gh} {W : WX} {σ : St} {H H1 : Hp}
theorem wpG.at {R : Hp → α → β → Prop} {m : Res α} {Q : β → Hp → Prop} (e : Ex1 g.bx H H1) (h : wpG g W σ R H m Q) : wpG g W σ R H1 m Q := by
  cases m with
  | ok a b => exact fun v H' e' => h v H' (e.trans e')
  | exc x b => exact fun c d H' e' => h c d H' (e.trans e')
  | stk => exact h
theorem wpG.imp {R : Hp → α → β → Prop} {m : Res α} {Q Q' : β → Hp → Prop} (h : wpG g W σ R H m Q) (k : ∀ v H', Q v H' → Q' v H') : wpG g W σ R H m Q' := by
  cases m with
  | ok a b => exact fun v H' e B r => k _ _ (h v H' e B r)
  | exc x b => exact h
  | stk => exact h
theorem wpG.bind {R1 : Hp → α → β → Prop} {R2 : Hp → γ → δ → Prop} {m : Res α} {k : α → M γ} {Q : δ → Hp → Prop} (h : wpG g W σ R2 H (m.bind k) Q) :
    wpG g W σ R1 H m fun v H1 => ∃ a b, Ex1 g.bx H H1 ∧ BoxOk g b H1 ∧ R1 H1 a v ∧ wpG g W σ R2 H1 (k a b) Q := by
  cases m with
  | ok a b => exact fun v H' e B r => ⟨a, b, e, B, r, wpG.at e h⟩
  | exc x b => exact h
  | stk => exact h
theorem wpG.one {R : Hp → α → β → Prop} {a : α} {b : Bx} {Q : β → Hp → Prop} {v : β} {H' : Hp} (h : wpG g W σ R H (.ok a b) Q) (e : Ex1 g.bx H H') (B : BoxOk g b H') (r : R H' a v) : Q v H' := h v H' e B r
end

/-! ### the readings -/
section
variable {α β : Type}
/-- what an expression of the meaning f is read as -/
def rG (P : Px) (W : WX) (R : Gh → Hp → α → β → Prop) (f : DEnv → M α) : St → Hp → (β → Hp → Prop) → Prop := fun σ H Q =>
  ∃ g ρ b, g.P = P ∧ StE g ρ b σ H ∧ wpG g W σ (R g) H (f ρ b) Q
end
abbrev rE (P : Px) (W : WX) (f : DEnv → M D) : TE := rG P W RepT f
abbrev rT (P : Px) (W : WX) (f : DEnv → M Bool) : TT := rG P W (fun _ _ a v => v = a) f
abbrev RA (g : Gh) : Hp → List D → List V → Prop := fun H ds vs => Reps g.P g.O g.bx H ds vs
abbrev rA (P : Px) (W : WX) (f : DEnv → M (List D)) : TA := rG P W RA f
/-- a new list, from what it holds -/
def RF (g : Gh) (H0 : Hp) : Hp → List D → V → Prop := fun H ds v => ∃ p vs, v = .ref p ∧ H0 p = none ∧ H p = some (.lst vs) ∧ Reps g.P (fun a => g.O a ∨ a = p) g.bx H ds vs
def rF (P : Px) (W : WX) (f : DEnv → M (List D)) : TE := fun σ H Q => ∃ g ρ b, g.P = P ∧ StE g ρ b σ H ∧ wpG g W σ (RF g H) H (f ρ b) Q

structure SE (X : Cx) (P : Px) (e : Expr) (f : DEnv → M D) : Prop where
  pe : ∀ W, Takes X W → PE X e (rE P W f)
structure SF (X : Cx) (P : Px) (e : Expr) (f : DEnv → M (List D)) : Prop where
  pe : ∀ W, Takes X W → PE X e (rF P W f)
structure STt (X : Cx) (P : Px) (e : Expr) (f : DEnv → M Bool) : Prop where
  pt : ∀ W, Takes X W → PT X e (rT P W f)
structure SA (X : Cx) (P : Px) (es : List Expr) (f : DEnv → M (List D)) : Prop where
  pa : ∀ W, Takes X W → PA X es (rA P W f)

section
variable {X : Cx} {P : Px} {e a b : Expr} {es : List Expr}
theorem pe_imp {t t' : TE} (h : PE X e t) (k : ∀ σ H Q, t' σ H Q → t σ H Q) : PE X e t' := ⟨fun pins s σ H Q I q => h.run pins s σ H Q I (k σ H Q q)⟩
theorem pt_imp {t t' : TT} (h : PT X e t) (k : ∀ σ H Q, t' σ H Q → t σ H Q) : PT X e t' := ⟨fun pins s σ H Q I q => h.run pins s σ H Q I (k σ H Q q)⟩
theorem pa_imp {t t' : TA} (h : PA X es t) (k : ∀ σ H Q, t' σ H Q → t σ H Q) : PA X es t' := ⟨fun pos pins s σ H Q I q => h.run pos pins s σ H Q I (k σ H Q q)⟩

/-- one thing, then what follows from it -/
theorem rG_bind {α β γ δ : Type} {W : WX} {R1 : Gh → Hp → α → β → Prop} {R2 : Gh → Hp → γ → δ → Prop} {f : DEnv → M α} {k : DEnv → α → M γ} {σ : St} {H : Hp} {Q : δ → Hp → Prop}
    (h : rG P W R2 (fun ρ => f ρ >>= k ρ) σ H Q) :
    rG P W R1 f σ H fun v H1 => ∃ g ρ a b, g.P = P ∧ StE g ρ b σ H1 ∧ R1 g H1 a v ∧ wpG g W σ (R2 g) H1 (k ρ a b) Q := by
  obtain ⟨g, ρ, b, hP, S, w⟩ := h
  exact ⟨g, ρ, b, hP, S, (wpG.bind (R1 := R1 g) w).imp fun v H1 ⟨a, b1, e1, B1, r1, w1⟩ => ⟨g, ρ, a, b1, hP, S.mono e1 B1, r1, w1⟩⟩

def chk (d : D) : M D := match d with
  | .own _ => stuck
  | .mdc _ => stuck
  | d => pure d
/-- what may stand in a tuple, a list, or be handed on -/
theorem chk_rep {g : Gh} {W : WX} {σ : St} {H : Hp} {d : D} {v : V} {b : Bx} {γ δ : Type} {R : Hp → γ → δ → Prop} {k : D → M γ} {Q : δ → Hp → Prop} (r : RepT g H d v) (w : wpG g W σ R H ((chk d >>= k) b) Q) :
    Rep g.P g.O g.bx H d v ∧ wpG g W σ R H (k d b) Q := by
  cases r with
  | rep h => cases h <;> first | exact ⟨.non, w⟩ | exact ⟨.bl _, w⟩ | exact ⟨.int _, w⟩ | exact ⟨.str _, w⟩ | exact ⟨.ty _, w⟩ | exact ⟨.fn _, w⟩ | exact ⟨.box (by assumption), w⟩ | exact ⟨.tup (by assumption) (by assumption), w⟩ | exact ⟨.lst (by assumption) (by assumption) (by assumption), w⟩ | exact ⟨.fro (by assumption) (by assumption), w⟩
  | own _ _ _ _ _ => exact w.elim
end
end Pu

set_option Elab.async false
set_option linter.all false
set_option maxRecDepth 100000
set_option maxHeartbeats 4000000
/-! The pure layer, part B: names, numbers, operators, tests, displays -/
namespace Pu
open PySem L2

/-! ### the meanings -/
def gtE (ρ : DEnv) (i : Nat) : M D := match ρ[i]? with
  | some (some d) => pure d
  | _ => stuck
def eVar (i : Nat) : DEnv → M D := fun ρ => gtE ρ i
def eC (d : D) : DEnv → M D := fun _ => pure d
def eBin (o : D → D → M D) (fa fb : DEnv → M D) : DEnv → M D := fun ρ => fa ρ >>= fun x => fb ρ >>= fun y => o x y
def eUn (o : D → M D) (fa : DEnv → M D) : DEnv → M D := fun ρ => fa ρ >>= o
/-- what * may take: one small factor, or both of moderate size -/
def mulOk (i j : Int) : Bool := decide (i.natAbs < 2 ^ 64) || decide (j.natAbs < 2 ^ 64) || (decide (i.natAbs < 2 ^ 400000) && decide (j.natAbs < 2 ^ 400000))
def addD : D → D → M D
  | .int i, .int j => pure (.int (i + j))
  | .tup xs, .tup ys => if xs.length + ys.length ≤ 100000 then pure (.tup (xs ++ ys)) else stuck
  | .lst xs, .lst ys => if xs.length + ys.length ≤ 100000 then pure (.lst (xs ++ ys)) else stuck
  | .str x, .str y => if x.length + y.length ≤ 100000 then pure (.str (x ++ y)) else stuck
  | _, _ => stuck
def subD : D → D → M D
  | .int i, .int j => pure (.int (i - j))
  | _, _ => stuck
def mulD : D → D → M D
  | .int i, .int j => if mulOk i j then pure (.int (i * j)) else stuck
  | _, _ => stuck
/-- // : a small divisor of any sign, or a positive one below 2 ^ 9000 -/
def fdivD : D → D → M D
  | .int i, .int j => if decide (j ≠ 0) && decide (j.natAbs < 2 ^ 9000) then pure (.int (i.fdiv j)) else stuck
  | _, _ => stuck
def modD : D → D → M D
  | .int i, .int j => if j ≠ 0 then pure (.int (i.fmod j)) else stuck
  | _, _ => stuck
def powD : D → D → M D
  | .int i, .int j => if 0 ≤ j ∧ j ≤ 1000 ∧ i.natAbs < 2 ^ 64 then pure (.int (i ^ j.toNat)) else stuck
  | _, _ => stuck
def negD : D → M D
  | .int i => pure (.int (-i))
  | _ => stuck
def cmpI (p : Int → Int → Bool) : D → D → M D
  | .int i, .int j => pure (.bl (p i j))
  | _, _ => stuck
abbrev ltD := cmpI fun i j => decide (i < j)
abbrev leD := cmpI fun i j => decide (i ≤ j)
abbrev gtD := cmpI fun i j => decide (j < i)
abbrev geD := cmpI fun i j => decide (j ≤ i)
def isNon : D → Bool
  | .non => true
  | _ => false
def isNonD : D → M D := fun d => pure (.bl (isNon d))
def notNonD : D → M D := fun d => pure (.bl (!isNon d))
def truthD : D → M Bool
  | .non => pure false
  | .bl c => pure c
  | .int i => pure (i != 0)
  | .tup xs => pure (!xs.isEmpty)
  | .lst xs => pure (!xs.isEmpty)
  | .own xs => pure (!xs.isEmpty)
  | _ => stuck
def boolD : D → M Bool
  | .bl c => pure c
  | _ => stuck
def tB (f : DEnv → M D) : DEnv → M Bool := fun ρ => f ρ >>= boolD
def tTr (f : DEnv → M D) : DEnv → M Bool := fun ρ => f ρ >>= truthD
def tAndD (f g : DEnv → M Bool) : DEnv → M Bool := fun ρ => f ρ >>= fun c => if c = true then g ρ else pure false
def tOrD (f g : DEnv → M Bool) : DEnv → M Bool := fun ρ => f ρ >>= fun c => if c = true then pure true else g ρ
def tNotD (f : DEnv → M Bool) : DEnv → M Bool := fun ρ => f ρ >>= fun c => pure (!c)
def eAnd (f g : DEnv → M D) : DEnv → M D := fun ρ => f ρ >>= fun d => boolD d >>= fun c => if c = true then g ρ else pure (.bl false)
def eOr (f g : DEnv → M D) : DEnv → M D := fun ρ => f ρ >>= fun d => boolD d >>= fun c => if c = true then pure (.bl true) else g ρ
def eNot (f : DEnv → M D) : DEnv → M D := fun ρ => f ρ >>= fun d => boolD d >>= fun c => pure (.bl (!c))
def eIf (t : DEnv → M Bool) (f g : DEnv → M D) : DEnv → M D := fun ρ => t ρ >>= fun c => if c = true then f ρ else g ρ
def aNil : DEnv → M (List D) := fun _ => pure []
def aCons (f : DEnv → M D) (g : DEnv → M (List D)) : DEnv → M (List D) := fun ρ => f ρ >>= fun d => chk d >>= fun d => g ρ >>= fun ds => pure (d :: ds)
def eTup (f : DEnv → M (List D)) : DEnv → M D := fun ρ => f ρ >>= fun ds => if ds.length ≤ 100000 then pure (.tup ds) else stuck
def fLst (f : DEnv → M (List D)) : DEnv → M (List D) := fun ρ => f ρ >>= fun ds => if ds.length ≤ 100000 then pure ds else stuck
def eF (f : DEnv → M (List D)) : DEnv → M D := fun ρ => f ρ >>= fun ds => pure (.lst ds)

theorem szl {n : Nat} (h : n ≤ 100000) : n ≤ sizeLine := Nat.le_trans h (by decide)
theorem upd_ex {bx : Option Addr} {H H1 : Hp} {p : Addr} {o : HO} (e : Ex1 bx H H1) (h : H1 p = none) : Ex1 bx H (upd H1 p o) := e.trans (Ex1.new h)
theorem BoxOk.ex {g : Gh} {b : Bx} {H H' : Hp} (h : BoxOk g b H) (k : ∀ a o, H a = some o → H' a = some o) : BoxOk g b H' := by
  have B := h.bxl
  unfold BoxOk at h ⊢
  cases e : g.bx with
  | none => rw [e] at h; exact h
  | some a =>
    rw [e] at h B
    obtain ⟨o, q⟩ := h
    exact ⟨o, k a _ q⟩
theorem new_keep {H : Hp} {p : Addr} {o : HO} (h : H p = none) : ∀ a u, H a = some u → upd H p o a = some u := fun a u e => by
  rw [upd_ne (ne_of_none e h)]
  exact e
theorem BoxOk.new {g : Gh} {b : Bx} {H : Hp} {p : Addr} {o : HO} (h : BoxOk g b H) (hp : H p = none) : BoxOk g b (upd H p o) := h.ex (new_keep hp)

theorem wp_ite {α β : Type} {c : Prop} [Decidable c] {g : Gh} {W : WX} {σ : St} {R : Hp → α → β → Prop} {H : Hp} {m : M α} {b : Bx} {Q : β → Hp → Prop} (w : wpG g W σ R H ((if c then m else stuck) b) Q) : c ∧ wpG g W σ R H (m b) Q := by
  by_cases h : c
  · rw [if_pos h] at w
    exact ⟨h, w⟩
  · rw [if_neg h] at w
    exact w.elim
section
variable {X : Cx} {P : Px} {e a b c : Expr} {es rest : List Expr} {pos : Pos} {f fa fb : DEnv → M D} {t u : DEnv → M Bool} {fs : DEnv → M (List D)}

/-! ### names, constants -/
theorem se_var (i : Nat) {x : Str} (hN : X.N[i]? = some x := by rfl) (hv : Vis X.env.scope x := by first | exact Or.inl rfl | exact Or.inr (Or.inl rfl) | exact Or.inr (Or.inr rfl)) (hd : (x == ("__debug__" : Str)) = false := by decide)
    (hcd : (x == ("__classdict__" : Str)) = false := by decide) : SE X P (.Name x pos) (eVar i) := ⟨fun W _ => pe_imp (pe_var hN hv hd hcd) fun σ H Q h => by
  obtain ⟨g, ρ, b, hP, S, w⟩ := h
  unfold eVar gtE at w
  cases e : ρ[i]? with
  | none => rw [e] at w; exact w.elim
  | some o =>
    cases o with
    | none => rw [e] at w; exact w.elim
    | some d =>
      rw [e] at w
      obtain ⟨v, h1, h2⟩ := S.val i d e
      exact ⟨v, h1, w v H Ex1.refl S.box h2⟩⟩
theorem se_c {v : V} {d : D} (h : PE X e (tC v)) (r : ∀ (g : Gh) (H : Hp), g.P = P → Rep g.P g.O g.bx H d v) : SE X P e (eC d) := ⟨fun W _ => pe_imp h fun σ H Q hh => by
  obtain ⟨g, ρ, b, hP, S, w⟩ := hh
  exact w v H Ex1.refl S.box (.rep (r g H hP))⟩
theorem se_int {i : Int} {j} : SE X P (.Constant (.int i) j pos) (eC (.int i)) := se_c pe_int fun _ _ _ => .int i
theorem se_bl {i : Bool} {j} : SE X P (.Constant (.bool i) j pos) (eC (.bl i)) := se_c pe_bl fun _ _ _ => .bl i
theorem se_non {j} : SE X P (.Constant .none j pos) (eC .non) := se_c pe_non fun _ _ _ => .non
theorem se_str {i : Str} {j} : SE X P (.Constant (.str i) j pos) (eC (.str i)) := se_c pe_str fun _ _ _ => .str i
/-- a module's whole number -/
theorem se_gint {x : Str} {i : Int} {w : Tok} (hg : Gl X x) (hm : X.mg x = some (.int i w)) (hd : (x == ("__debug__" : Str)) = false := by decide) : SE X P (.Name x pos) (eC (.int i)) := se_c (pe_glob (v := .int i) hg hm ⟨w, rfl⟩ hd) fun _ _ _ => .int i
/-- a def as a value -/
theorem se_fn {x : Str} {i : Nat} (hg : Gl X x) (hm : X.mg x = some (.ref (P.fa i))) (hd : (x == ("__debug__" : Str)) = false := by decide) : SE X P (.Name x pos) (eC (.fn i)) := se_c (pe_glob (v := .ref (P.fa i)) hg hm rfl hd) fun g _ hP => by
  rw [← hP]
  exact .fn i

/-! ### operators -/
/-- the value's operation r means o -/
def OpS (P : Px) (r : R2) (o : D → D → M D) : Prop := ∀ (g : Gh) (W : WX) (σ : St) (H : Hp) (Q : VK) (x y : V) (d d' : D) (b : Bx), g.P = P → BoxOk g b H → (∀ a, g.O a → H a ≠ none) → RepT g H d x → RepT g H d' y → wpG g W σ (RepT g) H (o d d' b) Q → r x y H Q
theorem rE_two {W : WX} {o : D → D → M D} {σ : St} {H : Hp} {Q : VK} (h : rE P W (eBin o fa fb) σ H Q) : rE P W fa σ H fun x H1 => rE P W fb σ H1 fun y H2 => ∃ g b d d', g.P = P ∧ BoxOk g b H2 ∧ (∀ a, g.O a → H2 a ≠ none) ∧ RepT g H2 d x ∧ RepT g H2 d' y ∧ wpG g W σ (RepT g) H2 (o d d' b) Q := by
  obtain ⟨g, ρ, b, hP, S, w⟩ := h
  refine ⟨g, ρ, b, hP, S, (wpG.bind (R1 := RepT g) w).imp fun x H1 ⟨d, b1, e1, B1, r1, w1⟩ => ?_⟩
  have S1 := S.mono e1 B1
  refine ⟨g, ρ, b1, hP, S1, (wpG.bind (R1 := RepT g) w1).imp fun y H2 ⟨d', b2, e2, B2, r2, w2⟩ => ?_⟩
  exact ⟨g, b2, d, d', hP, B2, (S1.mono e2 B2).trk, r1.mono S1.box.bxl e2, r2, w2⟩
theorem se_bin {op : Operator} {r : R2} {o : D → D → M D} (ho : OpR X (binaryOp op) r) (os : OpS P r o) (ha : SE X P a fa) (hb : SE X P b fb) : SE X P (.BinOp a op b pos) (eBin o fa fb) := ⟨fun W tk =>
  pe_imp (pe_op ho (ha.pe W tk) (hb.pe W tk)) fun σ H Q h => by
    obtain ⟨g, ρ, b, hP, S, w⟩ := rE_two h
    exact ⟨g, ρ, b, hP, S, w.imp fun x H1 ⟨g1, ρ1, b1, hP1, S1, w1⟩ => ⟨g1, ρ1, b1, hP1, S1, w1.imp fun y H2 ⟨g2, b2, d, d', hP2, B2, T2, r1, r2, w2⟩ => os g2 W σ H2 Q x y d d' b2 hP2 B2 T2 r1 r2 w2⟩⟩⟩
theorem se_cmp {op : CmpOp} {r : R2} {o : D → D → M D} (ho : OpR X (compareOp op) r) (os : OpS P r o) (ha : SE X P a fa) (hb : SE X P b fb) (hm : behindInMarks op b = false) : SE X P (.Compare a [op] [b] pos) (eBin o fa fb) := ⟨fun W tk =>
  pe_imp (pe_cmpR ho (ha.pe W tk) (hb.pe W tk) hm) fun σ H Q h => by
    obtain ⟨g, ρ, b, hP, S, w⟩ := rE_two h
    exact ⟨g, ρ, b, hP, S, w.imp fun x H1 ⟨g1, ρ1, b1, hP1, S1, w1⟩ => ⟨g1, ρ1, b1, hP1, S1, w1.imp fun y H2 ⟨g2, b2, d, d', hP2, B2, T2, r1, r2, w2⟩ => os g2 W σ H2 Q x y d d' b2 hP2 B2 T2 r1 r2 w2⟩⟩⟩
theorem rT_of {W : WX} {o : D → D → M D} {σ : St} {H : Hp} {Q : Bool → Hp → Prop} (h : rT P W (tB (eBin o fa fb)) σ H Q) : rE P W (eBin o fa fb) σ H fun v H1 => ∃ k, v = .bl k ∧ Q k H1 := by
  obtain ⟨g, ρ, b, hP, S, w⟩ := h
  refine ⟨g, ρ, b, hP, S, (wpG.bind (R1 := RepT g) w).imp fun x H1 ⟨d, b1, e1, B1, r1, w1⟩ => ?_⟩
  cases r1 with
  | rep h =>
    cases h with
    | bl c => exact ⟨c, rfl, w1 c H1 Ex1.refl B1 rfl⟩
    | _ => exact w1.elim
  | own => exact w1.elim
theorem st_cmp {op : CmpOp} {r : R2} {o : D → D → M D} (ho : OpR X (compareOp op) r) (os : OpS P r o) (ha : SE X P a fa) (hb : SE X P b fb) (hm : behindInMarks op b = false) : STt X P (.Compare a [op] [b] pos) (tB (eBin o fa fb)) := ⟨fun W tk =>
  pt_imp (pt_cmpR ho (ha.pe W tk) (hb.pe W tk) hm) fun σ H Q h => by
    obtain ⟨g, ρ, b, hP, S, w⟩ := rE_two (rT_of h)
    exact ⟨g, ρ, b, hP, S, w.imp fun x H1 ⟨g1, ρ1, b1, hP1, S1, w1⟩ => ⟨g1, ρ1, b1, hP1, S1, w1.imp fun y H2 ⟨g2, b2, d, d', hP2, B2, T2, r1, r2, w2⟩ => os g2 W σ H2 _ x y d d' b2 hP2 B2 T2 r1 r2 w2⟩⟩⟩
theorem wpG_ok {α β : Type} {g : Gh} {W : WX} {σ : St} {R : Hp → α → β → Prop} {H : Hp} {x : α} {b : Bx} {Q : β → Hp → Prop} {v : β} (w : wpG g W σ R H ((pure x : M α) b) Q) (B : BoxOk g b H) (r : R H x v) : Q v H := w v H Ex1.refl B r
/-- two ints -/
theorem os_int {C : Int → Int → Prop} {k : Int → Int → V} {o : D → D → M D} (h : ∀ (g : Gh) (W : WX) (σ : St) (H : Hp) (Q : VK) (d d' : D) (b : Bx), g.P = P → BoxOk g b H → wpG g W σ (RepT g) H (o d d' b) Q → ∃ i j, d = .int i ∧ d' = .int j ∧ C i j ∧ Q (k i j) H) : OpS P (rI C k) o :=
  fun g W σ H Q x y d d' b hP B T r1 r2 w => by
    obtain ⟨i, j, rfl, rfl, c, q⟩ := h g W σ H Q d d' b hP B w
    cases r1 with
    | rep r1 =>
      cases r1
      cases r2 with
      | rep r2 =>
        cases r2
        exact ⟨i, j, rfl, rfl, c, q⟩
theorem os_int0 {k : Int → Int → V} {o : D → D → M D} (h : ∀ (g : Gh) (W : WX) (σ : St) (H : Hp) (Q : VK) (d d' : D) (b : Bx), g.P = P → BoxOk g b H → wpG g W σ (RepT g) H (o d d' b) Q → ∃ i j, d = .int i ∧ d' = .int j ∧ Q (k i j) H) : OpS P (rI0 k) o :=
  fun g W σ H Q x y d d' b hP B T r1 r2 w => by
    obtain ⟨i, j, rfl, rfl, q⟩ := h g W σ H Q d d' b hP B w
    cases r1 with
    | rep r1 =>
      cases r1
      cases r2 with
      | rep r2 =>
        cases r2
        exact ⟨i, j, rfl, rfl, q⟩
theorem os_sub : OpS P (rI0 fun i j => .int (i - j)) subD := os_int0 fun g W σ H Q d d' b hP B w => by
  cases d <;> cases d' <;> first | exact w.elim | skip
  exact ⟨_, _, rfl, rfl, wpG_ok w B (.rep (.int _))⟩
theorem os_cmpI {p : Int → Int → Bool} : OpS P (rI0 fun i j => .bl (p i j)) (cmpI p) := os_int0 fun g W σ H Q d d' b hP B w => by
  cases d <;> cases d' <;> first | exact w.elim | skip
  exact ⟨_, _, rfl, rfl, wpG_ok w B (.rep (.bl _))⟩
def CMulA (i j : Int) : Prop := CMul i j ∨ CMulW i j
theorem op_mulA : OpR X (binaryOp .Mult) (rI CMulA fun i j => .int (i * j)) := opI fun _ _ _ _ _ _ _ hc q => PyProof.Rows.mul_int q (hc.elim (fun h => h.ok) fun h => h.ok)
theorem mulOk_ok {i j : Int} (h : mulOk i j = true) : CMulA i j := by
  unfold mulOk at h
  rw [Bool.or_eq_true, Bool.or_eq_true, Bool.and_eq_true, decide_eq_true_iff, decide_eq_true_iff, decide_eq_true_iff, decide_eq_true_iff] at h
  rcases h with (h | h) | ⟨h1, h2⟩
  · exact .inl (.inl (by omega))
  · exact .inl (.inr (by omega))
  · exact .inr (wide_mul h1 h2 (by decide) (by decide) (by decide))
theorem os_mul : OpS P (rI CMulA fun i j => .int (i * j)) mulD := os_int fun g W σ H Q d d' b hP B w => by
  cases d <;> cases d' <;> first | exact w.elim | skip
  rename_i i j
  obtain ⟨h, w⟩ := wp_ite (c := mulOk i j = true) (m := pure (D.int (i * j))) w
  exact ⟨_, _, rfl, rfl, mulOk_ok h, wpG_ok w B (.rep (.int _))⟩
theorem op_fdivA : OpR X (binaryOp .FloorDiv) (rI (fun _ j => j ≠ 0 ∧ j.natAbs < 2 ^ 9000) fun i j => .int (i.fdiv j)) := opI fun i j _ _ _ _ _ hc q => PyProof.Rows.floordiv_int hc.1 q (.inl (PyProof.noPylong_of_log2 (PySem.Flt.log2_lt_of (by decide) hc.2)))
theorem os_fdiv : OpS P (rI (fun _ j => j ≠ 0 ∧ j.natAbs < 2 ^ 9000) fun i j => .int (i.fdiv j)) fdivD := os_int fun g W σ H Q d d' b hP B w => by
  cases d <;> cases d' <;> first | exact w.elim | skip
  rename_i i j
  obtain ⟨h, w⟩ := wp_ite (c := (decide (j ≠ 0) && decide (j.natAbs < 2 ^ 9000)) = true) (m := pure (D.int (i.fdiv j))) w
  rw [Bool.and_eq_true, decide_eq_true_iff, decide_eq_true_iff] at h
  exact ⟨_, _, rfl, rfl, h, wpG_ok w B (.rep (.int _))⟩
theorem os_mod : OpS P (rI (fun _ j => j ≠ 0) fun i j => .int (i.fmod j)) modD := os_int fun g W σ H Q d d' b hP B w => by
  cases d <;> cases d' <;> first | exact w.elim | skip
  rename_i i j
  obtain ⟨h, w⟩ := wp_ite (c := j ≠ 0) (m := pure (D.int (i.fmod j))) w
  exact ⟨_, _, rfl, rfl, h, wpG_ok w B (.rep (.int _))⟩
theorem os_pow : OpS P (rI CPow fun i j => .int (i ^ j.toNat)) powD := os_int fun g W σ H Q d d' b hP B w => by
  cases d <;> cases d' <;> first | exact w.elim | skip
  rename_i i j
  obtain ⟨h, w⟩ := wp_ite (c := 0 ≤ j ∧ j ≤ 1000 ∧ i.natAbs < 2 ^ 64) (m := pure (D.int (i ^ j.toNat))) w
  exact ⟨_, _, rfl, rfl, ⟨h.1, by omega, h.2.2⟩, wpG_ok w B (.rep (.int _))⟩
/-- x + y, of ints, tuples, lists, texts -/
def rAddA (K : PySem.W.Frag) : R2 := fun x y H Q => (((rI0 fun i j => .int (i + j)) x y H Q ∨ rCatA K x y H Q) ∨ rCat x y H Q) ∨ (∃ i j, x = .str i ∧ y = .str j ∧ i.length + j.length ≤ sizeLine ∧ Q (.str (i ++ j)) H)
theorem op_addA : OpR X (binaryOp .Add) (rAddA X.K) := ((op_add.or op_catA).or op_cat).or op_add_str
theorem os_add : OpS P (rAddA P.K) addD := fun g W σ H Q x y d d' b hP B T r1 r2 w => by
  have dead : ∀ {C : Prop} {d1 d2 : D}, wpG g W σ (RepT g) H ((stuck : M D) b) Q → C := fun w => w.elim
  cases r1 with
  | own => cases r2 <;> exact w.elim
  | rep r1 =>
    cases r2 with
    | own => cases d <;> exact w.elim
    | rep r2 =>
      subst hP
      cases r1 with
      | int i =>
        cases r2 with
        | int j => exact .inl (.inl (.inl ⟨i, j, rfl, rfl, wpG_ok w B (.rep (.int _))⟩))
        | _ => exact w.elim
      | str i =>
        cases r2 with
        | str j =>
          obtain ⟨h, w⟩ := wp_ite (c := i.length + j.length ≤ 100000) (m := pure (D.str (i ++ j))) w
          exact .inr ⟨i, j, rfl, rfl, szl h, wpG_ok w B (.rep (.str _))⟩
        | _ => exact w.elim
      | @tup a xs vs h1 q1 =>
        cases r2 with
        | @tup a2 ys us h2 q2 =>
          obtain ⟨h, w⟩ := wp_ite (c := xs.length + ys.length ≤ 100000) (m := pure (D.tup (xs ++ ys))) w
          · have e1 := q1.length
            have e2 := q2.length
            refine .inl (.inl (.inr ⟨a, a2, vs, us, rfl, rfl, sqt h1, sqt h2, szl (by omega), fun z => ?_, fun _ z => ?_, fun _ _ p hp => ?_⟩))
            · subst z
              have ex : xs = [] := List.eq_nil_of_length_eq_zero e1
              subst ex
              exact wpG_ok w B (.rep (.tup h2 q2))
            · subst z
              have ex : ys = [] := List.eq_nil_of_length_eq_zero e2
              subst ex
              rw [List.append_nil] at w
              exact wpG_ok w B (.rep (.tup h1 q1))
            · exact w (.ref p) _ (Ex1.new hp) (B.new hp) (.rep (.tup upd_same ((q1.mono B.bxl (Ex1.new hp)).append (q2.mono B.bxl (Ex1.new hp)))))
        | _ => exact w.elim
      | @lst a xs vs h1 n1 q1 =>
        cases r2 with
        | @lst a2 ys us h2 n2 q2 =>
          obtain ⟨h, w⟩ := wp_ite (c := xs.length + ys.length ≤ 100000) (m := pure (D.lst (xs ++ ys))) w
          · have e1 := q1.length
            have e2 := q2.length
            refine .inl (.inr ⟨a, a2, vs, us, rfl, rfl, h1, h2, szl (by omega), fun p hp => ?_⟩)
            exact w (.ref p) _ (Ex1.new hp) (B.new hp) (.rep (.lst upd_same (fun z => T p z hp) ((q1.mono B.bxl (Ex1.new hp)).append (q2.mono B.bxl (Ex1.new hp)))))
        | _ => exact w.elim
      | _ => cases r2 <;> exact w.elim
theorem se_add (ha : SE X P a fa) (hb : SE X P b fb) (hK : X.K = P.K := by rfl) : SE X P (.BinOp a .Add b pos) (eBin addD fa fb) := se_bin (r := rAddA P.K) (by rw [← hK]; exact op_addA) os_add ha hb
theorem se_sub (ha : SE X P a fa) (hb : SE X P b fb) : SE X P (.BinOp a .Sub b pos) (eBin subD fa fb) := se_bin op_sub os_sub ha hb
theorem se_mul (ha : SE X P a fa) (hb : SE X P b fb) : SE X P (.BinOp a .Mult b pos) (eBin mulD fa fb) := se_bin op_mulA os_mul ha hb
theorem se_fdiv (ha : SE X P a fa) (hb : SE X P b fb) : SE X P (.BinOp a .FloorDiv b pos) (eBin fdivD fa fb) := se_bin op_fdivA os_fdiv ha hb
theorem se_mod (ha : SE X P a fa) (hb : SE X P b fb) : SE X P (.BinOp a .Mod b pos) (eBin modD fa fb) := se_bin op_modN os_mod ha hb
theorem se_pow (ha : SE X P a fa) (hb : SE X P b fb) : SE X P (.BinOp a .Pow b pos) (eBin powD fa fb) := se_bin op_pow os_pow ha hb
theorem se_lt (ha : SE X P a fa) (hb : SE X P b fb) : SE X P (.Compare a [.Lt] [b] pos) (eBin ltD fa fb) := se_cmp op_lt os_cmpI ha hb (nomark _)
theorem se_le (ha : SE X P a fa) (hb : SE X P b fb) : SE X P (.Compare a [.LtE] [b] pos) (eBin leD fa fb) := se_cmp op_le os_cmpI ha hb (nomark _)
theorem se_gt (ha : SE X P a fa) (hb : SE X P b fb) : SE X P (.Compare a [.Gt] [b] pos) (eBin gtD fa fb) := se_cmp op_gt os_cmpI ha hb (nomark _)
theorem se_ge (ha : SE X P a fa) (hb : SE X P b fb) : SE X P (.Compare a [.GtE] [b] pos) (eBin geD fa fb) := se_cmp op_ge os_cmpI ha hb (nomark _)
theorem st_lt (ha : SE X P a fa) (hb : SE X P b fb) : STt X P (.Compare a [.Lt] [b] pos) (tB (eBin ltD fa fb)) := st_cmp op_lt os_cmpI ha hb (nomark _)
theorem st_le (ha : SE X P a fa) (hb : SE X P b fb) : STt X P (.Compare a [.LtE] [b] pos) (tB (eBin leD fa fb)) := st_cmp op_le os_cmpI ha hb (nomark _)
theorem st_gt (ha : SE X P a fa) (hb : SE X P b fb) : STt X P (.Compare a [.Gt] [b] pos) (tB (eBin gtD fa fb)) := st_cmp op_gt os_cmpI ha hb (nomark _)
theorem st_ge (ha : SE X P a fa) (hb : SE X P b fb) : STt X P (.Compare a [.GtE] [b] pos) (tB (eBin geD fa fb)) := st_cmp op_ge os_cmpI ha hb (nomark _)
/-- one operand -/
theorem rE_one {W : WX} {o : D → M D} {σ : St} {H : Hp} {Q : VK} (h : rE P W (eUn o fa) σ H Q) : rE P W fa σ H fun x H1 => ∃ g b d, g.P = P ∧ BoxOk g b H1 ∧ (∀ a, g.O a → H1 a ≠ none) ∧ RepT g H1 d x ∧ wpG g W σ (RepT g) H1 (o d b) Q := by
  obtain ⟨g, ρ, b, hP, S, w⟩ := h
  exact ⟨g, ρ, b, hP, S, (wpG.bind (R1 := RepT g) w).imp fun x H1 ⟨d, b1, e1, B1, r1, w1⟩ => ⟨g, b1, d, hP, B1, (S.mono e1 B1).trk, r1, w1⟩⟩
theorem se_neg (ha : SE X P a fa) : SE X P (.UnaryOp .USub a pos) (eUn negD fa) := ⟨fun W tk => pe_imp (pe_un un_neg (ha.pe W tk)) fun σ H Q h => by
  obtain ⟨g, ρ, b, hP, S, w⟩ := rE_one h
  refine ⟨g, ρ, b, hP, S, w.imp fun x H1 ⟨g1, b1, d, hP1, B1, T1, r1, w1⟩ => ?_⟩
  cases r1 with
  | rep r1 =>
    cases r1 with
    | int i => exact ⟨i, rfl, wpG_ok w1 B1 (.rep (.int _))⟩
    | _ => exact w1.elim
  | own => exact w1.elim⟩
theorem isNon_rep {g : Gh} {H : Hp} {d : D} {v : V} (r : RepT g H d v) : decide (v = .non) = isNon d := by
  cases r with
  | rep r => cases r <;> rfl
  | own => rfl
theorem se_isN {j pos'} (ha : SE X P a fa) : SE X P (.Compare a [.Is] [.Constant .none j pos'] pos) (eUn isNonD fa) := ⟨fun W tk => pe_imp (pe_cmp (pc_isN (ha.pe W tk))) fun σ H Q h => by
  obtain ⟨g, ρ, b, hP, S, w⟩ := rE_one h
  refine ⟨g, ρ, b, hP, S, w.imp fun x H1 ⟨g1, b1, d, hP1, B1, T1, r1, w1⟩ => ?_⟩
  rw [isNon_rep r1]
  exact wpG_ok w1 B1 (.rep (.bl _))⟩
theorem se_notN {j pos'} (ha : SE X P a fa) : SE X P (.Compare a [.IsNot] [.Constant .none j pos'] pos) (eUn notNonD fa) := ⟨fun W tk => pe_imp (pe_cmp (pc_notN (ha.pe W tk))) fun σ H Q h => by
  obtain ⟨g, ρ, b, hP, S, w⟩ := rE_one h
  refine ⟨g, ρ, b, hP, S, w.imp fun x H1 ⟨g1, b1, d, hP1, B1, T1, r1, w1⟩ => ?_⟩
  rw [isNon_rep r1]
  exact wpG_ok w1 B1 (.rep (.bl _))⟩
theorem rE_bool {W : WX} {σ : St} {H : Hp} {Q : Bool → Hp → Prop} (h : rT P W (tB f) σ H Q) : rE P W f σ H fun v H1 => ∃ k, v = .bl k ∧ Q k H1 := by
  obtain ⟨g, ρ, b, hP, S, w⟩ := h
  refine ⟨g, ρ, b, hP, S, (wpG.bind (R1 := RepT g) w).imp fun x H1 ⟨d, b1, e1, B1, r1, w1⟩ => ?_⟩
  cases r1 with
  | rep h =>
    cases h with
    | bl c => exact ⟨c, rfl, w1 c H1 Ex1.refl B1 rfl⟩
    | _ => exact w1.elim
  | own => exact w1.elim
theorem st_isN {j pos'} (ha : SE X P a fa) : STt X P (.Compare a [.Is] [.Constant .none j pos'] pos) (tB (eUn isNonD fa)) := ⟨fun W tk => pt_imp (pt_cmp (pc_isN (ha.pe W tk))) fun σ H Q h => by
  obtain ⟨g, ρ, b, hP, S, w⟩ := rE_one (rE_bool h)
  refine ⟨g, ρ, b, hP, S, w.imp fun x H1 ⟨g1, b1, d, hP1, B1, T1, r1, w1⟩ => ?_⟩
  rw [isNon_rep r1]
  exact wpG_ok w1 B1 (.rep (.bl _))⟩
theorem st_notN {j pos'} (ha : SE X P a fa) : STt X P (.Compare a [.IsNot] [.Constant .none j pos'] pos) (tB (eUn notNonD fa)) := ⟨fun W tk => pt_imp (pt_cmp (pc_notN (ha.pe W tk))) fun σ H Q h => by
  obtain ⟨g, ρ, b, hP, S, w⟩ := rE_one (rE_bool h)
  refine ⟨g, ρ, b, hP, S, w.imp fun x H1 ⟨g1, b1, d, hP1, B1, T1, r1, w1⟩ => ?_⟩
  rw [isNon_rep r1]
  exact wpG_ok w1 B1 (.rep (.bl _))⟩

/-! ### tests -/
/-- an expression whose value is True or False, as a test -/
theorem st_val (ha : SE X P a fa) (he : ∀ whole, isTrue a X.env whole = (do let v ← whole; standAt a.pos; holding [v] (truthy v)) := by intro _; rfl) : STt X P a (tB fa) := ⟨fun W tk => pt_imp (pt_val (ha.pe W tk) he) fun σ H Q h => rE_bool h⟩
/-- .. by its truth -/
theorem st_tr (ha : SE X P a fa) (hK : X.K = P.K := by rfl) (he : ∀ whole, isTrue a X.env whole = (do let v ← whole; standAt a.pos; holding [v] (truthy v)) := by intro _; rfl) : STt X P a (tTr fa) := ⟨fun W tk => pt_imp (pt_truth (ha.pe W tk) he) fun σ H Q h => by
  obtain ⟨g, ρ, b, hP, S, w⟩ := h
  refine ⟨g, ρ, b, hP, S, (wpG.bind (R1 := RepT g) w).imp fun x H1 ⟨d, b1, e1, B1, r1, w1⟩ => ?_⟩
  rw [hK]
  subst hP
  have emp : ∀ {O : Addr → Prop} {ds : List D} {vs : List V}, Reps g.P O g.bx H1 ds vs → (!ds.isEmpty) = !vs.isEmpty := fun r => by cases r <;> rfl
  cases r1 with
  | rep h =>
    cases h with
    | non => exact ⟨false, rfl, wpG_ok w1 B1 rfl⟩
    | bl c => exact ⟨c, rfl, wpG_ok w1 B1 rfl⟩
    | int i => exact ⟨i != 0, rfl, wpG_ok w1 B1 rfl⟩
    | @tup a xs vs h1 q1 => exact ⟨!vs.isEmpty, .inr (.inl ⟨vs, sqt h1, rfl⟩), by rw [← emp q1]; exact wpG_ok w1 B1 rfl⟩
    | @lst a xs vs h1 n1 q1 => exact ⟨!vs.isEmpty, .inl ⟨vs, .inl (.inl h1), rfl⟩, by rw [← emp q1]; exact wpG_ok w1 B1 rfl⟩
    | _ => exact w1.elim
  | @own xs vs a h o n nb r => exact ⟨!vs.isEmpty, .inl ⟨vs, .inl (.inl h), rfl⟩, by rw [← emp r]; exact wpG_ok w1 B1 rfl⟩⟩
end
end Pu

set_option Elab.async false
set_option linter.all false
set_option maxRecDepth 100000
set_option maxHeartbeats 4000000
/-! The pure layer, part C: and, or, displays, items, slices, len, equality -/
namespace Pu
open PySem L2
section
variable {X : Cx} {P : Px} {e a b c : Expr} {es rest : List Expr} {pos : Pos} {f fa fb fc : DEnv → M D} {t u : DEnv → M Bool} {fs : DEnv → M (List D)}

/-! ### and, or, not, if -/
theorem bool_rep {g : Gh} {W : WX} {σ : St} {H : Hp} {d : D} {v : V} {bb : Bx} {γ δ : Type} {R : Hp → γ → δ → Prop} {k : Bool → M γ} {Q : δ → Hp → Prop} (r : RepT g H d v) (w : wpG g W σ R H ((boolD d >>= k) bb) Q) :
    ∃ c, d = .bl c ∧ v = .bl c ∧ wpG g W σ R H (k c bb) Q := by
  cases r with
  | rep h =>
    cases h with
    | bl c => exact ⟨c, rfl, rfl, w⟩
    | _ => exact w.elim
  | own => exact w.elim
theorem se_one {op} (h : SE X P a f) : SE X P (.BoolOp op [a] pos) f := ⟨fun W tk => pe_one (h.pe W tk)⟩
theorem se_and (ha : SE X P a fa) (hb : SE X P (.BoolOp .And (b :: rest) pos) fb) : SE X P (.BoolOp .And (a :: b :: rest) pos) (eAnd fa fb) := ⟨fun W tk => pe_imp (pe_and (ha.pe W tk) (hb.pe W tk)) fun σ H Q h => by
  obtain ⟨g, ρ, b, hP, S, w⟩ := h
  refine ⟨g, ρ, b, hP, S, (wpG.bind (R1 := RepT g) w).imp fun x H1 ⟨d, b1, e1, B1, r1, w1⟩ => ?_⟩
  obtain ⟨c, rfl, rfl, w2⟩ := bool_rep r1 w1
  refine ⟨c, rfl, ?_⟩
  cases c with
  | true => exact iteT ⟨g, ρ, b1, hP, S.mono e1 B1, w2⟩
  | false => exact iteF (wpG_ok w2 B1 (.rep (.bl _)))⟩
theorem se_or (ha : SE X P a fa) (hb : SE X P (.BoolOp .Or (b :: rest) pos) fb) : SE X P (.BoolOp .Or (a :: b :: rest) pos) (eOr fa fb) := ⟨fun W tk => pe_imp (pe_or (ha.pe W tk) (hb.pe W tk)) fun σ H Q h => by
  obtain ⟨g, ρ, b, hP, S, w⟩ := h
  refine ⟨g, ρ, b, hP, S, (wpG.bind (R1 := RepT g) w).imp fun x H1 ⟨d, b1, e1, B1, r1, w1⟩ => ?_⟩
  obtain ⟨c, rfl, rfl, w2⟩ := bool_rep r1 w1
  refine ⟨c, rfl, ?_⟩
  cases c with
  | true => exact iteT (wpG_ok w2 B1 (.rep (.bl _)))
  | false => exact iteF ⟨g, ρ, b1, hP, S.mono e1 B1, w2⟩⟩
theorem se_not (ha : SE X P a fa) : SE X P (.UnaryOp .Not a pos) (eNot fa) := ⟨fun W tk => pe_imp (pe_not (ha.pe W tk)) fun σ H Q h => by
  obtain ⟨g, ρ, b, hP, S, w⟩ := h
  refine ⟨g, ρ, b, hP, S, (wpG.bind (R1 := RepT g) w).imp fun x H1 ⟨d, b1, e1, B1, r1, w1⟩ => ?_⟩
  obtain ⟨c, rfl, rfl, w2⟩ := bool_rep r1 w1
  exact ⟨c, rfl, wpG_ok w2 B1 (.rep (.bl _))⟩⟩
/-- a test that is an and, an or (whatever its 'whole' is) -/
structure SWt (X : Cx) (P : Px) (e : Expr) (f : DEnv → M Bool) : Prop where
  pw : ∀ W, Takes X W → PW X e (rT P W f)
theorem pw_imp {t t' : TT} (h : PW X e t) (k : ∀ σ H Q, t' σ H Q → t σ H Q) : PW X e t' := ⟨fun wh pins s σ H Q I q => h.run wh pins s σ H Q I (k σ H Q q)⟩
theorem SWt.st (h : SWt X P e t) : STt X P e t := ⟨fun W tk => (h.pw W tk).pt⟩
theorem sw_and1 (h : STt X P a t) : SWt X P (.BoolOp .And [a] pos) t := ⟨fun W tk => pw_and1 (h.pt W tk)⟩
theorem sw_or1 (h : STt X P a t) : SWt X P (.BoolOp .Or [a] pos) t := ⟨fun W tk => pw_or1 (h.pt W tk)⟩
theorem sw_and (ha : STt X P a t) (hb : SWt X P (.BoolOp .And (b :: rest) pos) u) : SWt X P (.BoolOp .And (a :: b :: rest) pos) (tAndD t u) := ⟨fun W tk => pw_imp (pw_and (ha.pt W tk) (hb.pw W tk)) fun σ H Q h => by
  obtain ⟨g, ρ, b, hP, S, w⟩ := h
  refine ⟨g, ρ, b, hP, S, (wpG.bind (R1 := fun _ a v => v = a) w).imp fun x H1 ⟨d, b1, e1, B1, r1, w1⟩ => ?_⟩
  subst r1
  cases x with
  | true => exact iteT ⟨g, ρ, b1, hP, S.mono e1 B1, w1⟩
  | false => exact iteF (wpG_ok w1 B1 rfl)⟩
theorem sw_or (ha : STt X P a t) (hb : SWt X P (.BoolOp .Or (b :: rest) pos) u) : SWt X P (.BoolOp .Or (a :: b :: rest) pos) (tOrD t u) := ⟨fun W tk => pw_imp (pw_or (ha.pt W tk) (hb.pw W tk)) fun σ H Q h => by
  obtain ⟨g, ρ, b, hP, S, w⟩ := h
  refine ⟨g, ρ, b, hP, S, (wpG.bind (R1 := fun _ a v => v = a) w).imp fun x H1 ⟨d, b1, e1, B1, r1, w1⟩ => ?_⟩
  subst r1
  cases x with
  | true => exact iteT (wpG_ok w1 B1 rfl)
  | false => exact iteF ⟨g, ρ, b1, hP, S.mono e1 B1, w1⟩⟩
theorem st_not (ha : STt X P a t) : STt X P (.UnaryOp .Not a pos) (tNotD t) := ⟨fun W tk => pt_imp (pt_not (ha.pt W tk)) fun σ H Q h => by
  obtain ⟨g, ρ, b, hP, S, w⟩ := h
  refine ⟨g, ρ, b, hP, S, (wpG.bind (R1 := fun _ a v => v = a) w).imp fun x H1 ⟨d, b1, e1, B1, r1, w1⟩ => ?_⟩
  subst r1
  exact wpG_ok w1 B1 rfl⟩
theorem se_if (hc : STt X P c t) (ha : SE X P a fa) (hb : SE X P b fb) : SE X P (.IfExp c a b pos) (eIf t fa fb) := ⟨fun W tk => pe_imp (pe_ifExp (hc.pt W tk) (ha.pe W tk) (hb.pe W tk)) fun σ H Q h => by
  obtain ⟨g, ρ, b, hP, S, w⟩ := h
  refine ⟨g, ρ, b, hP, S, (wpG.bind (R1 := fun _ a v => v = a) w).imp fun x H1 ⟨d, b1, e1, B1, r1, w1⟩ => ?_⟩
  subst r1
  cases x with
  | true => exact iteT ⟨g, ρ, b1, hP, S.mono e1 B1, w1⟩
  | false => exact iteF ⟨g, ρ, b1, hP, S.mono e1 B1, w1⟩⟩
/-- a or b, by truth -/
def eOrT (f g : DEnv → M D) : DEnv → M D := fun ρ => f ρ >>= fun d => truthD d >>= fun c => if c = true then pure d else g ρ
theorem truth_rep {g : Gh} {W : WX} {σ : St} {H : Hp} {d : D} {v : V} {bb : Bx} {γ δ : Type} {R : Hp → γ → δ → Prop} {k : Bool → M γ} {Q : δ → Hp → Prop} (r : RepT g H d v) (w : wpG g W σ R H ((truthD d >>= k) bb) Q) :
    ∃ c, TruV g.P.K v H c ∧ wpG g W σ R H (k c bb) Q := by
  have emp : ∀ {O : Addr → Prop} {ds : List D} {vs : List V}, Reps g.P O g.bx H ds vs → (!ds.isEmpty) = !vs.isEmpty := fun r => by cases r <;> rfl
  cases r with
  | rep h =>
    cases h with
    | non => exact ⟨false, rfl, w⟩
    | bl c => exact ⟨c, rfl, w⟩
    | int i => exact ⟨i != 0, rfl, w⟩
    | @tup a xs vs h1 q1 => exact ⟨!vs.isEmpty, .inr (.inl ⟨vs, sqt h1, rfl⟩), by rw [← emp q1]; exact w⟩
    | @lst a xs vs h1 n1 q1 => exact ⟨!vs.isEmpty, .inl ⟨vs, .inl (.inl h1), rfl⟩, by rw [← emp q1]; exact w⟩
    | _ => exact w.elim
  | @own xs vs a h o n nb r => exact ⟨!vs.isEmpty, .inl ⟨vs, .inl (.inl h), rfl⟩, by rw [← emp r]; exact w⟩
theorem se_orT (ha : SE X P a fa) (hb : SE X P (.BoolOp .Or (b :: rest) pos) fb) (hK : X.K = P.K := by rfl) : SE X P (.BoolOp .Or (a :: b :: rest) pos) (eOrT fa fb) := ⟨fun W tk => pe_imp (pe_orT (ha.pe W tk) (hb.pe W tk)) fun σ H Q h => by
  obtain ⟨g, ρ, b, hP, S, w⟩ := h
  refine ⟨g, ρ, b, hP, S, (wpG.bind (R1 := RepT g) w).imp fun x H1 ⟨d, b1, e1, B1, r1, w1⟩ => ?_⟩
  obtain ⟨c, ht, w2⟩ := truth_rep r1 w1
  rw [hP, ← hK] at ht
  refine ⟨c, ht, ?_⟩
  cases c with
  | true => exact iteT (wpG_ok w2 B1 r1)
  | false => exact iteF ⟨g, ρ, b1, hP, S.mono e1 B1, w2⟩⟩

/-! ### displays -/
theorem sa_nil : SA X P [] aNil := ⟨fun W _ => pa_imp pa_nil fun σ H Q h => by
  obtain ⟨g, ρ, b, hP, S, w⟩ := h
  exact wpG_ok w S.box .nil⟩
theorem sa_cons (ha : SE X P e f) (hr : SA X P es fs) (hs : starEach (e :: es) X.env = (false, eval e X.env) :: starEach es X.env := by rfl) : SA X P (e :: es) (aCons f fs) := ⟨fun W tk => pa_imp (pa_cons (ha.pe W tk) (hr.pa W tk) hs) fun σ H Q h => by
  obtain ⟨g, ρ, b, hP, S, w⟩ := h
  refine ⟨g, ρ, b, hP, S, (wpG.bind (R1 := RepT g) w).imp fun x H1 ⟨d, b1, e1, B1, r1, w1⟩ => ?_⟩
  obtain ⟨r1', w1⟩ := chk_rep r1 w1
  have S1 := S.mono e1 B1
  refine ⟨g, ρ, b1, hP, S1, (wpG.bind (R1 := RA g) w1).imp fun xs H2 ⟨ds, b2, e2, B2, r2, w2⟩ => ?_⟩
  exact wpG_ok w2 B2 (.cons (r1'.mono S1.box.bxl e2) r2)⟩
theorem se_tup {k} (h : SA X P es fs) : SE X P (.Tuple es k pos) (eTup fs) := ⟨fun W tk => pe_imp (pe_tup (h.pa W tk)) fun σ H Q h => by
  obtain ⟨g, ρ, b, hP, S, w⟩ := h
  refine ⟨g, ρ, b, hP, S, (wpG.bind (R1 := RA g) w).imp fun xs H1 ⟨ds, b1, e1, B1, r1, w1⟩ => ?_⟩
  obtain ⟨hl, w1⟩ := wp_ite (c := ds.length ≤ 100000) (m := pure (D.tup ds)) w1
  exact ⟨by rw [← r1.length]; exact szl hl, fun p hp => w1 (.ref p) _ (Ex1.new hp) (B1.new hp) (.rep (.tup upd_same (r1.mono B1.bxl (Ex1.new hp))))⟩⟩
theorem sf_lst (h : SA X P es fs) : SF X P (.List es pos) (fLst fs) := ⟨fun W tk => pe_imp (pe_lst (h.pa W tk)) fun σ H Q h => by
  obtain ⟨g, ρ, b, hP, S, w⟩ := h
  refine ⟨g, ρ, b, hP, S, (wpG.bind (R1 := RA g) w).imp fun xs H1 ⟨ds, b1, e1, B1, r1, w1⟩ => ?_⟩
  obtain ⟨hl, w1⟩ := wp_ite (c := ds.length ≤ 100000) (m := pure ds) w1
  refine ⟨by rw [← r1.length]; exact szl hl, fun p hp => ?_⟩
  have h0 : H p = none := by
    cases q : H p with
    | none => rfl
    | some o =>
      by_cases z : g.bx = some p
      · obtain ⟨_, vs, q2⟩ := B1.bxl p z
        rw [hp] at q2; cases q2
      · have q2 := e1 p o z q
        rw [hp] at q2; cases q2
  exact w1 (.ref p) _ (Ex1.new hp) (B1.new hp) ⟨p, xs, rfl, h0, upd_same, (r1.own (O' := fun a => g.O a ∨ a = p) fun a ha => ha.elim .inl fun z => .inr (by rw [z]; exact hp)).mono (fun a ha => ⟨.inl (B1.bxl a ha).1, (B1.bxl a ha).2⟩) (Ex1.new hp)⟩⟩
theorem f_read {W : WX} {σ : St} {H : Hp} {Q : VK} (h : rE P W (eF fs) σ H Q) : rF P W fs σ H Q := by
  obtain ⟨g, ρ, b, hP, S, w⟩ := h
  refine ⟨g, ρ, b, hP, S, (wpG.bind (R1 := RF g H) w).imp fun v H1 ⟨ds, b1, e1, B1, r1, w1⟩ => ?_⟩
  obtain ⟨p, vs, rfl, h0, h1, r⟩ := r1
  exact wpG_ok w1 B1 (.rep (.lst h1 (fun z => S.trk p z h0) (r.own fun a ha => .inl (.inl ha))))
/-- a new list as a value -/
theorem se_f (h : SF X P e fs) : SE X P e (eF fs) := ⟨fun W tk => pe_imp (h.pe W tk) fun σ H Q h => f_read h⟩

/-! ### items -/
def ixD : D → D → M D
  | .tup xs, .int i => match atI xs i with
    | some d => pure d
    | none => stuck
  | .lst xs, .int i => match atI xs i with
    | some d => pure d
    | none => stuck
  | .fro xs, .int i => match atI xs i with
    | some d => pure d
    | none => stuck
  | .own xs, .int i => match atI xs i with
    | some d => pure d
    | none => stuck
  | .box, .int i => fun b => match atI b i with
    | some d => .ok (.int d) b
    | none => .stk
  | _, _ => stuck
theorem atI_rep {P : Px} {O : Addr → Prop} {bx : Option Addr} {H : Hp} {ds : List D} {vs : List V} (r : Reps P O bx H ds vs) {i : Int} {d : D} (h : atI ds i = some d) : ∃ v, atI vs i = some v ∧ Rep P O bx H d v := by
  have hl := r.length
  unfold atI at h ⊢
  rw [← hl]
  cases e : ixN ds.length i with
  | none => rw [e] at h; cases h
  | some j =>
    rw [e] at h
    exact r.get h
def rIxA (K : PySem.W.Frag) : R2 := fun x y H Q => rIxL K x y H Q ∨ rIxT K x y H Q
theorem os_ix : OpS P (rIxA P.K) ixD := fun g W σ H Q x y d d' b hP B T r1 r2 w => by
  subst hP
  have key : ∀ {xs : List D} {vs : List V} {i : Int}, Reps g.P g.O g.bx H xs vs → wpG g W σ (RepT g) H ((match atI xs i with
    | some d => pure d
    | none => stuck : M D) b) Q → ∃ v, atI vs i = some v ∧ Q v H := fun {xs vs i} r w => by
    cases e : atI xs i with
    | none => rw [e] at w; exact w.elim
    | some d =>
      rw [e] at w
      obtain ⟨v, h1, h2⟩ := atI_rep r e
      exact ⟨v, h1, wpG_ok w B (.rep h2)⟩
  cases r2 with
  | own => cases d <;> exact w.elim
  | rep r2 =>
    cases r2 with
    | int i =>
      cases r1 with
      | rep r1 =>
        cases r1 with
        | @tup a xs vs h1 q1 =>
          obtain ⟨v, hv, q⟩ := key q1 w
          exact .inr ⟨a, vs, i, v, rfl, rfl, sqt h1, hv, q⟩
        | @lst a xs vs h1 n1 q1 =>
          obtain ⟨v, hv, q⟩ := key q1 w
          exact .inl ⟨a, vs, i, v, rfl, rfl, .inl (.inl h1), hv, q⟩
        | @fro a xs vs h1 q1 =>
          obtain ⟨v, hv, q⟩ := key q1 w
          exact .inl ⟨a, vs, i, v, rfl, rfl, h1.elim (fun h => .inl (.inr h)) (fun h => h H), hv, q⟩
        | @box a h =>
          have B' := B
          unfold BoxOk at B'
          rw [h] at B'
          obtain ⟨o, hv⟩ := B'
          have w' : wpG g W σ (RepT g) H (match atI b i with
            | some d => .ok (.int d) b
            | none => .stk) Q := w
          cases e : atI b i with
          | none => rw [e] at w'; exact w'.elim
          | some d =>
            rw [e] at w'
            have h1 : atI (b.map V.int) i = some (.int d) := by
              unfold atI at e ⊢
              rw [List.length_map]
              cases e2 : ixN b.length i with
              | none => rw [e2] at e; cases e
              | some j =>
                rw [e2] at e
                have e : b[j]? = some d := e
                show (b.map V.int)[j]? = some (.int d)
                rw [List.getElem?_map, e]
                rfl
            exact .inl ⟨a, _, i, _, rfl, rfl, .inl (.inl hv), h1, w' _ H Ex1.refl B (.rep (.int d))⟩
        | _ => exact w.elim
      | @own xs vs a h o n nb r =>
        obtain ⟨v, hv, q⟩ := key r w
        exact .inl ⟨a, vs, i, v, rfl, rfl, .inl (.inl h), hv, q⟩
    | _ => cases d <;> exact w.elim
theorem se_ix (ha : SE X P a fa) (hb : SE X P b fb) (hs : PlainIx b := by exact fun _ _ => rfl) (hK : X.K = P.K := by rfl) : SE X P (.Subscript a b pos) (eBin ixD fa fb) := ⟨fun W tk =>
  pe_imp (pe_ix (ix_list.or ix_tup) (ha.pe W tk) (hb.pe W tk) hs) fun σ H Q h => by
    obtain ⟨g, ρ, b, hP, S, w⟩ := rE_two h
    exact ⟨g, ρ, b, hP, S, w.imp fun x H1 ⟨g1, ρ1, b1, hP1, S1, w1⟩ => ⟨g1, ρ1, b1, hP1, S1, w1.imp fun y H2 ⟨g2, b2, d, d', hP2, B2, T2, r1, r2, w2⟩ => by
      have z := os_ix g2 W σ H2 Q x y d d' b2 hP2 B2 T2 r1 r2 w2
      rw [← hK] at z
      exact z⟩⟩⟩

/-! ### slices -/
def cutD (xs : List D) (lo hi : Option Int) : List D := (xs.drop (HT.sIx xs.length 0 lo)).take (HT.sIx xs.length xs.length hi - HT.sIx xs.length 0 lo)
theorem cut_rep {P : Px} {O : Addr → Prop} {bx : Option Addr} {H : Hp} {ds : List D} {vs : List V} (r : Reps P O bx H ds vs) (lo hi : Option Int) : Reps P O bx H (cutD ds lo hi) (cutV vs lo hi) := by
  unfold cutD cutV
  rw [← r.length]
  exact (r.drop _).take _
/-- a part of a slice -/
structure SO (X : Cx) (P : Px) (e : Option Expr) (f : DEnv → M (Option Int)) : Prop where
  po : ∀ W, Takes X W → PO X e (rG P W (fun _ _ a v => v = a) f)
def intD : D → M (Option Int)
  | .int i => pure (some i)
  | _ => stuck
def oNone : DEnv → M (Option Int) := fun _ => pure none
def oSome (f : DEnv → M D) : DEnv → M (Option Int) := fun ρ => f ρ >>= intD
theorem po_imp {e : Option Expr} {t t' : TO} (h : PO X e t) (k : ∀ σ H Q, t' σ H Q → t σ H Q) : PO X e t' := ⟨fun pins s σ H Q I q => h.run pins s σ H Q I (k σ H Q q)⟩
theorem so_none : SO X P none oNone := ⟨fun W _ => po_imp po_none fun σ H Q h => by
  obtain ⟨g, ρ, b, hP, S, w⟩ := h
  exact wpG_ok w S.box rfl⟩
theorem so_some (h : SE X P e f) : SO X P (some e) (oSome f) := ⟨fun W tk => po_imp (po_some (h.pe W tk)) fun σ H Q h => by
  obtain ⟨g, ρ, b, hP, S, w⟩ := h
  refine ⟨g, ρ, b, hP, S, (wpG.bind (R1 := RepT g) w).imp fun x H1 ⟨d, b1, e1, B1, r1, w1⟩ => ?_⟩
  cases r1 with
  | rep h =>
    cases h with
    | int i => exact ⟨i, rfl, wpG_ok w1 B1 rfl⟩
    | _ => exact w1.elim
  | own => exact w1.elim⟩
def slD : D → Option Int → Option Int → M D
  | .tup xs, lo, hi => pure (.tup (cutD xs lo hi))
  | .lst xs, lo, hi => pure (.lst (cutD xs lo hi))
  | .fro xs, lo, hi => pure (.lst (cutD xs lo hi))
  | .own xs, lo, hi => pure (.lst (cutD xs lo hi))
  | _, _, _ => stuck
def eSl (f : DEnv → M D) (l h : DEnv → M (Option Int)) : DEnv → M D := fun ρ => f ρ >>= fun d => l ρ >>= fun lo => h ρ >>= fun hi => slD d lo hi
theorem se_slice {lo hi : Option Expr} {p2 : Pos} {l h : DEnv → M (Option Int)} (he : SE X P e f) (hl : SO X P lo l) (hh : SO X P hi h) (hK : X.K = P.K := by rfl) : SE X P (.Subscript e (.Slice lo hi none p2) pos) (eSl f l h) := ⟨fun W tk =>
  pe_imp (pe_slice (sl_list.or sl_tupA) (he.pe W tk) (hl.po W tk) (hh.po W tk)) fun σ H Q h => by
    obtain ⟨g, ρ, b, hP, S, w⟩ := h
    refine ⟨g, ρ, b, hP, S, (wpG.bind (R1 := RepT g) w).imp fun x H1 ⟨d, b1, e1, B1, r1, w1⟩ => ?_⟩
    have S1 := S.mono e1 B1
    refine ⟨g, ρ, b1, hP, S1, (wpG.bind (R1 := fun _ a v => v = a) w1).imp fun i H2 ⟨i', b2, e2, B2, z2, w2⟩ => ?_⟩
    subst z2
    have S2 := S1.mono e2 B2
    have r2 := r1.mono S1.box.bxl e2
    refine ⟨g, ρ, b2, hP, S2, (wpG.bind (R1 := fun _ a v => v = a) w2).imp fun j H3 ⟨j', b3, e3, B3, z3, w3⟩ => ?_⟩
    subst z3
    have r3 := r2.mono S2.box.bxl e3
    have T3 := (S2.mono e3 B3).trk
    subst hP
    rw [hK]
    cases r3 with
    | rep r3 =>
      cases r3 with
      | @tup a xs vs h1 q1 =>
        refine .inr ⟨a, vs, rfl, sqt h1, fun z => ?_, fun z p hp => ?_⟩
        · have ec : cutD xs i j = xs := by
            unfold cutD
            rw [q1.length, z.1, z.2, List.drop_zero, Nat.sub_zero, ← q1.length, List.take_length]
          have w4 : wpG g W σ (RepT g) H3 ((pure (.tup (cutD xs i j)) : M D) b3) Q := w3
          rw [ec] at w4
          exact wpG_ok w4 B3 (.rep (.tup h1 q1))
        · exact w3 (.ref p) _ (Ex1.new hp) (B3.new hp) (.rep (.tup upd_same ((cut_rep q1 i j).mono B3.bxl (Ex1.new hp))))
      | @lst a xs vs h1 n1 q1 => exact .inl ⟨a, vs, rfl, .inl (.inl h1), fun p hp => w3 (.ref p) _ (Ex1.new hp) (B3.new hp) (.rep (.lst upd_same (fun z => T3 p z hp) ((cut_rep q1 i j).mono B3.bxl (Ex1.new hp))))⟩
      | @fro a xs vs h1 q1 => exact .inl ⟨a, vs, rfl, h1.elim (fun h => .inl (.inr h)) (fun h => h H3), fun p hp => w3 (.ref p) _ (Ex1.new hp) (B3.new hp) (.rep (.lst upd_same (fun z => T3 p z hp) ((cut_rep q1 i j).mono B3.bxl (Ex1.new hp))))⟩
      | _ => exact w3.elim
    | @own xs vs a h1 o n nb q1 => exact .inl ⟨a, vs, rfl, .inl (.inl h1), fun p hp => w3 (.ref p) _ (Ex1.new hp) (B3.new hp) (.rep (.lst upd_same (fun z => T3 p z hp) ((cut_rep q1 i j).mono B3.bxl (Ex1.new hp))))⟩⟩
end
end Pu

set_option Elab.async false
set_option linter.all false
set_option maxRecDepth 100000
set_option maxHeartbeats 4000000
/-! The pure layer, part D: equality, membership, calls of built-in functions -/
namespace Pu
open PySem L2
/-! ### data of the library -/
mutual
def D.py : D → PyData
  | .bl b => .bool b
  | .int i => .int i
  | .str x => .str x
  | .tup xs => .tuple (D.pys xs)
  | .lst xs => .list (D.pys xs)
  | .own xs => .list (D.pys xs)
  | _ => .none
def D.pys : List D → List PyData
  | [] => []
  | d :: ds => D.py d :: D.pys ds
end
mutual
/-- plain data, at most so deep -/
def D.ok : Nat → D → Bool
  | _, .non => true
  | _, .bl _ => true
  | _, .int _ => true
  | _, .str x => PyData.strOk x
  | n + 1, .tup xs => D.oks n xs
  | n + 1, .lst xs => D.oks n xs
  | n + 1, .own xs => D.oks n xs
  | _, _ => false
def D.oks : Nat → List D → Bool
  | _, [] => true
  | n, d :: ds => D.ok n d && D.oks n ds
end
mutual
/-- Python's == of plain data -/
def D.eqv : D → D → Bool
  | .non, .non => true
  | .bl a, .bl b => a == b
  | .bl a, .int j => (if a then 1 else 0) == j
  | .int i, .bl b => i == (if b then 1 else 0)
  | .int i, .int j => i == j
  | .str x, .str y => x == y
  | .tup xs, .tup ys => D.eqvs xs ys
  | .lst xs, .lst ys => D.eqvs xs ys
  | .lst xs, .own ys => D.eqvs xs ys
  | .own xs, .lst ys => D.eqvs xs ys
  | .own xs, .own ys => D.eqvs xs ys
  | _, _ => false
def D.eqvs : List D → List D → Bool
  | [], [] => true
  | x :: xs, y :: ys => D.eqv x y && D.eqvs xs ys
  | _, _ => false
end
mutual
theorem ok_lay : ∀ (n : Nat) (d : D), d.ok n = true → d.py.canLay0 = true ∧ d.py.depth ≤ n
  | n, .non, _ => by simp [D.py, PyData.canLay0, PyData.depth]
  | n, .bl b, _ => by simp [D.py, PyData.canLay0, PyData.depth]
  | n, .int i, _ => by simp [D.py, PyData.canLay0, PyData.depth]
  | n, .str x, h => by
    have h' : PyData.strOk x = true := by cases n <;> simpa [D.ok] using h
    simp [D.py, PyData.canLay0, PyData.depth, h']
  | 0, .tup xs, h => by simp [D.ok] at h
  | 0, .lst xs, h => by simp [D.ok] at h
  | 0, .own xs, h => by simp [D.ok] at h
  | n + 1, .tup xs, h => by
    have q := oks_lay n xs (by simpa [D.ok] using h)
    simp only [D.py, PyData.canLay0, PyData.depth]
    exact ⟨q.1, by omega⟩
  | n + 1, .lst xs, h => by
    have q := oks_lay n xs (by simpa [D.ok] using h)
    simp only [D.py, PyData.canLay0, PyData.depth]
    exact ⟨q.1, by omega⟩
  | n + 1, .own xs, h => by
    have q := oks_lay n xs (by simpa [D.ok] using h)
    simp only [D.py, PyData.canLay0, PyData.depth]
    exact ⟨q.1, by omega⟩
  | n, .box, h => by cases n <;> simp [D.ok] at h
  | n, .fn i, h => by cases n <;> simp [D.ok] at h
  | n, .ty i, h => by cases n <;> simp [D.ok] at h
  | n, .fro i, h => by cases n <;> simp [D.ok] at h
  | n, .mdc i, h => by cases n <;> simp [D.ok] at h
theorem oks_lay : ∀ (n : Nat) (ds : List D), D.oks n ds = true → PyData.canLayAll0 (D.pys ds) = true ∧ PyData.depthAll (D.pys ds) ≤ n
  | n, [], _ => by simp [D.pys, PyData.canLayAll0, PyData.depthAll]
  | n, d :: ds, h => by
    have h' : d.ok n = true ∧ D.oks n ds = true := by simpa [D.oks] using h
    have q1 := ok_lay n d h'.1
    have q2 := oks_lay n ds h'.2
    simp only [D.pys, PyData.canLayAll0, PyData.depthAll]
    exact ⟨by rw [q1.1, q2.1]; rfl, by omega⟩
end
theorem ok_shaped {n : Nat} {d : D} (h : d.ok n = true) (hn : n ≤ 64) : SeqAt.shaped d.py = true := by
  obtain ⟨q1, q2⟩ := ok_lay n d h
  unfold SeqAt.shaped
  rw [q1, decide_eq_true (by omega : d.py.depth ≤ 64)]
  rfl
mutual
theorem py_eqv : ∀ (n : Nat) (d e : D), d.ok n = true → e.ok n = true → PyData.eqv d.py e.py = D.eqv d e
  | n, .non, e, _, h => by cases e <;> first | (simp [D.py, PyData.eqv, D.eqv]; done) | (cases n <;> simp [D.ok] at h)
  | n, .bl b, e, _, h => by cases e <;> first | (simp [D.py, PyData.eqv, D.eqv]; done) | (cases n <;> simp [D.ok] at h)
  | n, .int b, e, _, h => by cases e <;> first | (simp [D.py, PyData.eqv, D.eqv]; done) | (cases n <;> simp [D.ok] at h)
  | n, .str b, e, _, h => by cases e <;> first | (simp [D.py, PyData.eqv, D.eqv]; done) | (cases n <;> simp [D.ok] at h)
  | 0, .tup b, e, h, _ => by simp [D.ok] at h
  | 0, .lst b, e, h, _ => by simp [D.ok] at h
  | 0, .own b, e, h, _ => by simp [D.ok] at h
  | n + 1, .tup xs, e, h0, h => by
    cases e with
    | tup ys => rw [D.py, D.py, PyData.eqv, D.eqv]; exact pys_eqv n xs ys (by simpa [D.ok] using h0) (by simpa [D.ok] using h)
    | _ => first | (simp [D.py, PyData.eqv, D.eqv]; done) | (simp [D.ok] at h)
  | n + 1, .lst xs, e, h0, h => by
    cases e with
    | lst ys => rw [D.py, D.py, PyData.eqv, D.eqv]; exact pys_eqv n xs ys (by simpa [D.ok] using h0) (by simpa [D.ok] using h)
    | own ys => rw [D.py, D.py, PyData.eqv, D.eqv]; exact pys_eqv n xs ys (by simpa [D.ok] using h0) (by simpa [D.ok] using h)
    | _ => first | (simp [D.py, PyData.eqv, D.eqv]; done) | (simp [D.ok] at h)
  | n + 1, .own xs, e, h0, h => by
    cases e with
    | lst ys => rw [D.py, D.py, PyData.eqv, D.eqv]; exact pys_eqv n xs ys (by simpa [D.ok] using h0) (by simpa [D.ok] using h)
    | own ys => rw [D.py, D.py, PyData.eqv, D.eqv]; exact pys_eqv n xs ys (by simpa [D.ok] using h0) (by simpa [D.ok] using h)
    | _ => first | (simp [D.py, PyData.eqv, D.eqv]; done) | (simp [D.ok] at h)
  | n, .box, e, h, _ => by cases n <;> simp [D.ok] at h
  | n, .fn i, e, h, _ => by cases n <;> simp [D.ok] at h
  | n, .ty i, e, h, _ => by cases n <;> simp [D.ok] at h
  | n, .fro i, e, h, _ => by cases n <;> simp [D.ok] at h
  | n, .mdc i, e, h, _ => by cases n <;> simp [D.ok] at h
theorem pys_eqv : ∀ (n : Nat) (ds es : List D), D.oks n ds = true → D.oks n es = true → PyData.eqvAll (D.pys ds) (D.pys es) = D.eqvs ds es
  | n, [], [], _, _ => by simp [D.pys, PyData.eqvAll, D.eqvs]
  | n, [], e :: es, _, _ => by simp [D.pys, PyData.eqvAll, D.eqvs]
  | n, d :: ds, [], _, _ => by simp [D.pys, PyData.eqvAll, D.eqvs]
  | n, d :: ds, e :: es, h, h' => by
    have q : d.ok n = true ∧ D.oks n ds = true := by simpa [D.oks] using h
    have q' : e.ok n = true ∧ D.oks n es = true := by simpa [D.oks] using h'
    rw [D.pys, D.pys, PyData.eqvAll, D.eqvs, py_eqv n d e q.1 q'.1, pys_eqv n ds es q.2 q'.2]
end
section
variable {P : Px} {O : Addr → Prop} {bx : Option Addr} {H : Hp}
mutual
theorem Rep.dp : ∀ {n : Nat} {d : D} {v : V}, Rep P O bx H d v → d.ok n = true → Dp P.K H v d.py
  | _, _, _, .non, _ => .non
  | _, _, _, .bl b, _ => .bl b
  | _, _, _, .int i, _ => .int i
  | _, _, _, .str x, _ => .str x
  | n, _, _, .ty _, h => by cases n <;> simp [D.ok] at h
  | n, _, _, .fn _, h => by cases n <;> simp [D.ok] at h
  | n, _, _, .box _, h => by cases n <;> simp [D.ok] at h
  | 0, _, _, .tup _ _, h => by simp [D.ok] at h
  | 0, _, _, .lst _ _ _, h => by simp [D.ok] at h
  | n, _, _, .fro _ _, h => by cases n <;> simp [D.ok] at h
  | n + 1, .tup xs, _, .tup q r, h => by
    rw [D.py]
    exact .tup (sqt q) (Reps.dp (n := n) r (by simpa [D.ok] using h))
  | n + 1, .lst xs, _, .lst q _ r, h => by
    rw [D.py]
    exact .lst (.inl (.inl q)) (Reps.dp (n := n) r (by simpa [D.ok] using h))
theorem Reps.dp : ∀ {n : Nat} {ds : List D} {vs : List V}, Reps P O bx H ds vs → D.oks n ds = true → DpAll P.K H vs (D.pys ds)
  | _, _, _, .nil, _ => by rw [D.pys]; exact .nil
  | n, _, _, .cons r t, h => by
    rename_i d v ds vs
    have q : d.ok n = true ∧ D.oks n ds = true := by simpa [D.oks] using h
    rw [D.pys]
    exact .cons (Rep.dp r q.1) (Reps.dp t q.2)
end
end
theorem RepT.dp {g : Gh} {H : Hp} {n : Nat} {d : D} {v : V} (r : RepT g H d v) (h : d.ok n = true) : Dp g.P.K H v d.py := by
  cases r with
  | rep r => exact r.dp h
  | @own xs vs a q o nn nb r =>
    cases n with
    | zero => simp [D.ok] at h
    | succ n =>
      rw [D.py]
      exact .lst (.inl (.inl q)) (Reps.dp (n := n) r (by simpa [D.ok] using h))

/-! ### ==, !=, in, not in -/
abbrev deep : Nat := 60
def eqD (a b : D) : M D := if (a.ok deep && b.ok deep) = true then pure (.bl (D.eqv a b)) else stuck
def neD (a b : D) : M D := if (a.ok deep && b.ok deep) = true then pure (.bl (!D.eqv a b)) else stuck
/-- the items of a list or a tuple -/
def D.seq : D → Option (List D)
  | .tup xs => some xs
  | .lst xs => some xs
  | .own xs => some xs
  | .fro xs => some xs
  | _ => none
/-- .. of plain data -/
def D.seqP : D → Option (List D)
  | .tup xs => some xs
  | .lst xs => some xs
  | .own xs => some xs
  | _ => none
def inD (a b : D) : M D := match b.seqP with
  | some ys => if (a.ok deep && D.oks deep ys) = true then pure (.bl (ys.any fun y => D.eqv y a)) else stuck
  | none => stuck
def notInD (a b : D) : M D := match b.seqP with
  | some ys => if (a.ok deep && D.oks deep ys) = true then pure (.bl (!ys.any fun y => D.eqv y a)) else stuck
  | none => stuck
section
variable {X : Cx} {P : Px} {e a b c : Expr} {es rest : List Expr} {pos : Pos} {f fa fb fc : DEnv → M D} {t u : DEnv → M Bool} {fs : DEnv → M (List D)}
theorem and2 {p q : Bool} (h : (p && q) = true) : p = true ∧ q = true := by
  cases p <;> cases q <;> simp_all
theorem os_eq : OpS P (rEqD P.K) eqD := fun g W σ H Q x y d d' b hP B T r1 r2 w => by
  subst hP
  obtain ⟨h, w⟩ := wp_ite (c := (d.ok deep && d'.ok deep) = true) (m := pure (D.bl (D.eqv d d'))) w
  obtain ⟨h1, h2⟩ := and2 h
  exact ⟨_, _, r1.dp h1, r2.dp h2, ok_shaped h1 (by decide), ok_shaped h2 (by decide), by rw [py_eqv _ _ _ h1 h2]; exact wpG_ok w B (.rep (.bl _))⟩
theorem os_ne : OpS P (rNeD P.K) neD := fun g W σ H Q x y d d' b hP B T r1 r2 w => by
  subst hP
  obtain ⟨h, w⟩ := wp_ite (c := (d.ok deep && d'.ok deep) = true) (m := pure (D.bl (!D.eqv d d'))) w
  obtain ⟨h1, h2⟩ := and2 h
  exact ⟨_, _, r1.dp h1, r2.dp h2, ok_shaped h1 (by decide), ok_shaped h2 (by decide), by rw [py_eqv _ _ _ h1 h2]; exact wpG_ok w B (.rep (.bl _))⟩
theorem se_eq {k : Nat} (hr : Room k X.A) (ha : SE X P a fa) (hb : SE X P b fb) (hK : X.K = P.K := by rfl) : SE X P (.Compare a [.Eq] [b] pos) (eBin eqD fa fb) := se_cmp (r := rEqD P.K) (by rw [← hK]; exact op_eqD hr.units) os_eq ha hb (nomark _)
theorem se_ne {k : Nat} (hr : Room k X.A) (ha : SE X P a fa) (hb : SE X P b fb) (hK : X.K = P.K := by rfl) : SE X P (.Compare a [.NotEq] [b] pos) (eBin neD fa fb) := se_cmp (r := rNeD P.K) (by rw [← hK]; exact op_neD hr.units) os_ne ha hb (nomark _)
theorem st_eq {k : Nat} (hr : Room k X.A) (ha : SE X P a fa) (hb : SE X P b fb) (hK : X.K = P.K := by rfl) : STt X P (.Compare a [.Eq] [b] pos) (tB (eBin eqD fa fb)) := st_cmp (r := rEqD P.K) (by rw [← hK]; exact op_eqD hr.units) os_eq ha hb (nomark _)
theorem st_ne {k : Nat} (hr : Room k X.A) (ha : SE X P a fa) (hb : SE X P b fb) (hK : X.K = P.K := by rfl) : STt X P (.Compare a [.NotEq] [b] pos) (tB (eBin neD fa fb)) := st_cmp (r := rNeD P.K) (by rw [← hK]; exact op_neD hr.units) os_ne ha hb (nomark _)

/-- x in ys, ys a list or a tuple of plain data -/
def rInA (K : PySem.W.Frag) (neg : Bool) : R2 := fun x y H Q => ∃ d ds, Dp K H x d ∧ (Dp K H y (.list ds) ∨ Dp K H y (.tuple ds)) ∧ SeqAt.shaped d = true ∧ PyData.canLayAll0 ds = true ∧ Q (.bl (if neg then !ds.any fun z => PyData.eqv z d else ds.any fun z => PyData.eqv z d)) H
theorem op_inA (hu : X.A.units + 65 < cLine) : OpR X (compareOp .In) (rInA X.K false) := by
  intro pins s σ H x y v u Q I rx ry h
  obtain ⟨d, ds, hd, he, sd, se, q⟩ := h
  obtain ⟨as, r1⟩ := Dp.reads I d x v hd rx
  rcases he with he | he
  · obtain ⟨bs, r2⟩ := Dp.reads I (.list ds) y u he ry
    exact SeqAt.in_list_reads r2 r1 se (SeqAt.canLay_of_shaped sd) (PyProof.Rows.room_in_shaped sd hu) ⟨.bl _, H, I, rfl, q⟩
  · obtain ⟨bs, r2⟩ := Dp.reads I (.tuple ds) y u he ry
    exact SeqAt.in_tuple_reads r2 r1 se (SeqAt.canLay_of_shaped sd) (PyProof.Rows.room_in_shaped sd hu) ⟨.bl _, H, I, rfl, q⟩
theorem op_notInA (hu : X.A.units + 65 < cLine) : OpR X (compareOp .NotIn) (rInA X.K true) := by
  intro pins s σ H x y v u Q I rx ry h
  obtain ⟨d, ds, hd, he, sd, se, q⟩ := h
  obtain ⟨as, r1⟩ := Dp.reads I d x v hd rx
  rcases he with he | he
  · obtain ⟨bs, r2⟩ := Dp.reads I (.list ds) y u he ry
    exact SeqAt.notIn_list_reads r2 r1 se (SeqAt.canLay_of_shaped sd) (PyProof.Rows.room_in_shaped sd hu) ⟨.bl _, H, I, rfl, q⟩
  · obtain ⟨bs, r2⟩ := Dp.reads I (.tuple ds) y u he ry
    exact SeqAt.notIn_tuple_reads r2 r1 se (SeqAt.canLay_of_shaped sd) (PyProof.Rows.room_in_shaped sd hu) ⟨.bl _, H, I, rfl, q⟩
theorem seqP_dp {g : Gh} {H : Hp} {n : Nat} {d : D} {v : V} {ys : List D} (r : RepT g H d v) (e : d.seqP = some ys) (h : D.oks n ys = true) : Dp g.P.K H v (.list (D.pys ys)) ∨ Dp g.P.K H v (.tuple (D.pys ys)) := by
  cases r with
  | rep r =>
    cases r with
    | tup q r => cases e; exact .inr (.tup (sqt q) (r.dp h))
    | lst q _ r => cases e; exact .inl (.lst (.inl (.inl q)) (r.dp h))
    | _ => cases e
  | own q _ _ _ r => cases e; exact .inl (.lst (.inl (.inl q)) (r.dp h))
theorem any_py {n : Nat} {a : D} (ha : a.ok n = true) : ∀ {ys : List D}, D.oks n ys = true → ((D.pys ys).any fun z => PyData.eqv z a.py) = ys.any fun y => D.eqv y a
  | [], _ => by rw [D.pys]; rfl
  | y :: ys, h => by
    have q : y.ok n = true ∧ D.oks n ys = true := by simpa [D.oks] using h
    rw [D.pys, List.any_cons, List.any_cons, py_eqv _ _ _ q.1 ha, any_py ha q.2]
theorem os_in : OpS P (rInA P.K false) inD := fun g W σ H Q x y d d' b hP B T r1 r2 w => by
  subst hP
  unfold inD at w
  cases e : d'.seqP with
  | none => rw [e] at w; exact w.elim
  | some ys =>
    rw [e] at w
    obtain ⟨h, w⟩ := wp_ite (c := (d.ok deep && D.oks deep ys) = true) (m := pure (D.bl (ys.any fun y => D.eqv y d))) w
    obtain ⟨h1, h2⟩ := and2 h
    exact ⟨_, _, r1.dp h1, seqP_dp r2 e h2, ok_shaped h1 (by decide), (oks_lay _ _ h2).1, by
      show Q (.bl ((D.pys ys).any fun z => PyData.eqv z d.py)) H
      rw [any_py h1 h2]
      exact wpG_ok w B (.rep (.bl _))⟩
theorem os_notIn : OpS P (rInA P.K true) notInD := fun g W σ H Q x y d d' b hP B T r1 r2 w => by
  subst hP
  unfold notInD at w
  cases e : d'.seqP with
  | none => rw [e] at w; exact w.elim
  | some ys =>
    rw [e] at w
    obtain ⟨h, w⟩ := wp_ite (c := (d.ok deep && D.oks deep ys) = true) (m := pure (D.bl (!ys.any fun y => D.eqv y d))) w
    obtain ⟨h1, h2⟩ := and2 h
    exact ⟨_, _, r1.dp h1, seqP_dp r2 e h2, ok_shaped h1 (by decide), (oks_lay _ _ h2).1, by
      show Q (.bl (!(D.pys ys).any fun z => PyData.eqv z d.py)) H
      rw [any_py h1 h2]
      exact wpG_ok w B (.rep (.bl _))⟩
theorem room65 {k : Nat} {A : Around} (r : Room (k + 1) A) : A.units + 65 < cLine := by
  have := r.un
  omega
theorem se_in {k : Nat} (hr : Room (k + 1) X.A) (ha : SE X P a fa) (hb : SE X P b fb) (hm : behindInMarks .In b = false := by rfl) (hK : X.K = P.K := by rfl) : SE X P (.Compare a [.In] [b] pos) (eBin inD fa fb) := se_cmp (r := rInA P.K false) (by rw [← hK]; exact op_inA (room65 hr)) os_in ha hb hm
theorem se_notIn {k : Nat} (hr : Room (k + 1) X.A) (ha : SE X P a fa) (hb : SE X P b fb) (hm : behindInMarks .NotIn b = false := by rfl) (hK : X.K = P.K := by rfl) : SE X P (.Compare a [.NotIn] [b] pos) (eBin notInD fa fb) := se_cmp (r := rInA P.K true) (by rw [← hK]; exact op_notInA (room65 hr)) os_notIn ha hb hm
theorem st_in {k : Nat} (hr : Room (k + 1) X.A) (ha : SE X P a fa) (hb : SE X P b fb) (hm : behindInMarks .In b = false := by rfl) (hK : X.K = P.K := by rfl) : STt X P (.Compare a [.In] [b] pos) (tB (eBin inD fa fb)) := st_cmp (r := rInA P.K false) (by rw [← hK]; exact op_inA (room65 hr)) os_in ha hb hm
theorem st_notIn {k : Nat} (hr : Room (k + 1) X.A) (ha : SE X P a fa) (hb : SE X P b fb) (hm : behindInMarks .NotIn b = false := by rfl) (hK : X.K = P.K := by rfl) : STt X P (.Compare a [.NotIn] [b] pos) (tB (eBin notInD fa fb)) := st_cmp (r := rInA P.K true) (by rw [← hK]; exact op_notInA (room65 hr)) os_notIn ha hb hm

/-! ### built-in functions: the arguments are read, not kept -/
inductive RTs (g : Gh) (H : Hp) : List D → List V → Prop
  | nil : RTs g H [] []
  | cons {d : D} {v : V} {ds : List D} {vs : List V} (h : RepT g H d v) (t : RTs g H ds vs) : RTs g H (d :: ds) (v :: vs)
theorem RTs.mono {g : Gh} {H H' : Hp} (B : BxL g.O g.bx H) (e : Ex1 g.bx H H') {ds : List D} {vs : List V} (h : RTs g H ds vs) : RTs g H' ds vs := by
  induction h with
  | nil => exact .nil
  | cons h t ih => exact .cons (h.mono B e) ih
structure SB (X : Cx) (P : Px) (es : List Expr) (f : DEnv → M (List D)) : Prop where
  pa : ∀ W, Takes X W → PA X es (rG P W (fun g H ds vs => RTs g H ds vs) f)
def bCons (f : DEnv → M D) (g : DEnv → M (List D)) : DEnv → M (List D) := fun ρ => f ρ >>= fun d => g ρ >>= fun ds => pure (d :: ds)
theorem sb_nil : SB X P [] aNil := ⟨fun W _ => pa_imp pa_nil fun σ H Q h => by
  obtain ⟨g, ρ, b, hP, S, w⟩ := h
  exact wpG_ok w S.box .nil⟩
theorem sb_cons (ha : SE X P e f) (hr : SB X P es fs) (hs : starEach (e :: es) X.env = (false, eval e X.env) :: starEach es X.env := by rfl) : SB X P (e :: es) (bCons f fs) := ⟨fun W tk => pa_imp (pa_cons (ha.pe W tk) (hr.pa W tk) hs) fun σ H Q h => by
  obtain ⟨g, ρ, b, hP, S, w⟩ := h
  refine ⟨g, ρ, b, hP, S, (wpG.bind (R1 := RepT g) w).imp fun x H1 ⟨d, b1, e1, B1, r1, w1⟩ => ?_⟩
  have S1 := S.mono e1 B1
  refine ⟨g, ρ, b1, hP, S1, (wpG.bind (R1 := RTs g) w1).imp fun xs H2 ⟨ds, b2, e2, B2, r2, w2⟩ => ?_⟩
  exact wpG_ok w2 B2 (.cons (r1.mono S1.box.bxl e2) r2)⟩
def eB (o : List D → M D) (f : DEnv → M (List D)) : DEnv → M D := fun ρ => f ρ >>= o
/-- the call's r means o -/
def CallS (P : Px) (r : List V → Hp → VK → Prop) (o : List D → M D) : Prop := ∀ (g : Gh) (W : WX) (σ : St) (H : Hp) (Q : VK) (vs : List V) (ds : List D) (b : Bx), g.P = P → BoxOk g b H → (∀ a, g.O a → H a ≠ none) → RTs g H ds vs → wpG g W σ (RepT g) H (o ds b) Q → r vs H Q
theorem eB_imp {W : WX} {r : List V → Hp → VK → Prop} {o : List D → M D} (os : CallS P r o) {σ : St} {H : Hp} {Q : VK} (h : rE P W (eB o fs) σ H Q) : tCB r (rG P W (fun g H ds vs => RTs g H ds vs) fs) σ H Q := by
  obtain ⟨g, ρ, b, hP, S, w⟩ := h
  exact ⟨g, ρ, b, hP, S, (wpG.bind (R1 := RTs g) w).imp fun vs H1 ⟨ds, b1, e1, B1, r1, w1⟩ => os g W σ H1 Q vs ds b1 hP B1 (S.mono e1 B1).trk r1 w1⟩
theorem se_callB {x : Str} {p : Pos} {id : String} {r : List V → Hp → VK → Prop} {o : List D → M D} (hc : CallR X (.builtin id) r) (os : CallS P r o) (hg : Gl X x) (hm : X.mg x = none) (hv : bootBuiltins x = some (.builtin id)) (ha : SB X P (e :: es) fs) (hn : x ≠ "__name__" := by decide) (hdb : (x == ("__debug__" : Str)) = false := by decide)
    (he : starEach (e :: es) X.env = (false, eval e X.env) :: starEach es X.env := by rfl) (hpl : (backTo pos (starEach es X.env)).any (·.1) = false := by rfl) : SE X P (.Call (.Name x p) (e :: es) [] pos) (eB o fs) :=
  ⟨fun W tk => pe_imp (pe_callB hc hg hm hv (ha.pa W tk) hn hdb he hpl) fun σ H Q h => eB_imp os h⟩
theorem se_callTy {x : Str} {p : Pos} {T : String} {r : List V → Hp → VK → Prop} {o : List D → M D} (hc : CallR X (.type T) r) (os : CallS P r o) (hg : Gl X x) (hm : X.mg x = none) (hv : bootBuiltins x = some (.type T)) (ha : SB X P (e :: es) fs) (hn : x ≠ "__name__" := by decide) (hdb : (x == ("__debug__" : Str)) = false := by decide)
    (he : starEach (e :: es) X.env = (false, eval e X.env) :: starEach es X.env := by rfl) (hpl : (backTo pos (starEach es X.env)).any (·.1) = false := by rfl) : SE X P (.Call (.Name x p) (e :: es) [] pos) (eB o fs) :=
  ⟨fun W tk => pe_imp (pe_callTy hc hg hm hv (ha.pa W tk) hn hdb he hpl) fun σ H Q h => eB_imp os h⟩
theorem one_rt {g : Gh} {H : Hp} {d : D} {vs : List V} (r : RTs g H [d] vs) : ∃ v, vs = [v] ∧ RepT g H d v := by
  cases r with
  | cons h t => cases t; exact ⟨_, rfl, h⟩
theorem two_rt {g : Gh} {H : Hp} {d d' : D} {vs : List V} (r : RTs g H [d, d'] vs) : ∃ v w, vs = [v, w] ∧ RepT g H d v ∧ RepT g H d' w := by
  cases r with
  | cons h t =>
    cases t with
    | cons h' t' => cases t'; exact ⟨_, _, rfl, h, h'⟩
/-- a list, a tuple -/
theorem seq_rep {g : Gh} {H : Hp} {d : D} {v : V} {ys : List D} (r : RepT g H d v) (e : d.seq = some ys) : ∃ a vs, v = .ref a ∧ (SqL g.P.K H a vs ∨ SqT g.P.K H a vs) ∧ Reps g.P g.O g.bx H ys vs := by
  cases r with
  | rep r =>
    cases r with
    | @tup a ds vs q r => cases e; exact ⟨a, vs, rfl, .inr (sqt q), r⟩
    | @lst a ds vs q _ r => cases e; exact ⟨a, vs, rfl, .inl (.inl (.inl q)), r⟩
    | @fro a ds vs q r => cases e; exact ⟨a, vs, rfl, .inl (q.elim (fun h => .inl (.inr h)) (fun h => h H)), r⟩
    | _ => cases e
  | @own ds vs a q _ _ _ r => cases e; exact ⟨a, vs, rfl, .inl (.inl (.inl q)), r⟩
/-- of one argument, of two -/
def un1 (o : D → M D) : List D → M D
  | [d] => o d
  | _ => stuck
def un2 (o : D → D → M D) : List D → M D
  | [d, e] => o d e
  | _ => stuck
theorem cs_un1 {r : List V → Hp → VK → Prop} {o : D → M D} (h : ∀ (g : Gh) (W : WX) (σ : St) (H : Hp) (Q : VK) (v : V) (d : D) (b : Bx), g.P = P → BoxOk g b H → (∀ a, g.O a → H a ≠ none) → RepT g H d v → wpG g W σ (RepT g) H (o d b) Q → r [v] H Q) : CallS P r (un1 o) :=
  fun g W σ H Q vs ds b hP B T r w => by
    cases r with
    | nil => exact w.elim
    | cons h1 t =>
      cases t with
      | nil => exact h g W σ H Q _ _ b hP B T h1 w
      | cons h2 t => exact w.elim
theorem cs_un2 {r : List V → Hp → VK → Prop} {o : D → D → M D} (h : ∀ (g : Gh) (W : WX) (σ : St) (H : Hp) (Q : VK) (v v' : V) (d d' : D) (b : Bx), g.P = P → BoxOk g b H → (∀ a, g.O a → H a ≠ none) → RepT g H d v → RepT g H d' v' → wpG g W σ (RepT g) H (o d d' b) Q → r [v, v'] H Q) : CallS P r (un2 o) :=
  fun g W σ H Q vs ds b hP B T r w => by
    cases r with
    | nil => exact w.elim
    | cons h1 t =>
      cases t with
      | nil => exact w.elim
      | cons h2 t =>
        cases t with
        | nil => exact h g W σ H Q _ _ _ _ b hP B T h1 h2 w
        | cons h3 t => exact w.elim
def lenD1 : D → M D
  | .str x => if x.length ≤ 100000 then pure (.int x.length) else stuck
  | .tup ys => pure (.int ys.length)
  | .lst ys => pure (.int ys.length)
  | .own ys => pure (.int ys.length)
  | .fro ys => pure (.int ys.length)
  | _ => stuck
abbrev lenD := un1 lenD1
def rLenA (K : PySem.W.Frag) : List V → Hp → VK → Prop := fun xs H Q => (∃ p ys, xs = [.ref p] ∧ (SqL K H p ys ∨ SqT K H p ys) ∧ Q (.int ys.length) H) ∨ (∃ z, xs = [.str z] ∧ z.length ≤ sizeLine ∧ Q (.int z.length) H)
theorem cs_len : CallS P (rLenA P.K) lenD := cs_un1 fun g W σ H Q v d b hP B T r1 w => by
  subst hP
  have go : ∀ {ys : List D}, d.seq = some ys → wpG g W σ (RepT g) H ((pure (D.int ys.length) : M D) b) Q → rLenA g.P.K [v] H Q := fun {ys} e w => by
    obtain ⟨a, vs, rfl, h1, q1⟩ := seq_rep r1 e
    exact .inl ⟨a, vs, rfl, h1, by rw [← q1.length]; exact wpG_ok w B (.rep (.int _))⟩
  cases d with
  | tup ys => exact go rfl w
  | lst ys => exact go rfl w
  | own ys => exact go rfl w
  | fro ys => exact go rfl w
  | str x =>
    obtain ⟨h, w⟩ := wp_ite (c := x.length ≤ 100000) (m := pure (D.int x.length)) w
    cases r1 with
    | rep r1 =>
      cases r1
      exact .inr ⟨x, rfl, szl h, wpG_ok w B (.rep (.int _))⟩
  | _ => exact w.elim
theorem se_len {x : Expr} {p : Pos} (hg : Gl X "len") (hm : X.mg "len" = none) (ha : SB X P [x] fs) (hK : X.K = P.K := by rfl) (he : starEach [x] X.env = (false, eval x X.env) :: starEach [] X.env := by rfl) : SE X P (.Call (.Name "len" p) [x] [] pos) (eB lenD fs) :=
  se_callB (r := rLenA P.K) (by rw [← hK]; exact call_len_seq.or call_len_str) cs_len hg hm boot_len ha (by decide) (by decide) he
def absD1 : D → M D
  | .int i => pure (.int (if i < 0 then -i else i))
  | _ => stuck
abbrev absD := un1 absD1
theorem int_rt {g : Gh} {H : Hp} {i : Int} {v : V} (r : RepT g H (.int i) v) : v = .int i := by
  cases r with
  | rep r => cases r; rfl
theorem bl_rt {g : Gh} {H : Hp} {i : Bool} {v : V} (r : RepT g H (.bl i) v) : v = .bl i := by
  cases r with
  | rep r => cases r; rfl
theorem str_rt {g : Gh} {H : Hp} {i : Str} {v : V} (r : RepT g H (.str i) v) : v = .str i := by
  cases r with
  | rep r => cases r; rfl
theorem cs_abs : CallS P (fun xs H Q => ∃ i, xs = [.int i] ∧ Q (.int (if i < 0 then -i else i)) H) absD := cs_un1 fun g W σ H Q v d b hP B T r1 w => by
  cases d with
  | int i =>
    cases int_rt r1
    exact ⟨i, rfl, wpG_ok w B (.rep (.int _))⟩
  | _ => exact w.elim
theorem se_abs {x : Expr} {p : Pos} (hg : Gl X "abs") (hm : X.mg "abs" = none) (ha : SB X P [x] fs) (he : starEach [x] X.env = (false, eval x X.env) :: starEach [] X.env := by rfl) : SE X P (.Call (.Name "abs" p) [x] [] pos) (eB absD fs) :=
  se_callB call_abs cs_abs hg hm (by decide +kernel) ha (by decide) (by decide) he
def intOfD1 : D → M D
  | .int i => pure (.int i)
  | .bl k => pure (.int (if k then 1 else 0))
  | _ => stuck
abbrev intOfD := un1 intOfD1
theorem cs_int : CallS P (fun xs H Q => (∃ i, xs = [.int i] ∧ Q (.int i) H) ∨ ∃ k, xs = [.bl k] ∧ Q (.int (if k then 1 else 0)) H) intOfD := cs_un1 fun g W σ H Q v d b hP B T r1 w => by
  cases d with
  | int i =>
    cases int_rt r1
    exact .inl ⟨i, rfl, wpG_ok w B (.rep (.int _))⟩
  | bl i =>
    cases bl_rt r1
    exact .inr ⟨i, rfl, wpG_ok w B (.rep (.int _))⟩
  | _ => exact w.elim
theorem se_toInt {x : Expr} {p : Pos} (hg : Gl X "int") (hm : X.mg "int" = none) (ha : SB X P [x] fs) (he : starEach [x] X.env = (false, eval x X.env) :: starEach [] X.env := by rfl) : SE X P (.Call (.Name "int" p) [x] [] pos) (eB intOfD fs) :=
  se_callTy call_int1 cs_int hg hm (by decide +kernel) ha (by decide) (by decide) he

/-! ### isinstance -/
/-- the built-in class of a value -/
def clsD : D → Option String
  | .non => some "NoneType"
  | .bl _ => some "bool"
  | .int _ => some "int"
  | .str _ => some "str"
  | .tup _ => some "tuple"
  | .lst _ => some "list"
  | .own _ => some "list"
  | .fro _ => some "list"
  | .box => some "list"
  | _ => none
theorem tyx_rep {g : Gh} {b : Bx} {H : Hp} {d : D} {v : V} {n : String} (r : RepT g H d v) (B : BoxOk g b H) (e : clsD d = some n) : TyX g.P.K H v (.type n) := by
  have lst : ∀ {a : Addr} {vs : List V}, SqL g.P.K H a vs → TyX g.P.K H (.ref a) (.type "list") := fun h => by
    rcases h with (h | ⟨o, h⟩) | ⟨o, its, n, hk, hc, _⟩
    · exact .base (.lst h)
    · exact .base (.frz h)
    · exact .kList hk hc
  cases r with
  | own q _ _ _ _ => cases e; exact lst (.inl (.inl q))
  | rep r =>
    cases r with
    | non => cases e; exact .base .non
    | bl => cases e; exact .base (.bl _)
    | int => cases e; exact .base (.int _)
    | str => cases e; exact .base (.str _)
    | tup h _ =>
      cases e
      exact .base (.tup h)
    | lst h _ _ => cases e; exact lst (.inl (.inl h))
    | fro h _ => cases e; exact lst (h.elim (fun h => .inl (.inr h)) (fun h => h H))
    | box h =>
      cases e
      obtain ⟨_, vs, q⟩ := B.bxl _ h
      exact lst (.inl (.inl q))
    | _ => cases e
def isiD1 (T : String) (d : D) : M D := match clsD d with
  | some n => match kitB n T with
    | some r => pure (.bl r)
    | none => stuck
  | none => stuck
/-- isinstance(e, T) -/
def eIsi (T : String) (f : DEnv → M D) : DEnv → M D := fun ρ => f ρ >>= isiD1 T
theorem se_isi {x : Expr} {p p2 : Pos} {T : Str} {n : String} (hg : Gl X "isinstance") (hm : X.mg "isinstance" = none) (ha : SE X P x f) (hgT : Gl X T) (hmT : X.mg T = none) (hvT : bootBuiltins T = some (.type n)) (hK : X.K = P.K := by rfl) (hnT : T ≠ "__name__" := by decide) (hdT : (T == ("__debug__" : Str)) = false := by decide)
    (he : starEach [x, .Name T p2] X.env = (false, eval x X.env) :: starEach [.Name T p2] X.env := by rfl) (he2 : starEach [.Name T p2] X.env = (false, eval (.Name T p2) X.env) :: starEach [] X.env := by rfl) (hpl : (backTo pos (starEach [.Name T p2] X.env)).any (·.1) = false := by rfl) :
    SE X P (.Call (.Name "isinstance" p) [x, .Name T p2] [] pos) (eIsi n f) := ⟨fun W tk => pe_imp (pe_callB call_isi hg hm (by decide +kernel) (pa_cons (ha.pe W tk) (pa_cons (pe_bltn (v := .ty n) hgT hmT hvT rfl hnT hdT) pa_nil he2) he) (by decide) (by decide) he hpl) fun σ H Q h => by
  obtain ⟨g, ρ, b, hP, S, w⟩ := h
  refine ⟨g, ρ, b, hP, S, (wpG.bind (R1 := RepT g) w).imp fun v H1 ⟨d, b1, e1, B1, r1, w1⟩ => ?_⟩
  unfold isiD1 at w1
  cases ec : clsD d with
  | none => rw [ec] at w1; exact w1.elim
  | some m =>
    rw [ec] at w1
    cases ek : kitB m n with
    | none => simp only [ek] at w1; exact w1.elim
    | some r =>
      simp only [ek] at w1
      subst hP
      rw [hK]
      exact ⟨v, .ty n, .type m, .type n, r, rfl, .ty n, tyx_rep r1 B1 ec, kit_ty ek, wpG_ok w1 B1 (.rep (.bl _))⟩⟩
/-- isinstance(e, (T, U)) -/
def isiD2 (T U : String) (d : D) : M D := match clsD d with
  | some n => match kitB n T, kitB n U with
    | some r, some q => pure (.bl (r || q))
    | _, _ => stuck
  | none => stuck
def eIsi2 (T U : String) (f : DEnv → M D) : DEnv → M D := fun ρ => f ρ >>= isiD2 T U
theorem se_isi2 {x : Expr} {p p2 p3 p4 : Pos} {k : Nat} {T U : Str} {n m : String} (hg : Gl X "isinstance") (hm : X.mg "isinstance" = none) (ha : SE X P x f) (hgT : Gl X T) (hmT : X.mg T = none) (hvT : bootBuiltins T = some (.type n)) (hgU : Gl X U) (hmU : X.mg U = none) (hvU : bootBuiltins U = some (.type m)) (hK : X.K = P.K := by rfl)
    (hnT : T ≠ "__name__" := by decide) (hdT : (T == ("__debug__" : Str)) = false := by decide) (hnU : U ≠ "__name__" := by decide) (hdU : (U == ("__debug__" : Str)) = false := by decide)
    (he : starEach [x, .Tuple [.Name T p2, .Name U p3] k p4] X.env = (false, eval x X.env) :: starEach [.Tuple [.Name T p2, .Name U p3] k p4] X.env := by rfl) (he2 : starEach [.Tuple [.Name T p2, .Name U p3] k p4] X.env = (false, eval (.Tuple [.Name T p2, .Name U p3] k p4) X.env) :: starEach [] X.env := by rfl)
    (he3 : starEach [.Name T p2, .Name U p3] X.env = (false, eval (.Name T p2) X.env) :: starEach [.Name U p3] X.env := by rfl) (he4 : starEach [.Name U p3] X.env = (false, eval (.Name U p3) X.env) :: starEach [] X.env := by rfl)
    (hpl : (backTo pos (starEach [.Tuple [.Name T p2, .Name U p3] k p4] X.env)).any (·.1) = false := by rfl) :
    SE X P (.Call (.Name "isinstance" p) [x, .Tuple [.Name T p2, .Name U p3] k p4] [] pos) (eIsi2 n m f) := ⟨fun W tk => pe_imp (pe_callB call_isiT hg hm (by decide +kernel) (pa_cons (ha.pe W tk) (pa_cons (pe_tup (pa_cons (pe_bltn (v := .ty n) hgT hmT hvT rfl hnT hdT) (pa_cons (pe_bltn (v := .ty m) hgU hmU hvU rfl hnU hdU) pa_nil he4) he3)) pa_nil he2) he) (by decide) (by decide) he hpl) fun σ H Q h => by
  obtain ⟨g, ρ, b, hP, S, w⟩ := h
  refine ⟨g, ρ, b, hP, S, (wpG.bind (R1 := RepT g) w).imp fun v H1 ⟨d, b1, e1, B1, r1, w1⟩ => ?_⟩
  refine ⟨by show 2 ≤ sizeLine; decide, fun q hq => ?_⟩
  have r2 := r1.mono B1.bxl (Ex1.new (bx := g.bx) (o := .tup [.ty n, .ty m]) hq)
  have B2 := B1.new (o := .tup [.ty n, .ty m]) hq
  unfold isiD2 at w1
  cases ec : clsD d with
  | none => rw [ec] at w1; exact w1.elim
  | some c =>
    rw [ec] at w1
    cases ek : kitB c n with
    | none => simp only [ek] at w1; exact w1.elim
    | some r =>
      cases ek2 : kitB c m with
      | none => simp only [ek, ek2] at w1; exact w1.elim
      | some s =>
        simp only [ek, ek2] at w1
        subst hP
        rw [hK]
        refine ⟨v, q, [.ty n, .ty m], .type c, [.type n, .type m], r || s, rfl, upd_same, .cons (.ty n) (.cons (.ty m) .nil), tyx_rep r2 B2 ec, ?_, w1 _ _ (Ex1.new hq) B2 (.rep (.bl _))⟩
        exact kitAny_cons (kit_ty ek) (fun hr => kitAny_cons (kit_ty ek2) (fun hs => by rw [hr, hs]; exact kitAny_nil) fun hs => by rw [hs, Bool.or_true]) fun hr => by rw [hr, Bool.true_or]⟩

/-! ### all, any, sum, max, min, tuple, list -/
def boolsOf : List D → Option (List Bool)
  | [] => some []
  | .bl c :: ds => (boolsOf ds).map (c :: ·)
  | _ :: _ => none
def intsOf : List D → Option (List Int)
  | [] => some []
  | .int c :: ds => (intsOf ds).map (c :: ·)
  | _ :: _ => none
theorem bools_rep {P : Px} {O : Addr → Prop} {bx : Option Addr} {H : Hp} : ∀ {ds : List D} {vs : List V} {bs : List Bool}, Reps P O bx H ds vs → boolsOf ds = some bs → vs = bs.map V.bl
  | _, _, _, .nil, e => by cases e; rfl
  | d :: ds, _, bs, .cons h t, e => by
    cases d with
    | bl c =>
      cases h
      cases e2 : boolsOf ds with
      | none => rw [boolsOf, e2] at e; cases e
      | some r =>
        rw [boolsOf, e2] at e
        cases e
        rw [bools_rep t e2]
        rfl
    | _ => cases e
theorem ints_rep {P : Px} {O : Addr → Prop} {bx : Option Addr} {H : Hp} : ∀ {ds : List D} {vs : List V} {bs : List Int}, Reps P O bx H ds vs → intsOf ds = some bs → vs = bs.map V.int
  | _, _, _, .nil, e => by cases e; rfl
  | d :: ds, _, bs, .cons h t, e => by
    cases d with
    | int c =>
      cases h
      cases e2 : intsOf ds with
      | none => rw [intsOf, e2] at e; cases e
      | some r =>
        rw [intsOf, e2] at e
        cases e
        rw [ints_rep t e2]
        rfl
    | _ => cases e
/-- a list -/
def D.lseq : D → Option (List D)
  | .lst xs => some xs
  | .own xs => some xs
  | _ => none
theorem lseq_rep {g : Gh} {H : Hp} {d : D} {v : V} {ys : List D} (r : RepT g H d v) (e : d.lseq = some ys) : ∃ a vs, v = .ref a ∧ H a = some (.lst vs) ∧ Reps g.P g.O g.bx H ys vs := by
  cases r with
  | rep r =>
    cases r with
    | @lst a ds vs q _ r => cases e; exact ⟨a, vs, rfl, q, r⟩
    | _ => cases e
  | @own ds vs a q _ _ _ r => cases e; exact ⟨a, vs, rfl, q, r⟩
def onBools (k : List Bool → D) (d : D) : M D := match d.lseq with
  | some ys => match boolsOf ys with
    | some bs => pure (k bs)
    | none => stuck
  | none => stuck
theorem cs_bools {k : List Bool → D} {kv : List Bool → V} (hk : ∀ (g : Gh) (H : Hp) bs, Rep g.P g.O g.bx H (k bs) (kv bs)) : CallS P (fun vs H Q => ∃ (a : Addr) (bs : List Bool), vs = [V.ref a] ∧ SqL P.K H a (bs.map V.bl) ∧ Q (kv bs) H) (un1 (onBools k)) := cs_un1 fun g W σ H Q v d b hP B T r1 w => by
  unfold onBools at w
  cases e : d.lseq with
  | none => rw [e] at w; exact w.elim
  | some ys =>
    rw [e] at w
    obtain ⟨a, vs, rfl, h, r⟩ := lseq_rep r1 e
    cases e2 : boolsOf ys with
    | none => simp only [e2] at w; exact w.elim
    | some bs =>
      simp only [e2] at w
      have ev := bools_rep r e2
      subst ev
      exact ⟨a, bs, rfl, .inl (.inl h), wpG_ok w B (.rep (hk g H bs))⟩
abbrev allD := un1 (onBools fun bs => .bl (bs.all id))
abbrev anyD := un1 (onBools fun bs => .bl (bs.any id))
theorem se_all {x : Expr} {p : Pos} (hc : X.calm = true) (hg : Gl X "all") (hm : X.mg "all" = none) (ha : SB X P [x] fs) (hK : X.K = P.K := by rfl) (he : starEach [x] X.env = (false, eval x X.env) :: starEach [] X.env := by rfl) : SE X P (.Call (.Name "all" p) [x] [] pos) (eB allD fs) :=
  se_callB (r := rAll P.K) (by rw [← hK]; exact cr_all hc) (cs_bools fun _ _ _ => .bl _) hg hm (by decide +kernel) ha (by decide) (by decide) he
theorem se_any {x : Expr} {p : Pos} (hc : X.calm = true) (hg : Gl X "any") (hm : X.mg "any" = none) (ha : SB X P [x] fs) (hK : X.K = P.K := by rfl) (he : starEach [x] X.env = (false, eval x X.env) :: starEach [] X.env := by rfl) : SE X P (.Call (.Name "any" p) [x] [] pos) (eB anyD fs) :=
  se_callB (r := rAny P.K) (by rw [← hK]; exact cr_any hc) (cs_bools fun _ _ _ => .bl _) hg hm (by decide +kernel) ha (by decide) (by decide) he
def onInts (k : List Int → M D) (d : D) : M D := match d.lseq with
  | some ys => match intsOf ys with
    | some bs => k bs
    | none => stuck
  | none => stuck
theorem cs_ints {k : List Int → M D} {r : List V → Hp → VK → Prop} (hk : ∀ (g : Gh) (W : WX) (σ : St) (H : Hp) (Q : VK) (a : Addr) (ns : List Int) (b : Bx), g.P = P → BoxOk g b H → SqL P.K H a (ns.map V.int) → wpG g W σ (RepT g) H (k ns b) Q → r [.ref a] H Q) : CallS P r (un1 (onInts k)) := cs_un1 fun g W σ H Q v d b hP B T r1 w => by
  unfold onInts at w
  cases e : d.lseq with
  | none => rw [e] at w; exact w.elim
  | some ys =>
    rw [e] at w
    obtain ⟨a, vs, rfl, h, r⟩ := lseq_rep r1 e
    cases e2 : intsOf ys with
    | none => simp only [e2] at w; exact w.elim
    | some bs =>
      simp only [e2] at w
      have ev := ints_rep r e2
      subst ev
      exact hk g W σ H Q a bs b hP B (.inl (.inl h)) w
abbrev sumD := un1 (onInts fun ns => pure (.int ns.sum))
theorem se_sum {x : Expr} {p : Pos} (hc : X.calm = true) (hg : Gl X "sum") (hm : X.mg "sum" = none) (ha : SB X P [x] fs) (hK : X.K = P.K := by rfl) (he : starEach [x] X.env = (false, eval x X.env) :: starEach [] X.env := by rfl) : SE X P (.Call (.Name "sum" p) [x] [] pos) (eB sumD fs) :=
  se_callB (r := rSum P.K) (by rw [← hK]; exact cr_sum hc) (cs_ints fun g W σ H Q a ns b hP B h w => ⟨a, ns, rfl, h, wpG_ok w B (.rep (.int _))⟩) hg hm (by decide +kernel) ha (by decide) (by decide) he
/-- tuple(x) -/
def tupD1 : D → M D
  | .tup xs => pure (.tup xs)
  | .lst xs => pure (.tup xs)
  | .own xs => pure (.tup xs)
  | _ => stuck
abbrev tupD := un1 tupD1
def rTupA (K : PySem.W.Frag) : List V → Hp → VK → Prop := fun xs H Q => ∃ p ys, xs = [.ref p] ∧ ((SqL K H p ys ∧ ∀ l, H l = none → Q (.ref l) (upd H l (.tup ys))) ∨ (SqT K H p ys ∧ Q (.ref p) H))
theorem cs_tup : CallS P (rTupA P.K) tupD := cs_un1 fun g W σ H Q v d b hP B T r1 w => by
  subst hP
  have go : ∀ {xs : List D}, d.lseq = some xs → wpG g W σ (RepT g) H ((pure (.tup xs) : M D) b) Q → rTupA g.P.K [v] H Q := fun {xs} e w => by
    obtain ⟨a, vs, ev, h, r⟩ := lseq_rep r1 e
    exact ⟨a, vs, by rw [ev], .inl ⟨.inl (.inl h), fun l hl => w (.ref l) _ (Ex1.new hl) (B.new hl) (.rep (.tup upd_same (r.mono B.bxl (Ex1.new hl))))⟩⟩
  cases d with
  | tup xs =>
    cases r1 with
    | rep r1 =>
      cases r1 with
      | @tup a _ vs h q => exact ⟨a, vs, rfl, .inr ⟨sqt h, wpG_ok w B (.rep (.tup h q))⟩⟩
  | lst xs => exact go rfl w
  | own xs => exact go rfl w
  | _ => exact w.elim
theorem se_toTup {x : Expr} {p : Pos} (hg : Gl X "tuple") (hm : X.mg "tuple" = none) (ha : SB X P [x] fs) (hK : X.K = P.K := by rfl) (he : starEach [x] X.env = (false, eval x X.env) :: starEach [] X.env := by rfl) : SE X P (.Call (.Name "tuple" p) [x] [] pos) (eB tupD fs) :=
  se_callTy (r := rTupA P.K) (by rw [← hK]; exact call_tuple_of) cs_tup hg hm (by decide +kernel) ha (by decide) (by decide) he
/-- list(x): a new list -/
def lstF1 (d : D) : M (List D) := match d.seq with
  | some xs => pure xs
  | none => stuck
def fLstOf (f : DEnv → M D) : DEnv → M (List D) := fun ρ => f ρ >>= lstF1
theorem fresh_back {bx : Option Addr} {O : Addr → Prop} {H H1 : Hp} {p : Addr} (B : BxL O bx H1) (e : Ex1 bx H H1) (h : H1 p = none) : H p = none := by
  cases q : H p with
  | none => rfl
  | some o =>
    by_cases z : bx = some p
    · obtain ⟨_, vs, q2⟩ := B p z
      rw [h] at q2; cases q2
    · have q2 := e p o z q
      rw [h] at q2; cases q2
/-- the new list at p -/
theorem rf_new {g : Gh} {b : Bx} {H0 H : Hp} {p : Addr} {ds : List D} {vs : List V} (B : BoxOk g b H) (e : Ex1 g.bx H0 H) (hp : H p = none) (r : Reps g.P g.O g.bx H ds vs) : RF g H0 (upd H p (.lst vs)) ds (.ref p) :=
  ⟨p, vs, rfl, fresh_back B.bxl e hp, upd_same, (r.own (O' := fun a => g.O a ∨ a = p) fun a ha => ha.elim .inl fun z => .inr (by rw [z]; exact hp)).mono (fun a ha => ⟨.inl (B.bxl a ha).1, (B.bxl a ha).2⟩) (Ex1.new hp)⟩
theorem sf_toLst {x : Expr} {p : Pos} (hg : Gl X "list") (hm : X.mg "list" = none) (ha : SE X P x f) (hK : X.K = P.K := by rfl) (he : starEach [x] X.env = (false, eval x X.env) :: starEach [] X.env := by rfl) : SF X P (.Call (.Name "list" p) [x] [] pos) (fLstOf f) :=
  ⟨fun W tk => pe_imp (pe_callTy call_list_of hg hm (by decide +kernel) (pa_cons (ha.pe W tk) pa_nil he) (by decide) (by decide) he rfl) fun σ H Q h => by
    obtain ⟨g, ρ, b, hP, S, w⟩ := h
    refine ⟨g, ρ, b, hP, S, (wpG.bind (R1 := RepT g) w).imp fun v H1 ⟨d, b1, e1, B1, r1, w1⟩ => ?_⟩
    unfold lstF1 at w1
    cases e : d.seq with
    | none => rw [e] at w1; exact w1.elim
    | some xs =>
      rw [e] at w1
      obtain ⟨a, vs, rfl, h, r⟩ := seq_rep r1 e
      subst hP
      rw [hK]
      exact ⟨a, vs, rfl, h, fun l hl => w1 (.ref l) _ (Ex1.new hl) (B1.new hl) (rf_new B1 e1 hl r)⟩⟩
end
end Pu

set_option Elab.async false
set_option linter.all false
set_option maxRecDepth 100000
set_option maxHeartbeats 4000000
/-! The pure layer, part E: targets, what is walked, statements, loops, comprehensions, defs and their calls -/
namespace Pu
open PySem L2

/-! ### the state as it goes on -/
/-- owned ones may change; what is owned then was owned, or is new -/
structure Tr (O : Addr → Prop) (H : Hp) (O' : Addr → Prop) (H' : Hp) : Prop where
  keep : ∀ a o, ¬ O a → H a = some o → H' a = some o
  own : ∀ a, O' a → O a ∨ H a = none
theorem Tr.refl {O : Addr → Prop} {H : Hp} : Tr O H O H := ⟨fun _ _ _ h => h, fun _ h => .inl h⟩
theorem Tr.trans {O O1 O2 : Addr → Prop} {H H1 H2 : Hp} (a : Tr O H O1 H1) (b : Tr O1 H1 O2 H2) : Tr O H O2 H2 :=
  ⟨fun x o n h => b.keep x o (fun z => (a.own x z).elim n fun q => by rw [h] at q; cases q) (a.keep x o n h), fun x h => by
    rcases b.own x h with z | z
    · exact a.own x z
    · by_cases n : O x
      · exact .inl n
      · refine .inr ?_
        cases q : H x with
        | none => rfl
        | some o =>
          rw [a.keep x o n q] at z
          cases z⟩
theorem Tr.ex {O : Addr → Prop} {bx : Option Addr} {H H' : Hp} (e : Ex1 bx H H') (h : ∀ a, bx = some a → O a) : Tr O H O H' := ⟨fun a o n q => e a o (fun z => n (h a z)) q, fun _ h => .inl h⟩
/-- the ghosts with other owned ones -/
abbrev Gh.at (g : Gh) (O : Addr → Prop) : Gh := { g with O := O }
section
variable {P : Px} {O O' : Addr → Prop} {bx : Option Addr} {H H' : Hp}
theorem sqt_tr {K : PySem.W.Frag} {a : Addr} {vs : List V} (m : ∀ a, O a → Mut (H a)) (t : Tr O H O' H') (h : SqT K H a vs) : SqT K H' a vs := by
  rcases h with (h | ⟨o, h⟩) | h
  · exact .inl (.inl (t.keep a _ (fun z => by have := m a z; rw [h] at this; exact this) h))
  · exact .inl (.inr ⟨o, t.keep a _ (fun z => by have := m a z; rw [h] at this; exact this) h⟩)
  · exact .inr h
mutual
theorem Rep.tr (m : ∀ a, O a → Mut (H a)) (t : Tr O H O' H') : ∀ {d : D} {v : V}, Rep P O bx H d v → Rep P O' bx H' d v
  | _, _, .non => .non
  | _, _, .bl b => .bl b
  | _, _, .int i => .int i
  | _, _, .str x => .str x
  | _, _, .ty n => .ty n
  | _, _, .fn i => .fn i
  | _, _, .box h => .box h
  | _, _, .tup (a := a) h r => .tup (by
      refine t.keep a _ (fun z => ?_) h
      have q := m a z
      rw [h] at q
      exact q.elim) (Reps.tr m t r)
  | _, _, .lst (a := a) h n r => .lst (t.keep a _ n h) (fun z => (t.own a z).elim n fun q => by rw [h] at q; cases q) (Reps.tr m t r)
  | _, _, .fro (a := a) h r => .fro (h.elim (fun ⟨ob, q⟩ => .inl ⟨ob, t.keep a _ (fun z => by have := m a z; rw [q] at this; exact this) q⟩) .inr) (Reps.tr m t r)
theorem Reps.tr (m : ∀ a, O a → Mut (H a)) (t : Tr O H O' H') : ∀ {ds : List D} {vs : List V}, Reps P O bx H ds vs → Reps P O' bx H' ds vs
  | _, _, .nil => .nil
  | _, _, .cons h r => .cons (Rep.tr m t h) (Reps.tr m t r)
end
end
/-- where the call began -/
structure Base (g : Gh) (H0 H : Hp) : Prop where
  sub : ∀ a, g.O0 a → g.O a
  new : ∀ a, g.O a → g.O0 a ∨ H0 a = none
  ex : Ex1 g.bx H0 H
  trk : ∀ a, g.O0 a → H0 a ≠ none
theorem Base.at {g : Gh} {H0 H H' : Hp} (B : Base g H0 H) (e : Ex1 g.bx H H') : Base g H0 H' := ⟨B.sub, B.new, B.ex.trans e, B.trk⟩

inductive Out where
  | nx (ρ : DEnv)
  | rt (d : D)
  | bk (ρ : DEnv)
  | ct (ρ : DEnv)
def wpS (g : Gh) (H0 : Hp) (W : WX) (H : Hp) (m : Res Out) (E : Ends) : Prop := match m with
  | .ok (.nx ρ) b => ∀ O' σ' H', Tr g.O H O' H' → StE (g.at O') ρ b σ' H' → Base (g.at O') H0 H' → E.nx σ' H'
  | .ok (.bk ρ) b => ∀ O' σ' H', Tr g.O H O' H' → StE (g.at O') ρ b σ' H' → Base (g.at O') H0 H' → E.bk σ' H'
  | .ok (.ct ρ) b => ∀ O' σ' H', Tr g.O H O' H' → StE (g.at O') ρ b σ' H' → Base (g.at O') H0 H' → E.ct σ' H'
  | .ok (.rt d) b => ∀ v H', Ex1 g.bx H0 H' → BoxOk (g.at g.O0) b H' → Rep g.P g.O0 g.bx H' d v → E.rt v H'
  | .exc x b => ∀ cls dd σ' H', Ex1 g.bx H0 H' → BoxOk (g.at g.O0) b H' → XRep g.P x cls dd H' → W cls dd σ' H'
  | .stk => False
theorem wpS.at {g : Gh} {H0 H H1 : Hp} {O1 : Addr → Prop} {W : WX} {m : Res Out} {E : Ends} (t : Tr g.O H O1 H1) (h : wpS g H0 W H m E) : wpS (g.at O1) H0 W H1 m E := by
  match m, h with
  | .ok (.nx ρ) b, h => exact fun O' σ' H' t' => h O' σ' H' (t.trans t')
  | .ok (.bk ρ) b, h => exact fun O' σ' H' t' => h O' σ' H' (t.trans t')
  | .ok (.ct ρ) b, h => exact fun O' σ' H' t' => h O' σ' H' (t.trans t')
  | .ok (.rt d) b, h => exact h
  | .exc x b, h => exact h
theorem wpS.ends {g : Gh} {H0 H : Hp} {W : WX} {m : Res Out} {E E' : Ends} (h : wpS g H0 W H m E) (e1 : ∀ σ H, E.nx σ H → E'.nx σ H) (e2 : ∀ v H, E.rt v H → E'.rt v H) (e3 : ∀ σ H, E.bk σ H → E'.bk σ H) (e4 : ∀ σ H, E.ct σ H → E'.ct σ H) : wpS g H0 W H m E' := by
  match m, h with
  | .ok (.nx ρ) b, h => exact fun O' σ' H' t s B => e1 _ _ (h O' σ' H' t s B)
  | .ok (.bk ρ) b, h => exact fun O' σ' H' t s B => e3 _ _ (h O' σ' H' t s B)
  | .ok (.ct ρ) b, h => exact fun O' σ' H' t s B => e4 _ _ (h O' σ' H' t s B)
  | .ok (.rt d) b, h => exact fun v H' a B r => e2 _ _ (h v H' a B r)
  | .exc x b, h => exact h
theorem BoxOk.base {g : Gh} {b : Bx} {H0 H : Hp} (h : BoxOk g b H) (B : Base g H0 H) : BoxOk (g.at g.O0) b H := by
  unfold BoxOk at h ⊢
  cases e : g.bx with
  | none => rw [e] at h; exact h
  | some a =>
    rw [e] at h
    obtain ⟨⟨o, _⟩, q⟩ := h
    exact ⟨⟨o, o⟩, q⟩
/-- an expression ahead of a statement -/
theorem wpS_bind {α β : Type} {g : Gh} {H0 H : Hp} {W : WX} {σ : St} {R1 : Hp → α → β → Prop} {m : Res α} {k : α → M Out} {E : Ends} (h : wpS g H0 W H (m.bind k) E) (B : Base g H0 H) :
    wpG g W σ R1 H m fun v H1 => ∃ a b, Ex1 g.bx H H1 ∧ BoxOk g b H1 ∧ R1 H1 a v ∧ wpS g H0 W H (k a b) E := by
  match m, h with
  | .ok a b, h => exact fun v H' e Bx r => ⟨a, b, e, Bx, r, h⟩
  | .exc x b, h => exact fun cls dd H' e Bx r => h cls dd σ H' (B.ex.trans e) (Bx.base (B.at e)) r

/-! ### statements -/
def rS (P : Px) (W : WX) (f : DEnv → M Out) : TS := fun E σ H => ∃ g H0 ρ b, g.P = P ∧ StE g ρ b σ H ∧ Base g H0 H ∧ wpS g H0 W H (f ρ b) E
structure SS (X : Cx) (P : Px) (s : Stmt) (f : DEnv → M Out) : Prop where
  ps : ∀ W, Takes X W → PS X s (rS P W f)
structure SSs (X : Cx) (P : Px) (s : List Stmt) (f : DEnv → M Out) : Prop where
  ps : ∀ W, Takes X W → PSs X s (rS P W f)
theorem ps_imp {X : Cx} {s : Stmt} {t t' : TS} (h : PS X s t) (k : ∀ E σ H, t' E σ H → t E σ H) : PS X s t' := ⟨fun pins s σ H E I q => h.run pins s σ H E I (k E σ H q)⟩
theorem pss_imp {X : Cx} {s : List Stmt} {t t' : TS} (h : PSs X s t) (k : ∀ E σ H, t' E σ H → t E σ H) : PSs X s t' := ⟨fun pins s σ H E I q => h.run pins s σ H E I (k E σ H q)⟩
def sNext : DEnv → M Out := fun ρ => pure (.nx ρ)
def sSeq (f k : DEnv → M Out) : DEnv → M Out := fun ρ => f ρ >>= fun o => match o with
  | .nx ρ' => k ρ'
  | o => pure o
def sSet (i : Nat) (f : DEnv → M D) : DEnv → M Out := fun ρ => f ρ >>= fun d => chk d >>= fun d => pure (.nx (ρ.set i (some d)))
def sOwn (i : Nat) (f : DEnv → M (List D)) : DEnv → M Out := fun ρ => f ρ >>= fun ds => pure (.nx (ρ.set i (some (.own ds))))
def strip : D → D
  | .own xs => .lst xs
  | d => d
def sRet (f : DEnv → M D) : DEnv → M Out := fun ρ => f ρ >>= fun d => pure (.rt (strip d))
def sRetN : DEnv → M Out := fun _ => pure (.rt .non)
def sIf (t : DEnv → M Bool) (f k : DEnv → M Out) : DEnv → M Out := fun ρ => t ρ >>= fun c => if c = true then f ρ else k ρ
def sDrop (f : DEnv → M D) : DEnv → M Out := fun ρ => f ρ >>= fun _ => pure (.nx ρ)
def sBreak : DEnv → M Out := fun ρ => pure (.bk ρ)
def sCont : DEnv → M Out := fun ρ => pure (.ct ρ)
/-- ghost: what x owns is shared from here on -/
def sFrz (i : Nat) (k : DEnv → M Out) : DEnv → M Out := fun ρ => match ρ[i]? with
  | some (some (.own xs)) => k (ρ.set i (some (.lst xs)))
  | _ => stuck
section
variable {X : Cx} {P : Px} {s : Stmt} {rest : List Stmt} {e a b c : Expr} {es : List Expr} {pos pos' : Pos} {f fa fb : DEnv → M D} {t : DEnv → M Bool} {fs : DEnv → M (List D)} {u k : DEnv → M Out}
theorem sss_nil : SSs X P [] sNext := ⟨fun W _ => pss_imp pss_nil fun E σ H h => by
  obtain ⟨g, H0, ρ, b, hP, S, B, w⟩ := h
  exact w g.O σ H Tr.refl S B⟩
theorem sss_cons (h1 : SS X P s u) (h2 : SSs X P rest k) : SSs X P (s :: rest) (sSeq u k) := ⟨fun W tk => pss_imp (pss_cons (h1.ps W tk) (h2.ps W tk)) fun E σ H h => by
  obtain ⟨g, H0, ρ, b, hP, S, B, w⟩ := h
  refine ⟨g, H0, ρ, b, hP, S, B, ?_⟩
  have w' : wpS g H0 W H ((u ρ b).bind fun o => match o with
    | .nx ρ' => k ρ'
    | o => pure o) E := w
  match u ρ b, w' with
  | .ok (.nx ρ') b', w' => exact fun O' σ' H' t S' B' => ⟨g.at O', H0, ρ', b', hP, S', B', wpS.at t w'⟩
  | .ok (.rt d) b', w' => exact w'
  | .ok (.bk ρ') b', w' => exact w'
  | .ok (.ct ρ') b', w' => exact w'
  | .exc x b', w' => exact w'⟩
theorem sss_one (h1 : SS X P s u) : SSs X P [s] u := ⟨fun W tk => pss_one (h1.ps W tk)⟩
theorem ss_pass : SS X P (.Pass pos) sNext := ⟨fun W _ => ps_imp ps_pass fun E σ H h => by
  obtain ⟨g, H0, ρ, b, hP, S, B, w⟩ := h
  exact w g.O σ H Tr.refl S B⟩
theorem ss_break : SS X P (.Break pos) sBreak := ⟨fun W _ => ps_imp ps_break fun E σ H h => by
  obtain ⟨g, H0, ρ, b, hP, S, B, w⟩ := h
  exact w g.O σ H Tr.refl S B⟩
theorem ss_cont : SS X P (.Continue pos) sCont := ⟨fun W _ => ps_imp ps_continue fun E σ H h => by
  obtain ⟨g, H0, ρ, b, hP, S, B, w⟩ := h
  exact w g.O σ H Tr.refl S B⟩
theorem StE.bo {g : Gh} {ρ : DEnv} {b : Bx} {σ : St} {H : Hp} (S : StE g ρ b σ H) : ∀ a, g.bx = some a → g.O a := fun a z => (S.box.bxl a z).1
theorem get_set {α : Type} {l : List α} {i j : Nat} {x y : α} (h : (l.set i x)[j]? = some y) : (i = j ∧ x = y ∧ i < l.length) ∨ (i ≠ j ∧ l[j]? = some y) := by
  by_cases e : i = j
  · subst e
    by_cases hi : i < l.length
    · rw [List.getElem?_set_self hi] at h
      exact .inl ⟨rfl, Option.some.inj h, hi⟩
    · rw [List.getElem?_eq_none (by rw [List.length_set]; omega)] at h
      cases h
  · rw [List.getElem?_set_ne e] at h
    exact .inr ⟨e, h⟩
/-- a name takes a value that is no one's own -/
theorem StE.set {g : Gh} {ρ : DEnv} {b : Bx} {σ : St} {H : Hp} (S : StE g ρ b σ H) {d : D} {v : V} (r : Rep g.P g.O g.bx H d v) (i : Nat) : StE g (ρ.set i (some d)) b (σ.set i (some v)) H := by
  have nown : ∀ ds, d ≠ .own ds := fun ds e => by rw [e] at r; cases r
  have back : ∀ (j : Nat) (es : List D), (ρ.set i (some d))[j]? = some (some (.own es)) → i ≠ j ∧ ρ[j]? = some (some (.own es)) := fun j es h => by
    rcases get_set h with ⟨_, q, _⟩ | q
    · exact absurd (Option.some.inj q) (nown es)
    · exact q
  refine ⟨by rw [List.length_set, List.length_set]; exact S.len, fun j d' h => ?_, fun j l ds es a h1 h2 h3 h4 => ?_, S.box, S.mt⟩
  · rcases get_set h with ⟨q1, q2, q3⟩ | ⟨q1, q2⟩
    · cases q2
      subst q1
      exact ⟨v, List.getElem?_set_self (by rw [S.len]; exact q3), .rep r⟩
    · obtain ⟨w, h1, h2⟩ := S.val j d' q2
      exact ⟨w, by rw [List.getElem?_set_ne q1]; exact h1, h2⟩
  · obtain ⟨n1, e1⟩ := back j ds h1
    obtain ⟨n2, e2⟩ := back l es h2
    rw [List.getElem?_set_ne n1] at h3
    rw [List.getElem?_set_ne n2] at h4
    exact S.sep j l ds es a e1 e2 h3 h4
/-- a name takes a new list as its own -/
theorem StE.setOwn {g : Gh} {ρ : DEnv} {b : Bx} {σ : St} {H : Hp} {p : Addr} {ds : List D} {vs : List V} (S : StE g ρ b σ H) (h0 : ∀ (j : Nat) (es : List D), ρ[j]? = some (some (.own es)) → σ[j]? ≠ some (some (.ref p))) (np : g.bx ≠ some p) (n0 : ¬ g.O0 p)
    (w : ∀ (j : Nat) (d : D) (v : V), ρ[j]? = some (some d) → σ[j]? = some (some v) → RepT g H d v → RepT (g.at fun a => g.O a ∨ a = p) H d v) (bw : BoxOk (g.at fun a => g.O a ∨ a = p) b H)
    (hp : H p = some (.lst vs)) (r : Reps g.P (fun a => g.O a ∨ a = p) g.bx H ds vs) (i : Nat) : StE (g.at fun a => g.O a ∨ a = p) (ρ.set i (some (.own ds))) b (σ.set i (some (.ref p))) H := by
  refine ⟨by rw [List.length_set, List.length_set]; exact S.len, fun j d' h => ?_, fun j l ds' es a h1 h2 h3 h4 => ?_, bw, fun a h => ?_⟩
  · rcases get_set h with ⟨q1, q2, q3⟩ | ⟨q1, q2⟩
    · cases q2
      subst q1
      exact ⟨.ref p, List.getElem?_set_self (by rw [S.len]; exact q3), .own hp (.inr rfl) n0 np r⟩
    · obtain ⟨v, h1, h2⟩ := S.val j d' q2
      exact ⟨v, by rw [List.getElem?_set_ne q1]; exact h1, w j d' v q2 h1 h2⟩
  · rcases get_set h1 with ⟨q1, _, k1⟩ | ⟨q1, q2⟩
    · rcases get_set h2 with ⟨q3, _, _⟩ | ⟨q3, q4⟩
      · exact q1.symm.trans q3
      · subst q1
        rw [List.getElem?_set_self (by rw [S.len]; exact k1)] at h3
        cases h3
        rw [List.getElem?_set_ne q3] at h4
        exact absurd h4 (h0 l es q4)
    · rcases get_set h2 with ⟨q3, _, k3⟩ | ⟨q3, q4⟩
      · subst q3
        rw [List.getElem?_set_self (by rw [S.len]; exact k3)] at h4
        cases h4
        rw [List.getElem?_set_ne q1] at h3
        exact absurd h3 (h0 j ds' q2)
      · rw [List.getElem?_set_ne q1] at h3
        rw [List.getElem?_set_ne q3] at h4
        exact S.sep j l ds' es a q2 q4 h3 h4
  · rcases h with h | h
    · exact S.mt a h
    · rw [h, hp]
      trivial
theorem set_read {i : Nat} {W : WX} {E : Ends} {σ : St} {H : Hp} (h : rS P W (sSet i f) E σ H) : rE P W f σ H fun v H1 => E.nx (σ.set i (some v)) H1 := by
  obtain ⟨g, H0, ρ, b, hP, S, B, w⟩ := h
  refine ⟨g, ρ, b, hP, S, (wpS_bind (R1 := RepT g) w B).imp fun v H1 ⟨d, b1, e1, B1, r1, w1⟩ => ?_⟩
  have B1' := B.at e1
  have S1 := S.mono e1 B1
  cases r1 with
  | own => exact w1.elim
  | rep r =>
    have w2 : wpS g H0 W H (.ok (.nx (ρ.set i (some d))) b1) E := by cases r <;> exact w1
    exact w2 g.O _ H1 (Tr.ex e1 S.bo) (S1.set r i) B1'
theorem ss_set (i : Nat) {x : Str} {xp : Pos} (hN : X.N.Nodup) (he : SE X P e f) (hi : X.N[i]? = some x := by rfl) (hx : Loc X.env.scope x := by first | exact .inl rfl | exact .inr rfl) (hs : swapsWith e (some (.Name x xp)) pos.line X.env = pure false := by rfl) (hf : X.fn x = true ∨ X.env.scope.names.lookup x = some .local := by first | exact .inl rfl | exact .inr rfl) :
    SS X P (.Assign [.Name x xp] e pos) (sSet i f) := ⟨fun W tk => ps_imp (ps_set hN hi hx (he.pe W tk) hs hf) fun E σ H h => set_read h⟩
theorem own_read {i : Nat} {W : WX} {E : Ends} {σ : St} {H : Hp} (h : rS P W (sOwn i fs) E σ H) : rF P W fs σ H fun v H1 => E.nx (σ.set i (some v)) H1 := by
  obtain ⟨g, H0, ρ, b, hP, S, B, w⟩ := h
  refine ⟨g, ρ, b, hP, S, (wpS_bind (R1 := RF g H) w B).imp fun v H1 ⟨ds, b1, e1, B1, r1, w1⟩ => ?_⟩
  obtain ⟨p, vs, rfl, h0, hp, r⟩ := r1
  have S1 := S.mono e1 B1
  have B1' := B.at e1
  have n0 : ¬ g.O0 p := fun z => S.trk p (B.sub p z) h0
  have np : g.bx ≠ some p := fun z => by
    obtain ⟨_, vs, q⟩ := S.box.bxl p z
    rw [h0] at q; cases q
  have wd : ∀ a, (g.O a ∨ a = p) → g.O a ∨ H a = none := fun a h => h.elim .inl fun z => .inr (by rw [z]; exact h0)
  have bl : BxL (fun a => g.O a ∨ a = p) g.bx H := fun a z => ⟨.inl (S.bo a z), (S.box.bxl a z).2⟩
  refine w1 (fun a => g.O a ∨ a = p) _ H1 ⟨fun a o n q => e1 a o (fun z => n (S.bo a z)) q, wd⟩ (S1.setOwn (p := p) (vs := vs) (ds := ds) ?_ np n0 ?_ ?_ hp r i) ⟨fun a h => .inl (B1'.sub a h), fun a h => ?_, B1'.ex, B1'.trk⟩
  · intro j es h1 h2
    obtain ⟨v, h3, h4⟩ := S.val j _ h1
    rw [h2] at h3
    cases h3
    cases h4 with
    | own q => rw [h0] at q; cases q
    | rep q => cases q
  · intro j d v h1 h2 _
    obtain ⟨v', h3, h4⟩ := S.val j _ h1
    rw [h2] at h3
    cases h3
    cases h4 with
    | rep q => exact .rep ((q.own wd).mono bl e1)
    | own q o n nb rr => exact .own (e1 _ _ nb q) (.inl o) n nb ((rr.own wd).mono bl e1)
  · have z := B1
    unfold BoxOk at z ⊢
    cases eb : g.bx with
    | none => rw [eb] at z; exact z
    | some a =>
      rw [eb] at z
      exact ⟨⟨z.1.1, .inl z.1.2⟩, z.2⟩
  · rcases h with h | h
    · exact B1'.new a h
    · rw [h]
      exact .inr (fresh_back S.box.bxl B.ex h0)
theorem ss_own (i : Nat) {x : Str} {xp : Pos} (hN : X.N.Nodup) (he : SF X P e fs) (hi : X.N[i]? = some x := by rfl) (hx : Loc X.env.scope x := by first | exact .inl rfl | exact .inr rfl) (hs : swapsWith e (some (.Name x xp)) pos.line X.env = pure false := by rfl) (hf : X.fn x = true ∨ X.env.scope.names.lookup x = some .local := by first | exact .inl rfl | exact .inr rfl) :
    SS X P (.Assign [.Name x xp] e pos) (sOwn i fs) := ⟨fun W tk => ps_imp (ps_set hN hi hx (he.pe W tk) hs hf) fun E σ H h => own_read h⟩
theorem strip_rep {g : Gh} {H0 H : Hp} {d : D} {v : V} (r : RepT g H d v) (B : Base g H0 H) : Rep g.P g.O0 g.bx H (strip d) v := by
  have w : ∀ a, g.O0 a → g.O a ∨ H a = none := fun a h => .inl (B.sub a h)
  cases r with
  | own q o n nb r => exact .lst q n (r.own w)
  | rep r =>
    have q := r.own w
    cases r <;> exact q
theorem ss_ret (he : SE X P e f) : SS X P (.Return (some e) pos) (sRet f) := ⟨fun W tk => ps_imp (ps_ret (he.pe W tk)) fun E σ H h => by
  obtain ⟨g, H0, ρ, b, hP, S, B, w⟩ := h
  refine ⟨g, ρ, b, hP, S, (wpS_bind (R1 := RepT g) w B).imp fun v H1 ⟨d, b1, e1, B1, r1, w1⟩ => ?_⟩
  exact w1 v H1 (B.at e1).ex (B1.base (B.at e1)) (strip_rep r1 (B.at e1))⟩
theorem ss_retN : SS X P (.Return none pos) sRetN := ⟨fun W _ => ps_imp ps_retN fun E σ H h => by
  obtain ⟨g, H0, ρ, b, hP, S, B, w⟩ := h
  exact w .non H B.ex (S.box.base B) .non⟩
theorem ss_if {th el : List Stmt} (hc : STt X P c t) (h1 : SSs X P th u) (h2 : SSs X P el k) : SS X P (.If c th el pos) (sIf t u k) := ⟨fun W tk => ps_imp (ps_if (hc.pt W tk) (h1.ps W tk) (h2.ps W tk)) fun E σ H h => by
  obtain ⟨g, H0, ρ, b, hP, S, B, w⟩ := h
  refine ⟨g, ρ, b, hP, S, (wpS_bind (R1 := fun _ a v => v = a) w B).imp fun v H1 ⟨d, b1, e1, B1, r1, w1⟩ => ?_⟩
  subst r1
  have t1 : Tr g.O H g.O H1 := Tr.ex e1 S.bo
  cases v with
  | true => exact iteT ⟨g, H0, ρ, b1, hP, S.mono e1 B1, B.at e1, wpS.at t1 w1⟩
  | false => exact iteF ⟨g, H0, ρ, b1, hP, S.mono e1 B1, B.at e1, wpS.at t1 w1⟩⟩
theorem ss_drop (he : SE X P e f) (hs : swapsWith e none pos.line X.env = pure false := by rfl) : SS X P (.Expr e pos) (sDrop f) := ⟨fun W tk => ps_imp (ps_expr (he.pe W tk) hs) fun E σ H h => by
  obtain ⟨g, H0, ρ, b, hP, S, B, w⟩ := h
  refine ⟨g, ρ, b, hP, S, (wpS_bind (R1 := RepT g) w B).imp fun v H1 ⟨d, b1, e1, B1, r1, w1⟩ => ?_⟩
  exact w1 g.O σ H1 (Tr.ex e1 S.bo) (S.mono e1 B1) (B.at e1)⟩
/-- what a name owns is shared from here on -/
theorem StE.frz {g : Gh} {H0 : Hp} {ρ : DEnv} {b : Bx} {σ : St} {H : Hp} (S : StE g ρ b σ H) (B : Base g H0 H) {i : Nat} {xs : List D} (h : ρ[i]? = some (some (.own xs))) :
    ∃ O', Tr g.O H O' H ∧ StE (g.at O') (ρ.set i (some (.lst xs))) b σ H ∧ Base (g.at O') H0 H := by
  obtain ⟨v, hv, r⟩ := S.val i _ h
  cases r with
  | rep r => cases r
  | @own _ vs a q o n nb r =>
    have sub : ∀ x, (g.O x ∧ x ≠ a) → g.O x ∨ H x = none := fun x h => .inl h.1
    refine ⟨fun x => g.O x ∧ x ≠ a, ⟨fun _ _ _ q => q, sub⟩, ⟨by rw [List.length_set]; exact S.len, fun j d hj => ?_, fun j l ds es c h1 h2 h3 h4 => ?_, ?_, fun x h => S.mt x h.1⟩, ⟨fun x h => ⟨B.sub x h, fun z => n (by rw [← z]; exact h)⟩, fun x h => B.new x h.1, B.ex, B.trk⟩⟩
    · rcases get_set hj with ⟨q1, q2, q3⟩ | ⟨q1, q2⟩
      · cases q2
        subst q1
        exact ⟨_, hv, .rep (.lst q (fun z => z.2 rfl) (r.own sub))⟩
      · obtain ⟨w, h1, h2⟩ := S.val j d q2
        refine ⟨w, h1, ?_⟩
        cases h2 with
        | rep h2 => exact .rep (h2.own sub)
        | @own _ vs2 a2 q5 o2 n2 nb2 r2 => exact .own q5 ⟨o2, fun z => q1 (S.sep i j _ _ a h q2 hv (by rw [← z]; exact h1))⟩ n2 nb2 (r2.own sub)
    · have bk : ∀ (m : Nat) (fs : List D), (ρ.set i (some (.lst xs)))[m]? = some (some (.own fs)) → ρ[m]? = some (some (.own fs)) := fun m fs hm => by
        rcases get_set hm with ⟨_, q2, _⟩ | ⟨_, q2⟩
        · cases q2
        · exact q2
      exact S.sep j l ds es c (bk j ds h1) (bk l es h2) h3 h4
    · have z := S.box
      unfold BoxOk at z ⊢
      cases eb : g.bx with
      | none => rw [eb] at z; exact z
      | some c =>
        rw [eb] at z nb
        exact ⟨⟨z.1.1, z.1.2, fun y => nb (by rw [y])⟩, z.2⟩
theorem ss_frz (i : Nat) (h : SSs X P rest k) : SSs X P rest (sFrz i k) := ⟨fun W tk => pss_imp (h.ps W tk) fun E σ H h => by
  obtain ⟨g, H0, ρ, b, hP, S, B, w⟩ := h
  unfold sFrz at w
  cases e : ρ[i]? with
  | none => rw [e] at w; exact w.elim
  | some o =>
    rw [e] at w
    cases o with
    | none => exact w.elim
    | some d =>
      cases d with
      | own xs =>
        obtain ⟨O', t, S', B'⟩ := S.frz B e
        exact ⟨g.at O', H0, _, b, hP, S', B', wpS.at t w⟩
      | _ => exact w.elim⟩

/-! ### what is owned changes -/
theorem Ex1.write {bx : Option Addr} {H0 H : Hp} {p : Addr} {o : HO} (e : Ex1 bx H0 H) (h0 : H0 p = none) : Ex1 bx H0 (upd H p o) := fun a u n q => by
  rw [upd_ne (ne_of_none q h0)]
  exact e a u n q
/-- the list that slot i owns is written -/
theorem StE.write {g : Gh} {H0 : Hp} {ρ : DEnv} {b : Bx} {σ : St} {H : Hp} (S : StE g ρ b σ H) (B : Base g H0 H) {i : Nat} {a : Addr} {xs ys : List D} {vs us : List V} (h : ρ[i]? = some (some (.own xs))) (hv : σ[i]? = some (some (.ref a)))
    (q : H a = some (.lst vs)) (o : g.O a) (n : ¬ g.O0 a) (nb : g.bx ≠ some a) (r : Reps g.P g.O g.bx H ys us) :
    Tr g.O H g.O (upd H a (.lst us)) ∧ StE g (ρ.set i (some (.own ys))) b σ (upd H a (.lst us)) ∧ Base g H0 (upd H a (.lst us)) := by
  have hi : i < ρ.length := (List.getElem?_eq_some_iff.mp h).1
  have old : ∀ (m : Nat) (fs : List D), (ρ.set i (some (.own ys)))[m]? = some (some (.own fs)) → ∃ fs', ρ[m]? = some (some (.own fs')) := fun m fs hm => by
    rcases get_set hm with ⟨q1, q2, _⟩ | ⟨_, q2⟩
    · exact ⟨xs, by rw [← q1]; exact h⟩
    · exact ⟨fs, q2⟩
  refine ⟨⟨fun c u m e => by rw [upd_ne (fun z => m (by rw [z]; exact o))]; exact e, fun _ h => .inl h⟩, ⟨by rw [List.length_set]; exact S.len, fun j d hj => ?_, fun j l ds es c h1 h2 h3 h4 => ?_, ?_, fun c h => ?_⟩, ⟨B.sub, B.new, B.ex.write ((B.new a o).resolve_left n), B.trk⟩⟩
  · rcases get_set hj with ⟨q1, q2, q3⟩ | ⟨q1, q2⟩
    · cases q2
      subst q1
      exact ⟨_, hv, .own upd_same o n nb (r.write o q)⟩
    · obtain ⟨w, h1, h2⟩ := S.val j d q2
      refine ⟨w, h1, ?_⟩
      cases h2 with
      | rep h2 => exact .rep (h2.write o q)
      | @own _ vs2 a2 q5 o2 n2 nb2 r2 =>
        have ne : a2 ≠ a := fun z => q1 (S.sep i j _ _ a h q2 hv (by rw [← z]; exact h1))
        exact .own (by rw [upd_ne ne]; exact q5) o2 n2 nb2 (r2.write o q)
  · obtain ⟨ds', e1⟩ := old j ds h1
    obtain ⟨es', e2⟩ := old l es h2
    exact S.sep j l ds' es' c e1 e2 h3 h4
  · have z := S.box
    unfold BoxOk at z ⊢
    cases eb : g.bx with
    | none => rw [eb] at z; exact z
    | some c =>
      rw [eb] at z nb
      exact ⟨z.1, by rw [upd_ne (fun y => nb (by rw [y]))]; exact z.2⟩
  · by_cases z : c = a
    · rw [z, upd_same]
      trivial
    · rw [upd_ne z]
      exact S.mt c h
def ownAt (ρ : DEnv) (i : Nat) : Option (List D) := match ρ[i]? with
  | some (some (.own xs)) => some xs
  | _ => none
theorem ownAt_eq {ρ : DEnv} {i : Nat} {xs : List D} (h : ownAt ρ i = some xs) : ρ[i]? = some (some (.own xs)) := by
  unfold ownAt at h
  cases e : ρ[i]? with
  | none => rw [e] at h; cases h
  | some o =>
    rw [e] at h
    cases o with
    | none => cases h
    | some d => cases d <;> cases h; rfl
/-- x.append(e) -/
def sApp (i : Nat) (f : DEnv → M D) : DEnv → M Out := fun ρ => match ownAt ρ i with
  | some xs => f ρ >>= fun d => chk d >>= fun d => if xs.length < 100000 then pure (.nx (ρ.set i (some (.own (xs ++ [d]))))) else stuck
  | none => stuck
theorem szlt {n : Nat} (h : n < 100000) : n < sizeLine := Nat.lt_of_lt_of_le h (by decide)
theorem wp_iteS {c : Prop} [Decidable c] {g : Gh} {H0 : Hp} {W : WX} {H : Hp} {m : M Out} {b : Bx} {E : Ends} (w : wpS g H0 W H ((if c then m else stuck) b) E) : c ∧ wpS g H0 W H (m b) E := by
  by_cases h : c
  · rw [if_pos h] at w
    exact ⟨h, w⟩
  · rw [if_neg h] at w
    exact w.elim
theorem chk_repS {g : Gh} {H0 : Hp} {W : WX} {H H1 : Hp} {d : D} {v : V} {b : Bx} {k : D → M Out} {E : Ends} (r : RepT g H1 d v) (w : wpS g H0 W H ((chk d >>= k) b) E) : Rep g.P g.O g.bx H1 d v ∧ wpS g H0 W H (k d b) E := by
  cases r with
  | own => exact w.elim
  | rep r =>
    refine ⟨r, ?_⟩
    cases r <;> exact w
theorem ss_app (i : Nat) {x : Str} {p1 p2 p3 : Pos} (hN : X.N[i]? = some x) (he : SE X P e f) (hK : X.K = P.K := by rfl) (hv : Vis X.env.scope x := by first | exact Or.inl rfl | exact Or.inr (Or.inl rfl) | exact Or.inr (Or.inr rfl)) (hd : (x == ("__debug__" : Str)) = false := by decide) (hcd : (x == ("__classdict__" : Str)) = false := by decide)
    (hs : swapsWith (.Call (.Attribute (.Name x p1) "append" p2) [e] [] p3) none pos.line X.env = pure false := by rfl) (he1 : starEach [e] X.env = (false, eval e X.env) :: starEach [] X.env := by rfl)
    (hpe : ∀ {te : TE}, PE X e te → PE X (.Call (.Attribute (.Name x p1) "append" p2) [e] [] p3) (tBM X.K "list" rAppend (tVar i) (tCons te tNil)) := by
      intro te h
      exact pe_bm PySem.F.plainAttrs_list PySem.F.slot_list_append PySem.F.type_list_append mt_append (pv _) (pa_cons h pa_nil)) :
    SS X P (.Expr (.Call (.Attribute (.Name x p1) "append" p2) [e] [] p3) pos) (sApp i f) := ⟨fun W tk => ps_imp (ps_expr (hpe (he.pe W tk)) hs) fun E σ H h => by
  obtain ⟨g, H0, ρ, b, hP, S, B, w⟩ := h
  have w : wpS g H0 W H ((match ownAt ρ i with
    | some xs => f ρ >>= fun d => chk d >>= fun d => if xs.length < 100000 then pure (.nx (ρ.set i (some (.own (xs ++ [d]))))) else stuck
    | none => stuck : M Out) b) E := w
  cases eo : ownAt ρ i with
  | none => rw [eo] at w; exact w.elim
  | some xs =>
    rw [eo] at w
    have ho := ownAt_eq eo
    obtain ⟨v, hvi, r⟩ := S.val i _ ho
    cases r with
    | rep r => cases r
    | @own _ vs a q o n nb r =>
      refine ⟨_, hvi, .inl ⟨rfl, _, .inl (.inl q)⟩, g, ρ, b, hP, S, (wpS_bind (R1 := RepT g) w B).imp fun v H1 ⟨d, b1, e1, B1, r1, w1⟩ => ?_⟩
      obtain ⟨rd, w2⟩ := chk_repS r1 w1
      obtain ⟨hl, w3⟩ := wp_iteS (c := xs.length < 100000) (m := pure (.nx (ρ.set i (some (.own (xs ++ [d])))))) w2
      have q1 := e1 a _ nb q
      have S1 := S.mono e1 B1
      have r' := r.mono S.box.bxl e1
      obtain ⟨t, S2, B2⟩ := S1.write (B.at e1) ho hvi q1 o n nb (r'.append (.cons rd .nil))
      refine ⟨a, vs, v, rfl, rfl, q1, by rw [← r.length]; exact szlt hl, ?_⟩
      exact w3 g.O σ _ ((Tr.ex e1 S.bo).trans t) S2 B2⟩
end
end Pu

set_option Elab.async false
set_option linter.all false
set_option maxRecDepth 100000
set_option maxHeartbeats 4000000
/-! The pure layer, part F: items stored, targets, what is walked, loops -/
namespace Pu
open PySem L2
section
variable {X : Cx} {P : Px} {s : Stmt} {rest : List Stmt} {e a b c : Expr} {es : List Expr} {pos pos' : Pos} {f fa fb : DEnv → M D} {t : DEnv → M Bool} {fs : DEnv → M (List D)} {u k : DEnv → M Out}

/-! ### x[i] = e -/
def putBx (i : Int) (v : Int) : M Unit := fun b => match ixN b.length i with
  | some j => .ok () (b.set j v)
  | none => .stk
/-- x[j] = d: of a list that x owns, or of the box -/
def putD (x : Nat) (ρ : DEnv) (dx d : D) (j : D) : M Out := match j with
  | .int k => match dx with
    | .own xs => match ixN xs.length k with
      | some m => pure (.nx (ρ.set x (some (.own (xs.set m d)))))
      | none => stuck
    | .box => match d with
      | .int v => putBx k v >>= fun _ => pure (.nx ρ)
      | _ => stuck
    | _ => stuck
  | _ => stuck
def sPut (x : Nat) (f g : DEnv → M D) : DEnv → M Out := fun ρ => match ρ[x]? with
  | some (some dx) => f ρ >>= fun d => chk d >>= fun d => g ρ >>= fun j => putD x ρ dx d j
  | _ => stuck
theorem ss_put (i : Nat) {x : Str} {p1 p2 : Pos} (hN : X.N[i]? = some x) (he : SE X P e fa) (hj : SE X P b fb) (hv : Vis X.env.scope x := by first | exact Or.inl rfl | exact Or.inr (Or.inl rfl) | exact Or.inr (Or.inr rfl)) (hd : (x == ("__debug__" : Str)) = false := by decide) (hcd : (x == ("__classdict__" : Str)) = false := by decide)
    (hps : ∀ {t1 t2 : TE}, PE X e t1 → PE X b t2 → PS X (.Assign [.Subscript (.Name x p1) b p2] e pos) (tAsg t1 (gSub (tVar i) t2 rSetL)) := by
      intro t1 t2 h1 h2
      exact ps_asg h1 (pg_sub (pv _) h2 set_list)) :
    SS X P (.Assign [.Subscript (.Name x p1) b p2] e pos) (sPut i fa fb) := ⟨fun W tk => ps_imp (hps (he.pe W tk) (hj.pe W tk)) fun E σ H h => by
  obtain ⟨g, H0, ρ, b, hP, S, B, w⟩ := h
  have w : wpS g H0 W H ((match ρ[i]? with
    | some (some dx) => fa ρ >>= fun d => chk d >>= fun d => fb ρ >>= fun j => putD i ρ dx d j
    | _ => stuck : M Out) b) E := w
  cases ei : ρ[i]? with
  | none => rw [ei] at w; exact w.elim
  | some od =>
    cases od with
    | none => rw [ei] at w; exact w.elim
    | some dx =>
      rw [ei] at w
      refine ⟨g, ρ, b, hP, S, (wpS_bind (R1 := RepT g) w B).imp fun v H1 ⟨d, b1, e1, B1, r1, w1⟩ => ?_⟩
      obtain ⟨rd, w2⟩ := chk_repS r1 w1
      have S1 := S.mono e1 B1
      obtain ⟨xv, hx, rx⟩ := S1.val i dx ei
      refine ⟨xv, hx, g, ρ, b1, hP, S1, (wpS_bind (R1 := RepT g) (wpS.at (O1 := g.O) (Tr.ex e1 S.bo) w2) (B.at e1)).imp fun j H2 ⟨dj, b2, e2, B2, r2, w3⟩ => ?_⟩
      have w3 : wpS g H0 W H1 (putD i ρ dx d dj b2) E := w3
      have S2 := S1.mono e2 B2
      have rx2 := rx.mono S1.box.bxl e2
      have rd2 := rd.mono S1.box.bxl e2
      cases dj with
      | int k =>
        have ej := int_rt r2
        subst ej
        cases dx with
        | own xs =>
          have w3 : wpS g H0 W H1 ((match ixN xs.length k with
            | some m => pure (.nx (ρ.set i (some (.own (xs.set m d)))))
            | none => stuck : M Out) b2) E := w3
          cases ek : ixN xs.length k with
          | none => rw [ek] at w3; exact w3.elim
          | some m =>
            rw [ek] at w3
            cases rx2 with
            | rep rx2 => cases rx2
            | @own _ vs a q o n nb r =>
              obtain ⟨t, S3, B3⟩ := S2.write (B.at (e1.trans e2)) ei hx q o n nb (r.set rd2 m)
              exact ⟨a, vs, k, m, rfl, rfl, q, by rw [← r.length]; exact ek, w3 g.O σ _ ((Tr.ex e2 S.bo).trans t) S3 B3⟩
        | box =>
          cases d with
          | int z =>
            have ez : v = .int z := by cases rd; rfl
            subst ez
            have w3 : wpS g H0 W H1 ((putBx k z b2).bind fun _ => pure (.nx ρ)) E := w3
            cases ek : ixN b2.length k with
            | none =>
              have e0 : putBx k z b2 = .stk := by unfold putBx; rw [ek]
              rw [e0] at w3
              exact w3.elim
            | some m =>
              have e0 : putBx k z b2 = .ok () (b2.set m z) := by unfold putBx; rw [ek]
              rw [e0] at w3
              cases rx2 with
              | rep rx2 =>
                cases rx2 with
                | @box a hb =>
                  have Bb := B2
                  unfold BoxOk at Bb
                  rw [hb] at Bb
                  obtain ⟨⟨o0, o⟩, q⟩ := Bb
                  refine ⟨a, _, k, m, rfl, rfl, q, by rw [List.length_map]; exact ek, ?_⟩
                  have el : (b2.map V.int).set m (.int z) = (b2.set m z).map V.int := by rw [List.map_set]
                  rw [el]
                  have ex : Ex1 g.bx H2 (upd H2 a (.lst ((b2.set m z).map V.int))) := fun c u nc qc => by
                    rw [upd_ne (fun y => nc (by rw [hb, y]))]
                    exact qc
                  have B3 : BoxOk g (b2.set m z) (upd H2 a (.lst ((b2.set m z).map V.int))) := by
                    unfold BoxOk
                    rw [hb]
                    exact ⟨⟨o0, o⟩, upd_same⟩
                  exact w3 g.O σ _ (Tr.ex (e2.trans ex) S.bo) (S2.mono ex B3) (B.at ((e1.trans e2).trans ex))
          | _ => exact w3.elim
        | _ => exact w3.elim
      | _ => exact w3.elim⟩

/-! ### x.extend(e), x.append(y.pop(e)) -/
def sExt (i : Nat) (f : DEnv → M D) : DEnv → M Out := fun ρ => match ownAt ρ i with
  | some xs => f ρ >>= fun d => match d with
    | .lst ys => if xs.length + ys.length < 100000 then pure (.nx (ρ.set i (some (.own (xs ++ ys))))) else stuck
    | _ => stuck
  | none => stuck
theorem ss_ext (i : Nat) {x : Str} {p1 p2 p3 : Pos} (hN : X.N[i]? = some x) (he : SE X P e f) (hK : X.K = P.K := by rfl) (hv : Vis X.env.scope x := by first | exact Or.inl rfl | exact Or.inr (Or.inl rfl) | exact Or.inr (Or.inr rfl)) (hd : (x == ("__debug__" : Str)) = false := by decide) (hcd : (x == ("__classdict__" : Str)) = false := by decide)
    (hs : swapsWith (.Call (.Attribute (.Name x p1) "extend" p2) [e] [] p3) none pos.line X.env = pure false := by rfl) (he1 : starEach [e] X.env = (false, eval e X.env) :: starEach [] X.env := by rfl)
    (hpe : ∀ {te : TE}, PE X e te → PE X (.Call (.Attribute (.Name x p1) "extend" p2) [e] [] p3) (tBM X.K "list" rExtend (tVar i) (tCons te tNil)) := by
      intro te h
      exact pe_bm PySem.F.plainAttrs_list PySem.F.slot_list_extend PySem.F.type_list_extend mt_extend (pv _) (pa_cons h pa_nil)) :
    SS X P (.Expr (.Call (.Attribute (.Name x p1) "extend" p2) [e] [] p3) pos) (sExt i f) := ⟨fun W tk => ps_imp (ps_expr (hpe (he.pe W tk)) hs) fun E σ H h => by
  obtain ⟨g, H0, ρ, b, hP, S, B, w⟩ := h
  have w : wpS g H0 W H ((match ownAt ρ i with
    | some xs => f ρ >>= fun d => match d with
      | .lst ys => if xs.length + ys.length < 100000 then pure (.nx (ρ.set i (some (.own (xs ++ ys))))) else stuck
      | _ => stuck
    | none => stuck : M Out) b) E := w
  cases eo : ownAt ρ i with
  | none => rw [eo] at w; exact w.elim
  | some xs =>
    rw [eo] at w
    have ho := ownAt_eq eo
    obtain ⟨v, hvi, r⟩ := S.val i _ ho
    cases r with
    | rep r => cases r
    | @own _ vs a q o n nb r =>
      refine ⟨_, hvi, .inl ⟨rfl, _, .inl (.inl q)⟩, g, ρ, b, hP, S, (wpS_bind (R1 := RepT g) w B).imp fun v H1 ⟨d, b1, e1, B1, r1, w1⟩ => ?_⟩
      cases d with
      | lst ys =>
        obtain ⟨hl, w3⟩ := wp_iteS (c := xs.length + ys.length < 100000) (m := pure (.nx (ρ.set i (some (.own (xs ++ ys)))))) w1
        cases r1 with
        | rep r1 =>
          cases r1 with
          | @lst c _ us qc nc rc =>
            have q1 := e1 a _ nb q
            have S1 := S.mono e1 B1
            have r' := r.mono S.box.bxl e1
            obtain ⟨t, S2, B2⟩ := S1.write (B.at e1) ho hvi q1 o n nb (r'.append rc)
            refine ⟨a, c, vs, us, rfl, rfl, q1, qc, by rw [← r.length, ← rc.length]; exact szl (Nat.le_of_lt hl), ?_⟩
            exact w3 g.O σ _ ((Tr.ex e1 S.bo).trans t) S2 B2
      | _ => exact w1.elim⟩
/-- x.append(y.pop(e)) -/
def popApp (i j : Nat) (ρ : DEnv) (xs ys : List D) (d : D) : M Out := match d with
  | .int k => if -(2 ^ 63) ≤ k ∧ k < 2 ^ 63 ∧ xs.length < 100000 then match seqIndex? k ys.length with
      | some m => match ys[m]? with
        | some z => pure (.nx ((ρ.set j (some (.own (ys.eraseIdx m)))).set i (some (.own (xs ++ [z])))))
        | none => stuck
      | none => stuck
    else stuck
  | _ => stuck
def sPopApp (i j : Nat) (f : DEnv → M D) : DEnv → M Out := fun ρ => match ownAt ρ i, ownAt ρ j with
  | some xs, some ys => if i = j then stuck else f ρ >>= fun d => popApp i j ρ xs ys d
  | _, _ => stuck
theorem ss_popApp (i j : Nat) {x y : Str} {p1 p2 p3 p4 p5 p6 : Pos} (hN : X.N[i]? = some x) (hM : X.N[j]? = some y) (he : SE X P e f) (hK : X.K = P.K := by rfl) (hs : swapsWith (.Call (.Attribute (.Name x p1) "append" p2) [.Call (.Attribute (.Name y p4) "pop" p5) [e] [] p6] [] p3) none pos.line X.env = pure false := by rfl)
    (hpe : ∀ {te : TE}, PE X e te → PE X (.Call (.Attribute (.Name x p1) "append" p2) [.Call (.Attribute (.Name y p4) "pop" p5) [e] [] p6] [] p3) (tBM X.K "list" rAppend (tVar i) (tCons (tBM X.K "list" rPopAt (tVar j) (tCons te tNil)) tNil)) := by
      intro te h
      exact pe_bm PySem.F.plainAttrs_list PySem.F.slot_list_append PySem.F.type_list_append mt_append (pv _) (pa_cons (pe_bm PySem.F.plainAttrs_list PySem.F.slot_list_pop PySem.F.type_list_pop mt_popAt (pv _) (pa_cons h pa_nil)) pa_nil)) :
    SS X P (.Expr (.Call (.Attribute (.Name x p1) "append" p2) [.Call (.Attribute (.Name y p4) "pop" p5) [e] [] p6] [] p3) pos) (sPopApp i j f) := ⟨fun W tk => ps_imp (ps_expr (hpe (he.pe W tk)) hs) fun E σ H h => by
  obtain ⟨g, H0, ρ, b, hP, S, B, w⟩ := h
  unfold sPopApp at w
  cases eo : ownAt ρ i with
  | none => simp only [eo] at w; exact w.elim
  | some xs =>
    cases eo2 : ownAt ρ j with
    | none => simp only [eo, eo2] at w; exact w.elim
    | some ys =>
      simp only [eo, eo2] at w
      by_cases hij : i = j
      · rw [if_pos hij] at w; exact w.elim
      · rw [if_neg hij] at w
        have ho := ownAt_eq eo
        have ho2 := ownAt_eq eo2
        obtain ⟨v, hvi, r⟩ := S.val i _ ho
        obtain ⟨v2, hvj, r2⟩ := S.val j _ ho2
        cases r with
        | rep r => cases r
        | @own _ vs a q o n nb r =>
          cases r2 with
          | rep r2 => cases r2
          | @own _ us c q2 o2 n2 nb2 r2 =>
            have ne : a ≠ c := fun z => hij (S.sep i j _ _ a ho ho2 hvi (by rw [z]; exact hvj))
            refine ⟨_, hvi, .inl ⟨rfl, _, .inl (.inl q)⟩, _, hvj, .inl ⟨rfl, _, .inl (.inl q2)⟩, g, ρ, b, hP, S, (wpS_bind (R1 := RepT g) w B).imp fun v H1 ⟨d, b1, e1, B1, r1, w1⟩ => ?_⟩
            cases d with
            | int k =>
              have ev := int_rt r1
              subst ev
              have w1 : wpS g H0 W H ((if -(2 ^ 63) ≤ k ∧ k < 2 ^ 63 ∧ xs.length < 100000 then match seqIndex? k ys.length with
                | some m => match ys[m]? with
                  | some z => pure (.nx ((ρ.set j (some (.own (ys.eraseIdx m)))).set i (some (.own (xs ++ [z])))))
                  | none => stuck
                | none => stuck
                else stuck : M Out) b1) E := w1
              obtain ⟨⟨k1, k2, hl⟩, w2⟩ := wp_iteS w1
              cases em : seqIndex? k ys.length with
              | none => rw [em] at w2; exact w2.elim
              | some m =>
                rw [em] at w2
                cases ez : ys[m]? with
                | none => simp only [ez] at w2; exact w2.elim
                | some z =>
                  simp only [ez] at w2
                  have q2' := e1 c _ nb2 q2
                  have S1 := S.mono e1 B1
                  have r2' := r2.mono S.box.bxl e1
                  obtain ⟨zv, hz, rz⟩ := r2'.get ez
                  obtain ⟨t, S2, B2⟩ := S1.write (B.at e1) ho2 hvj q2' o2 n2 nb2 (r2'.erase m)
                  refine ⟨c, us, k, m, zv, rfl, rfl, q2', k1, k2, by rw [← r2.length]; exact em, hz, ?_⟩
                  have q1' : upd H1 c (.lst (us.eraseIdx m)) a = some (.lst vs) := by
                    rw [upd_ne ne]
                    exact e1 a _ nb q
                  have rz' := rz.write (u := us.eraseIdx m) o2 q2'
                  have ho' : (ρ.set j (some (.own (ys.eraseIdx m))))[i]? = some (some (.own xs)) := by
                    rw [List.getElem?_set_ne (Ne.symm hij)]
                    exact ho
                  have r' := (r.mono S.box.bxl e1).write (u := us.eraseIdx m) o2 q2'
                  obtain ⟨t2, S3, B3⟩ := S2.write B2 ho' hvi q1' o n nb (r'.append (.cons rz' .nil))
                  refine ⟨a, vs, zv, rfl, rfl, q1', by rw [← r.length]; exact szlt hl, ?_⟩
                  exact w2 g.O σ _ (((Tr.ex e1 S.bo).trans t).trans t2) S3 B3
            | _ => exact w1.elim⟩
end
end Pu

set_option Elab.async false
set_option linter.all false
set_option maxRecDepth 100000
set_option maxHeartbeats 4000000
/-! The pure layer, part G: targets, what is walked, loops -/
namespace Pu
open PySem L2
section
variable {X : Cx} {P : Px} {s : Stmt} {rest : List Stmt} {e a b c tg : Expr} {es : List Expr} {pos pos' : Pos} {f fa fb : DEnv → M D} {t : DEnv → M Bool} {fs : DEnv → M (List D)} {u k : DEnv → M Out}

/-! ### targets -/
/-- but for these slots the same -/
def Agr (js : List Nat) (σ σ' : St) : Prop := σ'.length = σ.length ∧ ∀ i : Nat, i ∉ js → σ'[i]? = σ[i]?
theorem Agr.refl {js : List Nat} {σ : St} : Agr js σ σ := ⟨rfl, fun _ _ => rfl⟩
theorem Agr.trans {js ks : List Nat} {σ σ1 σ2 : St} (a : Agr js σ σ1) (b : Agr ks σ1 σ2) : Agr (js ++ ks) σ σ2 :=
  ⟨b.1.trans a.1, fun i h => (b.2 i fun z => h (List.mem_append_right _ z)).trans (a.2 i fun z => h (List.mem_append_left _ z))⟩
def rP (P : Px) (js : List Nat) (k : D → DEnv → Option DEnv) : TG := fun v σ H Q => ∃ g ρ b d, g.P = P ∧ StE g ρ b σ H ∧ Rep g.P g.O g.bx H d v ∧ ∃ ρ', k d ρ = some ρ' ∧ ∀ σ', StE g ρ' b σ' H → Agr js σ σ' → Q σ' H
structure SG (X : Cx) (P : Px) (tg : Expr) (js : List Nat) (k : D → DEnv → Option DEnv) : Prop where
  pg : PG X tg (rP P js k)
def rPs (P : Px) (js : List Nat) (k : List D → DEnv → Option DEnv) : TGs := fun vs σ H Q => ∃ g ρ b ds, g.P = P ∧ StE g ρ b σ H ∧ Reps g.P g.O g.bx H ds vs ∧ ∃ ρ', k ds ρ = some ρ' ∧ ∀ σ', StE g ρ' b σ' H → Agr js σ σ' → Q σ' H
structure SGs (X : Cx) (P : Px) (ts : List Expr) (js : List Nat) (k : List D → DEnv → Option DEnv) : Prop where
  pg : PGs X ts (rPs P js k)
theorem pg_imp {t t' : TG} (h : PG X tg t) (k : ∀ v σ H Q, t' v σ H Q → t v σ H Q) : PG X tg t' := ⟨fun pins s σ H v u Q I r q => h.run pins s σ H v u Q I r (k v σ H Q q)⟩
theorem pgs_imp {ts : List Expr} {t t' : TGs} (h : PGs X ts t) (k : ∀ v σ H Q, t' v σ H Q → t v σ H Q) : PGs X ts t' := ⟨fun pins s σ H v u Q I r q => h.run pins s σ H v u Q I r (k v σ H Q q)⟩
def gVar (i : Nat) : D → DEnv → Option DEnv := fun d ρ => some (ρ.set i (some d))
def gTupD (n : Nat) (k : List D → DEnv → Option DEnv) : D → DEnv → Option DEnv := fun d ρ => match d with
  | .tup ds => if ds.length = n then k ds ρ else none
  | _ => none
def gNilD : List D → DEnv → Option DEnv := fun ds ρ => match ds with
  | [] => some ρ
  | _ => none
def gConsD (k : D → DEnv → Option DEnv) (l : List D → DEnv → Option DEnv) : List D → DEnv → Option DEnv := fun ds ρ => match ds with
  | d :: ds => match k d ρ with
    | some ρ' => l ds ρ'
    | none => none
  | [] => none
theorem sg_var (i : Nat) {x : Str} (hN : X.N.Nodup) (hi : X.N[i]? = some x := by rfl) (hx : Loc X.env.scope x := by first | exact .inl rfl | exact .inr rfl) (hf : X.fn x = true ∨ X.env.scope.names.lookup x = some .local := by first | exact .inl rfl | exact .inr rfl) : SG X P (.Name x pos) [i] (gVar i) := ⟨pg_imp (pg_name hN hi hx hf) fun v σ H Q h => by
  obtain ⟨g, ρ, b, d, hP, S, r, ρ', hk, q⟩ := h
  cases hk
  exact q _ (S.set r i) ⟨List.length_set, fun j h => List.getElem?_set_ne (fun z => h (by rw [z]; exact List.mem_singleton.mpr rfl))⟩⟩
theorem sgs_nil : SGs X P [] [] gNilD := ⟨pgs_imp pgs_nil fun v σ H Q h => by
  obtain ⟨g, ρ, b, ds, hP, S, r, ρ', hk, q⟩ := h
  cases r with
  | nil => cases hk; exact ⟨rfl, q _ S Agr.refl⟩
  | cons => cases hk⟩
theorem sgs_cons {ts : List Expr} {js ks : List Nat} {k : D → DEnv → Option DEnv} {l : List D → DEnv → Option DEnv} (h1 : SG X P tg js k) (h2 : SGs X P ts ks l) (hs : (assignEach (tg :: ts) X.env).map (·.2) = assign tg X.env :: (assignEach ts X.env).map (·.2) := by rfl) : SGs X P (tg :: ts) (js ++ ks) (gConsD k l) := ⟨pgs_imp (pgs_cons h1.pg h2.pg hs) fun v σ H Q h => by
  obtain ⟨g, ρ, b, ds, hP, S, r, ρ', hk, q⟩ := h
  cases r with
  | nil => cases hk
  | @cons d v ds vs r rs =>
    unfold gConsD at hk
    cases e1 : k d ρ with
    | none => simp only [e1] at hk; cases hk
    | some ρ1 =>
      simp only [e1] at hk
      exact ⟨v, vs, rfl, g, ρ, b, d, hP, S, r, ρ1, e1, fun σ1 S1 a1 => ⟨g, ρ1, b, ds, hP, S1, rs, ρ', hk, fun σ2 S2 a2 => q σ2 S2 (a1.trans a2)⟩⟩⟩
theorem sg_tup {ts : List Expr} {m : Nat} {js : List Nat} {k : List D → DEnv → Option DEnv} {n : Nat} (hc : X.calm = true) (h : SGs X P ts js k) (hK : X.K = P.K := by rfl) (hn : (assignEach ts X.env).length = n := by rfl) (hst : (assignEach ts X.env).findIdx? (·.1) = none := by rfl) : SG X P (.Tuple ts m pos) js (gTupD n k) := ⟨pg_imp (pg_tup hc h.pg hn hst) fun v σ H Q h => by
  obtain ⟨g, ρ, b, d, hP, S, r, ρ', hk, q⟩ := h
  unfold gTupD at hk
  cases r with
  | @tup a ds vs q1 r =>
    by_cases hl : ds.length = n
    · simp only [if_pos hl] at hk
      exact ⟨a, vs, rfl, sqt q1, by rw [← r.length]; exact hl, g, ρ, b, ds, hP, S, r, ρ', hk, q⟩
    · simp only [if_neg hl] at hk
      cases hk
  | _ => cases hk⟩
/-- target = e -/
def sAsg (k : D → DEnv → Option DEnv) (f : DEnv → M D) : DEnv → M Out := fun ρ => f ρ >>= fun d => chk d >>= fun d => match k d ρ with
  | some ρ' => pure (.nx ρ')
  | none => stuck
theorem ss_asg {js : List Nat} {k : D → DEnv → Option DEnv} (he : SE X P e f) (hg : SG X P tg js k) (hs : swapsWithSole [tg] e pos.line X.env = pure false := by rfl) (hw : swappedStores [tg] e X.env = pure none := by rfl) (h1 : (assignEach [tg] X.env).map (·.2) = [assign tg X.env] := by rfl) :
    SS X P (.Assign [tg] e pos) (sAsg k f) := ⟨fun W tk => ps_imp (ps_asg (he.pe W tk) hg.pg hs hw h1) fun E σ H h => by
  obtain ⟨g, H0, ρ, b, hP, S, B, w⟩ := h
  refine ⟨g, ρ, b, hP, S, (wpS_bind (R1 := RepT g) w B).imp fun v H1 ⟨d, b1, e1, B1, r1, w1⟩ => ?_⟩
  obtain ⟨rd, w2⟩ := chk_repS r1 w1
  cases ek : k d ρ with
  | none => simp only [ek] at w2; exact w2.elim
  | some ρ' =>
    simp only [ek] at w2
    exact ⟨g, ρ, b1, d, hP, S.mono e1 B1, rd, ρ', ek, fun σ' S' _ => w2 g.O σ' H1 (Tr.ex e1 S.bo) S' (B.at e1)⟩⟩
/-- a, b = x, y : two names -/
def sPar (i j : Nat) (f : DEnv → M (List D)) : DEnv → M Out := fun ρ => f ρ >>= fun ds => match ds with
  | [d, d'] => pure (.nx ((ρ.set i (some d)).set j (some d')))
  | _ => stuck
theorem ss_par (i j : Nat) {x y : Str} {px py pt : Pos} {kt k2 : Nat} {pt2 : Pos} (hc : X.calm = true) (hN : X.N.Nodup) (ha : SA X P [a, b] fs) (hi : X.N[i]? = some x := by rfl) (hj : X.N[j]? = some y := by rfl) (hij : i ≠ j := by decide)
    (hx : X.env.scope.names.lookup x = some .local := by rfl) (hy : X.env.scope.names.lookup y = some .local := by rfl)
    (hw : swappedStores [.Tuple [.Name x px, .Name y py] kt pt] (.Tuple [a, b] k2 pt2) X.env = pure (some [x, y]) := by rfl)
    (hs : swapsWithSole [.Tuple [.Name x px, .Name y py] kt pt] (.Tuple [a, b] k2 pt2) pos.line X.env = pure false := by rfl) :
    SS X P (.Assign [.Tuple [.Name x px, .Name y py] kt pt] (.Tuple [a, b] k2 pt2) pos) (sPar i j fs) := ⟨fun W tk => ps_imp (ps_par hc hN hi hj hij hx hy (ha.pa W tk) hw hs) fun E σ H h => by
  obtain ⟨g, H0, ρ, b, hP, S, B, w⟩ := h
  refine ⟨g, ρ, b, hP, S, (wpS_bind (R1 := RA g) w B).imp fun v H1 ⟨ds, b1, e1, B1, r1, w1⟩ => ?_⟩
  cases r1 with
  | nil => exact w1.elim
  | @cons d v1 ds vs r rs =>
    cases rs with
    | nil => exact w1.elim
    | @cons d' v2 ds vs r' rs =>
      cases rs with
      | nil => exact ⟨v1, v2, rfl, w1 g.O _ H1 (Tr.ex e1 S.bo) (((S.mono e1 B1).set r i).set r' j) (B.at e1)⟩
      | cons => exact w1.elim⟩

/-! ### what is walked -/
/-- from H1 on the iterator gives these, one by one -/
def JOk (g : Gh) (H1 : Hp) (ds : List D) (J : It) : Prop := ∀ O' H, Tr g.O H1 O' H → (∀ a, O' a → Mut (H a)) → ∀ i, (∀ d, ds[i]? = some d → J.go i H ∧ ∀ x H', J.yld i H x H' → (∀ a o, H a = some o → H' a = some o) ∧ Rep g.P O' g.bx H' d x) ∧ (ds.length ≤ i → J.stop i H)
structure SI (X : Cx) (P : Px) (tg iter : Expr) (f : DEnv → M (List D)) : Prop where
  pi : ∀ W, Takes X W → PI X tg iter (rG P W (fun g H ds J => JOk g H ds J) f)
theorem pi_imp {iter : Expr} {t t' : TI} (h : PI X tg iter t) (k : ∀ σ H Q, t' σ H Q → t σ H Q) : PI X tg iter t' := ⟨fun pins s σ H Q I q => h.run pins s σ H Q I (k σ H Q q)⟩
/-- a list or a tuple that stands (no one's own) -/
def itemsD (d : D) : M (List D) := match d with
  | .tup xs => pure xs
  | .lst xs => pure xs
  | _ => stuck
def iSeqD (f : DEnv → M D) : DEnv → M (List D) := fun ρ => f ρ >>= itemsD
def iSeqV (K : PySem.W.Frag) (tl : TE) : TI := fun σ H R => tl σ H fun x H1 => ∃ a, x = .ref a ∧ (((∃ xs, SqL K H1 a xs) ∧ R (Itl K a) H1) ∨ ((∃ xs, SqT K H1 a xs) ∧ R (Itt K a) H1))
theorem pi_seq {l : Expr} {tl : TE} (hl : PE X l tl) : PI X tg l (iSeqV X.K tl) := by
  refine ⟨fun pins s σ H R I h => ?_⟩
  refine thn (hl.run pins s σ H _ I h) fun v s1 ⟨x, H1, I1, r1, q1⟩ => ?_
  obtain ⟨a, rfl, q⟩ := q1
  cases r1
  rcases q with ⟨⟨xs, hq⟩, q⟩ | ⟨⟨xs, hq⟩, q⟩
  · obtain ⟨its, rv, p, hz⟩ := I1.list hq
    refine wpAny_pyIter_list p.isList ⟨_, [s1.heap.objs.size], _, _, H1, rfl, I1.kept (t' := s1.toks) (fun b o e => Heap.get?_push_of_some _ e), turn_list a _, ⟨_, Heap.get?_push_size _ rfl, rfl, rfl⟩, fun b hb => ?_, q⟩
    cases List.mem_singleton.mp hb
    exact I1.fpOk (Nat.le_refl _) (I1.hok.fresh (Nat.le_refl _))
  · obtain ⟨its, rv, p, hz⟩ := I1.tuple hq
    refine wpAny_pyIter_tuple (show s1.heap.IsTuple a its.toArray from p) ⟨_, [s1.heap.objs.size], _, _, H1, rfl, I1.kept (t' := s1.toks) (fun b o e => Heap.get?_push_of_some _ e), turn_tuple a _, ⟨_, Heap.get?_push_size _ rfl, rfl, rfl⟩, fun b hb => ?_, q⟩
    cases List.mem_singleton.mp hb
    exact I1.fpOk (Nat.le_refl _) (I1.hok.fresh (Nat.le_refl _))
theorem sql_uniq {K : PySem.W.Frag} {H : Hp} {a : Addr} {vs : List V} (h : H a = some (.lst vs)) {xs : List V} (q : SqL K H a xs) (nk : K.lookup a = none ∨ True) : True := trivial
theorem get_len {α : Type} {l : List α} {i : Nat} {x : α} (h : l[i]? = some x) : i < l.length := (List.getElem?_eq_some_iff.mp h).1
theorem si_seq (he : SE X P e f) (hK : X.K = P.K := by rfl) : SI X P tg e (iSeqD f) := ⟨fun W tk => pi_imp (pi_seq (he.pe W tk)) fun σ H R h => by
  obtain ⟨g, ρ, b, hP, S, w⟩ := h
  refine ⟨g, ρ, b, hP, S, (wpG.bind (R1 := RepT g) w).imp fun v H1 ⟨d, b1, e1, B1, r1, w1⟩ => ?_⟩
  have S1 := S.mono e1 B1
  subst hP
  rw [hK]
  cases r1 with
  | own => exact w1.elim
  | rep r1 =>
    cases r1 with
    | @tup a ds vs q r =>
      have q := sqt (K := g.P.K) q
      refine ⟨a, rfl, .inr ⟨⟨vs, q⟩, w1 _ H1 Ex1.refl B1 fun O' H t m i => ⟨fun d hd => ?_, fun hl => ⟨vs, sqt_tr S1.mt t q, by rw [← r.length]; exact hl⟩⟩⟩⟩
      obtain ⟨v, hv, rv⟩ := r.get hd
      exact ⟨⟨vs, v, sqt_tr S1.mt t q, hv⟩, fun x H' y => by
        obtain ⟨rfl, y⟩ := y
        have ev : vs[i]? = some x := y vs (sqt_tr S1.mt t q)
        rw [hv] at ev
        cases ev
        exact ⟨fun _ _ q => q, rv.tr S1.mt t⟩⟩
    | @lst a ds vs q n r =>
      refine ⟨a, rfl, .inl ⟨⟨vs, .inl (.inl q)⟩, w1 _ H1 Ex1.refl B1 fun O' H t m i => ⟨fun d hd => ?_, fun hl => ⟨vs, .inl (.inl (t.keep a _ n q)), by rw [← r.length]; exact hl⟩⟩⟩⟩
      obtain ⟨v, hv, rv⟩ := r.get hd
      exact ⟨⟨vs, v, .inl (.inl (t.keep a _ n q)), hv⟩, fun x H' y => by
        obtain ⟨rfl, y⟩ := y
        have ev : vs[i]? = some x := y vs (.inl (.inl (t.keep a _ n q)))
        rw [hv] at ev
        cases ev
        exact ⟨fun _ _ q => q, rv.tr S1.mt t⟩⟩
    | _ => exact w1.elim⟩
/-- range(n), range(a, b) -/
def rangeD (lo : Int) (n : Nat) : List D := (List.range n).map fun (i : Nat) => .int (lo + (i : Int))
def rng1 (ds : List D) : M (List D) := match ds with
  | [.int n] => if n.natAbs < 2 ^ 40 then pure (rangeD 0 n.toNat) else stuck
  | _ => stuck
def rng2 (ds : List D) : M (List D) := match ds with
  | [.int i, .int j] => if i.natAbs < 2 ^ 40 ∧ j.natAbs < 2 ^ 40 then pure (rangeD i (j - i).toNat) else stuck
  | _ => stuck
def iRng1D (f : DEnv → M (List D)) : DEnv → M (List D) := fun ρ => f ρ >>= rng1
def iRng2D (f : DEnv → M (List D)) : DEnv → M (List D) := fun ρ => f ρ >>= rng2
theorem jok_range {g : Gh} {H1 : Hp} {lo : Int} {n : Nat} : JOk g H1 (rangeD lo n) (Itr lo n) := fun O' H t m i => by
  unfold rangeD
  refine ⟨fun d hd => ?_, fun hl => ?_⟩
  · rw [List.getElem?_map] at hd
    cases e : (List.range n)[i]? with
    | none => rw [e] at hd; cases hd
    | some j =>
      rw [e] at hd
      have hi := get_len e
      rw [List.getElem?_range (by simpa using hi)] at e
      cases e
      cases hd
      have hi' : i < n := by simpa using hi
      exact ⟨hi', fun x H' y => by
        obtain ⟨rfl, rfl⟩ := y
        exact ⟨fun _ _ q => q, .int _⟩⟩
  · rw [List.length_map, List.length_range] at hl
    exact hl
theorem rts_ints1 {g : Gh} {H : Hp} {vs : List V} {i : Int} (r : Reps g.P g.O g.bx H [.int i] vs) : vs = [.int i] := by
  cases r with
  | cons h t => cases h; cases t; rfl
theorem rts_ints2 {g : Gh} {H : Hp} {vs : List V} {i j : Int} (r : Reps g.P g.O g.bx H [.int i, .int j] vs) : vs = [.int i, .int j] := by
  cases r with
  | cons h t =>
    cases h
    cases t with
    | cons h t => cases h; cases t; rfl
theorem si_range1 {p : Pos} (hg : Gl X "range") (hm : X.mg "range" = none) (ha : SA X P [a] fs) (hs : starEach [a] X.env = [(false, eval a X.env)] := by rfl) : SI X P tg (.Call (.Name "range" p) [a] [] pos) (iRng1D fs) := ⟨fun W tk => pi_imp (pi_range1 hg hm (ha.pa W tk) hs) fun σ H R h => by
  obtain ⟨g, ρ, b, hP, S, w⟩ := h
  refine ⟨g, ρ, b, hP, S, (wpG.bind (R1 := RA g) w).imp fun vs H1 ⟨ds, b1, e1, B1, r1, w1⟩ => ?_⟩
  unfold rng1 at w1
  split at w1
  · rename_i n
    obtain ⟨hn, w2⟩ := wp_ite w1
    exact ⟨n, rts_ints1 r1, by omega, by omega, w2 _ H1 Ex1.refl B1 jok_range⟩
  · exact w1.elim⟩
theorem si_range2 {p : Pos} (hg : Gl X "range") (hm : X.mg "range" = none) (ha : SA X P [a, b] fs) (hs : starEach [a, b] X.env = [(false, eval a X.env), (false, eval b X.env)] := by rfl) (hs2 : starEach [b] X.env = [(false, eval b X.env)] := by rfl) : SI X P tg (.Call (.Name "range" p) [a, b] [] pos) (iRng2D fs) := ⟨fun W tk => pi_imp (pi_range2 hg hm (ha.pa W tk) hs hs2) fun σ H R h => by
  obtain ⟨g, ρ, b, hP, S, w⟩ := h
  refine ⟨g, ρ, b, hP, S, (wpG.bind (R1 := RA g) w).imp fun vs H1 ⟨ds, b1, e1, B1, r1, w1⟩ => ?_⟩
  unfold rng2 at w1
  split at w1
  · rename_i i j
    obtain ⟨hn, w2⟩ := wp_ite w1
    exact ⟨i, j, rts_ints2 r1, ⟨by omega, by omega, by omega, by omega⟩, w2 _ H1 Ex1.refl B1 jok_range⟩
  · exact w1.elim⟩
/-- zip of two lists, of two tuples -/
def zipD : List D → List D → List D
  | x :: xs, y :: ys => .tup [x, y] :: zipD xs ys
  | _, _ => []
def zip2 (ds : List D) : M (List D) := match ds with
  | [.tup xs, .tup ys] => pure (zipD xs ys)
  | [.lst xs, .lst ys] => pure (zipD xs ys)
  | _ => stuck
def iZipD (f : DEnv → M (List D)) : DEnv → M (List D) := fun ρ => f ρ >>= zip2
theorem zip_get : ∀ {xs ys : List D} {i : Nat} {d : D}, (zipD xs ys)[i]? = some d → ∃ x y, d = .tup [x, y] ∧ xs[i]? = some x ∧ ys[i]? = some y
  | x :: xs, y :: ys, 0, d, h => by
    have h : D.tup [x, y] = d := Option.some.inj h
    exact ⟨x, y, h.symm, rfl, rfl⟩
  | x :: xs, y :: ys, i + 1, d, h => by
    obtain ⟨x', y', e, h1, h2⟩ := zip_get (xs := xs) (ys := ys) (i := i) (by simpa [zipD] using h)
    exact ⟨x', y', e, by simpa using h1, by simpa using h2⟩
  | [], _, i, d, h => by simp [zipD] at h
  | _ :: _, [], i, d, h => by simp [zipD] at h
theorem zip_len : ∀ {xs ys : List D} {i : Nat}, (zipD xs ys).length ≤ i → xs.length ≤ i ∨ ys.length ≤ i
  | [], _, i, _ => .inl (Nat.zero_le _)
  | _ :: _, [], i, _ => .inr (Nat.zero_le _)
  | x :: xs, y :: ys, 0, h => absurd h (by simp [zipD])
  | x :: xs, y :: ys, i + 1, h => by
    rcases zip_len (xs := xs) (ys := ys) (i := i) (by simpa [zipD] using h) with z | z
    · exact .inl (by simpa using z)
    · exact .inr (by simpa using z)
theorem mut_no {O : Addr → Prop} {H : Hp} (m : ∀ a, O a → Mut (H a)) {p : Addr} (h : H p = none) : ¬ O p := fun z => by
  have := m p z
  rw [h] at this
  exact this
/-- a new pair of two things that stand -/
theorem rep_pair {P : Px} {O : Addr → Prop} {bx : Option Addr} {H : Hp} {T : Addr} {x y : D} {v w : V} (m : ∀ a, O a → Mut (H a)) (hT : H T = none) (rx : Rep P O bx H x v) (ry : Rep P O bx H y w) : Rep P O bx (upd H T (.tup [v, w])) (.tup [x, y]) (.ref T) := by
  have t : Tr O H O (upd H T (.tup [v, w])) := ⟨fun a o _ q => new_keep hT a o q, fun _ h => .inl h⟩
  exact .tup upd_same (.cons (rx.tr m t) (.cons (ry.tr m t) .nil))
theorem si_zip {p tpos : Pos} {elts : List Expr} {kk : Nat} (hg : Gl X "zip") (hm : X.mg "zip" = none) (ha : SA X P [a, b] fs) (hK : X.K = P.K := by rfl) (hs : starEach [a, b] X.env = (false, eval a X.env) :: starEach [b] X.env := by rfl) (hpl : (backTo pos (starEach [b] X.env)).any (·.1) = false := by rfl) :
    SI X P (.Tuple elts kk tpos) (.Call (.Name "zip" p) [a, b] [] pos) (iZipD fs) := ⟨fun W tk => pi_imp (RZ.pi_zipA hg hm (ha.pa W tk) hs hpl) fun σ H R h => by
  obtain ⟨g, ρ, b, hP, S, w⟩ := h
  refine ⟨g, ρ, b, hP, S, (wpG.bind (R1 := RA g) w).imp fun vs H1 ⟨ds, b1, e1, B1, r1, w1⟩ => ?_⟩
  have S1 := S.mono e1 B1
  subst hP
  rw [hK]
  unfold zip2 at w1
  split at w1
  · rename_i xs ys
    cases r1 with
    | cons r1 t1 =>
      cases t1 with
      | cons r2 t2 =>
        cases t2
        cases r1 with
        | @tup a1 _ vs1 q1 r1 =>
          cases r2 with
          | @tup a2 _ vs2 q2 r2 =>
            have q1 := sqt (K := g.P.K) q1
            have q2 := sqt (K := g.P.K) q2
            refine ⟨a1, a2, vs1, vs2, rfl, .inr ⟨q1, q2, w1 _ H1 Ex1.refl B1 fun O' H t m i => ⟨fun d hd => ?_, fun hl => ⟨vs1, vs2, sqt_tr S1.mt t q1, sqt_tr S1.mt t q2, by rw [← r1.length, ← r2.length]; exact zip_len hl⟩⟩⟩⟩
            obtain ⟨x, y, rfl, hx, hy⟩ := zip_get hd
            obtain ⟨v, hv, rv⟩ := r1.get hx
            obtain ⟨v', hv', rv'⟩ := r2.get hy
            refine ⟨⟨vs1, vs2, v, v', sqt_tr S1.mt t q1, sqt_tr S1.mt t q2, hv, hv'⟩, fun z H' yy => ?_⟩
            obtain ⟨T, x', y', rfl, hT, rfl, f1, f2⟩ := yy
            have e1 := f1 vs1 (sqt_tr S1.mt t q1)
            have e2 := f2 vs2 (sqt_tr S1.mt t q2)
            rw [hv] at e1
            rw [hv'] at e2
            cases e1
            cases e2
            exact ⟨new_keep hT, rep_pair m hT (rv.tr S1.mt t) (rv'.tr S1.mt t)⟩
  · rename_i xs ys
    cases r1 with
    | cons r1 t1 =>
      cases t1 with
      | cons r2 t2 =>
        cases t2
        cases r1 with
        | @lst a1 _ vs1 q1 n1 r1 =>
          cases r2 with
          | @lst a2 _ vs2 q2 n2 r2 =>
            refine ⟨a1, a2, vs1, vs2, rfl, .inl ⟨.inl (.inl q1), .inl (.inl q2), w1 _ H1 Ex1.refl B1 fun O' H t m i => ⟨fun d hd => ?_, fun hl => ⟨vs1, vs2, .inl (.inl (t.keep _ _ n1 q1)), .inl (.inl (t.keep _ _ n2 q2)), by rw [← r1.length, ← r2.length]; exact zip_len hl⟩⟩⟩⟩
            obtain ⟨x, y, rfl, hx, hy⟩ := zip_get hd
            obtain ⟨v, hv, rv⟩ := r1.get hx
            obtain ⟨v', hv', rv'⟩ := r2.get hy
            refine ⟨⟨vs1, vs2, v, v', .inl (.inl (t.keep _ _ n1 q1)), .inl (.inl (t.keep _ _ n2 q2)), hv, hv'⟩, fun z H' yy => ?_⟩
            obtain ⟨T, x', y', rfl, hT, rfl, f1, f2⟩ := yy
            have e1 := f1 vs1 (.inl (.inl (t.keep _ _ n1 q1)))
            have e2 := f2 vs2 (.inl (.inl (t.keep _ _ n2 q2)))
            rw [hv] at e1
            rw [hv'] at e2
            cases e1
            cases e2
            exact ⟨new_keep hT, rep_pair m hT (rv.tr S1.mt t) (rv'.tr S1.mt t)⟩
  · exact w1.elim⟩

/-! ### loops -/
def forL (k : D → DEnv → Option DEnv) (body : DEnv → M Out) : List D → DEnv → M Out
  | [], ρ => pure (.nx ρ)
  | d :: ds, ρ => match k d ρ with
    | some ρ' => body ρ' >>= fun o => match o with
      | .nx ρ2 => forL k body ds ρ2
      | .ct ρ2 => forL k body ds ρ2
      | .bk ρ2 => pure (.nx ρ2)
      | .rt d => pure (.rt d)
    | none => stuck
def sFor (it : DEnv → M (List D)) (k : D → DEnv → Option DEnv) (body : DEnv → M Out) : DEnv → M Out := fun ρ => it ρ >>= fun ds => forL k body ds ρ
theorem ss_for {iter : Expr} {body : List Stmt} {js : List Nat} {k : D → DEnv → Option DEnv} (hp : PassesOwn (model X.prog X.w) X.A X.env X.xe) (hc : X.calm = true) (hi : SI X P tg iter fs) (hg : SG X P tg js k) (hb : SSs X P body u) (hs : ∀ x, foldedSetIterable iter X.env x = pure x := by intro _; rfl) :
    SS X P (.For tg iter body [] pos) (sFor fs k u) := ⟨fun W tk => ps_imp (ps_for hp hc (hi.pi W tk) hg.pg (hb.ps W tk) hs) fun E σ H h => by
  obtain ⟨g, H0, ρ, b, hP, S, B, w⟩ := h
  refine ⟨g, ρ, b, hP, S, (wpS_bind (R1 := fun H ds J => JOk g H ds J) w B).imp fun J H1 ⟨ds, b1, e1, B1, jok, w1⟩ => ?_⟩
  have S1 := S.mono e1 B1
  refine ⟨fun i m σ' H' => m = ds.length - i ∧ i ≤ ds.length ∧ ∃ O' ρ' b', StE (g.at O') ρ' b' σ' H' ∧ Base (g.at O') H0 H' ∧ Tr g.O H1 O' H' ∧ wpS (g.at O') H0 W H' (forL k u (ds.drop i) ρ' b') E,
    ⟨ds.length, rfl, Nat.zero_le _, g.O, ρ, b1, S1, B.at e1, Tr.refl, wpS.at (Tr.ex e1 S.bo) w1⟩, ?_⟩
  rintro i m σ' H' ⟨rfl, hl, O', ρ', b', S', B', t', w'⟩
  obtain ⟨j1, j2⟩ := jok O' H' t' S'.mt i
  by_cases hlt : i < ds.length
  · have hd : ds[i]? = some ds[i] := List.getElem?_eq_getElem hlt
    have ed : ds.drop i = ds[i] :: ds.drop (i + 1) := List.drop_eq_getElem_cons hlt
    obtain ⟨go, yl⟩ := j1 _ hd
    rw [ed] at w'
    refine .inr ⟨go, fun σ2 H2 => ∃ O2 ρ2 b2, StE (g.at O2) ρ2 b2 σ2 H2 ∧ Base (g.at O2) H0 H2 ∧ Tr g.O H1 O2 H2 ∧ wpS (g.at O2) H0 W H2 (forL k u (ds.drop (i + 1)) ρ2 b2) E, fun σ2 H2 n2 => ⟨ds.length - (i + 1), by omega, rfl, hlt, n2⟩, fun x H2 y => ?_⟩
    obtain ⟨keep, rx⟩ := yl x H2 y
    have e2 : Ex1 g.bx H' H2 := fun a o _ q => keep a o q
    have B2x : BoxOk (g.at O') b' H2 := S'.box.ex keep
    have S2 := S'.mono (g := g.at O') e2 B2x
    have w' : wpS (g.at O') H0 W H' ((match k ds[i] ρ' with
      | some ρ' => u ρ' >>= fun o => match o with
        | .nx ρ2 => forL k u (ds.drop (i + 1)) ρ2
        | .ct ρ2 => forL k u (ds.drop (i + 1)) ρ2
        | .bk ρ2 => pure (.nx ρ2)
        | .rt d => pure (.rt d)
      | none => stuck : M Out) b') E := w'
    cases ek : k ds[i] ρ' with
    | none => simp only [ek] at w'; exact w'.elim
    | some ρ2 =>
      simp only [ek] at w'
      have t2 : Tr O' H' O' H2 := ⟨fun a o _ q => keep a o q, fun _ h => .inl h⟩
      refine ⟨g.at O', ρ', b', _, hP, S2, rx, ρ2, ek, fun σ3 S3 _ => ⟨g.at O', H0, ρ2, b', hP, S3, B'.at e2, ?_⟩⟩
      have w2 : wpS (g.at O') H0 W H2 ((u ρ2 b').bind fun o => match o with
        | .nx ρ2 => forL k u (ds.drop (i + 1)) ρ2
        | .ct ρ2 => forL k u (ds.drop (i + 1)) ρ2
        | .bk ρ2 => pure (.nx ρ2)
        | .rt d => pure (.rt d)) E := wpS.at (g := g.at O') t2 w'
      match u ρ2 b', w2 with
      | .ok (.nx ρ4) b4, w2 => exact fun O4 σ4 H4 t4 S4 B4 => ⟨O4, ρ4, b4, S4, B4, (t'.trans t2).trans t4, wpS.at (g := g.at O') t4 w2⟩
      | .ok (.ct ρ4) b4, w2 => exact fun O4 σ4 H4 t4 S4 B4 => ⟨O4, ρ4, b4, S4, B4, (t'.trans t2).trans t4, wpS.at (g := g.at O') t4 w2⟩
      | .ok (.bk ρ4) b4, w2 => exact fun O4 σ4 H4 t4 S4 B4 => w2 O4 σ4 H4 t4 S4 B4
      | .ok (.rt d) b4, w2 => exact w2
      | .exc x b4, w2 => exact w2
  · have e : i = ds.length := by omega
    subst e
    rw [List.drop_length] at w'
    exact .inl ⟨j2 (Nat.le_refl _), w' O' σ' H' Tr.refl S' B'⟩⟩
def whileL (c : DEnv → M Bool) (body : DEnv → M Out) : Nat → DEnv → M Out
  | 0, _ => stuck
  | n + 1, ρ => c ρ >>= fun k => if k = true then body ρ >>= fun o => match o with
      | .nx ρ2 => whileL c body n ρ2
      | .ct ρ2 => whileL c body n ρ2
      | .bk ρ2 => pure (.nx ρ2)
      | .rt d => pure (.rt d)
    else pure (.nx ρ)
/-- μ: turns enough -/
def sWhile (μ : DEnv → Nat) (c : DEnv → M Bool) (body : DEnv → M Out) : DEnv → M Out := fun ρ => whileL c body (μ ρ) ρ
theorem ss_while {body : List Stmt} (μ : DEnv → Nat) (hp : PassesOwn (model X.prog X.w) X.A X.env X.xe) (hc : STt X P c t) (hb : SSs X P body u) : SS X P (.While c body [] pos) (sWhile μ t u) := ⟨fun W tk => ps_imp (ps_while hp (hc.pt W tk) (hb.ps W tk)) fun E σ H h => by
  obtain ⟨g, H0, ρ, b, hP, S, B, w⟩ := h
  refine ⟨fun n σ' H' => ∃ O' ρ' b', StE (g.at O') ρ' b' σ' H' ∧ Base (g.at O') H0 H' ∧ wpS (g.at O') H0 W H' (whileL t u n ρ' b') E, ⟨μ ρ, g.O, ρ, b, S, B, w⟩, ?_⟩
  rintro n σ' H' ⟨O', ρ', b', S', B', w'⟩
  cases n with
  | zero => exact w'.elim
  | succ n =>
    refine ⟨g.at O', ρ', b', hP, S', (wpS_bind (g := g.at O') (R1 := fun _ a v => v = a) w' B').imp fun v H2 ⟨d, b1, e1, B1, r1, w1⟩ => ?_⟩
    subst r1
    have S2 := S'.mono e1 B1
    have t1 : Tr O' H' O' H2 := Tr.ex e1 S'.bo
    cases v with
    | true =>
      refine iteT ⟨fun σ3 H3 => ∃ O3 ρ3 b3, StE (g.at O3) ρ3 b3 σ3 H3 ∧ Base (g.at O3) H0 H3 ∧ wpS (g.at O3) H0 W H3 (whileL t u n ρ3 b3) E, fun σ3 H3 h3 => ⟨n, Nat.lt_succ_self n, h3⟩, g.at O', H0, ρ', b1, hP, S2, B'.at e1, ?_⟩
      have w2 : wpS (g.at O') H0 W H2 ((u ρ' b1).bind fun o => match o with
        | .nx ρ2 => whileL t u n ρ2
        | .ct ρ2 => whileL t u n ρ2
        | .bk ρ2 => pure (.nx ρ2)
        | .rt d => pure (.rt d)) E := wpS.at (g := g.at O') t1 w1
      match u ρ' b1, w2 with
      | .ok (.nx ρ4) b4, w2 => exact fun O4 σ4 H4 t4 S4 B4 => ⟨O4, ρ4, b4, S4, B4, wpS.at (g := g.at O') t4 w2⟩
      | .ok (.ct ρ4) b4, w2 => exact fun O4 σ4 H4 t4 S4 B4 => ⟨O4, ρ4, b4, S4, B4, wpS.at (g := g.at O') t4 w2⟩
      | .ok (.bk ρ4) b4, w2 => exact fun O4 σ4 H4 t4 S4 B4 => w2 O4 σ4 H4 t4 S4 B4
      | .ok (.rt d) b4, w2 => exact w2
      | .exc x b4, w2 => exact w2
    | false => exact iteF (w1 O' σ' H2 t1 S2 (B'.at e1))⟩
end
end Pu

set_option Elab.async false
set_option linter.all false
set_option maxRecDepth 100000
set_option maxHeartbeats 4000000
/-! The pure layer, part H: comprehensions, defs, their calls, raise -/
namespace Pu
open PySem L2
/-- what raises is not told of -/
def noX {α : Type} (m : M α) : M α := fun b => match m b with
  | .ok a b => .ok a b
  | .exc _ _ => .stk
  | .stk => .stk
def wipeD (ρ : DEnv) : List Nat → DEnv
  | [] => ρ
  | v :: vs => (wipeD ρ vs).set v none
def compL (vs : List Nat) (k : D → DEnv → Option DEnv) (t : DEnv → M Bool) (f : DEnv → M D) (ρ : DEnv) : List D → M (List D)
  | [] => pure []
  | d :: ds => match k d (wipeD ρ vs) with
    | some ρ' => noX (t ρ') >>= fun c => if c = true then noX (f ρ') >>= fun y => chk y >>= fun y => compL vs k t f ρ ds >>= fun ys => pure (y :: ys)
        else compL vs k t f ρ ds
    | none => stuck
def fComp (it : DEnv → M (List D)) (vs : List Nat) (k : D → DEnv → Option DEnv) (t : DEnv → M Bool) (f : DEnv → M D) : DEnv → M (List D) := fun ρ => it ρ >>= fun ds => if ds.length < 100000 then compL vs k t f ρ ds else stuck
def tYesD : DEnv → M Bool := fun _ => pure true
section
variable {X : Cx} {P : Px} {s : Stmt} {rest : List Stmt} {e a b c tg elt iter : Expr} {es ifs : List Expr} {pos pos' : Pos} {f fa fb : DEnv → M D} {t : DEnv → M Bool} {fs : DEnv → M (List D)} {u : DEnv → M Out} {k : D → DEnv → Option DEnv}
structure STs (X : Cx) (P : Px) (ifs : List Expr) (f : DEnv → M Bool) : Prop where
  pt : ∀ W, Takes X W → PTs X ifs (rT P W f)
theorem sts_nil : STs X P [] tYesD := ⟨fun W _ => ⟨fun pins s σ H Q I h => by
  obtain ⟨g, ρ, b, hP, S, w⟩ := h
  exact pts_nil.run pins s σ H Q I (w true H Ex1.refl S.box rfl)⟩⟩
theorem sts_one (h : STt X P c t) : STs X P [c] t := ⟨fun W tk => pts_one (h.pt W tk)⟩
theorem wipe_len (ρ : DEnv) : ∀ vs : List Nat, (wipeD ρ vs).length = ρ.length
  | [] => rfl
  | v :: vs => by
    rw [wipeD, List.length_set]
    exact wipe_len ρ vs
theorem set_none {α : Type} {l : List (Option α)} {i j : Nat} {x : α} (h : (l.set i none)[j]? = some (some x)) : i ≠ j ∧ l[j]? = some (some x) := by
  rcases get_set h with ⟨_, q, _⟩ | q
  · cases q
  · exact q
theorem StE.wipe {g : Gh} {ρ : DEnv} {b : Bx} {σ : St} {H : Hp} (S : StE g ρ b σ H) : ∀ vs : List Nat, StE g (wipeD ρ vs) b (L2.wipe σ vs) H
  | [] => S
  | v :: vs => by
    have T := S.wipe vs
    refine ⟨by rw [wipeD, L2.wipe, List.length_set, List.length_set]; exact T.len, fun i d h => ?_, fun i j ds es a h1 h2 h3 h4 => ?_, T.box, T.mt⟩
    · obtain ⟨n, h⟩ := set_none h
      obtain ⟨w, e1, e2⟩ := T.val i d h
      refine ⟨w, ?_, e2⟩
      show ((L2.wipe σ vs).set v none)[i]? = _
      rw [List.getElem?_set_ne n]
      exact e1
    · obtain ⟨n1, q1⟩ := set_none h1
      obtain ⟨n2, q2⟩ := set_none h2
      have h3 : ((L2.wipe σ vs).set v none)[i]? = _ := h3
      have h4 : ((L2.wipe σ vs).set v none)[j]? = _ := h4
      rw [List.getElem?_set_ne n1] at h3
      rw [List.getElem?_set_ne n2] at h4
      exact T.sep i j ds es a q1 q2 h3 h4
theorem noX_ok {α β : Type} {g : Gh} {W : WX} {σ : St} {R : Hp → α → β → Prop} {H : Hp} {m : M α} {b : Bx} {Q : β → Hp → Prop} (h : wpG g W σ R H (noX m b) Q) (W' : WX) (σ' : St) : wpG g W' σ' R H (m b) Q := by
  unfold noX at h
  match m b, h with
  | .ok a b, h => exact h
  | .exc x b, h => exact h.elim
  | .stk, h => exact h.elim
theorem noX_bind {α β γ δ : Type} {g : Gh} {W : WX} {σ : St} {R : Hp → γ → δ → Prop} {R1 : Hp → α → β → Prop} {H : Hp} {m : M α} {k : α → M γ} {b : Bx} {Q : δ → Hp → Prop} (h : wpG g W σ R H ((noX m >>= k) b) Q) (W' : WX) (σ' : St) :
    wpG g W' σ' R1 H (m b) fun v H1 => ∃ a b, Ex1 g.bx H H1 ∧ BoxOk g b H1 ∧ R1 H1 a v ∧ wpG g W σ R H1 (k a b) Q := by
  have h' : wpG g W σ R H ((noX m b).bind k) Q := h
  unfold noX at h'
  match m b, h' with
  | .ok a b, h' => exact fun v H' e B r => ⟨a, b, e, B, r, wpG.at e h'⟩
  | .exc x b, h' => exact h'.elim
  | .stk, h' => exact h'.elim
theorem wipe_get {σ : St} : ∀ {vs : List Nat} {i : Nat}, i < σ.length → i ∈ vs → (L2.wipe σ vs)[i]? = some none
  | [], i, _, h => absurd h (by simp)
  | v :: vs, i, hi, h => by
    show ((L2.wipe σ vs).set v none)[i]? = _
    by_cases e : v = i
    · subst e
      exact List.getElem?_set_self (by rw [wipe_length]; exact hi)
    · rw [List.getElem?_set_ne e]
      exact wipe_get hi ((List.mem_cons.mp h).resolve_left fun z => e z.symm)
theorem wipe_agr {σ σ' : St} {js vs : List Nat} (a : Agr js (L2.wipe σ vs) σ') (h : ∀ j ∈ js, j ∈ vs) : L2.wipe σ' vs = L2.wipe σ vs := by
  have hl : σ'.length = σ.length := a.1.trans (wipe_length σ vs)
  apply List.ext_getElem?
  intro i
  by_cases hi : i ∈ vs
  · by_cases hlt : i < σ.length
    · rw [wipe_get (by omega) hi, wipe_get hlt hi]
    · rw [List.getElem?_eq_none (by rw [wipe_length]; omega), List.getElem?_eq_none (by rw [wipe_length]; omega)]
  · rw [wipe_out hi]
    exact a.2 i fun z => hi (h i z)
/-- one more owned list -/
theorem StE.more {g : Gh} {ρ : DEnv} {b b' : Bx} {σ : St} {H H' : Hp} {p : Addr} {vs : List V} (S : StE g ρ b σ H) (hp : H p = none) (e : Ex1 g.bx H H') (B : BoxOk g b' H') (hq : H' p = some (.lst vs)) : StE (g.at fun a => g.O a ∨ a = p) ρ b' σ H' := by
  have w : ∀ a, (g.O a ∨ a = p) → g.O a ∨ H a = none := fun a h => h.elim .inl fun z => .inr (by rw [z]; exact hp)
  have bl : BxL (fun a => g.O a ∨ a = p) g.bx H := fun a z => ⟨.inl (S.bo a z), (S.box.bxl a z).2⟩
  refine ⟨S.len, fun i d h => ?_, S.sep, ?_, fun a h => ?_⟩
  · obtain ⟨v, h1, h2⟩ := S.val i d h
    refine ⟨v, h1, ?_⟩
    cases h2 with
    | rep r => exact .rep ((r.own w).mono bl e)
    | own q o n nb r => exact .own (e _ _ nb q) (.inl o) n nb ((r.own w).mono bl e)
  · unfold BoxOk at B ⊢
    cases eb : g.bx with
    | none => rw [eb] at B; exact B
    | some a =>
      rw [eb] at B
      exact ⟨⟨B.1.1, .inl B.1.2⟩, B.2⟩
  · rcases h with h | h
    · exact (S.mono e B).mt a h
    · rw [h, hq]
      trivial
/-- what a comprehension's block may let out: nothing -/
abbrev W0 : WX := fun _ _ _ _ => False
theorem comp_body {vs js : List Nat} (hj : ∀ j ∈ js, j ∈ vs) {W : WX} {g : Gh} {ρ : DEnv} {b1 : Bx} {σ : St} {H H1 : Hp} {ds : List D} {J : It} {Q : VK} (hP : g.P = P) (S1 : StE g ρ b1 σ H1) (jok : JOk g H1 ds J) (hl : ds.length < 100000) (hf : ∀ p, H1 p = none → H p = none)
    (w1 : wpG g W σ (RF g H) H1 (compL vs k t f ρ ds b1) Q) : ∀ D, H1 D = none → ∃ W : Nat → Nat → Hp → Prop, (∃ m, W 0 m (upd H1 D (.lst []))) ∧ ∀ i m H, W i m H →
  (J.stop i H ∧ Q (.ref D) H) ∨ (J.go i H ∧ ∃ Nx : Hp → Prop, (∀ H', Nx H' → ∃ m', m' < m ∧ W (i + 1) m' H') ∧ ∀ x H', J.yld i H x H' → rP P js k x (wipe σ vs) H' fun σ2 H2 => wipe σ2 vs = wipe σ vs ∧ rT P W0 t σ2 H2 fun b H3 =>
    if b = true then rE P W0 f σ2 H3 fun y H4 => ∃ acc, H4 D = some (.lst acc) ∧ acc.length < sizeLine ∧ Nx (upd H4 D (.lst (acc ++ [y]))) else Nx H3) := by
  intro Dl hD
  have nb : g.bx ≠ some Dl := fun z => by
    obtain ⟨_, vs, q⟩ := S1.box.bxl Dl z
    rw [hD] at q; cases q
  have h0 := hf Dl hD
  refine ⟨fun i m H' => m = ds.length - i ∧ i ≤ ds.length ∧ ∃ b' done us, Ex1 g.bx H1 H' ∧ BoxOk g b' H' ∧ H' Dl = some (.lst us) ∧ Reps g.P (fun a => g.O a ∨ a = Dl) g.bx H' done us ∧ done.length ≤ i ∧
    wpG g W σ (RF g H) H1 ((compL vs k t f ρ (ds.drop i) b').bind fun ys => pure (done ++ ys)) Q,
    ⟨ds.length, rfl, Nat.zero_le _, b1, [], [], Ex1.new hD, S1.box.new hD, upd_same, .nil, Nat.le_refl _, ?_⟩, ?_⟩
  · have e0 : ((compL vs k t f ρ (ds.drop 0) b1).bind fun ys => (pure ([] ++ ys) : M (List D))) = compL vs k t f ρ ds b1 := by
      show Res.bind (compL vs k t f ρ ds b1) _ = _
      cases compL vs k t f ρ ds b1 <;> rfl
    rw [e0]
    exact w1
  rintro i m H' ⟨rfl, hi, b', done, us, ex, Bb, hq, rs, hdl, w'⟩
  have S' := S1.more hD ex Bb hq
  have t1 : Tr g.O H1 (fun a => g.O a ∨ a = Dl) H' := ⟨fun a o n q => ex a o (fun z => n (S1.bo a z)) q, fun a h => h.elim .inl fun z => .inr (by rw [z]; exact hD)⟩
  obtain ⟨j1, j2⟩ := jok _ H' t1 S'.mt i
  by_cases hlt : i < ds.length
  · have hd : ds[i]? = some ds[i] := List.getElem?_eq_getElem hlt
    have ed : ds.drop i = ds[i] :: ds.drop (i + 1) := List.drop_eq_getElem_cons hlt
    obtain ⟨go, yl⟩ := j1 _ hd
    rw [ed] at w'
    refine .inr ⟨go, fun H5 => ∃ b' done us, Ex1 g.bx H1 H5 ∧ BoxOk g b' H5 ∧ H5 Dl = some (.lst us) ∧ Reps g.P (fun a => g.O a ∨ a = Dl) g.bx H5 done us ∧ done.length ≤ i + 1 ∧
      wpG g W σ (RF g H) H1 ((compL vs k t f ρ (ds.drop (i + 1)) b').bind fun ys => pure (done ++ ys)) Q, fun H5 n5 => ⟨ds.length - (i + 1), by omega, rfl, hlt, n5⟩, fun x H2 y => ?_⟩
    obtain ⟨keep, rx⟩ := yl x H2 y
    have e2 : Ex1 g.bx H' H2 := fun a o _ q => keep a o q
    have Bb2 : BoxOk g b' H2 := Bb.ex keep
    have S2 := S1.more hD (ex.trans e2) Bb2 (keep Dl _ hq)
    have S2w := S2.wipe vs
    have w2 : wpG g W σ (RF g H) H1 (((match k ds[i] (wipeD ρ vs) with
      | some ρ' => noX (t ρ') >>= fun c => if c = true then noX (f ρ') >>= fun y => chk y >>= fun y => compL vs k t f ρ (ds.drop (i + 1)) >>= fun ys => pure (y :: ys)
          else compL vs k t f ρ (ds.drop (i + 1))
      | none => stuck : M (List D)) b').bind fun ys => pure (done ++ ys)) Q := w'
    cases ek : k ds[i] (wipeD ρ vs) with
    | none => simp only [ek] at w2; exact w2.elim
    | some ρ' =>
      simp only [ek] at w2
      refine ⟨g.at fun a => g.O a ∨ a = Dl, _, b', _, hP, S2w, rx, ρ', ek, fun σ' S3 ag => ⟨wipe_agr ag hj, g.at fun a => g.O a ∨ a = Dl, ρ', b', hP, S3, ?_⟩⟩
      -- the box as the block's ghosts have it
      have bk : ∀ {b : Bx} {H : Hp}, BoxOk (g.at fun a => g.O a ∨ a = Dl) b H → BoxOk g b H := fun {b H} h => by
        have o := S1.bo
        unfold BoxOk at h ⊢
        cases eb : g.bx with
        | none => rw [eb] at h; exact h
        | some a => rw [eb] at h o; exact ⟨⟨h.1.1, o a rfl⟩, h.2⟩
      -- what follows a value of the block
      have step : ∀ {α β γ : Type} {R1 : Hp → α → β → Prop} {m : M α} {l : α → M γ} {q : γ → M (List D)} {bb : Bx} {H3 : Hp}, wpG g W σ (RF g H) H1 (((noX m >>= l) bb).bind q) Q →
          wpG (g.at fun a => g.O a ∨ a = Dl) (fun _ _ _ _ => False) σ' R1 H3 (m bb) fun v H4 => ∃ a b, Ex1 g.bx H3 H4 ∧ BoxOk g b H4 ∧ R1 H4 a v ∧ wpG g W σ (RF g H) H1 ((l a b).bind q) Q := fun {α β γ R1 m l q bb H3} h => by
        have h' : wpG g W σ (RF g H) H1 (((noX m bb).bind l).bind q) Q := h
        unfold noX at h'
        match m bb, h' with
        | .ok a b, h' => exact fun v H' e B r => ⟨a, b, e, bk B, r, h'⟩
        | .exc x b, h' => exact h'.elim
        | .stk, h' => exact h'.elim
      refine (step (R1 := fun _ a v => v = a) w2).imp fun c H3 ⟨c', b3, e3, B3, r3, w4⟩ => ?_
      subst r3
      have hq3 : H3 Dl = some (.lst us) := e3 Dl _ nb (keep Dl _ hq)
      have rs3 := (rs.mono (H' := H2) (fun a z => ⟨.inl (S1.bo a z), (Bb.bxl a z).2⟩) e2).mono (fun a z => ⟨.inl (S1.bo a z), (Bb2.bxl a z).2⟩) e3
      cases c with
      | false => exact iteF ⟨b3, done, us, (ex.trans e2).trans e3, B3, hq3, rs3, Nat.le_succ_of_le hdl, w4⟩
      | true =>
        have B3' : BoxOk (g.at fun a => g.O a ∨ a = Dl) b3 H3 := by
          unfold BoxOk at B3 ⊢
          cases eb : g.bx with
          | none => rw [eb] at B3; exact B3
          | some a => rw [eb] at B3; exact ⟨⟨B3.1.1, .inl B3.1.2⟩, B3.2⟩
        have S4 := S3.mono (g := g.at fun a => g.O a ∨ a = Dl) e3 B3'
        refine iteT ⟨g.at fun a => g.O a ∨ a = Dl, ρ', b3, hP, S4, (step (R1 := RepT (g.at fun a => g.O a ∨ a = Dl)) w4).imp fun yv H4 ⟨yd, b4, e4, B4, r4, w5⟩ => ?_⟩
        have hq4 : H4 Dl = some (.lst us) := e4 Dl _ nb hq3
        have rs4 := rs3.mono (fun a z => ⟨.inl (S1.bo a z), (B3.bxl a z).2⟩) e4
        have lenU : us.length < 100000 := by
          have := rs4.length
          omega
        have rd : Rep g.P (fun a => g.O a ∨ a = Dl) g.bx H4 yd yv ∧ wpG g W σ (RF g H) H1 (((compL vs k t f ρ (ds.drop (i + 1)) >>= fun ys => pure (yd :: ys)) b4).bind fun ys => pure (done ++ ys)) Q := by
          cases r4 with
          | own => exact w5.elim
          | rep r4 =>
            refine ⟨r4, ?_⟩
            cases r4 <;> exact w5
        obtain ⟨rd, w6⟩ := rd
        refine ⟨us, hq4, szlt lenU, b4, done ++ [yd], us ++ [yv], ((ex.trans e2).trans (e3.trans e4)).write hD, ?_, upd_same, (rs4.write (.inr rfl) hq4).append (.cons (rd.write (.inr rfl) hq4) .nil), by rw [List.length_append]; simpa using hdl, ?_⟩
        · unfold BoxOk at B4 ⊢
          cases eb : g.bx with
          | none => rw [eb] at B4; exact B4
          | some a =>
            rw [eb] at B4 nb
            exact ⟨B4.1, by rw [upd_ne (fun y => nb (by rw [y]))]; exact B4.2⟩
        · have em : ((compL vs k t f ρ (ds.drop (i + 1)) b4).bind fun ys => (pure (done ++ [yd] ++ ys) : M (List D))) = (((compL vs k t f ρ (ds.drop (i + 1)) >>= fun ys => pure (yd :: ys)) b4).bind fun ys => pure (done ++ ys)) := by
            show _ = Res.bind (Res.bind (compL vs k t f ρ (ds.drop (i + 1)) b4) _) _
            cases compL vs k t f ρ (ds.drop (i + 1)) b4 with
            | ok a b => show Res.ok (done ++ [yd] ++ a) b = Res.ok (done ++ (yd :: a)) b; rw [List.append_assoc]; rfl
            | exc x b => rfl
            | stk => rfl
          rw [em]
          exact w6
  · have e : i = ds.length := by omega
    subst e
    rw [List.drop_length] at w'
    have w' : wpG g W σ (RF g H) H1 ((pure (done ++ []) : M (List D)) b') Q := w'
    rw [List.append_nil] at w'
    exact .inl ⟨j2 (Nat.le_refl _), w' _ H' ex Bb ⟨Dl, us, rfl, h0, hq, rs⟩⟩
theorem comp_read {vs js : List Nat} (hj : ∀ j ∈ js, j ∈ vs) {W : WX} {σ : St} {H : Hp} {Q : VK} (h : rF P W (fComp fs vs k t f) σ H Q) :
    tLc (rG P W (fun g H ds J => JOk g H ds J) fs) (rP P js k) (rT P W0 t) (rE P W0 f) vs σ H Q := by
  obtain ⟨g, ρ, b, hP, S, w⟩ := h
  refine ⟨g, ρ, b, hP, S, (wpG.bind (R1 := fun H ds J => JOk g H ds J) w).imp fun J H1 ⟨ds, b1, e1, B1, jok, w1⟩ => ?_⟩
  obtain ⟨hl, w1⟩ := wp_ite (c := ds.length < 100000) (m := compL vs k t f ρ ds) w1
  exact comp_body hj hP (S.mono e1 B1) jok hl (fun p hp => fresh_back B1.bxl e1 hp) w1
theorem sf_comp {scope : Scope} {own : List (Str × Nat)} {js : List Nat} (hc : X.calm = true) (hN : X.N.Nodup) (hi : SI X P tg iter fs) (ok : BlkOk X.N X.env.scope scope own) (hj : ∀ j ∈ js, j ∈ own.map (·.2))
    (hg : ∀ (s : Shared) (H : Hp) (C : Addr) (cl : List (Str × Addr)) (fp : List Addr), SG (X.blk s H scope (compEnvC scope cl C X.env) fp) P tg js k)
    (ht : ∀ (s : Shared) (H : Hp) (C : Addr) (cl : List (Str × Addr)) (fp : List Addr), STs (X.blk s H scope (compEnvC scope cl C X.env) fp) P ifs t)
    (he : ∀ (s : Shared) (H : Hp) (C : Addr) (cl : List (Str × Addr)) (fp : List Addr), SE (X.blk s H scope (compEnvC scope cl C X.env) fp) P elt f) (hs : ∀ x, foldedSetIterable iter X.env x = pure x := by intro _; rfl) :
    SF X P (.ListComp elt [⟨tg, iter, ifs, 0⟩] scope pos) (fComp fs (own.map (·.2)) k t f) := ⟨fun W tk =>
  pe_imp (pe_lc hc hN (hi.pi W tk) ok (fun s H C cl fp => (hg s H C cl fp).pg) (fun s H C cl fp => (ht s H C cl fp).pt _ takes0) (fun s H C cl fp => (he s H C cl fp).pe _ takes0) hs) fun σ H Q h => comp_read hj h⟩
/-- y = [..] : shared, or y's own -/
theorem ss_setC (i : Nat) {y : Str} {py spos : Pos} {scope : Scope} {own : List (Str × Nat)} {js : List Nat} (hc : X.calm = true) (hN : X.N.Nodup) (hi : SI X P tg iter fs) (ok : BlkOk X.N X.env.scope scope own) (hj : ∀ j ∈ js, j ∈ own.map (·.2))
    (hg : ∀ (s : Shared) (H : Hp) (C : Addr) (cl : List (Str × Addr)) (fp : List Addr), SG (X.blk s H scope (compEnvC scope cl C X.env) fp) P tg js k)
    (ht : ∀ (s : Shared) (H : Hp) (C : Addr) (cl : List (Str × Addr)) (fp : List Addr), STs (X.blk s H scope (compEnvC scope cl C X.env) fp) P ifs t)
    (he : ∀ (s : Shared) (H : Hp) (C : Addr) (cl : List (Str × Addr)) (fp : List Addr), SE (X.blk s H scope (compEnvC scope cl C X.env) fp) P elt f) (hy : X.N[i]? = some y := by rfl) (hyl : X.env.scope.names.lookup y = some .local := by rfl)
    (hsw : swapsWith (.ListComp elt [⟨tg, iter, ifs, 0⟩] scope pos) (some (.Name y py)) spos.line X.env = pure true := by exact sw_true rfl rfl rfl (by decide +kernel)) (hs : ∀ x, foldedSetIterable iter X.env x = pure x := by intro _; rfl) :
    SS X P (.Assign [.Name y py] (.ListComp elt [⟨tg, iter, ifs, 0⟩] scope pos) spos) (sSet i (eF (fComp fs (own.map (·.2)) k t f))) := ⟨fun W tk =>
  ps_imp (ps_setLc hc hN hy hyl hsw (hi.pi W tk) ok (fun s H C cl fp => (hg s H C cl fp).pg) (fun s H C cl fp => (ht s H C cl fp).pt _ takes0) (fun s H C cl fp => (he s H C cl fp).pe _ takes0) hs) fun E σ H h => comp_read hj (f_read (set_read h))⟩
theorem ss_ownC (i : Nat) {y : Str} {py spos : Pos} {scope : Scope} {own : List (Str × Nat)} {js : List Nat} (hc : X.calm = true) (hN : X.N.Nodup) (hi : SI X P tg iter fs) (ok : BlkOk X.N X.env.scope scope own) (hj : ∀ j ∈ js, j ∈ own.map (·.2))
    (hg : ∀ (s : Shared) (H : Hp) (C : Addr) (cl : List (Str × Addr)) (fp : List Addr), SG (X.blk s H scope (compEnvC scope cl C X.env) fp) P tg js k)
    (ht : ∀ (s : Shared) (H : Hp) (C : Addr) (cl : List (Str × Addr)) (fp : List Addr), STs (X.blk s H scope (compEnvC scope cl C X.env) fp) P ifs t)
    (he : ∀ (s : Shared) (H : Hp) (C : Addr) (cl : List (Str × Addr)) (fp : List Addr), SE (X.blk s H scope (compEnvC scope cl C X.env) fp) P elt f) (hy : X.N[i]? = some y := by rfl) (hyl : X.env.scope.names.lookup y = some .local := by rfl)
    (hsw : swapsWith (.ListComp elt [⟨tg, iter, ifs, 0⟩] scope pos) (some (.Name y py)) spos.line X.env = pure true := by exact sw_true rfl rfl rfl (by decide +kernel)) (hs : ∀ x, foldedSetIterable iter X.env x = pure x := by intro _; rfl) :
    SS X P (.Assign [.Name y py] (.ListComp elt [⟨tg, iter, ifs, 0⟩] scope pos) spos) (sOwn i (fComp fs (own.map (·.2)) k t f)) := ⟨fun W tk =>
  ps_imp (ps_setLc hc hN hy hyl hsw (hi.pi W tk) ok (fun s H C cl fp => (hg s H C cl fp).pg) (fun s H C cl fp => (ht s H C cl fp).pt _ takes0) (fun s H C cl fp => (he s H C cl fp).pe _ takes0) hs) fun E σ H h => comp_read hj (own_read h)⟩
end
end Pu

set_option Elab.async false
set_option linter.all false
set_option maxRecDepth 100000
set_option maxHeartbeats 4000000
/-! The pure layer, part I: defs, their calls, raise -/
namespace Pu
open PySem L2
/-- what a def of the meaning Fn promises -/
def pureSp (P : Px) (Fn : List D → M D) : Sp := fun vs H Q E => ∃ (O : Addr → Prop) (bx : Option Addr) (b : Bx) (ds : List D), BoxOk ⟨P, O, O, bx⟩ b H ∧ (∀ a, O a → Mut (H a)) ∧ Reps P O bx H ds vs ∧
  wpG ⟨P, O, O, bx⟩ (fun cls dd _ H => E cls dd H) [] (fun H d v => Rep P O bx H d v) H (Fn ds b) Q
def startD (m : Nat) (ds : List D) : DEnv := ds.map some ++ List.replicate (m - ds.length) none
def endD : Out → M D
  | .rt d => pure d
  | .nx _ => pure .non
  | _ => stuck
/-- a def of n parameters, m names, and this body -/
def runD (n m : Nat) (body : DEnv → M Out) : List D → M D := fun ds => if ds.length = n then body (startD m ds) >>= endD else stuck
section
variable {X : Cx} {P : Px} {e a b c : Expr} {es : List Expr} {pos : Pos} {f : DEnv → M D} {fs : DEnv → M (List D)} {u : DEnv → M Out} {Fn : List D → M D}
def eCall (Fn : List D → M D) (fs : DEnv → M (List D)) : DEnv → M D := fun ρ => fs ρ >>= Fn
theorem call_read {W : WX} {σ : St} {H : Hp} {Q : VK} (h : rE P W (eCall Fn fs) σ H Q) : tCallS (pureSp P Fn) (WE W) (rA P W fs) σ H Q := by
  obtain ⟨g, ρ, b, hP, S, w⟩ := h
  refine ⟨g, ρ, b, hP, S, (wpG.bind (R1 := RA g) w).imp fun vs H1 ⟨ds, b1, e1, B1, r1, w1⟩ => ?_⟩
  subst hP
  have S1 := S.mono e1 B1
  have o0 : ∀ a, g.bx = some a → g.O0 a := fun a z => by
    have B := B1
    unfold BoxOk at B
    rw [z] at B
    exact B.1.1
  have up : ∀ {b : Bx} {H : Hp}, BoxOk ⟨g.P, g.O, g.O, g.bx⟩ b H → BoxOk g b H := fun {b H} B => by
    unfold BoxOk at B ⊢
    cases z : g.bx with
    | none => rw [z] at B; exact B
    | some a =>
      rw [z] at B o0
      exact ⟨⟨o0 a rfl, B.1.1⟩, B.2⟩
  refine ⟨g.O, g.bx, b1, ds, ?_, S1.mt, r1, ?_⟩
  · have B := B1
    unfold BoxOk at B ⊢
    cases z : g.bx with
    | none => rw [z] at B; exact B
    | some a =>
      rw [z] at B
      exact ⟨⟨B.1.2, B.1.2⟩, B.2⟩
  · match Fn ds b1, w1 with
    | .ok d b2, w1 => exact fun v H' e B r => w1 v H' e (up B) (.rep r)
    | .exc x b2, w1 => exact fun cls dd H' e B r => w1 cls dd H' e (up B) r
theorem se_call {k : Nat} {f0 : Addr} {fd : FuncData} {ps : List Str} {x : Str} {p : Pos} (F : FnOk X.prog X.w X.K X.mg X.base (L2.CX X.prog X.w) k f0 fd ps (pureSp P Fn)) (hr : Room k X.A) (hg : Gl X x) (hm : X.mg x = some (.ref f0)) (hk : PySem.W.keepIn X.K (.ref f0) = true) (hb : Binds X.K fd ps [])
    (ha : SA X P (e :: es) fs) (hdb : (x == ("__debug__" : Str)) = false := by decide) (he : starEach (e :: es) X.env = (false, eval e X.env) :: starEach es X.env := by rfl) (hpl : (backTo pos (starEach es X.env)).any (·.1) = false := by rfl) : SE X P (.Call (.Name x p) (e :: es) [] pos) (eCall Fn fs) :=
  ⟨fun W tk => pe_imp (pe_callS F hr hg hm hk hb (fun σ => passAt tk σ) (ha.pa W tk) hdb he hpl) fun σ H Q h => call_read h⟩

/-- a def keeps the promise of its body's meaning -/
theorem fn_ok {prog : Program} {w : World} {K : PySem.W.Frag} {mg : Str → Option Value} {base : Heap} {x qual : Str} {st : Stmt} {f0 : Addr} {fd : FuncData} {N ps : List Str} {k : Nat} (hK : P.K = K) (F : Fun K x qual st f0 fd) (S : FnScope N ps (defScope st))
    (hb : ∀ (cdv : Value) (A : Around) (outer : List Env) (s : Shared) (H : Hp) (E : XK), Room k (A.deeper (PyProof.Rows.envOfC qual (defScope st) s.heap.objs.size f0 cdv)) →
      SSs (cxOf (L2.CX prog w) prog w K mg base N qual (defScope st) f0 cdv A outer s H E) P (defBody st) u) :
    FnOk prog w K mg base (L2.CX prog w) (k + 1) f0 fd ps (pureSp P (runD ps.length N.length u)) := by
  subst hK
  have hpl : ps.length ≤ N.length := by
    have := congrArg List.length S.pre
    rw [List.length_take] at this
    omega
  refine F.okX S (fun vs H Q E h => ?_) (fun cdv A outer s H vs Q E hr h => ?_)
  · obtain ⟨O, bx, b, ds, B, m, r, w⟩ := h
    rw [← r.length]
    unfold runD at w
    by_cases hl : ds.length = ps.length
    · exact hl
    · rw [if_neg hl] at w
      exact w.elim
  · refine ⟨_, (hb cdv A outer s H E hr).ps (fun cls d _ H => E cls d H) (takes_of rfl rfl rfl rfl), ?_⟩
    obtain ⟨O, bx, b, ds, B, m, r, w⟩ := h
    unfold runD at w
    by_cases hl : ds.length = ps.length
    · rw [if_pos hl] at w
      have hv := r.length
      have at_ : ∀ (i : Nat) (d : D), (startD N.length ds)[i]? = some (some d) → ds[i]? = some d := fun i d h => by
        unfold startD at h
        by_cases hi : i < ds.length
        · rw [List.getElem?_append_left (by simpa using hi), List.getElem?_map] at h
          cases e : ds[i]? with
          | none => rw [e] at h; cases h
          | some z => rw [e] at h; cases h; rfl
        · rw [List.getElem?_append_right (by simpa using hi), List.getElem?_replicate] at h
          split at h <;> cases h
      have no : ∀ (i : Nat) (es : List D), (startD N.length ds)[i]? ≠ some (some (.own es)) := fun i es h => by
        obtain ⟨v, _, q⟩ := r.get (at_ i _ h)
        cases q
      refine ⟨⟨P, O, O, bx⟩, H, startD N.length ds, b, rfl, ⟨?_, fun i d h => ?_, fun i j es _ _ h => absurd h (no i es), B, m⟩, ⟨fun _ h => h, fun _ h => .inl h, Ex1.refl, fun a h => mut_some (m a h)⟩, ?_⟩
      · unfold L2.start startD
        rw [List.length_append, List.length_append, List.length_map, List.length_map, List.length_replicate, List.length_replicate]
        omega
      · obtain ⟨v, h1, h2⟩ := r.get (at_ i d h)
        refine ⟨v, ?_, .rep h2⟩
        have hi := get_len h1
        unfold L2.start
        rw [List.getElem?_append_left (by simpa using hi), List.getElem?_map, h1]
        rfl
      · have w : wpG ⟨P, O, O, bx⟩ (fun cls dd _ H => E cls dd H) [] (fun H d v => Rep P O bx H d v) H ((u (startD N.length ds) b).bind endD) Q := w
        match u (startD N.length ds) b, w with
        | .ok (.nx ρ) b', w => exact fun O' σ' H' t S' B' => w .non H' B'.ex (S'.box.base B') .non
        | .ok (.rt d) b', w => exact fun v H' e B r => w v H' e B r
        | .exc x b', w => exact fun cls dd σ' H' e B r => w cls dd H' e B r
    · rw [if_neg hl] at w
      exact w.elim

/-! ### raise X() -/
theorem pmk_own0 {C : Addr} {bmB : List Value} {B newId initId : String} {x : Str} {p : Pos} (F : ExcBaseFacts B newId initId bmB) (q : PySem.W.excIn X.K C bmB newId = true) (gC : X.mg x = some (.ref C)) (kC : PySem.W.keepIn X.K (.ref C) = true) (r : Raises X (.ref C)) (hg : Gl X x)
    (hdb : (x == ("__debug__" : Str)) = false := by decide) : PMk X (.Call (.Name x p) [] [] pos) (fun _ H Q => Q (.ref C) none H) := by
  intro pins s σ H Q I h
  refine wpAny_Call_Name_kw (ld_glob I hg gC (PySem.W.callWith_K0 I.kIn kC ?_) hdb)
  obtain ⟨bm, N, nm, qn, bs, hdct, sn, sub, ab, col, dd, k0, k1, k2, k3, k5, mN, hC, hN, hni, T⟩ := exc_obj I.kIn q
  exact wpAny_call_exc_subT F T hC hN hni (fun h' e hm => mk_of I hm r h (I.hok.gone hm.new)) (by show 0 ≤ sizeLine; exact Nat.zero_le _)
def sRaise (i : Nat) : DEnv → M Out := fun _ => raise ⟨i, none⟩
/-- what is known of an error's class without an __init__ -/
structure ErrC (K : PySem.W.Frag) (C : Addr) : Prop where
  ex : PySem.W.excIn K C [.type "ValueError", .type "Exception", .type "BaseException", .type "object"] "ValueError.__new__" = true
  kp : PySem.W.keepIn K (.ref C) = true
  sub : PySem.W.subIn K (.ref C) (.type "BaseException") = some true
  ty : PySem.W.typeIn K (.ref C) = some (.type "type")
theorem ss_raise (i : Nat) {x : Str} {p pos' : Pos} (hc : X.calm = true) (T : ErrC X.K (P.ca i)) (gC : X.mg x = some (.ref (P.ca i))) (hg : Gl X x) (hdb : (x == ("__debug__" : Str)) = false := by decide) : SS X P (.Raise (some (.Call (.Name x p) [] [] pos')) none pos) (sRaise i) :=
  ⟨fun W tk => ps_imp (ps_raise hc tk (pmk_own0 PySem.F.excBase_ValueError T.ex gC T.kp (raises_own T.sub T.ty) hg hdb)) fun E σ H h => by
    obtain ⟨g, H0, ρ, b, hP, S, B, w⟩ := h
    exact w (.ref (P.ca i)) none σ H B.ex (S.box.base B) ⟨by rw [hP], rfl⟩⟩
end
end Pu

set_option Elab.async false
set_option linter.all false
set_option maxRecDepth 100000
set_option maxHeartbeats 4000000
/-! The pure layer, part J: what has no rule, defs by their data, calls by a table -/
namespace Pu
open PySem L2
section
variable {X : Cx} {P : Px} {s : Stmt} {ss : List Stmt} {e a b c : Expr} {es : List Expr} {pos : Pos}
abbrev eStk : DEnv → M D := fun _ => stuck
abbrev fStk : DEnv → M (List D) := fun _ => stuck
abbrev tStk : DEnv → M Bool := fun _ => stuck
abbrev sStk : DEnv → M Out := fun _ => stuck
theorem se_stk : SE X P e eStk := ⟨fun W tk => ⟨fun pins s σ H Q I h => by
  obtain ⟨g, ρ, b, hP, S, w⟩ := h
  exact w.elim⟩⟩
theorem sf_stk : SF X P e fStk := ⟨fun W tk => ⟨fun pins s σ H Q I h => by
  obtain ⟨g, ρ, b, hP, S, w⟩ := h
  exact w.elim⟩⟩
theorem st_stk : STt X P e tStk := ⟨fun W tk => ⟨fun pins s σ H Q I h => by
  obtain ⟨g, ρ, b, hP, S, w⟩ := h
  exact w.elim⟩⟩
theorem ss_stk : SS X P s sStk := ⟨fun W tk => ⟨fun pins s σ H E I h => by
  obtain ⟨g, H0, ρ, b, hP, S, B, w⟩ := h
  exact w.elim⟩⟩
theorem sss_stk : SSs X P ss sStk := ⟨fun W tk => ⟨fun pins s σ H E I h => by
  obtain ⟨g, H0, ρ, b, hP, S, B, w⟩ := h
  exact w.elim⟩⟩
theorem si_stk {tg : Expr} : SI X P tg e fStk := ⟨fun W tk => ⟨fun pins s σ H Q I h => by
  obtain ⟨g, ρ, b, hP, S, w⟩ := h
  exact w.elim⟩⟩

def natOf : D → Nat
  | .int i => i.natAbs
  | _ => 0
def natAt (ρ : DEnv) (i : Nat) : Nat := match ρ[i]? with
  | some (some d) => natOf d
  | _ => 0
/-- a def that keeps the promise of Fn, called with n things -/
structure OkF (prog : Program) (w : World) (K : PySem.W.Frag) (mg : Str → Option Value) (base : Heap) (P : Px) (k i : Nat) (Fn : List D → M D) : Prop where
  ex : ∃ (fd : FuncData) (ps : List Str), FnOk prog w K mg base (L2.CX prog w) k (P.fa i) fd ps (pureSp P Fn) ∧ PySem.W.keepIn K (.ref (P.fa i)) = true ∧ Binds K fd ps []
theorem se_callF {k i : Nat} {x : Str} {p : Pos} {Fn : List D → M D} {fs : DEnv → M (List D)} (F : OkF X.prog X.w X.K X.mg X.base P k i Fn) (hr : Room k X.A) (hm : X.mg x = some (.ref (P.fa i))) (hg : Gl X x)
    (ha : SA X P (e :: es) fs) (hdb : (x == ("__debug__" : Str)) = false := by decide) (he : starEach (e :: es) X.env = (false, eval e X.env) :: starEach es X.env := by rfl) (hpl : (backTo pos (starEach es X.env)).any (·.1) = false := by rfl) : SE X P (.Call (.Name x p) (e :: es) [] pos) (eCall Fn fs) := by
  obtain ⟨fd, ps, F, kp, hb⟩ := F.ex
  exact se_call F hr hg hm kp hb ha hdb he hpl
end
section
variable {prog : Program} {w : World} {K : PySem.W.Frag} {mg : Str → Option Value} {base : Heap} {P : Px}
theorem fun_of {x qual : Str} {st : Stmt} {f : Addr} {fd : FuncData} (F : FunD K x qual (defArgs st) (defBody st) (defScope st) [] [] f fd) : Fun K x qual st f fd := by
  obtain ⟨oc, od, dV, kV, doc, pm, an, cdv, ct, osl, rfl, lk, hcd, hD, hK⟩ := F.ex
  rcases hD with ⟨_, rfl⟩ | ⟨e, _⟩
  · exact ⟨⟨oc, od, kV, doc, pm, an, cdv, ct, osl, rfl, lk, hcd⟩, F.kp⟩
  · exact absurd rfl e
/-- a def's promise from its datum -/
theorem okF_mk {x : Str} {st : Stmt} {i k : Nat} {fd : FuncData} {N ps : List Str} {u : DEnv → M Out} (hK : P.K = K) (F : FunD K x x (defArgs st) (defBody st) (defScope st) [] [] (P.fa i) fd) (S : FnScope N ps (defScope st)) (b : Binds K fd ps [])
    (hb : ∀ (cdv : Value) (A : Around) (outer : List Env) (s : Shared) (H : Hp) (E : XK), Room k (A.deeper (PyProof.Rows.envOfC x (defScope st) s.heap.objs.size (P.fa i) cdv)) →
      SSs (cxOf (L2.CX prog w) prog w K mg base N x (defScope st) (P.fa i) cdv A outer s H E) P (defBody st) u) :
    OkF prog w K mg base P (k + 1) i (runD ps.length N.length u) := ⟨fd, ps, fn_ok hK (fun_of F) S hb, F.kp, b⟩
theorem OkF.stk {k i : Nat} {Fn : List D → M D} (F : OkF prog w K mg base P k i Fn) : OkF prog w K mg base P k i (fun _ => stuck) := by
  obtain ⟨fd, ps, F, kp, b⟩ := F.ex
  refine ⟨fd, ps, F.imp fun vs H Q E h => ?_, kp, b⟩
  obtain ⟨O, bx, b, ds, _, _, _, w⟩ := h
  exact w.elim
theorem OkF.mono {j k i : Nat} {Fn : List D → M D} (F : OkF prog w K mg base P j i Fn) (h : j ≤ k) : OkF prog w K mg base P k i Fn := by
  obtain ⟨fd, ps, F, kp, b⟩ := F.ex
  exact ⟨fd, ps, F.mono h, kp, b⟩
end
end Pu

set_option Elab.async false
set_option linter.all false
set_option maxRecDepth 100000
set_option maxHeartbeats 4000000
/-! The pure layer, part K: enumerate over lists and tuples -/
namespace Pu
open PySem L2 PyProof.Rows
theorem meets_enumB {v : Value} {o : Obj} {G : Heap → Prop} (B : Begins v o G) :
    Meets (Builtin.«enumerate.__new__» ⟨[.type "enumerate", v], []⟩) (fun _ R s => G s.heap ∧ R (.ok (.ret (.ref (s.heap.push o).objs.size)))
      { s with heap := (s.heap.push o).push { cls := .type "enumerate", data := .fields #[.none, .bool false, .ref s.heap.objs.size, rawInt 0, .none, .none] } }) :=
  .of_wp fun prog w A R s h => by
    obtain ⟨hp, g, d, tk, os⟩ := s
    obtain ⟨h1, h⟩ := h
    have hsub := sub_enumerate
    have it0 : ∀ {A' : Around} {E : Value → Shared → Prop} {Q : Value → Shared → Prop}, Q (.ref hp.objs.size) ⟨hp.push o, g, d, tk, os⟩ → wpAny (model prog w) A' (pyIter v) Q E ⟨hp, g, d, tk, os⟩ :=
      fun q => B.iter prog w _ _ ⟨hp, g, d, tk, os⟩ _ h1 q
    wp_walk using it0
    refine wpAny_stack_any fun st => wpAny_pure ?_
    split
    · rename_i c _ _ _ _ _
      cases (c == Value.type "enumerate")
      all_goals
        wp_walk using it0
        exact ⟨_, rfl, h⟩
    · wp_walk using it0
      exact ⟨_, rfl, h⟩
section
variable {prog : Program} {w : World} {A : Around} {E : Value → Shared → Prop} {s : Shared}
/-- enumerate(v): its two new cells -/
theorem call_enumB {v : Value} {o : Obj} {G : Heap → Prop} {Q : Value → Shared → Prop} (B : Begins v o G) (h1 : G s.heap)
    (h : ∀ h', IsEnum h' (s.heap.objs.size + 1) s.heap.objs.size 0 .none → h'.get? s.heap.objs.size = some o →
      (∀ b u, s.heap.get? b = some u → h'.get? b = some u) → Q (.ref (s.heap.objs.size + 1)) { s with heap := h' }) :
    wpAny (model prog w) A (call (.type "enumerate") [v]) Q E s := by
  refine callType_new F.called_enumerate (by decide) (F.typeCall_enumerate_1 _) (F.newCall_enumerate_1 _) (fun obj => F.args_object_init_2 obj _) F.entry_enumerate_new (meets_enumB B) ⟨h1, ?_⟩
  have hz : (s.heap.push o).objs.size = s.heap.objs.size + 1 := Heap.size_push ..
  show _ ∧ _
  rw [hz]
  have he : IsEnum ((s.heap.push o).push { cls := .type "enumerate", data := .fields #[.none, .bool false, .ref s.heap.objs.size, rawInt 0, .none, .none] }) (s.heap.objs.size + 1) s.heap.objs.size 0 .none := by
    have q := Heap.get?_push_size (s.heap.push o) (o := { cls := .type "enumerate", data := .fields #[.none, .bool false, .ref s.heap.objs.size, rawInt 0, .none, .none] }) rfl
    rw [hz] at q
    exact q
  exact ⟨⟨_, he, rfl⟩, h _ he (Heap.get?_push_of_some _ (Heap.get?_push_size _ B.free)) fun b u x => Heap.get?_push_of_some _ (Heap.get?_push_of_some _ x)⟩
end
/-- the tuple at a, its items in new pairs -/
def ItET (K : PySem.W.Frag) (a : Addr) : It :=
  ⟨fun i H => ∃ (xs : List V) (x : V), SqT K H a xs ∧ xs[i]? = some x, fun i H v H' => ∃ T x, v = .ref T ∧ H T = none ∧ H' = upd H T (.tup [.int (i : Nat), x]) ∧ ∀ xs, SqT K H a xs → xs[i]? = some x, fun i H => ∃ xs : List V, SqT K H a xs ∧ xs.length ≤ i⟩
theorem turn_enumT {P : Program} {w : World} {K : PySem.W.Frag} {elts : List Expr} {kk : Nat} {tpos : Pos} (a e it : Addr) :
    Turn P w K (.Tuple elts kk tpos) (ItET K a) [e, it] e (fun i h => ((∃ old, IsEnum h e it ((i : Nat) : Int) old) ∧ h.IsTupleIter it a i) ∧ e ≠ it ∧ a ≠ it ∧ a ≠ e) where
  mem := by simp
  obj := fun i h st b hb => by
    obtain ⟨⟨⟨old, he⟩, ⟨o, ho, hc, hd⟩⟩, _⟩ := st
    have e' : b = e ∨ b = it := by simpa using hb
    rcases e' with z | z
    · rw [z]; exact ⟨_, he, fun v q => nomatch q⟩
    · rw [z]; exact ⟨o, ho, fun v q => by rw [hd] at q; cases q⟩
  keep := fun i h h' st k => let ⟨⟨⟨old, he⟩, hi⟩, hne⟩ := st; ⟨⟨⟨old, k e (by simp) _ he⟩, hi.at fun o q => k it (by simp) o q⟩, hne⟩
  item := by
    intro X hP hw hK hc i pins s σ H E I hf st hg
    subst hP hw hK
    obtain ⟨⟨⟨old, he⟩, hit⟩, hne, ha1, ha2⟩ := st
    obtain ⟨xs, x, hq, hx⟩ := hg
    obtain ⟨its, rv, p, hz⟩ := I.tuple hq
    obtain ⟨u, hu, ru⟩ := rv.get hx
    have hel : e < s.heap.objs.size := Heap.lt_size he
    have hil : it < s.heap.objs.size := by obtain ⟨_, q, _⟩ := hit; exact Heap.lt_size q
    have hlt : i < its.toArray.size := by
      have := (List.getElem?_eq_some_iff.mp hu).1
      simpa using this
    refine wpAny_pyNext_enum_itemC (c := (i : Int)) (i := i) (fp := [it, a]) (Draws.tuple (A := X.A.in1) (show X.A.in1.handled = none from I.ok.hd hc) it a ha1 its.toArray) he ⟨hit, p⟩ hlt hne (by simp only [List.mem_cons, List.not_mem_nil, or_false, not_or]; exact ⟨hne, Ne.symm ha2⟩) fun x' h' tk hx' ho hst' hT hsz hk => ?_
    have ex : x' = u := by
      have h2 : its[i]? = some x' := by simpa using hx'
      rw [hu] at h2
      exact (Option.some.inj h2).symm
    subst ex
    refine ⟨_, rfl, wpAny_letOwnedTupleGo_enum (s := { s with heap := h', toks := tk + 1 }) ho fun h'' he' sb => ?_⟩
    have hT2 : h''.get? s.heap.objs.size = some { cls := .type "tuple", data := .seq #[.int i tk, x'] } := (sb.2 _ (Nat.ne_of_gt hel)).trans hT
    have new : ObjOk X.prog X.w (upd H s.heap.objs.size (.tup [.int (i : Nat), x])) h'' s.heap.objs.size (.tup [.int (i : Nat), x]) :=
      ⟨by show 2 ≤ sizeLine; decide, [.int i tk, x'], .cons ⟨_, rfl⟩ (.cons ru .nil), ⟨_, hT2, rfl, _, rfl⟩⟩
    have I1 : Inv X pins σ (upd H s.heap.objs.size (.tup [.int (i : Nat), x])) { s with heap := h'', toks := tk + 1 } :=
      I.turnedNew (ch := [e, it]) (fun b ob hb q => (sb.2 b (fun z => hb (by simp [z]))).trans (hk b ob (fun z => hb (by simp [z])) (fun z => hb (by simp [z])) q)) hf (Nat.le_refl _) new
    refine ⟨.ref s.heap.objs.size, _, I1, rfl, ⟨_, x, rfl, I.hok.fresh (Nat.le_refl _), rfl, fun ys hy => by rw [I.tuple_inj hy hq]; exact hx⟩, ⟨⟨⟨x', ?_⟩, hst'.1.at fun o q => (sb.2 it (Ne.symm hne)).trans q⟩, hne, ha1, ha2⟩, fun b hb => ?_⟩
    · have e1 : ((i + 1 : Nat) : Int) = (i : Int) + 1 := by omega
      rw [e1]; exact he'
    · have hb' : b < s.heap.objs.size := by
        have e' : b = e ∨ b = it := by simpa using hb
        rcases e' with z | z
        · rw [z]; exact hel
        · rw [z]; exact hil
      rw [upd_ne (Nat.ne_of_lt hb')]
      exact (hf b hb).1
  done := by
    intro X hP hw hK hc i pins s σ H E I hf st hg
    subst hP hw hK
    obtain ⟨⟨⟨old, he⟩, hit⟩, hne, ha1, ha2⟩ := st
    obtain ⟨xs, hq, hx⟩ := hg
    obtain ⟨its, rv, p, hz⟩ := I.tuple hq
    obtain ⟨f0, f1, f2, f3, f4, f5⟩ := hf it (by simp)
    have hl := rv.length
    have hT : s.TypeIs (.ref e) "enumerate" := ⟨_, he, rfl⟩
    unfold pyNext
    refine wpAny_bind (wpAny_attempt (wpAny_callSpecial?_slot (name := Str.ofString "__next__") hT F.slot_enumerate_next
      (wpAny_call_entry F.slot_enumerate_next hT F.entry_enumerate_next ?_ (F.args_enumerate_next_1 _))))
    show wpAny _ _ (field (.ref e) 2 >>= _) _ _ _
    refine wpAny_bind (wpAny_field he rfl (x := .ref it) rfl ?_)
    refine wpAny_bind (wpAny_nextOf_tuple_end (I.ok.hd hc) hit p (by simp; omega) fun h' x he' hx' => ?_)
    obtain ⟨o, ho, hc'⟩ := hx'
    refine wpAny_bind (wpAny_isInstance (T := "StopIteration") (b := true) ⟨o, ho, hc'⟩ isSubtype_stop ?_)
    exact wpAny_pure ⟨rfl, I.turned (t' := s.toks) (fun b o hb q => he' b o hb q) f0 f1 f3 f4 f5⟩
  self := fun A i s Q E st h => let ⟨⟨⟨_, he⟩, _⟩, _⟩ := st; wpAny_pyIter_enum he h
def iEnumV (K : PySem.W.Frag) (ta : TA) : TI := fun σ H R => ta σ H fun vs H1 => ∃ a, vs = [.ref a] ∧ (((∃ xs, SqL K H1 a xs) ∧ R (Ite K a) H1) ∨ ((∃ xs, SqT K H1 a xs) ∧ R (ItET K a) H1))
theorem pi_enumV {X : Cx} {e : Expr} {ta : TA} {p pos tpos : Pos} {elts : List Expr} {kk : Nat} (hg : Gl X "enumerate") (hm : X.mg "enumerate" = none) (ha : PA X [e] ta) (hs : starEach [e] X.env = [(false, eval e X.env)] := by rfl) :
    PI X (.Tuple elts kk tpos) (.Call (.Name "enumerate" p) [e] [] pos) (iEnumV X.K ta) := by
  refine ⟨fun pins s σ H R I h => ?_⟩
  refine Call_ (ld_blt I hg hm boot_enumerate (PyProof.Rows.callWith_type1 (thn (ha.run pos pins s σ H _ I h) fun us s1 ⟨vs, H1, I1, r1, q1⟩ => ?_) hs rfl))
  obtain ⟨a, ex, q⟩ := q1
  subst ex
  cases r1 with
  | cons r rr =>
    cases rr
    cases r
    have ends : ∀ (h' : Heap), (∀ b o, s1.heap.get? b = some o → h'.get? b = some o) → ∀ b ∈ [s1.heap.objs.size + 1, s1.heap.objs.size], s1.heap.objs.size ≤ b := fun h' _ b hb => by
      have e' : b = s1.heap.objs.size + 1 ∨ b = s1.heap.objs.size := by simpa using hb
      rcases e' with z | z
      · rw [z]; exact Nat.le_add_right _ _
      · rw [z]; exact Nat.le_refl _
    rcases q with ⟨⟨xs, hq⟩, q⟩ | ⟨⟨xs, hq⟩, q⟩
    · obtain ⟨its, rv, p', hz⟩ := I1.list hq
      refine call_enumerate_list p'.isList fun h' he hit hsz hk => wpAny_pyIter_enum he ?_
      have I2 : Inv X pins σ H1 { s1 with heap := h' } := I1.kept (t' := s1.toks) hk
      refine ⟨s1.heap.objs.size + 1, [s1.heap.objs.size + 1, s1.heap.objs.size], _, _, H1, rfl, I2, turn_enum a (s1.heap.objs.size + 1) s1.heap.objs.size, ⟨⟨.none, he⟩, hit, Nat.succ_ne_self _⟩, fun b hb => ?_, q⟩
      exact I1.fpOk (ends h' hk b hb) (I1.hok.fresh (ends h' hk b hb))
    · obtain ⟨its, rv, p', hz⟩ := I1.tuple hq
      have hal : a < s1.heap.objs.size := by
        obtain ⟨o, ho, _⟩ := p'
        exact Heap.lt_size ho
      refine call_enumB (begins_tuple a its.toArray) p' fun h' he ho hk => wpAny_pyIter_enum he ?_
      have I2 : Inv X pins σ H1 { s1 with heap := h' } := I1.kept (t' := s1.toks) hk
      refine ⟨s1.heap.objs.size + 1, [s1.heap.objs.size + 1, s1.heap.objs.size], _, _, H1, rfl, I2, turn_enumT a (s1.heap.objs.size + 1) s1.heap.objs.size, ⟨⟨⟨.none, he⟩, ⟨_, ho, rfl, rfl⟩⟩, Nat.succ_ne_self _, Nat.ne_of_lt hal, Nat.ne_of_lt (Nat.lt_succ_of_lt hal)⟩, fun b hb => ?_, q⟩
      exact I1.fpOk (ends h' hk b hb) (I1.hok.fresh (ends h' hk b hb))
def enumFrom (i : Nat) : List D → List D
  | [] => []
  | d :: ds => .tup [.int (i : Int), d] :: enumFrom (i + 1) ds
def enum1 (ds : List D) : M (List D) := match ds with
  | [.tup xs] => pure (enumFrom 0 xs)
  | [.lst xs] => pure (enumFrom 0 xs)
  | _ => stuck
def iEnumD (f : DEnv → M (List D)) : DEnv → M (List D) := fun ρ => f ρ >>= enum1
theorem enum_get : ∀ {xs : List D} {k i : Nat}, (enumFrom k xs)[i]? = xs[i]?.map fun d => .tup [.int ((k + i : Nat) : Int), d]
  | [], k, i => by simp [enumFrom]
  | x :: xs, k, 0 => by simp [enumFrom]
  | x :: xs, k, i + 1 => by
    have e : k + 1 + i = k + (i + 1) := by omega
    rw [enumFrom, List.getElem?_cons_succ, List.getElem?_cons_succ, enum_get, e]
theorem enum_len : ∀ {xs : List D} {k : Nat}, (enumFrom k xs).length = xs.length
  | [], _ => rfl
  | x :: xs, k => by rw [enumFrom, List.length_cons, List.length_cons, enum_len]
section
variable {X : Cx} {P : Px} {a : Expr} {fs : DEnv → M (List D)} {pos : Pos}
theorem si_enum {p tpos : Pos} {elts : List Expr} {kk : Nat} (hg : Gl X "enumerate") (hm : X.mg "enumerate" = none) (ha : SA X P [a] fs) (hK : X.K = P.K := by rfl) (hs : starEach [a] X.env = [(false, eval a X.env)] := by rfl) :
    SI X P (.Tuple elts kk tpos) (.Call (.Name "enumerate" p) [a] [] pos) (iEnumD fs) := ⟨fun W tk => pi_imp (pi_enumV hg hm (ha.pa W tk) hs) fun σ H R h => by
  obtain ⟨g, ρ, b, hP, S, w⟩ := h
  refine ⟨g, ρ, b, hP, S, (wpG.bind (R1 := RA g) w).imp fun vs H1 ⟨ds, b1, e1, B1, r1, w1⟩ => ?_⟩
  have S1 := S.mono e1 B1
  subst hP
  rw [hK]
  unfold enum1 at w1
  split at w1
  · rename_i xs
    cases r1 with
    | cons r1 t1 =>
      cases t1
      cases r1 with
      | @tup a1 _ vs1 q1 r1 =>
        have q1 := sqt (K := g.P.K) q1
        refine ⟨a1, rfl, .inr ⟨⟨vs1, q1⟩, w1 _ H1 Ex1.refl B1 fun O' H t m i => ⟨fun d hd => ?_, fun hl => ⟨vs1, sqt_tr S1.mt t q1, by rw [← r1.length, ← enum_len (k := 0)]; exact hl⟩⟩⟩⟩
        rw [enum_get] at hd
        cases hx : xs[i]? with
        | none => rw [hx] at hd; cases hd
        | some x =>
          rw [hx] at hd
          obtain rfl := Option.some.inj hd
          obtain ⟨v, hv, rv⟩ := r1.get hx
          refine ⟨⟨vs1, v, sqt_tr S1.mt t q1, hv⟩, fun z H' yy => ?_⟩
          obtain ⟨T, x', rfl, hT, rfl, f1⟩ := yy
          have e1 := f1 vs1 (sqt_tr S1.mt t q1)
          rw [hv] at e1
          cases e1
          rw [Nat.zero_add]
          exact ⟨new_keep hT, rep_pair m hT (.int _) (rv.tr S1.mt t)⟩
  · rename_i xs
    cases r1 with
    | cons r1 t1 =>
      cases t1
      cases r1 with
      | @lst a1 _ vs1 q1 n1 r1 =>
        refine ⟨a1, rfl, .inl ⟨⟨vs1, .inl (.inl q1)⟩, w1 _ H1 Ex1.refl B1 fun O' H t m i => ⟨fun d hd => ?_, fun hl => ⟨vs1, .inl (.inl (t.keep _ _ n1 q1)), by rw [← r1.length, ← enum_len (k := 0)]; exact hl⟩⟩⟩⟩
        rw [enum_get] at hd
        cases hx : xs[i]? with
        | none => rw [hx] at hd; cases hd
        | some x =>
          rw [hx] at hd
          obtain rfl := Option.some.inj hd
          obtain ⟨v, hv, rv⟩ := r1.get hx
          refine ⟨⟨vs1, v, .inl (.inl (t.keep _ _ n1 q1)), hv⟩, fun z H' yy => ?_⟩
          obtain ⟨T, x', rfl, hT, rfl, f1⟩ := yy
          have e1 := f1 vs1 (.inl (.inl (t.keep _ _ n1 q1)))
          rw [hv] at e1
          cases e1
          rw [Nat.zero_add]
          exact ⟨new_keep hT, rep_pair m hT (.int _) (rv.tr S1.mt t)⟩
  · exact w1.elim⟩
end
end Pu

set_option Elab.async false
set_option linter.all false
set_option maxRecDepth 100000
set_option maxHeartbeats 4000000
/-! The pure layer, part L: chains, fresh lists, x += e, max, min, calls by a table -/
namespace Pu
open PySem L2
section
variable {X : Cx} {P : Px} {e a b c : Expr} {es rest : List Expr} {pos : Pos} {f fa fb fc : DEnv → M D} {t : DEnv → M Bool} {fs gs : DEnv → M (List D)}
/-! ### a < b <= c of ints -/
def eChain (o o' : D → D → M D) (fa fb fc : DEnv → M D) : DEnv → M D := fun ρ => fa ρ >>= fun x => fb ρ >>= fun y => o x y >>= fun z => boolD z >>= fun k => if k = true then fc ρ >>= fun w => o' y w else pure (.bl false)
theorem cmpI_ok {p : Int → Int → Bool} {g : Gh} {W : WX} {σ : St} {H : Hp} {x y : D} {v w : V} {b : Bx} {γ δ : Type} {R : Hp → γ → δ → Prop} {k : Bool → M γ} {Q : δ → Hp → Prop} (r1 : RepT g H x v) (r2 : RepT g H y w)
    (h : wpG g W σ R H ((cmpI p x y >>= fun z => boolD z >>= k) b) Q) : ∃ i j, v = .int i ∧ w = .int j ∧ wpG g W σ R H (k (p i j) b) Q := by
  cases x <;> cases y <;> first | exact h.elim | skip
  exact ⟨_, _, int_rt r1, int_rt r2, h⟩
theorem chain_read {p p' : Int → Int → Bool} {W : WX} {σ : St} {H : Hp} {Q : VK} (h : rE P W (eChain (cmpI p) (cmpI p') fa fb fc) σ H Q) :
    tChain (rI0 fun i j => .bl (p i j)) (rI0 fun i j => .bl (p' i j)) (rE P W fa) (rE P W fb) (rE P W fc) σ H Q := by
  obtain ⟨g, ρ, b, hP, S, w⟩ := h
  refine ⟨g, ρ, b, hP, S, (wpG.bind (R1 := RepT g) w).imp fun x H1 ⟨d, b1, e1, B1, r1, w1⟩ => ?_⟩
  have S1 := S.mono e1 B1
  refine ⟨g, ρ, b1, hP, S1, (wpG.bind (R1 := RepT g) w1).imp fun y H2 ⟨d', b2, e2, B2, r2, w2⟩ => ?_⟩
  have S2 := S1.mono e2 B2
  obtain ⟨i, j, rfl, rfl, w3⟩ := cmpI_ok (r1.mono S1.box.bxl e2) r2 w2
  refine ⟨i, j, rfl, rfl, p i j, rfl, ?_⟩
  cases hk : p i j with
  | false =>
    rw [hk] at w3
    exact iteF (wpG_ok w3 B2 (.rep (.bl _)))
  | true =>
    rw [hk] at w3
    refine iteT ⟨g, ρ, b2, hP, S2, (wpG.bind (R1 := RepT g) w3).imp fun z H3 ⟨d2, b3, e3, B3, r3, w4⟩ => ?_⟩
    have S3 := S2.mono e3 B3
    have w5 : wpG g W σ (RepT g) H3 (((cmpI p' d' d2) >>= fun z => boolD z >>= fun k => pure (D.bl k)) b3) Q := by
      have e0 : ((cmpI p' d' d2) >>= fun z => boolD z >>= fun k => (pure (D.bl k) : M D)) = cmpI p' d' d2 := by
        cases d' <;> cases d2 <;> rfl
      rw [e0]
      exact w4
    obtain ⟨i', j', e1', rfl, w6⟩ := cmpI_ok (r2.mono S2.box.bxl e3) r3 w5
    cases e1'
    exact ⟨j, j', rfl, rfl, wpG_ok w6 B3 (.rep (.bl _))⟩
theorem se_chain {op op' : CmpOp} {p p' : Int → Int → Bool} (ho : OpR X (compareOp op) (rI0 fun i j => .bl (p i j))) (ho' : OpR X (compareOp op') (rI0 fun i j => .bl (p' i j))) (ha : SE X P a fa) (hb : SE X P b fb) (hc : SE X P c fc)
    (hm : lastMarks [op, op'] [b, c] = false := by with_unfolding_all rfl) : SE X P (.Compare a [op, op'] [b, c] pos) (eChain (cmpI p) (cmpI p') fa fb fc) := ⟨fun W tk => pe_imp (pe_chain ho ho' (ha.pe W tk) (hb.pe W tk) (hc.pe W tk) hm) fun σ H Q h => chain_read h⟩
theorem st_chain {op op' : CmpOp} {p p' : Int → Int → Bool} (ho : OpR X (compareOp op) (rI0 fun i j => .bl (p i j))) (ho' : OpR X (compareOp op') (rI0 fun i j => .bl (p' i j))) (ha : SE X P a fa) (hb : SE X P b fb) (hc : SE X P c fc)
    (hm : lastMarks [op, op'] [b, c] = false := by with_unfolding_all rfl) : STt X P (.Compare a [op, op'] [b, c] pos) (tB (eChain (cmpI p) (cmpI p') fa fb fc)) := ⟨fun W tk => pt_imp (pt_chain ho ho' (ha.pe W tk) (hb.pe W tk) (hc.pe W tk) hm) fun σ H Q h => chain_read (rE_bool h)⟩

/-! ### new lists: a + b, xs * n, a or b -/
def catL (x y : D) : M (List D) := match x.lseq with
  | some xs => match y.lseq with
    | some ys => if xs.length + ys.length ≤ 100000 then pure (xs ++ ys) else stuck
    | none => stuck
  | none => stuck
def fCat (fa fb : DEnv → M D) : DEnv → M (List D) := fun ρ => fa ρ >>= fun x => fb ρ >>= fun y => catL x y
theorem sf_cat (ha : SE X P a fa) (hb : SE X P b fb) : SF X P (.BinOp a .Add b pos) (fCat fa fb) := ⟨fun W tk => pe_imp (pe_op op_cat (ha.pe W tk) (hb.pe W tk)) fun σ H Q h => by
  obtain ⟨g, ρ, b, hP, S, w⟩ := h
  refine ⟨g, ρ, b, hP, S, (wpG.bind (R1 := RepT g) w).imp fun x H1 ⟨d, b1, e1, B1, r1, w1⟩ => ?_⟩
  have S1 := S.mono e1 B1
  refine ⟨g, ρ, b1, hP, S1, (wpG.bind (R1 := RepT g) w1).imp fun y H2 ⟨d', b2, e2, B2, r2, w2⟩ => ?_⟩
  have r1' := r1.mono S1.box.bxl e2
  unfold catL at w2
  cases q1 : d.lseq with
  | none => simp only [q1] at w2; exact w2.elim
  | some xs =>
    cases q2 : d'.lseq with
    | none => simp only [q1, q2] at w2; exact w2.elim
    | some ys =>
      simp only [q1, q2] at w2
      obtain ⟨hl, w3⟩ := wp_ite (c := xs.length + ys.length ≤ 100000) (m := pure (xs ++ ys)) w2
      obtain ⟨p1, vs, rfl, h1, s1⟩ := lseq_rep r1' q1
      obtain ⟨p2, us, rfl, h2, s2⟩ := lseq_rep r2 q2
      refine ⟨p1, p2, vs, us, rfl, rfl, h1, h2, szl (by rw [← s1.length, ← s2.length]; exact hl), fun p hp => ?_⟩
      exact w3 (.ref p) _ (Ex1.new hp) (B2.new hp) (rf_new B2 (e1.trans e2) hp (s1.append s2))⟩
def repL (x y : D) : M (List D) := match x.lseq with
  | some xs => match y with
    | .int k => if -(2 ^ 63) ≤ k ∧ k < 2 ^ 63 ∧ xs.length * k.toNat ≤ 100000 then pure (List.replicate k.toNat xs).flatten else stuck
    | _ => stuck
  | none => stuck
def fRep (fa fb : DEnv → M D) : DEnv → M (List D) := fun ρ => fa ρ >>= fun x => fb ρ >>= fun y => repL x y
theorem reps_rep {P : Px} {O : Addr → Prop} {bx : Option Addr} {H : Hp} {ds : List D} {vs : List V} (r : Reps P O bx H ds vs) : ∀ n : Nat, Reps P O bx H (List.replicate n ds).flatten (List.replicate n vs).flatten
  | 0 => .nil
  | n + 1 => by
    rw [List.replicate_succ, List.replicate_succ, List.flatten_cons, List.flatten_cons]
    exact r.append (reps_rep r n)
theorem sf_rep (ha : SE X P a fa) (hb : SE X P b fb) : SF X P (.BinOp a .Mult b pos) (fRep fa fb) := ⟨fun W tk => pe_imp (pe_op op_rep (ha.pe W tk) (hb.pe W tk)) fun σ H Q h => by
  obtain ⟨g, ρ, b, hP, S, w⟩ := h
  refine ⟨g, ρ, b, hP, S, (wpG.bind (R1 := RepT g) w).imp fun x H1 ⟨d, b1, e1, B1, r1, w1⟩ => ?_⟩
  have S1 := S.mono e1 B1
  refine ⟨g, ρ, b1, hP, S1, (wpG.bind (R1 := RepT g) w1).imp fun y H2 ⟨d', b2, e2, B2, r2, w2⟩ => ?_⟩
  have r1' := r1.mono S1.box.bxl e2
  unfold repL at w2
  cases q1 : d.lseq with
  | none => simp only [q1] at w2; exact w2.elim
  | some xs =>
    cases d' with
    | int k =>
      simp only [q1] at w2
      obtain ⟨⟨k1, k2, hl⟩, w3⟩ := wp_ite (c := -(2 ^ 63) ≤ k ∧ k < 2 ^ 63 ∧ xs.length * k.toNat ≤ 100000) (m := pure (List.replicate k.toNat xs).flatten) w2
      obtain ⟨p1, vs, rfl, h1, s1⟩ := lseq_rep r1' q1
      have ey := int_rt r2
      subst ey
      refine ⟨p1, k, vs, rfl, rfl, h1, k1, k2, szl (by rw [← s1.length]; exact hl), fun p hp => ?_⟩
      exact w3 (.ref p) _ (Ex1.new hp) (B2.new hp) (rf_new B2 (e1.trans e2) hp (reps_rep s1 _))
    | _ => simp only [q1] at w2; exact w2.elim⟩
theorem wpG.rel {α β : Type} {g : Gh} {W : WX} {σ : St} {R R' : Hp → α → β → Prop} {H : Hp} {m : Res α} {Q : β → Hp → Prop} (h : wpG g W σ R H m Q) (k : ∀ a v H', R' H' a v → R H' a v) : wpG g W σ R' H m Q := by
  cases m with
  | ok a b => exact fun v H' e B r => h v H' e B (k a v H' r)
  | exc x b => exact h
  | stk => exact h
def fOr (fs gs : DEnv → M (List D)) : DEnv → M (List D) := fun ρ => fs ρ >>= fun ds => if ds.isEmpty = true then gs ρ else pure ds
theorem sf_or (ha : SF X P a fs) (hb : SF X P b gs) (hK : X.K = P.K := by rfl) : SF X P (.BoolOp .Or [a, b] pos) (fOr fs gs) := ⟨fun W tk => pe_imp (pe_orT (ha.pe W tk) (pe_one (hb.pe W tk))) fun σ H Q h => by
  obtain ⟨g, ρ, b, hP, S, w⟩ := h
  refine ⟨g, ρ, b, hP, S, (wpG.bind (R1 := RF g H) w).imp fun x H1 ⟨ds, b1, e1, B1, r1, w1⟩ => ?_⟩
  have S1 := S.mono e1 B1
  obtain ⟨p, vs, rfl, h0, h1, s1⟩ := id r1
  have emp : ds.isEmpty = vs.isEmpty := by cases s1 <;> rfl
  refine ⟨!vs.isEmpty, .inl ⟨vs, .inl (.inl h1), rfl⟩, ?_⟩
  rw [← emp]
  cases hd : ds.isEmpty with
  | false =>
    rw [hd] at w1
    exact iteT (wpG_ok w1 B1 r1)
  | true =>
    rw [hd] at w1
    refine iteF ⟨g, ρ, b1, hP, S1, wpG.rel w1 fun l v H' r => ?_⟩
    obtain ⟨q, us, hv, n0, n1, rr⟩ := r
    exact ⟨q, us, hv, fresh_back S1.box.bxl e1 n0, n1, rr⟩⟩

/-! ### x += e of ints -/
def sAug (i : Nat) (f : DEnv → M D) : DEnv → M Out := fun ρ => gtE ρ i >>= fun d => f ρ >>= fun d' => match d with
  | .int x => match d' with
    | .int y => pure (.nx (ρ.set i (some (.int (x + y)))))
    | _ => stuck
  | _ => stuck
theorem ss_aug (i : Nat) {x : Str} {xp : Pos} (hN : X.N.Nodup) (he : SE X P e f) (hi : X.N[i]? = some x := by rfl) (hx : Loc X.env.scope x := by first | exact .inl rfl | exact .inr rfl) (hf : X.fn x = true ∨ X.env.scope.names.lookup x = some .local := by first | exact .inl rfl | exact .inr rfl) :
    SS X P (.AugAssign (.Name x xp) .Add e pos) (sAug i f) := ⟨fun W tk => ps_imp (ps_aug hN hi hx (he.pe W tk) ip_add hf) fun E σ H h => by
  obtain ⟨g, H0, ρ, b, hP, S, B, w⟩ := h
  have w : wpS g H0 W H ((gtE ρ i >>= fun d => f ρ >>= fun d' => match d with
    | .int x => match d' with
      | .int y => pure (.nx (ρ.set i (some (.int (x + y)))))
      | _ => stuck
    | _ => stuck : M Out) b) E := w
  unfold gtE at w
  cases e0 : ρ[i]? with
  | none => rw [e0] at w; exact w.elim
  | some o =>
    cases o with
    | none => rw [e0] at w; exact w.elim
    | some d =>
      rw [e0] at w
      obtain ⟨v, h1, h2⟩ := S.val i d e0
      refine ⟨v, h1, g, ρ, b, hP, S, (wpS_bind (R1 := RepT g) w B).imp fun y H1 ⟨d', b1, e1, B1, r1, w1⟩ => ?_⟩
      have S1 := S.mono e1 B1
      cases d with
      | int n =>
        cases d' with
        | int m =>
          have ev := int_rt h2
          have ey := int_rt r1
          subst ev ey
          exact ⟨n, m, rfl, rfl, w1 g.O _ H1 (Tr.ex e1 S.bo) (S1.set (.int _) i) (B.at e1)⟩
        | _ => exact w1.elim
      | _ => exact w1.elim⟩

/-! ### max, min -/
def two2 (k : Int → Int → Int) : List D → M D
  | [.int i, .int j] => pure (.int (k i j))
  | _ => stuck
def maxI (i j : Int) : Int := if j > i then j else i
def minI (i j : Int) : Int := if j < i then j else i
abbrev max2D := two2 maxI
abbrev min2D := two2 minI
theorem cs_two {k : Int → Int → Int} : CallS P (fun xs H Q => ∃ i j, xs = [.int i, .int j] ∧ Q (.int (k i j)) H) (two2 k) := fun g W σ H Q vs ds b hP B T r w => by
  unfold two2 at w
  split at w
  · rename_i i j
    obtain ⟨v, u, rfl, r1, r2⟩ := two_rt r
    exact ⟨i, j, by rw [int_rt r1, int_rt r2], wpG_ok w B (.rep (.int _))⟩
  · exact w.elim
theorem se_max2 {x y : Expr} {p : Pos} (hc : X.calm = true) (hg : Gl X "max") (hm : X.mg "max" = none) (ha : SB X P [x, y] fs) (he : starEach [x, y] X.env = (false, eval x X.env) :: starEach [y] X.env := by rfl) (hpl : (backTo pos (starEach [y] X.env)).any (·.1) = false := by rfl) : SE X P (.Call (.Name "max" p) [x, y] [] pos) (eB max2D fs) :=
  se_callB (call_max2 hc) (cs_two (k := maxI)) hg hm (by decide +kernel) ha (by decide) (by decide) he hpl
theorem se_min2 {x y : Expr} {p : Pos} (hc : X.calm = true) (hg : Gl X "min") (hm : X.mg "min" = none) (ha : SB X P [x, y] fs) (he : starEach [x, y] X.env = (false, eval x X.env) :: starEach [y] X.env := by rfl) (hpl : (backTo pos (starEach [y] X.env)).any (·.1) = false := by rfl) : SE X P (.Call (.Name "min" p) [x, y] [] pos) (eB min2D fs) :=
  se_callB (call_min2 hc) (cs_two (k := minI)) hg hm (by decide +kernel) ha (by decide) (by decide) he hpl
theorem maxI_fold : ∀ (ns : List Int) (n : Int), (ns.foldl maxI n ∈ n :: ns) ∧ ∀ y ∈ n :: ns, y ≤ ns.foldl maxI n
  | [], n => by simp
  | m :: ns, n => by
    obtain ⟨h1, h2⟩ := maxI_fold ns (maxI n m)
    have c : maxI n m = n ∨ maxI n m = m := by unfold maxI; split <;> simp
    have g1 : n ≤ maxI n m := by unfold maxI; split <;> omega
    have g2 : m ≤ maxI n m := by unfold maxI; split <;> omega
    have g3 := h2 _ List.mem_cons_self
    refine ⟨?_, fun y hy => ?_⟩
    · rcases List.mem_cons.mp h1 with e | e
      · rw [List.foldl_cons, e]
        rcases c with z | z
        · rw [z]; exact List.mem_cons_self
        · rw [z]; exact List.mem_cons_of_mem _ List.mem_cons_self
      · rw [List.foldl_cons]
        exact List.mem_cons_of_mem _ (List.mem_cons_of_mem _ e)
    · rw [List.foldl_cons]
      rcases List.mem_cons.mp hy with e | hy
      · rw [e]; omega
      rcases List.mem_cons.mp hy with e | hy
      · rw [e]; omega
      · exact h2 y (List.mem_cons_of_mem _ hy)
theorem minI_fold : ∀ (ns : List Int) (n : Int), (ns.foldl minI n ∈ n :: ns) ∧ ∀ y ∈ n :: ns, ns.foldl minI n ≤ y
  | [], n => by simp
  | m :: ns, n => by
    obtain ⟨h1, h2⟩ := minI_fold ns (minI n m)
    have c : minI n m = n ∨ minI n m = m := by unfold minI; split <;> simp
    have g1 : minI n m ≤ n := by unfold minI; split <;> omega
    have g2 : minI n m ≤ m := by unfold minI; split <;> omega
    have g3 := h2 _ List.mem_cons_self
    refine ⟨?_, fun y hy => ?_⟩
    · rcases List.mem_cons.mp h1 with e | e
      · rw [List.foldl_cons, e]
        rcases c with z | z
        · rw [z]; exact List.mem_cons_self
        · rw [z]; exact List.mem_cons_of_mem _ List.mem_cons_self
      · rw [List.foldl_cons]
        exact List.mem_cons_of_mem _ (List.mem_cons_of_mem _ e)
    · rw [List.foldl_cons]
      rcases List.mem_cons.mp hy with e | hy
      · rw [e]; omega
      rcases List.mem_cons.mp hy with e | hy
      · rw [e]; omega
      · exact h2 y (List.mem_cons_of_mem _ hy)
def bestI (k : Int → Int → Int) (ns : List Int) : M D := match ns with
  | [] => stuck
  | n :: ns => pure (.int (ns.foldl k n))
abbrev maxLD := un1 (onInts (bestI maxI))
abbrev minLD := un1 (onInts (bestI minI))
theorem se_maxL {x : Expr} {p : Pos} (hc : X.calm = true) (hg : Gl X "max") (hm : X.mg "max" = none) (ha : SB X P [x] fs) (hK : X.K = P.K := by rfl) (he : starEach [x] X.env = (false, eval x X.env) :: starEach [] X.env := by rfl) : SE X P (.Call (.Name "max" p) [x] [] pos) (eB maxLD fs) :=
  se_callB (r := rMax P.K) (by rw [← hK]; exact cr_max hc) (cs_ints fun g W σ H Q a ns b hP B h w => by
    cases ns with
    | nil => exact w.elim
    | cons n ns => exact ⟨a, _, rfl, h, Nat.succ_pos _, fun m hm hb => by
      obtain ⟨h1, h2⟩ := maxI_fold ns n
      have e : m = ns.foldl maxI n := Int.le_antisymm (h2 m hm) (hb _ h1)
      rw [e]
      exact wpG_ok w B (.rep (.int _))⟩) hg hm (by decide +kernel) ha (by decide) (by decide) he
theorem se_minL {x : Expr} {p : Pos} (hc : X.calm = true) (hg : Gl X "min") (hm : X.mg "min" = none) (ha : SB X P [x] fs) (hK : X.K = P.K := by rfl) (he : starEach [x] X.env = (false, eval x X.env) :: starEach [] X.env := by rfl) : SE X P (.Call (.Name "min" p) [x] [] pos) (eB minLD fs) :=
  se_callB (r := rMin P.K) (by rw [← hK]; exact cr_min hc) (cs_ints fun g W σ H Q a ns b hP B h w => by
    cases ns with
    | nil => exact w.elim
    | cons n ns => exact ⟨a, _, rfl, h, Nat.succ_pos _, fun m hm hb => by
      obtain ⟨h1, h2⟩ := minI_fold ns n
      have e : m = ns.foldl minI n := Int.le_antisymm (hb _ h1) (h2 m hm)
      rw [e]
      exact wpG_ok w B (.rep (.int _))⟩) hg hm (by decide +kernel) ha (by decide) (by decide) he

/-! ### a call of a local name that holds a def -/
def eCallL (i : Nat) (tbl : Nat → Option (List D → M D)) (fs : DEnv → M (List D)) : DEnv → M D := fun ρ => match ρ[i]? with
  | some (some (.fn n)) => match tbl n with
    | some Fn => fs ρ >>= Fn
    | none => stuck
  | _ => stuck
theorem se_callL (i : Nat) {k : Nat} {x : Str} {p : Pos} {tbl : Nat → Option (List D → M D)} (T : ∀ n Fn, tbl n = some Fn → OkF X.prog X.w X.K X.mg X.base P k n Fn) (hr : Room k X.A) (ha : SA X P (e :: es) fs) (hN : X.N[i]? = some x := by rfl) (hv : Vis X.env.scope x := by first | exact Or.inl rfl | exact Or.inr (Or.inl rfl) | exact Or.inr (Or.inr rfl))
    (hdb : (x == ("__debug__" : Str)) = false := by decide) (hcd : (x == ("__classdict__" : Str)) = false := by decide) (he : starEach (e :: es) X.env = (false, eval e X.env) :: starEach es X.env := by rfl) (hpl : (backTo pos (starEach es X.env)).any (·.1) = false := by rfl) :
    SE X P (.Call (.Name x p) (e :: es) [] pos) (eCallL i tbl fs) := ⟨fun W tk => ⟨fun pins s σ H Q I h => by
  obtain ⟨g, ρ, b, hP, S, w⟩ := h
  have w : wpG g W σ (RepT g) H ((match ρ[i]? with
    | some (some (.fn n)) => match tbl n with
      | some Fn => fs ρ >>= Fn
      | none => stuck
    | _ => stuck : M D) b) Q := w
  cases e0 : ρ[i]? with
  | none => rw [e0] at w; exact w.elim
  | some o =>
    cases o with
    | none => rw [e0] at w; exact w.elim
    | some d =>
      rw [e0] at w
      cases d with
      | fn n =>
        have w : wpG g W σ (RepT g) H ((match tbl n with
          | some Fn => fs ρ >>= Fn
          | none => stuck : M D) b) Q := w
        cases et : tbl n with
        | none => rw [et] at w; exact w.elim
        | some Fn =>
          rw [et] at w
          obtain ⟨fd, ps, F, kp, hb⟩ := (T n Fn et).ex
          obtain ⟨v, hvv, rv⟩ := S.val i _ e0
          have ev : v = .ref (P.fa n) := by
            cases rv with
            | rep rv => cases rv; rw [hP]
          subst ev
          have z := call_read (P := P) (Fn := Fn) (fs := fs) (W := W) (σ := σ) (H := H) (Q := Q) ⟨g, ρ, b, hP, S, w⟩
          refine PySem.wpAny_Call_Name_kw (thn ((pe_var (pos := p) hN hv hdb hcd).run pins s σ H (fun v H1 => v = .ref (P.fa n) ∧ H1 = H) I ⟨.ref (P.fa n), hvv, rfl, rfl⟩) fun u s1 ⟨v, H1, I1, r1, q1⟩ => ?_)
          obtain ⟨rfl, rfl⟩ := q1
          cases r1
          refine PySem.W.callWith_K (h₀ := X.base) I.ok.mod.kin kp (thn ((ha.pa W tk).run pos pins s1 σ _ _ I1 z) fun us s2 ⟨vs, H2, I2, r, q⟩ => ⟨I2.kIn, ?_⟩) he hpl
          exact run_fnS F hr hb (passAt tk σ) I2 r q
      | _ => exact w.elim⟩⟩
end
end Pu

set_option Elab.async false
set_option linter.all false
set_option maxRecDepth 100000
set_option maxHeartbeats 4000000
/-! The pure layer, part M: comprehensions with two fors -/
namespace Pu
open PySem L2
/-- the ghosts inside a block that fills the list at p: p is no name's own -/
abbrev Gh.blk (g : Gh) (p : Addr) : Gh := { g with O := fun a => g.O a ∨ a = p, O0 := fun a => g.O0 a ∨ a = p }
section
variable {g : Gh} {ρ : DEnv} {b b' : Bx} {σ : St} {H H' : Hp} {p : Addr} {vs us : List V}
theorem box_up (B : BoxOk g b H) : BoxOk (g.blk p) b H := by
  unfold BoxOk at B ⊢
  cases eb : g.bx with
  | none => rw [eb] at B; exact B
  | some a => rw [eb] at B; exact ⟨⟨.inl B.1.1, .inl B.1.2⟩, B.2⟩
theorem box_down (B0 : BoxOk g b' H') (B : BoxOk (g.blk p) b H) : BoxOk g b H := by
  unfold BoxOk at B B0 ⊢
  cases eb : g.bx with
  | none => rw [eb] at B; exact B
  | some a => rw [eb] at B B0; exact ⟨B0.1, B.2⟩
theorem StE.moreB (S : StE g ρ b σ H) (hp : H p = none) (e : Ex1 g.bx H H') (B : BoxOk g b' H') (hq : H' p = some (.lst vs)) : StE (g.blk p) ρ b' σ H' := by
  have w : ∀ a, (g.O a ∨ a = p) → g.O a ∨ H a = none := fun a h => h.elim .inl fun z => .inr (by rw [z]; exact hp)
  have bl : BxL (fun a => g.O a ∨ a = p) g.bx H := fun a z => ⟨.inl (S.bo a z), (S.box.bxl a z).2⟩
  refine ⟨S.len, fun i d h => ?_, S.sep, box_up B, fun a h => ?_⟩
  · obtain ⟨v, h1, h2⟩ := S.val i d h
    refine ⟨v, h1, ?_⟩
    cases h2 with
    | rep r => exact .rep ((r.own w).mono bl e)
    | @own _ _ a q o n nb r => exact .own (e _ _ nb q) (.inl o) (fun z => z.elim n fun z => by rw [z, hp] at q; cases q) nb ((r.own w).mono bl e)
  · rcases h with h | h
    · exact (S.mono e B).mt a h
    · rw [h, hq]
      trivial
theorem StE.writeB {vs0 : List V} (S : StE (g.blk p) ρ b σ H) (hq : H p = some (.lst vs0)) (nb : g.bx ≠ some p) : StE (g.blk p) ρ b σ (upd H p (.lst us)) := by
  refine ⟨S.len, fun i d h => ?_, S.sep, ?_, fun a h => ?_⟩
  · obtain ⟨v, h1, h2⟩ := S.val i d h
    refine ⟨v, h1, ?_⟩
    cases h2 with
    | rep r => exact .rep (r.write (.inr rfl) hq)
    | @own _ _ a q o n nb2 r => exact .own (by rw [upd_ne (fun z => n (.inr z))]; exact q) o n nb2 (r.write (.inr rfl) hq)
  · have B := S.box
    unfold BoxOk at B ⊢
    cases eb : g.bx with
    | none =>
      have eb' : (g.blk p).bx = none := eb
      rw [eb'] at B; exact B
    | some a =>
      have eb' : (g.blk p).bx = some a := eb
      rw [eb'] at B
      exact ⟨B.1, by rw [upd_ne (fun y => nb (by rw [eb, y]))]; exact B.2⟩
  · by_cases z : a = p
    · rw [z, upd_same]
      trivial
    · rw [upd_ne z]
      exact S.mt a h
end
def compL2 (vs : List Nat) (k : D → DEnv → Option DEnv) (t : DEnv → M Bool) (fs1 : DEnv → M (List D)) (vs1 : List Nat) (k1 : D → DEnv → Option DEnv) (t1 : DEnv → M Bool) (f : DEnv → M D) (ρ : DEnv) : List D → M (List D)
  | [] => pure []
  | d :: ds => match k d (wipeD ρ vs) with
    | some ρ' => noX (t ρ') >>= fun c => if c = true then noX (fs1 ρ') >>= fun ds1 => if ds1.length < 1000 then compL vs1 k1 t1 f ρ' ds1 >>= fun ys => compL2 vs k t fs1 vs1 k1 t1 f ρ ds >>= fun zs => pure (ys ++ zs) else stuck
        else compL2 vs k t fs1 vs1 k1 t1 f ρ ds
    | none => stuck
def fComp2 (it : DEnv → M (List D)) (vs : List Nat) (k : D → DEnv → Option DEnv) (t : DEnv → M Bool) (fs1 : DEnv → M (List D)) (vs1 : List Nat) (k1 : D → DEnv → Option DEnv) (t1 : DEnv → M Bool) (f : DEnv → M D) : DEnv → M (List D) :=
  fun ρ => it ρ >>= fun ds => if ds.length < 100 then compL2 vs k t fs1 vs1 k1 t1 f ρ ds else stuck
section
variable {X : Cx} {P : Px} {e a c tg elt iter tg1 iter1 : Expr} {es ifs ifs1 : List Expr} {pos pos' : Pos} {f : DEnv → M D} {t t1 : DEnv → M Bool} {fs fs1 : DEnv → M (List D)} {u : DEnv → M Out} {k k1 : D → DEnv → Option DEnv}
theorem comp2_read {vs vs1 js js1 : List Nat} (hj : ∀ j ∈ js, j ∈ vs) (hj1 : ∀ j ∈ js1, j ∈ vs1) {W : WX} {σ : St} {H : Hp} {Q : VK} (h : rF P W (fComp2 fs vs k t fs1 vs1 k1 t1 f) σ H Q) :
    tLc2 (rG P W (fun g H ds J => JOk g H ds J) fs) (rP P js k) (rT P W0 t) (rG P W0 (fun g H ds J => JOk g H ds J) fs1) (rP P js1 k1) (rT P W0 t1) (rE P W0 f) vs vs1 σ H Q := by
  obtain ⟨g, ρ, b, hP, S, w⟩ := h
  refine ⟨g, ρ, b, hP, S, (wpG.bind (R1 := fun H ds J => JOk g H ds J) w).imp fun J H1 ⟨ds, b1, e1, B1, jok, w1⟩ => ?_⟩
  obtain ⟨hl, w1⟩ := wp_ite (c := ds.length < 100) (m := compL2 vs k t fs1 vs1 k1 t1 f ρ ds) w1
  intro Dl hD
  have S1 := S.mono e1 B1
  have nb : g.bx ≠ some Dl := fun z => by
    obtain ⟨_, vs, q⟩ := B1.bxl Dl z
    rw [hD] at q; cases q
  have h0 := fresh_back B1.bxl e1 hD
  have bxo : ∀ a, g.bx = some a → g.O a := S1.bo
  refine ⟨fun i m H' => m = ds.length - i ∧ i ≤ ds.length ∧ ∃ b' done us, Ex1 g.bx H1 H' ∧ BoxOk g b' H' ∧ H' Dl = some (.lst us) ∧ Reps g.P (fun a => g.O a ∨ a = Dl) g.bx H' done us ∧ done.length ≤ i * 1000 ∧
    wpG g W σ (RF g H) H1 ((compL2 vs k t fs1 vs1 k1 t1 f ρ (ds.drop i) b').bind fun ys => pure (done ++ ys)) Q,
    ⟨ds.length, rfl, Nat.zero_le _, b1, [], [], Ex1.new hD, B1.new hD, upd_same, .nil, Nat.zero_le _, ?_⟩, ?_⟩
  · have e0 : ((compL2 vs k t fs1 vs1 k1 t1 f ρ (ds.drop 0) b1).bind fun ys => (pure ([] ++ ys) : M (List D))) = compL2 vs k t fs1 vs1 k1 t1 f ρ ds b1 := by
      show Res.bind (compL2 vs k t fs1 vs1 k1 t1 f ρ ds b1) _ = _
      cases compL2 vs k t fs1 vs1 k1 t1 f ρ ds b1 <;> rfl
    rw [e0]
    exact w1
  rintro i m H' ⟨rfl, hi, b', done, us, ex, Bb, hq, rs, hdl, w'⟩
  have S' := S1.moreB hD ex Bb hq
  have t1' : Tr g.O H1 (fun a => g.O a ∨ a = Dl) H' := ⟨fun a o n q => ex a o (fun z => n (S1.bo a z)) q, fun a h => h.elim .inl fun z => .inr (by rw [z]; exact hD)⟩
  obtain ⟨j1, j2⟩ := jok _ H' t1' S'.mt i
  by_cases hlt : i < ds.length
  · have hd : ds[i]? = some ds[i] := List.getElem?_eq_getElem hlt
    have ed : ds.drop i = ds[i] :: ds.drop (i + 1) := List.drop_eq_getElem_cons hlt
    obtain ⟨go, yl⟩ := j1 _ hd
    rw [ed] at w'
    refine .inr ⟨go, fun H5 => ∃ b' done us, Ex1 g.bx H1 H5 ∧ BoxOk g b' H5 ∧ H5 Dl = some (.lst us) ∧ Reps g.P (fun a => g.O a ∨ a = Dl) g.bx H5 done us ∧ done.length ≤ (i + 1) * 1000 ∧
      wpG g W σ (RF g H) H1 ((compL2 vs k t fs1 vs1 k1 t1 f ρ (ds.drop (i + 1)) b').bind fun ys => pure (done ++ ys)) Q, fun H5 n5 => ⟨ds.length - (i + 1), by omega, rfl, hlt, n5⟩, fun x H2 y => ?_⟩
    obtain ⟨keep, rx⟩ := yl x H2 y
    have e2 : Ex1 g.bx H' H2 := fun a o _ q => keep a o q
    have Bb2 : BoxOk g b' H2 := Bb.ex keep
    have S2 := S1.moreB hD (ex.trans e2) Bb2 (keep Dl _ hq)
    have S2w := S2.wipe vs
    have w2 : wpG g W σ (RF g H) H1 (((match k ds[i] (wipeD ρ vs) with
      | some ρ' => noX (t ρ') >>= fun c => if c = true then noX (fs1 ρ') >>= fun ds1 => if ds1.length < 1000 then compL vs1 k1 t1 f ρ' ds1 >>= fun ys => compL2 vs k t fs1 vs1 k1 t1 f ρ (ds.drop (i + 1)) >>= fun zs => pure (ys ++ zs) else stuck
          else compL2 vs k t fs1 vs1 k1 t1 f ρ (ds.drop (i + 1))
      | none => stuck : M (List D)) b').bind fun ys => pure (done ++ ys)) Q := w'
    cases ek : k ds[i] (wipeD ρ vs) with
    | none => simp only [ek] at w2; exact w2.elim
    | some ρ' =>
      simp only [ek] at w2
      refine ⟨g.blk Dl, _, b', _, hP, S2w, rx, ρ', ek, fun σ' S3 ag => ⟨wipe_agr ag hj, g.blk Dl, ρ', b', hP, S3, ?_⟩⟩
      -- what follows a value of the block
      have step : ∀ {α β γ : Type} {R1 : Hp → α → β → Prop} {m : M α} {l : α → M γ} {q : γ → M (List D)} {bb : Bx} {H3 : Hp} {σ' : St}, wpG g W σ (RF g H) H1 (((noX m >>= l) bb).bind q) Q →
          wpG (g.blk Dl) (fun _ _ _ _ => False) σ' R1 H3 (m bb) fun v H4 => ∃ a b, Ex1 g.bx H3 H4 ∧ BoxOk g b H4 ∧ R1 H4 a v ∧ wpG g W σ (RF g H) H1 ((l a b).bind q) Q := fun {α β γ R1 m l q bb H3 σ'} h => by
        have h' : wpG g W σ (RF g H) H1 (((noX m bb).bind l).bind q) Q := h
        unfold noX at h'
        match m bb, h' with
        | .ok a b, h' => exact fun v H' e B r => ⟨a, b, e, box_down Bb B, r, h'⟩
        | .exc x b, h' => exact h'.elim
        | .stk, h' => exact h'.elim
      refine (step (R1 := fun _ a v => v = a) w2).imp fun c H3 ⟨c', b3, e3, B3, r3, w4⟩ => ?_
      subst r3
      have hq3 : H3 Dl = some (.lst us) := e3 Dl _ nb (keep Dl _ hq)
      have rs3 := (rs.mono (H' := H2) (fun a z => ⟨.inl (S1.bo a z), (Bb.bxl a z).2⟩) e2).mono (fun a z => ⟨.inl (S1.bo a z), (Bb2.bxl a z).2⟩) e3
      cases c with
      | false => exact iteF ⟨b3, done, us, (ex.trans e2).trans e3, B3, hq3, rs3, by omega, w4⟩
      | true =>
        have S4 := S3.mono (g := g.blk Dl) e3 (box_up B3)
        refine iteT ⟨g.blk Dl, ρ', b3, hP, S4, (step (R1 := fun H ds J => JOk (g.blk Dl) H ds J) w4).imp fun J1 H4 ⟨ds1, b4, e4, B4, jok1, w5⟩ => ?_⟩
        have w5 : wpG g W σ (RF g H) H1 (((if ds1.length < 1000 then compL vs1 k1 t1 f ρ' ds1 >>= fun ys => compL2 vs k t fs1 vs1 k1 t1 f ρ (ds.drop (i + 1)) >>= fun zs => pure (ys ++ zs) else stuck : M (List D)) b4).bind fun ys => pure (done ++ ys)) Q := w5
        have hl1 : ds1.length < 1000 := by
          by_cases z : ds1.length < 1000
          · exact z
          · rw [if_neg z] at w5
            exact w5.elim
        rw [if_pos hl1] at w5
        have hq4 : H4 Dl = some (.lst us) := e4 Dl _ nb hq3
        have rs4 := rs3.mono (fun a z => ⟨.inl (S1.bo a z), (B3.bxl a z).2⟩) e4
        have S5 := S4.mono (g := g.blk Dl) e4 (box_up B4)
        have ex4 : Ex1 g.bx H1 H4 := (ex.trans e2).trans (e3.trans e4)
        refine ⟨fun j m H5 => m = ds1.length - j ∧ j ≤ ds1.length ∧ ∃ b' done us, Ex1 g.bx H1 H5 ∧ StE (g.blk Dl) ρ' b' σ' H5 ∧ Tr (g.blk Dl).O H4 (g.blk Dl).O H5 ∧ BoxOk g b' H5 ∧ H5 Dl = some (.lst us) ∧ Reps g.P (fun a => g.O a ∨ a = Dl) g.bx H5 done us ∧ done.length ≤ i * 1000 + j ∧
          wpG g W σ (RF g H) H1 ((compL vs1 k1 t1 f ρ' (ds1.drop j) b').bind fun ys => compL2 vs k t fs1 vs1 k1 t1 f ρ (ds.drop (i + 1)) >>= fun zs => pure (done ++ (ys ++ zs))) Q,
          ⟨ds1.length, rfl, Nat.zero_le _, b4, done, us, ex4, S5, Tr.refl, B4, hq4, rs4, by omega, ?_⟩, ?_⟩
        · have e0 : ((compL vs1 k1 t1 f ρ' (ds1.drop 0) b4).bind fun ys => (compL2 vs k t fs1 vs1 k1 t1 f ρ (ds.drop (i + 1)) >>= fun zs => (pure (done ++ (ys ++ zs)) : M (List D))))
              = Res.bind ((compL vs1 k1 t1 f ρ' ds1 >>= fun ys => compL2 vs k t fs1 vs1 k1 t1 f ρ (ds.drop (i + 1)) >>= fun zs => (pure (ys ++ zs) : M (List D))) b4) fun ys => pure (done ++ ys) := by
            show Res.bind (compL vs1 k1 t1 f ρ' ds1 b4) _ = Res.bind (Res.bind (compL vs1 k1 t1 f ρ' ds1 b4) _) _
            cases compL vs1 k1 t1 f ρ' ds1 b4 with
            | ok ys b =>
              show Res.bind (compL2 vs k t fs1 vs1 k1 t1 f ρ (ds.drop (i + 1)) b) _ = Res.bind (Res.bind (compL2 vs k t fs1 vs1 k1 t1 f ρ (ds.drop (i + 1)) b) _) _
              cases compL2 vs k t fs1 vs1 k1 t1 f ρ (ds.drop (i + 1)) b <;> rfl
            | exc x b => rfl
            | stk => rfl
          rw [e0]
          exact w5
        rintro j m H5 ⟨rfl, hj5, b5, done5, us5, ex5, S6, t5, B5, hq5, rs5, hdl5, w6⟩
        obtain ⟨j3, j4⟩ := jok1 _ H5 t5 S6.mt j
        by_cases hlt1 : j < ds1.length
        · have hd1 : ds1[j]? = some ds1[j] := List.getElem?_eq_getElem hlt1
          have ed1 : ds1.drop j = ds1[j] :: ds1.drop (j + 1) := List.drop_eq_getElem_cons hlt1
          obtain ⟨go1, yl1⟩ := j3 _ hd1
          rw [ed1] at w6
          refine .inr ⟨go1, fun H5 => ∃ b' done us, Ex1 g.bx H1 H5 ∧ StE (g.blk Dl) ρ' b' σ' H5 ∧ Tr (g.blk Dl).O H4 (g.blk Dl).O H5 ∧ BoxOk g b' H5 ∧ H5 Dl = some (.lst us) ∧ Reps g.P (fun a => g.O a ∨ a = Dl) g.bx H5 done us ∧ done.length ≤ i * 1000 + (j + 1) ∧
            wpG g W σ (RF g H) H1 ((compL vs1 k1 t1 f ρ' (ds1.drop (j + 1)) b').bind fun ys => compL2 vs k t fs1 vs1 k1 t1 f ρ (ds.drop (i + 1)) >>= fun zs => pure (done ++ (ys ++ zs))) Q, fun H6 n6 => ⟨ds1.length - (j + 1), by omega, rfl, hlt1, n6⟩, fun x1 H6 y1 => ?_⟩
          obtain ⟨keep1, rx1⟩ := yl1 x1 H6 y1
          have e6 : Ex1 g.bx H5 H6 := fun a o _ q => keep1 a o q
          have B6 : BoxOk g b5 H6 := B5.ex keep1
          have S7 := S6.mono (g := g.blk Dl) e6 (box_up B6)
          have w7 : wpG g W σ (RF g H) H1 (((match k1 ds1[j] (wipeD ρ' vs1) with
            | some ρ2 => noX (t1 ρ2) >>= fun c => if c = true then noX (f ρ2) >>= fun y => chk y >>= fun y => compL vs1 k1 t1 f ρ' (ds1.drop (j + 1)) >>= fun ys => pure (y :: ys)
                else compL vs1 k1 t1 f ρ' (ds1.drop (j + 1))
            | none => stuck : M (List D)) b5).bind fun ys => compL2 vs k t fs1 vs1 k1 t1 f ρ (ds.drop (i + 1)) >>= fun zs => pure (done5 ++ (ys ++ zs))) Q := w6
          cases ek1 : k1 ds1[j] (wipeD ρ' vs1) with
          | none => simp only [ek1] at w7; exact w7.elim
          | some ρ2 =>
            simp only [ek1] at w7
            refine ⟨g.blk Dl, _, b5, _, hP, S7.wipe vs1, rx1, ρ2, ek1, fun σ3 S8 ag1 => ⟨wipe_agr ag1 hj1, g.blk Dl, ρ2, b5, hP, S8, (step (R1 := fun _ a v => v = a) w7).imp fun c7 H7 ⟨c7', b7, e7, B7, r7, w8⟩ => ?_⟩⟩
            subst r7
            have hq7 : H7 Dl = some (.lst us5) := e7 Dl _ nb (keep1 Dl _ hq5)
            have rs7 := (rs5.mono (H' := H6) (fun a z => ⟨.inl (S1.bo a z), (B5.bxl a z).2⟩) e6).mono (fun a z => ⟨.inl (S1.bo a z), (B6.bxl a z).2⟩) e7
            have S9 := S7.mono (g := g.blk Dl) e7 (box_up B7)
            have t7 : Tr (g.blk Dl).O H4 (g.blk Dl).O H7 := t5.trans ((Tr.ex (O := (g.blk Dl).O) e6 fun a z => .inl (bxo a z)).trans (Tr.ex (O := (g.blk Dl).O) e7 fun a z => .inl (bxo a z)))
            cases c7 with
            | false => exact iteF ⟨b7, done5, us5, (ex5.trans e6).trans e7, S9, t7, B7, hq7, rs7, by omega, w8⟩
            | true =>
              refine iteT ⟨g.blk Dl, ρ2, b7, hP, S8.mono (g := g.blk Dl) e7 (box_up B7), (step (R1 := RepT (g.blk Dl)) w8).imp fun yv H8 ⟨yd, b8, e8, B8, r8, w9⟩ => ?_⟩
              have hq8 : H8 Dl = some (.lst us5) := e8 Dl _ nb hq7
              have rs8 := rs7.mono (fun a z => ⟨.inl (S1.bo a z), (B7.bxl a z).2⟩) e8
              have lenU : us5.length < 100000 := by
                have := rs8.length
                omega
              have rd : Rep g.P (fun a => g.O a ∨ a = Dl) g.bx H8 yd yv ∧ wpG g W σ (RF g H) H1 (((compL vs1 k1 t1 f ρ' (ds1.drop (j + 1)) >>= fun ys => pure (yd :: ys)) b8).bind fun ys => compL2 vs k t fs1 vs1 k1 t1 f ρ (ds.drop (i + 1)) >>= fun zs => pure (done5 ++ (ys ++ zs))) Q := by
                cases r8 with
                | own => exact w9.elim
                | rep r8 =>
                  refine ⟨r8, ?_⟩
                  cases r8 <;> exact w9
              obtain ⟨rd, w10⟩ := rd
              have S10 := (S9.mono (g := g.blk Dl) e8 (box_up B8)).writeB (us := us5 ++ [yv]) hq8 nb
              have tw : Tr (g.blk Dl).O H8 (g.blk Dl).O (upd H8 Dl (.lst (us5 ++ [yv]))) := ⟨fun a o n q => by rw [upd_ne (fun z => n (.inr z))]; exact q, fun _ h => .inl h⟩
              refine ⟨us5, hq8, szlt lenU, b8, done5 ++ [yd], us5 ++ [yv], (((ex5.trans e6).trans e7).trans e8).write hD, S10, (t7.trans (Tr.ex (O := (g.blk Dl).O) e8 fun a z => .inl (bxo a z))).trans tw, ?_, upd_same, (rs8.write (.inr rfl) hq8).append (.cons (rd.write (.inr rfl) hq8) .nil), by rw [List.length_append, List.length_singleton]; omega, ?_⟩
              · exact box_down B8 S10.box
              · have em : ((compL vs1 k1 t1 f ρ' (ds1.drop (j + 1)) b8).bind fun ys => compL2 vs k t fs1 vs1 k1 t1 f ρ (ds.drop (i + 1)) >>= fun zs => (pure (done5 ++ [yd] ++ (ys ++ zs)) : M (List D)))
                    = (((compL vs1 k1 t1 f ρ' (ds1.drop (j + 1)) >>= fun ys => pure (yd :: ys)) b8).bind fun ys => compL2 vs k t fs1 vs1 k1 t1 f ρ (ds.drop (i + 1)) >>= fun zs => pure (done5 ++ (ys ++ zs))) := by
                  show _ = Res.bind (Res.bind (compL vs1 k1 t1 f ρ' (ds1.drop (j + 1)) b8) _) _
                  cases compL vs1 k1 t1 f ρ' (ds1.drop (j + 1)) b8 with
                  | ok ys b =>
                    show Res.bind (compL2 vs k t fs1 vs1 k1 t1 f ρ (ds.drop (i + 1)) b) _ = Res.bind (compL2 vs k t fs1 vs1 k1 t1 f ρ (ds.drop (i + 1)) b) _
                    cases compL2 vs k t fs1 vs1 k1 t1 f ρ (ds.drop (i + 1)) b with
                    | ok zs b => show Res.ok (done5 ++ [yd] ++ (ys ++ zs)) b = Res.ok (done5 ++ (yd :: ys ++ zs)) b; rw [List.append_assoc]; rfl
                    | exc x b => rfl
                    | stk => rfl
                  | exc x b => rfl
                  | stk => rfl
                rw [em]
                exact w10
        · have e : j = ds1.length := by omega
          subst e
          rw [List.drop_length] at w6
          refine .inl ⟨j4 (Nat.le_refl _), b5, done5, us5, ex5, B5, hq5, rs5, by omega, ?_⟩
          exact w6
  · have e : i = ds.length := by omega
    subst e
    rw [List.drop_length] at w'
    have w' : wpG g W σ (RF g H) H1 ((pure (done ++ []) : M (List D)) b') Q := w'
    rw [List.append_nil] at w'
    have rs' : Reps g.P (fun a => g.O a ∨ a = Dl) g.bx H' done us := rs
    exact .inl ⟨j2 (Nat.le_refl _), w' _ H' ex Bb ⟨Dl, us, rfl, h0, hq, rs'⟩⟩
theorem sf_comp2 {scope : Scope} {own : List (Str × Nat)} {js js1 vs1 : List Nat} (hc : X.calm = true) (hN : X.N.Nodup) (hi : SI X P tg iter fs) (ok : BlkOk X.N X.env.scope scope own) (hv : ∀ j ∈ vs1, j ∈ own.map (·.2)) (hj : ∀ j ∈ js, j ∈ own.map (·.2)) (hj1 : ∀ j ∈ js1, j ∈ vs1)
    (hg : ∀ (s : Shared) (H : Hp) (C : Addr) (cl : List (Str × Addr)) (fp : List Addr), SG (X.blk s H scope (compEnvC scope cl C X.env) fp) P tg js k)
    (ht : ∀ (s : Shared) (H : Hp) (C : Addr) (cl : List (Str × Addr)) (fp : List Addr), STs (X.blk s H scope (compEnvC scope cl C X.env) fp) P ifs t)
    (hi1 : ∀ (s : Shared) (H : Hp) (C : Addr) (cl : List (Str × Addr)) (fp : List Addr), SI (X.blk s H scope (compEnvC scope cl C X.env) fp) P tg1 iter1 fs1)
    (hg1 : ∀ (s : Shared) (H : Hp) (C : Addr) (cl : List (Str × Addr)) (fp : List Addr), SG (X.blk s H scope (compEnvC scope cl C X.env) fp) P tg1 js1 k1)
    (ht1 : ∀ (s : Shared) (H : Hp) (C : Addr) (cl : List (Str × Addr)) (fp : List Addr), STs (X.blk s H scope (compEnvC scope cl C X.env) fp) P ifs1 t1)
    (he : ∀ (s : Shared) (H : Hp) (C : Addr) (cl : List (Str × Addr)) (fp : List Addr), SE (X.blk s H scope (compEnvC scope cl C X.env) fp) P elt f) (hs : ∀ x, foldedSetIterable iter X.env x = pure x := by intro _; rfl) (hs1 : ∀ env x, foldedSetIterable iter1 env x = pure x := by intro _ _; rfl) :
    SF X P (.ListComp elt [⟨tg, iter, ifs, 0⟩, ⟨tg1, iter1, ifs1, 0⟩] scope pos) (fComp2 fs (own.map (·.2)) k t fs1 vs1 k1 t1 f) := ⟨fun W tk =>
  pe_imp (pe_lc2 (vs1 := vs1) hc hN (hi.pi W tk) ok hv (fun s H C cl fp => (hg s H C cl fp).pg) (fun s H C cl fp => (ht s H C cl fp).pt _ takes0) (fun s H C cl fp => (hi1 s H C cl fp).pi _ takes0) (fun s H C cl fp => (hg1 s H C cl fp).pg) (fun s H C cl fp => (ht1 s H C cl fp).pt _ takes0) (fun s H C cl fp => (he s H C cl fp).pe _ takes0) hs hs1) fun σ H Q h => comp2_read hj hj1 h⟩
theorem setC2 (i : Nat) {y : Str} {py spos : Pos} {scope : Scope} {own : List (Str × Nat)} {js js1 vs1 : List Nat} {v : DEnv → M Out} (hv0 : ∀ {W : WX} {E : Ends} {σ : St} {H : Hp}, rS P W v E σ H → rF P W (fComp2 fs (own.map (·.2)) k t fs1 vs1 k1 t1 f) σ H fun v H1 => E.nx (σ.set i (some v)) H1)
    (hc : X.calm = true) (hN : X.N.Nodup) (hi : SI X P tg iter fs) (ok : BlkOk X.N X.env.scope scope own) (hv : ∀ j ∈ vs1, j ∈ own.map (·.2)) (hj : ∀ j ∈ js, j ∈ own.map (·.2)) (hj1 : ∀ j ∈ js1, j ∈ vs1)
    (hg : ∀ (s : Shared) (H : Hp) (C : Addr) (cl : List (Str × Addr)) (fp : List Addr), SG (X.blk s H scope (compEnvC scope cl C X.env) fp) P tg js k)
    (ht : ∀ (s : Shared) (H : Hp) (C : Addr) (cl : List (Str × Addr)) (fp : List Addr), STs (X.blk s H scope (compEnvC scope cl C X.env) fp) P ifs t)
    (hi1 : ∀ (s : Shared) (H : Hp) (C : Addr) (cl : List (Str × Addr)) (fp : List Addr), SI (X.blk s H scope (compEnvC scope cl C X.env) fp) P tg1 iter1 fs1)
    (hg1 : ∀ (s : Shared) (H : Hp) (C : Addr) (cl : List (Str × Addr)) (fp : List Addr), SG (X.blk s H scope (compEnvC scope cl C X.env) fp) P tg1 js1 k1)
    (ht1 : ∀ (s : Shared) (H : Hp) (C : Addr) (cl : List (Str × Addr)) (fp : List Addr), STs (X.blk s H scope (compEnvC scope cl C X.env) fp) P ifs1 t1)
    (he : ∀ (s : Shared) (H : Hp) (C : Addr) (cl : List (Str × Addr)) (fp : List Addr), SE (X.blk s H scope (compEnvC scope cl C X.env) fp) P elt f) (hy : X.N[i]? = some y) (hyl : X.env.scope.names.lookup y = some .local)
    (hsw : swapsWith (.ListComp elt [⟨tg, iter, ifs, 0⟩, ⟨tg1, iter1, ifs1, 0⟩] scope pos) (some (.Name y py)) spos.line X.env = pure true) (hs : ∀ x, foldedSetIterable iter X.env x = pure x) (hs1 : ∀ env x, foldedSetIterable iter1 env x = pure x) :
    SS X P (.Assign [.Name y py] (.ListComp elt [⟨tg, iter, ifs, 0⟩, ⟨tg1, iter1, ifs1, 0⟩] scope pos) spos) v := ⟨fun W tk =>
  ps_imp (ps_setLc2 (vs1 := vs1) hc hN hy hyl hsw (hi.pi W tk) ok hv (fun s H C cl fp => (hg s H C cl fp).pg) (fun s H C cl fp => (ht s H C cl fp).pt _ takes0) (fun s H C cl fp => (hi1 s H C cl fp).pi _ takes0) (fun s H C cl fp => (hg1 s H C cl fp).pg) (fun s H C cl fp => (ht1 s H C cl fp).pt _ takes0) (fun s H C cl fp => (he s H C cl fp).pe _ takes0) hs hs1) fun E σ H h => comp2_read hj hj1 (hv0 h)⟩
theorem ss_setC2 (i : Nat) {y : Str} {py spos : Pos} {scope : Scope} {own : List (Str × Nat)} {js js1 vs1 : List Nat} (hc : X.calm = true) (hN : X.N.Nodup) (hi : SI X P tg iter fs) (ok : BlkOk X.N X.env.scope scope own) (hv : ∀ j ∈ vs1, j ∈ own.map (·.2)) (hj : ∀ j ∈ js, j ∈ own.map (·.2)) (hj1 : ∀ j ∈ js1, j ∈ vs1)
    (hg : ∀ (s : Shared) (H : Hp) (C : Addr) (cl : List (Str × Addr)) (fp : List Addr), SG (X.blk s H scope (compEnvC scope cl C X.env) fp) P tg js k)
    (ht : ∀ (s : Shared) (H : Hp) (C : Addr) (cl : List (Str × Addr)) (fp : List Addr), STs (X.blk s H scope (compEnvC scope cl C X.env) fp) P ifs t)
    (hi1 : ∀ (s : Shared) (H : Hp) (C : Addr) (cl : List (Str × Addr)) (fp : List Addr), SI (X.blk s H scope (compEnvC scope cl C X.env) fp) P tg1 iter1 fs1)
    (hg1 : ∀ (s : Shared) (H : Hp) (C : Addr) (cl : List (Str × Addr)) (fp : List Addr), SG (X.blk s H scope (compEnvC scope cl C X.env) fp) P tg1 js1 k1)
    (ht1 : ∀ (s : Shared) (H : Hp) (C : Addr) (cl : List (Str × Addr)) (fp : List Addr), STs (X.blk s H scope (compEnvC scope cl C X.env) fp) P ifs1 t1)
    (he : ∀ (s : Shared) (H : Hp) (C : Addr) (cl : List (Str × Addr)) (fp : List Addr), SE (X.blk s H scope (compEnvC scope cl C X.env) fp) P elt f) (hy : X.N[i]? = some y := by rfl) (hyl : X.env.scope.names.lookup y = some .local := by rfl)
    (hsw : swapsWith (.ListComp elt [⟨tg, iter, ifs, 0⟩, ⟨tg1, iter1, ifs1, 0⟩] scope pos) (some (.Name y py)) spos.line X.env = pure true := by exact sw_true rfl rfl rfl (by decide +kernel)) (hs : ∀ x, foldedSetIterable iter X.env x = pure x := by intro _; rfl) (hs1 : ∀ env x, foldedSetIterable iter1 env x = pure x := by intro _ _; rfl) :
    SS X P (.Assign [.Name y py] (.ListComp elt [⟨tg, iter, ifs, 0⟩, ⟨tg1, iter1, ifs1, 0⟩] scope pos) spos) (sSet i (eF (fComp2 fs (own.map (·.2)) k t fs1 vs1 k1 t1 f))) :=
  setC2 i (fun h => f_read (set_read h)) hc hN hi ok hv hj hj1 hg ht hi1 hg1 ht1 he hy hyl hsw hs hs1
theorem ss_ownC2 (i : Nat) {y : Str} {py spos : Pos} {scope : Scope} {own : List (Str × Nat)} {js js1 vs1 : List Nat} (hc : X.calm = true) (hN : X.N.Nodup) (hi : SI X P tg iter fs) (ok : BlkOk X.N X.env.scope scope own) (hv : ∀ j ∈ vs1, j ∈ own.map (·.2)) (hj : ∀ j ∈ js, j ∈ own.map (·.2)) (hj1 : ∀ j ∈ js1, j ∈ vs1)
    (hg : ∀ (s : Shared) (H : Hp) (C : Addr) (cl : List (Str × Addr)) (fp : List Addr), SG (X.blk s H scope (compEnvC scope cl C X.env) fp) P tg js k)
    (ht : ∀ (s : Shared) (H : Hp) (C : Addr) (cl : List (Str × Addr)) (fp : List Addr), STs (X.blk s H scope (compEnvC scope cl C X.env) fp) P ifs t)
    (hi1 : ∀ (s : Shared) (H : Hp) (C : Addr) (cl : List (Str × Addr)) (fp : List Addr), SI (X.blk s H scope (compEnvC scope cl C X.env) fp) P tg1 iter1 fs1)
    (hg1 : ∀ (s : Shared) (H : Hp) (C : Addr) (cl : List (Str × Addr)) (fp : List Addr), SG (X.blk s H scope (compEnvC scope cl C X.env) fp) P tg1 js1 k1)
    (ht1 : ∀ (s : Shared) (H : Hp) (C : Addr) (cl : List (Str × Addr)) (fp : List Addr), STs (X.blk s H scope (compEnvC scope cl C X.env) fp) P ifs1 t1)
    (he : ∀ (s : Shared) (H : Hp) (C : Addr) (cl : List (Str × Addr)) (fp : List Addr), SE (X.blk s H scope (compEnvC scope cl C X.env) fp) P elt f) (hy : X.N[i]? = some y := by rfl) (hyl : X.env.scope.names.lookup y = some .local := by rfl)
    (hsw : swapsWith (.ListComp elt [⟨tg, iter, ifs, 0⟩, ⟨tg1, iter1, ifs1, 0⟩] scope pos) (some (.Name y py)) spos.line X.env = pure true := by exact sw_true rfl rfl rfl (by decide +kernel)) (hs : ∀ x, foldedSetIterable iter X.env x = pure x := by intro _; rfl) (hs1 : ∀ env x, foldedSetIterable iter1 env x = pure x := by intro _ _; rfl) :
    SS X P (.Assign [.Name y py] (.ListComp elt [⟨tg, iter, ifs, 0⟩, ⟨tg1, iter1, ifs1, 0⟩] scope pos) spos) (sOwn i (fComp2 fs (own.map (·.2)) k t fs1 vs1 k1 t1 f)) :=
  setC2 i (fun h => own_read h) hc hN hi ok hv hj hj1 hg ht hi1 hg1 ht1 he hy hyl hsw hs hs1
end
end Pu

set_option Elab.async false
set_option linter.all false
set_option maxRecDepth 100000
set_option maxHeartbeats 4000000
/-! The pure layer, part N: x, y = a, b with new lists -/
namespace Pu
open PySem L2
theorem StE.setOwn2 {g : Gh} {ρ : DEnv} {b : Bx} {σ : St} {H : Hp} {p : Addr} {ds : List D} {vs : List V} (S : StE g ρ b σ H) (h0 : ∀ (j : Nat) (es : List D), ρ[j]? = some (some (.own es)) → σ[j]? ≠ some (some (.ref p))) (np : g.bx ≠ some p) (n0 : ¬ g.O0 p) (o : g.O p)
    (hp : H p = some (.lst vs)) (r : Reps g.P g.O g.bx H ds vs) (i : Nat) : StE g (ρ.set i (some (.own ds))) b (σ.set i (some (.ref p))) H := by
  have e : (fun a => g.O a ∨ a = p) = g.O := funext fun a => propext ⟨fun h => h.elim id fun z => by rw [z]; exact o, .inl⟩
  have z := S.setOwn (p := p) (ds := ds) (vs := vs) h0 np n0 (by rw [e]; exact fun _ _ _ _ _ h => h) (by rw [e]; exact S.box) hp (by rw [e]; exact r) i
  rw [e] at z
  exact z
/-- a new list that stands by -/
structure Held0 (g : Gh) (ρ : DEnv) (σ : St) (H : Hp) (p : Addr) (ds : List D) (vs : List V) : Prop where
  no : ∀ (j : Nat) (es : List D), ρ[j]? = some (some (.own es)) → σ[j]? ≠ some (some (.ref p))
  np : g.bx ≠ some p
  n0 : ¬ g.O0 p
  o : g.O p
  hp : H p = some (.lst vs)
  r : Reps g.P g.O g.bx H ds vs
section
variable {g : Gh} {ρ : DEnv} {b b1 : Bx} {σ : St} {H0 H H1 : Hp} {p : Addr} {ds : List D} {vs : List V}
/-- the new list at p is the call's own from now on -/
theorem take_own (S : StE g ρ b σ H) (B : Base g H0 H) (e1 : Ex1 g.bx H H1) (B1 : BoxOk g b1 H1) (h0 : H p = none) (hp : H1 p = some (.lst vs)) (r : Reps g.P (fun a => g.O a ∨ a = p) g.bx H1 ds vs) :
    Tr g.O H (fun a => g.O a ∨ a = p) H1 ∧ StE (g.at fun a => g.O a ∨ a = p) ρ b1 σ H1 ∧ Base (g.at fun a => g.O a ∨ a = p) H0 H1 ∧ Held0 (g.at fun a => g.O a ∨ a = p) ρ σ H1 p ds vs := by
  have B1' := B.at e1
  have wd : ∀ a, (g.O a ∨ a = p) → g.O a ∨ H a = none := fun a h => h.elim .inl fun z => .inr (by rw [z]; exact h0)
  refine ⟨⟨fun a o n q => e1 a o (fun z => n (S.bo a z)) q, wd⟩, S.more h0 e1 B1 hp, ⟨fun a h => .inl (B1'.sub a h), fun a h => ?_, B1'.ex, B1'.trk⟩, ?_, ?_, ?_, .inr rfl, hp, r⟩
  · rcases h with h | h
    · exact B1'.new a h
    · rw [h]
      exact .inr (fresh_back S.box.bxl B.ex h0)
  · intro j es h1 h2
    obtain ⟨v, h3, h4⟩ := S.val j _ h1
    rw [h2] at h3
    cases h3
    cases h4 with
    | own q => rw [h0] at q; cases q
    | rep q => cases q
  · intro z
    obtain ⟨_, vs, q⟩ := S.box.bxl p z
    rw [h0] at q; cases q
  · exact fun z => S.trk p (B.sub p z) h0
theorem Held0.mono {H' : Hp} (h : Held0 g ρ σ H p ds vs) (B : BxL g.O g.bx H) (e : Ex1 g.bx H H') : Held0 g ρ σ H' p ds vs := ⟨h.no, h.np, h.n0, h.o, e _ _ h.np h.hp, h.r.mono B e⟩
end
section
variable {X : Cx} {P : Px} {a b : Expr} {pos : Pos} {fa fb : DEnv → M D} {fs gs : DEnv → M (List D)}
def sParFE (i j : Nat) (fs : DEnv → M (List D)) (fb : DEnv → M D) : DEnv → M Out := fun ρ => fs ρ >>= fun ds => fb ρ >>= fun d => chk d >>= fun d => pure (.nx ((ρ.set i (some (.own ds))).set j (some d)))
def sParEF (i j : Nat) (fa : DEnv → M D) (gs : DEnv → M (List D)) : DEnv → M Out := fun ρ => fa ρ >>= fun d => chk d >>= fun d => gs ρ >>= fun ds => pure (.nx ((ρ.set i (some d)).set j (some (.own ds))))
def sParFF (i j : Nat) (fs gs : DEnv → M (List D)) : DEnv → M Out := fun ρ => fs ρ >>= fun ds => gs ρ >>= fun es => pure (.nx ((ρ.set i (some (.own ds))).set j (some (.own es))))
theorem ss_parFE (i j : Nat) {x y : Str} {px py pt : Pos} {kt k2 : Nat} {pt2 : Pos} (hc : X.calm = true) (hN : X.N.Nodup) (ha : SF X P a fs) (hb : SE X P b fb) (hi : X.N[i]? = some x := by rfl) (hj : X.N[j]? = some y := by rfl) (hij : i ≠ j := by decide)
    (hx : X.env.scope.names.lookup x = some .local := by rfl) (hy : X.env.scope.names.lookup y = some .local := by rfl)
    (hw : swappedStores [.Tuple [.Name x px, .Name y py] kt pt] (.Tuple [a, b] k2 pt2) X.env = pure (some [x, y]) := by rfl)
    (hs : swapsWithSole [.Tuple [.Name x px, .Name y py] kt pt] (.Tuple [a, b] k2 pt2) pos.line X.env = pure false := by rfl) (h1 : starEach [a, b] X.env = (false, eval a X.env) :: starEach [b] X.env := by rfl) (h2 : starEach [b] X.env = (false, eval b X.env) :: starEach [] X.env := by rfl) :
    SS X P (.Assign [.Tuple [.Name x px, .Name y py] kt pt] (.Tuple [a, b] k2 pt2) pos) (sParFE i j fs fb) := ⟨fun W tk => ps_imp (ps_par hc hN hi hj hij hx hy (pa_cons (ha.pe W tk) (pa_cons (hb.pe W tk) pa_nil h2) h1) hw hs) fun E σ H h => by
  obtain ⟨g, H0, ρ, b, hP, S, B, w⟩ := h
  refine ⟨g, ρ, b, hP, S, (wpS_bind (R1 := RF g H) w B).imp fun v H1 ⟨ds, b1, e1, B1, r1, w1⟩ => ?_⟩
  obtain ⟨p, vs, rfl, h0, hp, r⟩ := r1
  obtain ⟨t1, S1, Bs1, hd⟩ := take_own S B e1 B1 h0 hp r
  have w2 := wpS.at t1 w1
  refine ⟨g.at fun a => g.O a ∨ a = p, ρ, b1, hP, S1, (wpS_bind (R1 := RepT (g.at fun a => g.O a ∨ a = p)) w2 Bs1).imp fun v2 H2 ⟨d2, b2, e2, B2, r2, w3⟩ => ?_⟩
  obtain ⟨rd, w4⟩ := chk_repS r2 w3
  have S2 := S1.mono e2 B2
  have hd2 := hd.mono S1.box.bxl e2
  have S3 := (S2.setOwn2 hd2.no hd2.np hd2.n0 hd2.o hd2.hp hd2.r i).set rd j
  exact ⟨.ref p, v2, rfl, w4 _ _ H2 (Tr.ex e2 S1.bo) S3 (Bs1.at e2)⟩⟩
theorem ss_parEF (i j : Nat) {x y : Str} {px py pt : Pos} {kt k2 : Nat} {pt2 : Pos} (hc : X.calm = true) (hN : X.N.Nodup) (ha : SE X P a fa) (hb : SF X P b gs) (hi : X.N[i]? = some x := by rfl) (hj : X.N[j]? = some y := by rfl) (hij : i ≠ j := by decide)
    (hx : X.env.scope.names.lookup x = some .local := by rfl) (hy : X.env.scope.names.lookup y = some .local := by rfl)
    (hw : swappedStores [.Tuple [.Name x px, .Name y py] kt pt] (.Tuple [a, b] k2 pt2) X.env = pure (some [x, y]) := by rfl)
    (hs : swapsWithSole [.Tuple [.Name x px, .Name y py] kt pt] (.Tuple [a, b] k2 pt2) pos.line X.env = pure false := by rfl) (h1 : starEach [a, b] X.env = (false, eval a X.env) :: starEach [b] X.env := by rfl) (h2 : starEach [b] X.env = (false, eval b X.env) :: starEach [] X.env := by rfl) :
    SS X P (.Assign [.Tuple [.Name x px, .Name y py] kt pt] (.Tuple [a, b] k2 pt2) pos) (sParEF i j fa gs) := ⟨fun W tk => ps_imp (ps_par hc hN hi hj hij hx hy (pa_cons (ha.pe W tk) (pa_cons (hb.pe W tk) pa_nil h2) h1) hw hs) fun E σ H h => by
  obtain ⟨g, H0, ρ, b, hP, S, B, w⟩ := h
  refine ⟨g, ρ, b, hP, S, (wpS_bind (R1 := RepT g) w B).imp fun v H1 ⟨d, b1, e1, B1, r1, w1⟩ => ?_⟩
  obtain ⟨rd, w2⟩ := chk_repS r1 w1
  have S1 := S.mono e1 B1
  have Bs1 := B.at e1
  have w2 := wpS.at (Tr.ex e1 S.bo) w2
  refine ⟨g, ρ, b1, hP, S1, (wpS_bind (R1 := RF g H1) w2 Bs1).imp fun v2 H2 ⟨ds, b2, e2, B2, r2, w3⟩ => ?_⟩
  obtain ⟨p, vs, rfl, h0, hp, r⟩ := r2
  obtain ⟨t2, S2, Bs2, hd⟩ := take_own S1 Bs1 e2 B2 h0 hp r
  have wd : ∀ a, (g.O a ∨ a = p) → g.O a ∨ H1 a = none := fun a h => h.elim .inl fun z => .inr (by rw [z]; exact h0)
  have rd2 : Rep g.P (fun a => g.O a ∨ a = p) g.bx H2 d v := (rd.own wd).mono (fun a z => ⟨.inl (S1.bo a z), (S1.box.bxl a z).2⟩) e2
  have S3 := S2.set rd2 i
  have nown : ∀ es, d ≠ .own es := fun es e => by rw [e] at rd; cases rd
  have no : ∀ (l : Nat) (es : List D), (ρ.set i (some d))[l]? = some (some (.own es)) → (σ.set i (some v))[l]? ≠ some (some (.ref p)) := fun l es hl => by
    rcases get_set hl with ⟨_, q, _⟩ | ⟨q1, q2⟩
    · exact absurd (Option.some.inj q) (nown es)
    · rw [List.getElem?_set_ne q1]
      exact hd.no l es q2
  have S4 := S3.setOwn2 no hd.np hd.n0 hd.o hd.hp hd.r j
  exact ⟨v, .ref p, rfl, w3 _ _ H2 t2 S4 Bs2⟩⟩
theorem ss_parFF (i j : Nat) {x y : Str} {px py pt : Pos} {kt k2 : Nat} {pt2 : Pos} (hc : X.calm = true) (hN : X.N.Nodup) (ha : SF X P a fs) (hb : SF X P b gs) (hi : X.N[i]? = some x := by rfl) (hj : X.N[j]? = some y := by rfl) (hij : i ≠ j := by decide)
    (hx : X.env.scope.names.lookup x = some .local := by rfl) (hy : X.env.scope.names.lookup y = some .local := by rfl)
    (hw : swappedStores [.Tuple [.Name x px, .Name y py] kt pt] (.Tuple [a, b] k2 pt2) X.env = pure (some [x, y]) := by rfl)
    (hs : swapsWithSole [.Tuple [.Name x px, .Name y py] kt pt] (.Tuple [a, b] k2 pt2) pos.line X.env = pure false := by rfl) (h1 : starEach [a, b] X.env = (false, eval a X.env) :: starEach [b] X.env := by rfl) (h2 : starEach [b] X.env = (false, eval b X.env) :: starEach [] X.env := by rfl) :
    SS X P (.Assign [.Tuple [.Name x px, .Name y py] kt pt] (.Tuple [a, b] k2 pt2) pos) (sParFF i j fs gs) := ⟨fun W tk => ps_imp (ps_par hc hN hi hj hij hx hy (pa_cons (ha.pe W tk) (pa_cons (hb.pe W tk) pa_nil h2) h1) hw hs) fun E σ H h => by
  obtain ⟨g, H0, ρ, b, hP, S, B, w⟩ := h
  refine ⟨g, ρ, b, hP, S, (wpS_bind (R1 := RF g H) w B).imp fun v H1 ⟨ds, b1, e1, B1, r1, w1⟩ => ?_⟩
  obtain ⟨p, vs, rfl, h0, hp, r⟩ := r1
  obtain ⟨t1, S1, Bs1, hd⟩ := take_own S B e1 B1 h0 hp r
  have w2 := wpS.at t1 w1
  refine ⟨g.at fun a => g.O a ∨ a = p, ρ, b1, hP, S1, (wpS_bind (R1 := RF (g.at fun a => g.O a ∨ a = p) H1) w2 Bs1).imp fun v2 H2 ⟨es, b2, e2, B2, r2, w3⟩ => ?_⟩
  obtain ⟨q, us, rfl, k0, hq, rq⟩ := r2
  have hd1 := hd.mono S1.box.bxl e2
  obtain ⟨t2, S2, Bs2, hd2⟩ := take_own S1 Bs1 e2 B2 k0 hq rq
  have npq : p ≠ q := fun z => by rw [← z] at k0; rw [hd.hp] at k0; cases k0
  have wd : ∀ a, ((g.O a ∨ a = p) ∨ a = q) → (g.O a ∨ a = p) ∨ H1 a = none := fun a h => h.elim .inl fun z => .inr (by rw [z]; exact k0)
  have rp : Reps g.P (fun a => (g.O a ∨ a = p) ∨ a = q) g.bx H2 ds vs := (hd.r.own wd).mono (fun a z => ⟨.inl (S1.bo a z), (S1.box.bxl a z).2⟩) e2
  have S3 := S2.setOwn2 (p := p) (ds := ds) (vs := vs) hd.no hd.np hd.n0 (.inl (.inr rfl)) hd1.hp rp i
  have no : ∀ (l : Nat) (es' : List D), (ρ.set i (some (.own ds)))[l]? = some (some (.own es')) → (σ.set i (some (.ref p)))[l]? ≠ some (some (.ref q)) := fun l es' hl => by
    rcases get_set hl with ⟨z, _, k⟩ | ⟨q1, q2⟩
    · subst z
      rw [List.getElem?_set_self (by rw [S.len]; exact k)]
      intro z
      cases z
      exact npq rfl
    · rw [List.getElem?_set_ne q1]
      exact hd2.no l es' q2
  have S4 := S3.setOwn2 no hd2.np hd2.n0 hd2.o hd2.hp hd2.r j
  exact ⟨.ref p, .ref q, rfl, w3 _ _ H2 t2 S4 Bs2⟩⟩
end
end Pu

set_option Elab.async false
set_option linter.all false
set_option maxRecDepth 100000
set_option maxHeartbeats 4000000
/-! The pure layer: set(xs) of a list of ints (turned from HandS.SetFor's rule for tuples) -/
namespace Pu
namespace SetN
open PySem PySem.Spec PyProof.Rows L2
section
variable {P : Program} {w : World} {A : Around} {E : Value → Shared → Prop} {s : Shared}
-- set(xs) of a list of ints, as HandS has it of a tuple
set_option maxRecDepth 100000 in
set_option maxHeartbeats 3200000 in
theorem call_set_listN {l : Addr} {items : Array Value} (ns : List Int) {Q : Value → Shared → Prop} (hh : A.handled = none) (hl : s.heap.IsList l items) (hit : IntsAre items.toList ns) (hb : ns.length + 1 < scanBound)
    (h : ∀ (h' : Heap) (tk c : Nat), SetR w h' s.heap.objs.size (fun j => decide (j ∈ ns)) c → c ≤ ns.length → (∀ b o, s.heap.get? b = some o → h'.get? b = some o) → Q (.ref s.heap.objs.size) { s with heap := h', toks := tk }) :
    wpAny (model P w) A (call (.type "set") [.ref l]) Q E s := by
  have hisz : items.size = ns.length := by
    have q := IntsAre.length hit
    rw [Array.length_toList] at q
    exact q
  obtain ⟨c, tl, hmro⟩ := F.called_set.mro
  have hmade := F.called_set.made
  have hsub := F.called_set.sub
  refine wpAny_call (codeAny_of_tree ?_)
  show wpAny _ _ (callAny (.type "set") _) _ _ _
  refine wpAny_pure ⟨Code.quiet_builtin _ (by decide +kernel), codeAny_builtin F.entry_type_call ?_⟩
  rw [Around.under_plain (weight_type_call_type "set" [.ref l] []) rfl]
  have h1 := F.called_set.notType
  have h2 := F.called_set.canCreate
  have hct := F.typeCall_set_1 (.ref l)
  repeat (any_goals (first | assumption | wp_step))

  refine codeAny_mono (code_set_led1 (.ref l) (E := E) (Q₁ := fun obj s₁ => obj = .ref s.heap.objs.size ∧ s₁ = { s with heap := s.heap.push { cls := .type "set", dict := none, data := .set #[] 0 (.fresh 0 0 (!w.params.followText "set-order")) } }) ⟨rfl, rfl⟩) fun r s₁ hr => ?_
  cases r with
  | error e => exact hr
  | ok fl =>
    cases fl with
    | ret obj =>
      obtain ⟨rfl, rfl⟩ := hr
      have hS : (s.heap.push { cls := .type "set", dict := none, data := .set #[] 0 (.fresh 0 0 (!w.params.followText "set-order")) }).get? s.heap.objs.size = some { cls := .type "set", dict := none, data := .set #[] 0 (.fresh 0 0 (!w.params.followText "set-order")) } := Heap.get?_push_size _ rfl
      have hT : Shared.TypeIs { s with heap := s.heap.push { cls := .type "set", dict := none, data := .set #[] 0 (.fresh 0 0 (!w.params.followText "set-order")) } } (.ref s.heap.objs.size) "set" := ⟨_, hS, rfl⟩
      have hli := F.called_set.init.lookup
      have hbi := F.called_set.init.bind (.ref s.heap.objs.size)
      repeat (any_goals (first | assumption | wp_step))

      refine codeAny_mono (codeAny_call_builtin (R := wants (fun r s₂ => r = .none ∧ ∃ h' tk c, s₂ = { s with heap := h', toks := tk } ∧ SetR w h' s.heap.objs.size (fun j => decide (j ∈ ns)) c ∧ c ≤ ns.length ∧
          (∀ b o, s.heap.get? b = some o → h'.get? b = some o)) E) F.called_set.init.plain F.entry_set_init (check_set_init_1 hT ?_)) fun r₂ s₂ hr₂ => ?_
      · obtain ⟨ol, hol, hcl, nl, hdl⟩ := hl
        obtain ⟨ocls, odict, odata, oslots⟩ := ol
        simp only at hcl hdl
        subst hcl; subst hdl
        have hol' : (s.heap.push { cls := .type "set", dict := none, data := .set #[] 0 (.fresh 0 0 (!w.params.followText "set-order")) }).get? l = some { cls := .type "list", dict := odict, data := .seq items nl, slots := oslots } := Heap.get?_push_of_some _ hol
        have hsls := F.sub_list_set
        have hslf := F.sub_list_frozenset
        have hne : (Value.type "list" == Value.type "dict") = false := by decide
        have hl1 : (s.heap.push { cls := .type "set", dict := none, data := .set #[] 0 (.fresh 0 0 (!w.params.followText "set-order")) }).IsList l items := ⟨_, hol', rfl, nl, rfl⟩
        unfold Builtin.«set.__init__» noKeywords Builtin.Frozenset.updateFrom
        generalize hPI : pyIter = PI
        wp_walk
        subst hPI

        refine wpAny_pyIter_list hl1 ?_
        refine wpAny_bind (wpAny_runValue ?_)
        have hlS : l < s.heap.objs.size := Heap.lt_size hol
        have hh3 : A.in1.in1.in1.handled = none := by simp [hh]
        have hz1 : (s.heap.push { cls := .type "set", dict := none, data := .set #[] 0 (.fresh 0 0 (!w.params.followText "set-order")) }).objs.size = s.heap.objs.size + 1 := Heap.size_push ..
        have hneI : l ≠ (s.heap.push { cls := .type "set", dict := none, data := .set #[] 0 (.fresh 0 0 (!w.params.followText "set-order")) }).objs.size := by
          rw [Heap.size_push]; exact Nat.ne_of_lt (Nat.lt_succ_of_lt hlS)
        have hSf : s.heap.objs.size ∉ [(s.heap.push { cls := .type "set", dict := none, data := .set #[] 0 (.fresh 0 0 (!w.params.followText "set-order")) }).objs.size, l] := by
          rw [Heap.size_push]; simp only [List.mem_cons, List.mem_singleton, List.not_mem_nil, or_false, not_or]
          exact ⟨Nat.ne_of_lt (Nat.lt_succ_self _), Nat.ne_of_gt hlS⟩
        have hval : ∀ (i : Nat) (v : Value), items[i]? = some v → ∃ k t, ns[i]? = some k ∧ v = .int k t := fun i v hv => by
          have hi : i < ns.length := by rw [← hisz]; exact (Array.getElem?_eq_some_iff.mp hv).1
          obtain ⟨t, e⟩ := PyProof.Rows.IntsAre.int_at hit i v (by rw [Array.getElem?_toList]; exact hv)
          refine ⟨ns[i], t, List.getElem?_eq_getElem hi, ?_⟩
          rw [e, List.getD_eq_getElem?_getD, List.getElem?_eq_getElem hi] <;> rfl
        refine set_update_ints ((Walks.list hh3 _ l hneI items).toS) s.heap.objs.size
          hSf ns hisz hb hval (items.size - 0) 0 _ (by omega) (Nat.zero_le _)
          ⟨⟨_, Heap.get?_push_size _ rfl, rfl, rfl⟩, (hl1.push _)⟩ ?hS0 ?hR
        case hS0 =>
          have hget : ((s.heap.push { cls := .type "set", dict := none, data := .set #[] 0 (.fresh 0 0 (!w.params.followText "set-order")) }).push { cls := .type "list_iterator", data := .fields #[.ref l, .int 0 0] }).get? s.heap.objs.size
              = some { cls := .type "set", dict := none, data := .set #[] 0 (.fresh 0 0 (!w.params.followText "set-order")) } := Heap.get?_push_of_some _ hS
          exact ⟨0, Nat.le_refl 0, setR_new_at hget⟩
        case hR =>
          intro s' c' hm hc' hS'
          obtain ⟨h', g2, d', tk', os'⟩ := s'
          have eg : g2 = s.gens := hm.gens
          have ed : d' = s.drawn := hm.drawn
          have eo : os' = s.os := hm.os
          subst eg; subst ed; subst eo
          show wpAny _ _ _ _ _ _
          refine wpAny_pure ?_
          show wpAny _ _ (ret Value.none) _ _ _
          rw [hisz] at hc'
          refine wpAny_pure ⟨rfl, h', tk', c', rfl, hS', hc', fun b o e => ?_⟩
          have hb0 : b < s.heap.objs.size := Heap.lt_size e
          have hb1 : b ≠ s.heap.objs.size := Nat.ne_of_lt hb0
          have hb2 : b ≠ (s.heap.push { cls := .type "set", dict := none, data := .set #[] 0 (.fresh 0 0 (!w.params.followText "set-order")) }).objs.size := by
            rw [Heap.size_push]; exact Nat.ne_of_lt (Nat.lt_succ_of_lt hb0)
          exact hm.heap b o (by simp only [List.mem_cons, List.mem_singleton, List.not_mem_nil, or_false, not_or]; exact ⟨hb1, hb2⟩) (Heap.get?_push_of_some _ (Heap.get?_push_of_some _ e))

      · cases r₂ with
        | error e => exact hr₂
        | ok fl₂ =>
          cases fl₂ with
          | ret r =>
            obtain ⟨rfl, h', tk, c', rfl, hS', hc', hk'⟩ := hr₂
            repeat (any_goals (first | assumption | wp_step))
            exact h _ _ _ hS' hc' hk'
          | _ => exact hr₂.elim
    | _ => exact hr.elim
end
end SetN
end Pu

set_option Elab.async false
set_option linter.all false
set_option maxRecDepth 100000
set_option maxHeartbeats 4000000
/-! The pure layer, part O: sorted of lists of data; sets of ints, of tuples of ints -/
namespace Pu
open PySem L2
/-! ### sorting, as a plain function -/
def insL {α : Type} (le : α → α → Bool) (x : α) : List α → List α
  | [] => [x]
  | y :: ys => if le x y = true then x :: y :: ys else y :: insL le x ys
def isort {α : Type} (le : α → α → Bool) : List α → List α
  | [] => []
  | x :: xs => insL le x (isort le xs)
section
variable {α β : Type} {le : α → α → Bool}
theorem insL_mem {x : α} : ∀ {ys : List α} {z : α}, z ∈ insL le x ys ↔ z = x ∨ z ∈ ys
  | [], z => by simp [insL]
  | y :: ys, z => by
    unfold insL
    split
    · simp
    · rw [List.mem_cons, insL_mem, List.mem_cons]
      constructor
      · rintro (h | h | h)
        · exact .inr (.inl h)
        · exact .inl h
        · exact .inr (.inr h)
      · rintro (h | h | h)
        · exact .inr (.inl h)
        · exact .inl h
        · exact .inr (.inr h)
theorem insL_pw (h : PySem.W.TotalLe le) {x : α} : ∀ {ys : List α}, ys.Pairwise (fun a b => le a b = true) → (insL le x ys).Pairwise (fun a b => le a b = true)
  | [], _ => by simp [insL]
  | y :: ys, p => by
    unfold insL
    obtain ⟨p1, p2⟩ := List.pairwise_cons.mp p
    by_cases e : le x y = true
    · rw [if_pos e]
      refine List.pairwise_cons.mpr ⟨fun z hz => ?_, p⟩
      rcases List.mem_cons.mp hz with q | q
      · rw [q]; exact e
      · exact h.trans _ _ _ e (p1 z q)
    · rw [if_neg e]
      refine List.pairwise_cons.mpr ⟨fun z hz => ?_, insL_pw h p2⟩
      rcases insL_mem.mp hz with q | q
      · rw [q]
        exact (h.total x y).resolve_left e
      · exact p1 z q
theorem isort_pw (h : PySem.W.TotalLe le) : ∀ xs : List α, (isort le xs).Pairwise (fun a b => le a b = true)
  | [] => List.Pairwise.nil
  | x :: xs => insL_pw h (isort_pw h xs)
theorem insL_filter (h : PySem.W.TotalLe le) (c x : α) : ∀ ys : List α, (insL le x ys).filter (PySem.W.sameRank le c) = (x :: ys).filter (PySem.W.sameRank le c)
  | [] => rfl
  | y :: ys => by
    unfold insL
    by_cases e : le x y = true
    · rw [if_pos e]
    · rw [if_neg e]
      have ih := insL_filter h c x ys
      by_cases hx : PySem.W.sameRank le c x = true
      · have hy : ¬ PySem.W.sameRank le c y = true := fun hy => by
          unfold PySem.W.sameRank at hx hy
          obtain ⟨a1, a2⟩ := Bool.and_eq_true_iff.mp hx
          obtain ⟨b1, b2⟩ := Bool.and_eq_true_iff.mp hy
          exact e (h.trans _ _ _ a2 b1)
        rw [List.filter_cons_of_pos hx] at ih ⊢
        rw [List.filter_cons_of_neg hy, List.filter_cons_of_neg hy, ih]
      · rw [List.filter_cons_of_neg hx] at ih ⊢
        by_cases hy : PySem.W.sameRank le c y = true
        · rw [List.filter_cons_of_pos hy, List.filter_cons_of_pos hy, ih]
        · rw [List.filter_cons_of_neg hy, List.filter_cons_of_neg hy, ih]
theorem isort_filter (h : PySem.W.TotalLe le) (c : α) : ∀ xs : List α, (isort le xs).filter (PySem.W.sameRank le c) = xs.filter (PySem.W.sameRank le c)
  | [] => rfl
  | x :: xs => by
    show (insL le x (isort le xs)).filter _ = _
    rw [insL_filter h, List.filter_cons, List.filter_cons, isort_filter h c xs]
theorem isort_eq (h : PySem.W.TotalLe le) (xs : List α) : isort le xs = xs.mergeSort le := PySem.W.sort_unique h (isort_pw h xs) fun c => isort_filter h c xs
theorem insL_map {le' : β → β → Bool} (f : β → α) (x : β) (h : ∀ a b, le' a b = le (f a) (f b)) : ∀ ys : List β, (insL le' x ys).map f = insL le (f x) (ys.map f)
  | [] => rfl
  | y :: ys => by
    rw [List.map_cons, insL, insL, h]
    by_cases e : le (f x) (f y) = true
    · rw [if_pos e, if_pos e]; rfl
    · rw [if_neg e, if_neg e, List.map_cons, insL_map f x h ys]
theorem isort_map {le' : β → β → Bool} (f : β → α) (h : ∀ a b, le' a b = le (f a) (f b)) : ∀ xs : List β, (isort le' xs).map f = isort le (xs.map f)
  | [] => rfl
  | x :: xs => by
    show (insL le' x (isort le' xs)).map f = insL le (f x) (isort le (xs.map f))
    rw [insL_map f x h, isort_map f h xs]
theorem isort_mem : ∀ {xs : List α} {z : α}, z ∈ isort le xs ↔ z ∈ xs
  | [], z => Iff.rfl
  | x :: xs, z => by
    show z ∈ insL le x (isort le xs) ↔ _
    rw [insL_mem, isort_mem, List.mem_cons]
theorem isort_len : ∀ xs : List α, (isort le xs).length = xs.length := by
  have ins : ∀ (x : α) (ys : List α), (insL le x ys).length = ys.length + 1 := fun x ys => by
    induction ys with
    | nil => rfl
    | cons y ys ih =>
      unfold insL
      split
      · rfl
      · rw [List.length_cons, ih, List.length_cons]
  intro xs
  induction xs with
  | nil => rfl
  | cons x xs ih =>
    show (insL le x (isort le xs)).length = _
    rw [ins, ih, List.length_cons]
end
/-! ### sorted(xs) -/
abbrev leP : PyData → PyData → Bool := PySem.W.dataLe false fun p : PyData => p
def ltoD (a b : D) : Bool := leP a.py b.py
def alikeB (ds : List PyData) : Bool := ds.all fun d => ds.all fun e => PySem.W.alike d e
def tupB : PyData → Bool
  | .tuple (_ :: _) => true
  | _ => false
def plainB : PyData → Bool
  | .none => false
  | .tuple _ => false
  | _ => true
def sortB (ds : List PyData) : Bool := alikeB ds && (ds.all tupB || ds.all plainB)
theorem sortB_ok {ds : List PyData} (h : sortB ds = true) : PySem.W.AllAlike ds ∧ PySem.W.Sortable ds := by
  unfold sortB at h
  obtain ⟨h1, h2⟩ := Bool.and_eq_true_iff.mp h
  refine ⟨fun d hd e he => ?_, ?_⟩
  · unfold alikeB at h1
    exact List.all_eq_true.mp (List.all_eq_true.mp h1 d hd) e he
  · rcases Bool.or_eq_true_iff.mp h2 with h | h
    · refine .inl fun d hd => ?_
      have q := List.all_eq_true.mp h d hd
      unfold tupB at q
      split at q
      · exact ⟨_, _, rfl⟩
      · cases q
    · refine .inr fun d hd => ?_
      have q := List.all_eq_true.mp h d hd
      unfold plainB at q
      split at q
      · cases q
      · cases q
      · rename_i n1 n2
        exact ⟨n1, n2⟩
abbrev le2 : PyData × V → PyData × V → Bool := PySem.W.dataLe false fun b : PyData × V => b.1
def rSortedAny (K : PySem.W.Frag) : List V → Hp → VK → Prop := fun vs H Q => ∃ (a : Addr) (ds : List PyData) (xs : List V), vs = [V.ref a] ∧ SqL K H a xs ∧ DpAll K H xs ds ∧ sortB ds = true ∧ PyData.depthAll ds ≤ 60 ∧
  ∀ p, H p = none → Q (.ref p) (upd H p (.lst ((isort le2 (ds.zip xs)).map (·.2))))
theorem each_zip {X : Cx} {pins : List (Addr × Obj)} {σ : St} {H : Hp} {s : Shared} (I : Inv X pins σ H s) : ∀ {ds : List PyData} {xs : List V} {us : List Value}, DpAll X.K H xs ds → Vals xs us →
    PySem.W.EachIs (fun (u : Value) (b : PyData × V) => RelV b.2 u) us (ds.zip xs) ∧ PySem.W.EachIs (fun (u : Value) (b : PyData × V) => ∃ as, Reads s.heap u b.1 as) us (ds.zip xs) ∧ (ds.zip xs).map (·.1) = ds
  | [], [], us, h, r => by
    cases r
    exact ⟨.nil, .nil, rfl⟩
  | d :: ds, [], us, h, r => by cases h
  | [], x :: xs, us, h, r => by cases h
  | d :: ds, x :: xs, us, h, r => by
    cases r with
    | cons r rr =>
      cases h with
      | cons h hh =>
        obtain ⟨i1, i2, i3⟩ := each_zip I hh rr
        refine ⟨.cons r i1, .cons (Dp.reads I d x _ h r) i2, ?_⟩
        rw [List.zip_cons_cons, List.map_cons, i3]
theorem vals_each : ∀ {us : List Value} {bs : List (PyData × V)}, PySem.W.EachIs (fun (u : Value) (b : PyData × V) => RelV b.2 u) us bs → Vals (bs.map (·.2)) us
  | _, _, .nil => .nil
  | _, _, .cons h t => .cons h (vals_each t)
theorem depth_mem : ∀ {ds : List PyData} {d : PyData}, d ∈ ds → d.depth ≤ PyData.depthAll ds
  | e :: ds, d, h => by
    rw [PyData.depthAll]
    rcases List.mem_cons.mp h with q | q
    · rw [q]; omega
    · have := depth_mem q
      omega
theorem cr_sortedAny {X : Cx} {k : Nat} (hr : Room k X.A) : CallR X (.builtin "sorted") (rSortedAny X.K) := by
  intro pins s σ H vs us Q I r h
  obtain ⟨a, ds, xs, rfl, hs, hd, hb, hdep, q⟩ := h
  obtain ⟨its, rv, hl, hz⟩ := I.list hs
  rw [Vals.ref1 r]
  obtain ⟨e1, e2, e3⟩ := each_zip I hd rv
  obtain ⟨b1, b2⟩ := sortB_ok hb
  have hlen : (ds.zip xs).length = xs.length := by rw [← e1.length, ← rv.length]
  refine PySem.W.sorted_data (enc := fun b : PyData × V => b.1) (bs := ds.zip xs) (vs := its) (R := fun u b => RelV b.2 u) hl.isList e1 e2 (by rw [e3]; exact b1) (by rw [e3]; exact b2) (by rw [hlen]; exact hz) (fun b hbm => ?_) fun out ol oe => ?_
  · have m : b.1 ∈ ds := by
      rw [← e3]
      exact List.mem_map_of_mem hbm
    have := depth_mem m
    have := hr.un
    omega
  · have es : isort le2 (ds.zip xs) = (ds.zip xs).mergeSort (PySem.W.dataLe false fun b : PyData × V => b.1) := isort_eq (PySem.W.sortLe_total _ _ _) _
    rw [← es] at oe
    have rv2 := vals_each oe
    obtain ⟨ep, he'⟩ := PyProof.Rows.sortedAll_at s.heap its out.toArray
    have hl2 : ((isort le2 (ds.zip xs)).map (·.2)).length ≤ sizeLine := by
      rw [List.length_map, isort_len, hlen]
      exact hz
    exact ⟨.ref _, upd H (s.heap.objs.size + 1) (.lst ((isort le2 (ds.zip xs)).map (·.2))), I.laid (t' := s.toks) (fun _ _ => PyProof.Rows.sortedAll_old) (Nat.le_succ _) ⟨hl2, out, ep, rv2, he'⟩, rfl, q _ (I.hok.fresh (Nat.le_succ _))⟩
/-- the items and their values, sorted together -/
theorem reps_perm {P : Px} {O : Addr → Prop} {bx : Option Addr} {H : Hp} (zs : List (D × V)) : Reps P O bx H (zs.map (·.1)) (zs.map (·.2)) ↔ ∀ z ∈ zs, Rep P O bx H z.1 z.2 := by
  induction zs with
  | nil => exact ⟨fun _ z hz => (by cases hz), fun _ => .nil⟩
  | cons z zs ih =>
    constructor
    · intro h y hy
      cases h with
      | cons h t =>
        rcases List.mem_cons.mp hy with q | q
        · rw [q]; exact h
        · exact ih.mp t y q
    · intro h
      exact .cons (h z List.mem_cons_self) (ih.mpr fun y hy => h y (List.mem_cons_of_mem _ hy))
theorem zip_maps {α β : Type} : ∀ {xs : List α} {ys : List β}, xs.length = ys.length → (xs.zip ys).map (·.1) = xs ∧ (xs.zip ys).map (·.2) = ys
  | [], [], _ => ⟨rfl, rfl⟩
  | x :: xs, y :: ys, h => by
    obtain ⟨h1, h2⟩ := zip_maps (xs := xs) (ys := ys) (by simpa using h)
    rw [List.zip_cons_cons, List.map_cons, List.map_cons, h1, h2]
    exact ⟨rfl, rfl⟩
  | [], y :: ys, h => by simp at h
  | x :: xs, [], h => by simp at h
theorem sort_reps {P : Px} {O : Addr → Prop} {bx : Option Addr} {H : Hp} {ds : List D} {vs : List V} (r : Reps P O bx H ds vs) : Reps P O bx H (isort ltoD ds) ((isort le2 ((D.pys ds).zip vs)).map (·.2)) := by
  have hl := r.length
  obtain ⟨z1, z2⟩ := zip_maps hl
  have hp : ∀ ds : List D, D.pys ds = ds.map D.py := fun ds => by
    induction ds with
    | nil => rw [D.pys, List.map_nil]
    | cons d ds ih => rw [D.pys, List.map_cons, ih]
  have e0 : (D.pys ds).zip vs = (ds.zip vs).map fun z => (z.1.py, z.2) := by
    rw [hp]
    clear r hl z1 z2
    induction ds generalizing vs with
    | nil => rfl
    | cons d ds ih =>
      cases vs with
      | nil => rfl
      | cons v vs => rw [List.map_cons, List.zip_cons_cons, List.zip_cons_cons, List.map_cons, ih]
  have s1 : isort ltoD ds = (isort (fun a b : D × V => ltoD a.1 b.1) (ds.zip vs)).map (·.1) := by
    rw [isort_map (le := ltoD) (fun z : D × V => z.1) fun _ _ => rfl, z1]
  have s2 : isort le2 ((D.pys ds).zip vs) = (isort (fun a b : D × V => ltoD a.1 b.1) (ds.zip vs)).map fun z => (z.1.py, z.2) := by
    rw [e0]
    exact (isort_map (le' := fun a b : D × V => ltoD a.1 b.1) (le := le2) (fun z : D × V => (z.1.py, z.2)) (fun _ _ => rfl) _).symm
  rw [s1, s2, List.map_map]
  refine (reps_perm _).mpr fun z hz => ?_
  have hz' := isort_mem.mp hz
  have r' : Reps P O bx H ((ds.zip vs).map (·.1)) ((ds.zip vs).map (·.2)) := by rw [z1, z2]; exact r
  exact (reps_perm _).mp r' z hz'
def sortF1 (d : D) : M (List D) := match d.lseq with
  | some xs => if (D.oks deep xs && sortB (D.pys xs)) = true then pure (isort ltoD xs) else stuck
  | none => stuck
def fSort (f : DEnv → M D) : DEnv → M (List D) := fun ρ => f ρ >>= sortF1
section
variable {X : Cx} {P : Px} {e a : Expr} {pos : Pos} {f : DEnv → M D} {fs : DEnv → M (List D)}
theorem sf_sorted {x : Expr} {p : Pos} {k : Nat} (hr : Room k X.A) (hg : Gl X "sorted") (hm : X.mg "sorted" = none) (ha : SE X P x f) (hK : X.K = P.K := by rfl) (he : starEach [x] X.env = (false, eval x X.env) :: starEach [] X.env := by rfl) : SF X P (.Call (.Name "sorted" p) [x] [] pos) (fSort f) :=
  ⟨fun W tk => pe_imp (pe_callB (cr_sortedAny hr) hg hm PyProof.Rows.boot_sorted (pa_cons (ha.pe W tk) pa_nil he) (by decide) (by decide) he rfl) fun σ H Q h => by
    obtain ⟨g, ρ, b, hP, S, w⟩ := h
    refine ⟨g, ρ, b, hP, S, (wpG.bind (R1 := RepT g) w).imp fun v H1 ⟨d, b1, e1, B1, r1, w1⟩ => ?_⟩
    unfold sortF1 at w1
    cases e : d.lseq with
    | none => rw [e] at w1; exact w1.elim
    | some xs =>
      rw [e] at w1
      obtain ⟨hok, w2⟩ := wp_ite (c := (D.oks deep xs && sortB (D.pys xs)) = true) (m := pure (isort ltoD xs)) w1
      obtain ⟨h1, h2⟩ := and2 hok
      obtain ⟨a, vs, rfl, h, r⟩ := lseq_rep r1 e
      subst hP
      rw [hK]
      have dp := Reps.dp (n := deep) r h1
      exact ⟨a, D.pys xs, vs, rfl, .inl (.inl h), dp, h2, (oks_lay _ _ h1).2, fun l hl => w2 (.ref l) _ (Ex1.new hl) (B1.new hl) (rf_new B1 e1 hl (sort_reps r))⟩⟩
/-! ### sorted(set(xs)), len(set(xs)) -/
def insU (x : Int) : List Int → List Int
  | [] => [x]
  | y :: ys => if x < y then x :: y :: ys else if x = y then y :: ys else y :: insU x ys
def usort : List Int → List Int
  | [] => []
  | x :: xs => insU x (usort xs)
theorem insU_mem {x : Int} : ∀ {ys : List Int} {z : Int}, z ∈ insU x ys ↔ z = x ∨ z ∈ ys
  | [], z => by simp [insU]
  | y :: ys, z => by
    unfold insU
    split
    · simp
    · split
      · rename_i e
        subst e
        simp
      · rw [List.mem_cons, insU_mem, List.mem_cons]
        constructor
        · rintro (h | h | h)
          · exact .inr (.inl h)
          · exact .inl h
          · exact .inr (.inr h)
        · rintro (h | h | h)
          · exact .inr (.inl h)
          · exact .inl h
          · exact .inr (.inr h)
theorem usort_mem : ∀ {xs : List Int} {z : Int}, z ∈ usort xs ↔ z ∈ xs
  | [], z => Iff.rfl
  | x :: xs, z => by
    show z ∈ insU x (usort xs) ↔ _
    rw [insU_mem, usort_mem, List.mem_cons]
theorem insU_pw {x : Int} : ∀ {ys : List Int}, ys.Pairwise (· < ·) → (insU x ys).Pairwise (· < ·)
  | [], _ => by simp [insU]
  | y :: ys, p => by
    unfold insU
    obtain ⟨p1, p2⟩ := List.pairwise_cons.mp p
    split
    · rename_i e
      refine List.pairwise_cons.mpr ⟨fun z hz => ?_, p⟩
      rcases List.mem_cons.mp hz with q | q
      · rw [q]; exact e
      · have := p1 z q
        omega
    · split
      · exact p
      · refine List.pairwise_cons.mpr ⟨fun z hz => ?_, insU_pw p2⟩
        rcases insU_mem.mp hz with q | q
        · omega
        · exact p1 z q
theorem usort_pw : ∀ xs : List Int, (usort xs).Pairwise (· < ·)
  | [] => List.Pairwise.nil
  | x :: xs => insU_pw (usort_pw xs)
theorem lt_uniq : ∀ {xs ys : List Int}, xs.Pairwise (· < ·) → ys.Pairwise (· < ·) → (∀ z, z ∈ xs ↔ z ∈ ys) → xs = ys
  | [], [], _, _, _ => rfl
  | [], y :: ys, _, _, h => by
    have := (h y).mpr List.mem_cons_self
    cases this
  | x :: xs, [], _, _, h => by
    have := (h x).mp List.mem_cons_self
    cases this
  | x :: xs, y :: ys, p, q, h => by
    obtain ⟨p1, p2⟩ := List.pairwise_cons.mp p
    obtain ⟨q1, q2⟩ := List.pairwise_cons.mp q
    have e : x = y := by
      rcases List.mem_cons.mp ((h x).mp List.mem_cons_self) with e | e
      · exact e
      · rcases List.mem_cons.mp ((h y).mpr List.mem_cons_self) with e' | e'
        · exact e'.symm
        · have := p1 y e'
          have := q1 x e
          omega
    subst e
    rw [lt_uniq p2 q2 fun z => ⟨fun hz => ?_, fun hz => ?_⟩]
    · rcases List.mem_cons.mp ((h z).mp (List.mem_cons_of_mem _ hz)) with e | e
      · have := p1 z hz
        omega
      · exact e
    · rcases List.mem_cons.mp ((h z).mpr (List.mem_cons_of_mem _ hz)) with e | e
      · have := q1 z hz
        omega
      · exact e
def tSortSet (K : PySem.W.Frag) (ta : TE) : TE := fun σ H Q => ta σ H fun x H1 => ∃ (l : Addr) (ns : List Int), x = V.ref l ∧ SqL K H1 l (ns.map V.int) ∧ ns.length < 64 ∧ ∀ p, H1 p = none → Q (.ref p) (upd H1 p (.lst ((usort ns).map V.int)))
theorem pe_sortSet {a : Expr} {ta : TE} {p p2 q pos : Pos} (hc : X.calm = true) (hg : Gl X "sorted") (hm : X.mg "sorted" = none) (hg2 : Gl X "set") (hm2 : X.mg "set" = none) (ha : PE X a ta)
    (na : starEach [a] X.env = (false, eval a X.env) :: starEach [] X.env := by rfl) : PE X (.Call (.Name "sorted" p) [.Call (.Name "set" p2) [a] [] q] [] pos) (tSortSet X.K ta) := by
  refine ⟨fun pins s σ H Q I h => ?_⟩
  refine PyProof.Rows.Call_ (ld_blt I hg hm PyProof.Rows.boot_sorted ?_)
  refine PyProof.Rows.callWith_builtin1 (PyProof.Rows.args_cons ?_ rfl) rfl rfl
  refine PyProof.Rows.Call_ (ld_blt I hg2 hm2 PyProof.Rows.boot_set ?_)
  refine PyProof.Rows.callWith_type1 (PyProof.Rows.args_cons (thn (ha.run pins s σ H _ I h) fun v s1 ⟨x, H1, I1, r1, q1⟩ => PyProof.Rows.args_nil ?_) na) na rfl
  obtain ⟨l, ns, rfl, hq, h64, q1⟩ := q1
  cases r1
  obtain ⟨its, r, pl, hz⟩ := I1.list hq
  refine SetN.call_set_listN (P := X.prog) (w := X.w) ns (I1.ok.hd hc) pl.isList (by simpa using r.ints) (by unfold scanBound; omega) fun h' tk c R hcl hk => ?_
  refine PyProof.Rows.args_nil ?_
  have I2 : Inv X pins σ H1 { s1 with heap := h', toks := tk } := I1.kept hk
  generalize hs2 : ({ s1 with heap := h', toks := tk } : Shared) = s2 at I2
  have R : SetR X.w s2.heap s1.heap.objs.size (fun j => decide (j ∈ ns)) c := by rw [← hs2]; exact R
  refine sorted_set R (I2.ok.hd hc) (by omega) fun s' p out c' ms k g o hp hg' hi hs hm' hl => ?_
  have em : ms = usort ns := lt_uniq hs (usort_pw ns) fun z => by
    rw [hm', usort_mem, decide_eq_true_iff]
  subst em
  have hlen : ((usort ns).map V.int).length ≤ sizeLine := by
    rw [List.length_map, hl, sizeLine_eq]
    omega
  have hn : H1 p = none := I2.hok.fresh hp
  have J : Inv X pins σ (upd H1 p (.lst ((usort ns).map V.int))) { s2 with heap := s'.heap, gens := s'.gens, drawn := s'.drawn, toks := s'.toks } :=
    I2.call (ch := []) (Un.laid k hp hn) (I2.hok.laid k hp ⟨hlen, out.toList, c', vals_of_ints hi, hg'⟩) (by rw [g]; exact I2.bare) (fun _ z => nomatch z)
  have e : s' = { s2 with heap := s'.heap, gens := s'.gens, drawn := s'.drawn, toks := s'.toks } := by
    cases s'
    cases s2
    cases o
    rfl
  rw [e]
  exact ⟨.ref p, _, J, rfl, q1 p hn⟩
def sortSet1 (d : D) : M (List D) := match d.lseq with
  | some xs => match intsOf xs with
    | some ns => if ns.length < 64 then pure ((usort ns).map D.int) else stuck
    | none => stuck
  | none => stuck
def fSortSet (f : DEnv → M D) : DEnv → M (List D) := fun ρ => f ρ >>= sortSet1
theorem reps_ints {P : Px} {O : Addr → Prop} {bx : Option Addr} {H : Hp} : ∀ ns : List Int, Reps P O bx H (ns.map D.int) (ns.map V.int)
  | [] => .nil
  | n :: ns => .cons (.int n) (reps_ints ns)
theorem sf_sortSet {p p2 q : Pos} (hc : X.calm = true) (hg : Gl X "sorted") (hm : X.mg "sorted" = none) (hg2 : Gl X "set") (hm2 : X.mg "set" = none) (ha : SE X P a f) (hK : X.K = P.K := by rfl)
    (na : starEach [a] X.env = (false, eval a X.env) :: starEach [] X.env := by rfl) : SF X P (.Call (.Name "sorted" p) [.Call (.Name "set" p2) [a] [] q] [] pos) (fSortSet f) :=
  ⟨fun W tk => pe_imp (pe_sortSet hc hg hm hg2 hm2 (ha.pe W tk) na) fun σ H Q h => by
    obtain ⟨g, ρ, b, hP, S, w⟩ := h
    refine ⟨g, ρ, b, hP, S, (wpG.bind (R1 := RepT g) w).imp fun v H1 ⟨d, b1, e1, B1, r1, w1⟩ => ?_⟩
    unfold sortSet1 at w1
    cases e : d.lseq with
    | none => rw [e] at w1; exact w1.elim
    | some xs =>
      rw [e] at w1
      obtain ⟨a, vs, rfl, h, r⟩ := lseq_rep r1 e
      cases e2 : intsOf xs with
      | none => simp only [e2] at w1; exact w1.elim
      | some ns =>
        simp only [e2] at w1
        obtain ⟨hl, w2⟩ := wp_ite (c := ns.length < 64) (m := pure ((usort ns).map D.int)) w1
        have ev := ints_rep r e2
        subst ev
        exact ⟨a, ns, rfl, .inl (.inl h), hl, fun l hl => w2 (.ref l) _ (Ex1.new hl) (B1.new hl) (rf_new B1 e1 hl (reps_ints _))⟩⟩
end
end Pu

set_option Elab.async false
set_option linter.all false
set_option maxRecDepth 100000
set_option maxHeartbeats 4000000
/-! The pure layer, part P: try with several clauses that name the exception -/
namespace Pu
namespace TryA
open PySem PySem.Spec PyProof.Rows L2
/-- the ends of a suite whose clause's name (slot i) goes -/
def goneE (D : Ends) (i : Nat) : Ends := { nx := fun σ' H' => D.nx (σ'.set i none) H', rt := D.rt, bk := fun σ' H' => D.bk (σ'.set i none) H', ct := fun σ' H' => D.ct (σ'.set i none) H' }
structure Cl where
  c : Value
  i : Nat
  ts : Addr → Value → Option Addr → TS
def wClauses (K : PySem.W.Frag) (Wout : WX) (D : Ends) : List Cl → WX
  | [] => Wout
  | l :: r => fun cls d σ H => ∃ b, PySem.W.exmOne K cls l.c = some b ∧ (b = true → ∀ a, H a = none → l.ts a cls d (goneE D l.i) (σ.set l.i (some (.ref a))) H) ∧ (b = false → wClauses K Wout D r cls d σ H)
inductive ClOk (X : Cx) : List ExceptHandler → List Cl → Prop
  | nil : ClOk X [] []
  | cons {x n : Str} {l : Cl} {b₀ : Stmt} {suite : List Stmt} {np pos' : Pos} {hds : List ExceptHandler} {ls : List Cl} (hc : Names X x l.c) (hi : X.N[l.i]? = some n) (hln : X.env.kindOf n = some .local)
      (hsu : ∀ (a : Addr) (oe : Obj) (cls : Value) (d : Option Addr) (pn : List (Addr × Obj)), Zc cls d oe → (∃ vs, oe.data = .fields vs) → PSs (X.suite a ((a, oe) :: pn)) (b₀ :: suite) (l.ts a cls d)) (r : ClOk X hds ls) :
      ClOk X (.ExceptHandler (some (.Name x np)) (some n) (b₀ :: suite) pos' :: hds) (l :: ls)
section
variable {X : Cx} {body : List Stmt} {h₀ : ExceptHandler} {hds : List ExceptHandler} {l : List Cl} {pos : Pos} {tb : WX → TS} {Wout : WX}
theorem ps_try_clauses (hN : X.N.Nodup) (hs : X.stack = X.env :: X.outer) (hf : X.env.frame = some X.env.locals) (tk : Takes X Wout)
    (hb : ∀ (W : WX) (pn : List (Addr × Obj)) (xe : Value → Shared → Prop), Takes (X.tr pn xe) W → PassesOwn (model X.prog X.w) X.A X.env xe → PSs (X.tr pn xe) body (tb W))
    (hh : ClOk X (h₀ :: hds) l) : PS X (.Try body (h₀ :: hds) [] [] pos) (fun D σ H => tb (wClauses X.K Wout D l) D σ H) := by
  refine ⟨fun pins s σ H D I h => ?_⟩
  have ok := I.ok
  have hfr : X.A.frames = some (X.env :: X.outer) := by rw [ok.frames, hs]
  refine wpAny_Try_except ?_
  refine wpAny_mono ((hb (wClauses X.K Wout D l) (X.pn ++ pins) (fun e s₁ => wpAny (model X.prog X.w) X.A (noteFrame e X.env) (fun _ s₂ => wpAny (model X.prog X.w) X.A (setFlight e none) (fun _ s₃ =>
    wpAny (model X.prog X.w) X.A (handleBy e X.env (h₀ :: hds)) (SP X pins D) X.xe s₃) X.xe s₂) X.xe s₁) (fun u s' xx => ?_) PassesOwn.looking).run [] s σ H D (I.toTry _) h) (fun f s1 hsp => ?_) (fun e s1 he => he)
  · -- the catch
    obtain ⟨a, B, sI, pins', σ', H', cls, d, rfl, J', nb, up, sky, na, os, ag, w⟩ := xx
    have J : Inv X pins σ' H' sI := J'.ofTry ok
    have sky' : Sky B (X.env :: X.outer) a (Zc cls d) X.env.locals s'.heap := by rw [← hs]; exact sky
    show wpAny (model X.prog X.w) X.A (noteFrame (.ref a) X.env) _ _ _
    refine Sky.land Zc.steady hfr hf sky' fun h3 fl3 up3 => ?_
    have J3 : Inv X pins σ' H' { s' with heap := h3 } := J.landed nb fl3.1 (up.trans up3) os ag
    obtain ⟨oe3, vs3, he3, hz3, hd3⟩ := fl3.there
    have notFr : ∀ {h : Heap} {o : Obj} {vs : Array Value}, h.FunFrames B (X.env :: X.outer) → h.get? a = some o → o.data = .fields vs → a ∉ frs (X.env :: X.outer) := fun {h o vs} ff e dd hm => by
      obtain ⟨_, o', e', hnf⟩ := ff.mem hm
      rw [e] at e'; cases e'
      exact hnf _ dd
    have nfr := notFr fl3.2.2.1 he3 hd3
    have nL : a ≠ X.env.locals := fun z => nfr (List.mem_filterMap.mpr ⟨X.env, List.mem_cons_self, by rw [hf, z]⟩)
    have nF : a ∉ X.fs := fun hm => by
      obtain ⟨e, he, q⟩ := List.mem_filterMap.mp hm
      exact nfr (List.mem_filterMap.mpr ⟨e, List.mem_cons_of_mem _ he, q⟩)
    have S3 := J3.suite he3 hd3 na nL nF
    have go : ∀ {hds' : List ExceptHandler} {l' : List Cl}, ClOk X hds' l' → wClauses X.K Wout D l' cls d σ' H' →
        wpAny (model X.prog X.w) X.A (handleBy (.ref a) X.env hds') (SP X pins D) X.xe { s' with heap := h3 } := by
      intro hds' l' hk
      induction hk with
      | nil =>
        intro w
        refine wpAny_handleBy_nil ?_
        obtain ⟨k1, k2, k3, oe, vs, T, oT, ts', he, hz, hd, h1, hr⟩ := id fl3
        unfold PySem.passOn
        refine wpAny_bind (wpAny_field he hd h1 ?_)
        rw [if_neg (show ¬ ((Value.ref T == Value.none) = true) from by simp)]
        have fin : wpAny (model X.prog X.w) X.A (setFlight (.ref a) X.env.frame) (fun _ s4 => wpAny (model X.prog X.w) X.A (throw (.ref a) : Sem Flow) (SP X pins D) X.xe s4) X.xe { s' with heap := h3 } := by
          rw [hf]
          refine HandSPX.setFlight_upZ fl3 fun h4 hh4 up4 => wpAny_throw (tk _ _ ?_)
          exact ⟨a, B, sI, pins, σ', H', cls, d, rfl, J, nb, (up.trans up3).trans up4, .inr (.inr (by rw [hs]; exact hh4)), na, os, ag, w⟩
        first
          | exact wpAny_bind (wpAny_pure (wpAny_bind fin))
          | exact wpAny_bind fin
      | @cons x n cl b₀ suite np pos' hds2 l2 hc hi hln hsu r ih =>
        intro w
        obtain ⟨b, hb1, hyes, hno⟩ := w
        refine wpAny_handleBy_cons (codeAny_handlers_test ?_) (by intro q; cases q)
        have LT : PySem.W.Looks (model X.prog X.w) h3 (typeOf (.ref a)) cls := fun A Q E s k q => wpAny_typeOf_ref (k _ _ he3) (by rw [hz3.1]; exact q)
        have LM := PySem.W.exm_one (M := model X.prog X.w) (J3.kIn) LT hb1
        have test : ∀ {Q : Value → Shared → Prop} {E : Value → Shared → Prop}, Q cl.c { s' with heap := h3 } → wpAny (model X.prog X.w) (X.A.mark (some (.ref a))) (eval (.Name x np) X.env) Q E { s' with heap := h3 } := fun {Q E} q => by
          obtain ⟨hg, hdbg, hm | ⟨hm, hv, hnn⟩⟩ := hc
          · exact ld_glob (X := X.suite a ((a, oe3) :: (X.pn ++ pins))) S3 hg hm q hdbg
          · exact ld_blt (X := X.suite a ((a, oe3) :: (X.pn ++ pins))) S3 hg hm hv q hnn hdbg
        refine test (LM.here ?_)
        cases b with
        | true =>
          refine codeAny_handlers_suite_as ?_
          refine HandSPX.lands_againZ fl3 fun h4 fl4 up4 => ?_
          have J4 : Inv X pins σ' H' { s' with heap := h4 } := J.landed nb fl4.1 ((up.trans up3).trans up4) os ag
          obtain ⟨oe4, vs4, he4, hz4, hd4⟩ := fl4.there
          have S4 := J4.suite he4 hd4 na nL nF
          refine store_ok (X := X.suite a ((a, oe4) :: (X.pn ++ pins))) (v := .ref a) S4 hN hi (.inl hln) rfl (fun s5 S5 => ?_) (.inr hln)
          refine wpAny_mono ((hsu a oe4 cls d (X.pn ++ pins) hz4 ⟨_, hd4⟩).run [] s5 _ H' _ S5 (hyes rfl a na)) (fun f s6 hsp => ?_) (fun _ _ z => False.elim z)
          have end_ : ∀ {σ6 : L2.St} {H6 : Hp} {Q : Shared → Prop}, Inv (X.suite a ((a, oe4) :: (X.pn ++ pins))) [] σ6 H6 s6 → (∀ s7, Inv X pins (σ6.set cl.i none) H6 s7 → Q s7) →
              wpAny (model X.prog X.w) X.A (do bindName X.env n .none; unbindBehindTheSuite X.env n pos') (fun _ s7 => Q s7) X.xe s6 := fun {σ6 H6 Q} S6 hq => gone_ok (S6.unsuite ok) hN hi hln hq
          cases f with
          | next =>
            obtain ⟨σ6, H6, S6, q6⟩ := hsp
            exact end_ S6 fun s7 J7 => ⟨_, _, J7, q6⟩
          | brk =>
            obtain ⟨σ6, H6, S6, q6⟩ := hsp
            exact end_ S6 fun s7 J7 => ⟨_, _, J7, q6⟩
          | cont =>
            obtain ⟨σ6, H6, S6, q6⟩ := hsp
            exact end_ S6 fun s7 J7 => ⟨_, _, J7, q6⟩
          | ret u =>
            obtain ⟨v6, σ6, H6, S6, r6, q6⟩ := hsp
            exact end_ S6 fun s7 J7 => ⟨_, _, _, J7, r6, q6⟩
        | false =>
          show wpAny _ X.A (handleBy (.ref a) X.env hds2) _ _ _
          exact ih (hno rfl)
    exact go hh w
  · cases f with
    | next =>
      obtain ⟨σ', H', J', q⟩ := hsp
      exact wpAny_execs_nil ⟨σ', H', J'.ofTry ok, q⟩
    | brk =>
      obtain ⟨σ', H', J', q⟩ := hsp
      exact ⟨σ', H', J'.ofTry ok, q⟩
    | cont =>
      obtain ⟨σ', H', J', q⟩ := hsp
      exact ⟨σ', H', J'.ofTry ok, q⟩
    | ret u =>
      obtain ⟨v, σ', H', J', r, q⟩ := hsp
      exact ⟨v, σ', H', J'.ofTry ok, r, q⟩
end
end TryA
end Pu

set_option Elab.async false
set_option linter.all false
set_option maxRecDepth 100000
set_option maxHeartbeats 4000000
/-! The pure layer, part Q: try: .. except X as n: return t if isinstance(n, ValueError) else u; the head's Hook with one more look -/
namespace Pu
open PySem L2 TryA
/-- what an error's class must say when its instances are asked -/
structure ErrX (K : PySem.W.Frag) (D : Addr) : Prop where
  ec : L2.ExcC K D
  ko : PySem.W.kitOne K (.ref D) (.type "ValueError") = some true
def lookC (c : Nat) : List (Nat × Nat × Str) → Option Str
  | [] => none
  | (c', _, t) :: r => if c = c' then some t else lookC c r
def sSlip (cs : List (Nat × Nat × Str)) (u : DEnv → M Out) : DEnv → M Out := fun ρ b => match u ρ b with
  | .ok o b => .ok o b
  | .exc ⟨c, none⟩ b => match lookC c cs with
    | some t => .ok (.rt (.str t)) b
    | none => .stk
  | _ => .stk
section
variable {X : Cx} {P : Px}
def slipCl (P : Px) (K : PySem.W.Frag) (l : Nat × Nat × Str) : Cl := ⟨.ref (P.ca l.1), l.2.1, fun a cls d D σ H => ∃ c, cls = .ref c ∧ d = none ∧ ErrX K c ∧ (∃ σ0 : St, σ = σ0.set l.2.1 (some (.ref a))) ∧ D.rt (.str l.2.2) H⟩
inductive SlipOk (X : Cx) (P : Px) : List ExceptHandler → List (Nat × Nat × Str) → Prop
  | nil : SlipOk X P [] []
  | cons {x n t u : Str} {c i : Nat} {np pos' p1 p2 p3 p4 p5 p6 p7 p8 : Pos} {j1 j2 : Nat} {hds : List ExceptHandler} {ls : List (Nat × Nat × Str)} (hx : Gl X x) (hd : (x == ("__debug__" : Str)) = false) (hm : X.mg x = some (.ref (P.ca c))) (hi : X.N[i]? = some n) (hn : (n == ("__debug__" : Str)) = false) (hn2 : (n == ("__classdict__" : Str)) = false) (hln : X.env.kindOf n = some .local) (r : SlipOk X P hds ls) :
      SlipOk X P (.ExceptHandler (some (.Name x np)) (some n) [.Return (some (.IfExp (.Call (.Name "isinstance" p1) [.Name n p2, .Name "ValueError" p3] [] p4) (.Constant (.str t) j1 p5) (.Constant (.str u) j2 p6) p7)) p8] pos' :: hds) ((c, i, t) :: ls)
theorem slip_cl (hg : Gl X "isinstance") (hm : X.mg "isinstance" = none) (hgV : Gl X "ValueError") (hmV : X.mg "ValueError" = none) : ∀ {hds : List ExceptHandler} {ls : List (Nat × Nat × Str)}, SlipOk X P hds ls → ClOk X hds (ls.map (slipCl P X.K))
  | _, _, .nil => .nil
  | _, _, .cons (n := n) (c := c) (i := i) (t := t) hx hd hmx hi hn hn2 hln r => .cons (l := slipCl P X.K (c, i, t)) ⟨hx, hd, .inl hmx⟩ hi hln (fun a oe cls d pn hz hf => ⟨fun pins s σ H D I h => by
      obtain ⟨C, rfl, rfl, E, ⟨σ0, hs0⟩, hD⟩ := h
      have hs : σ[i]? = some (some (.ref a)) := by
        have hl : i < σ.length := by
          rw [I.len]
          exact get_len hi
        have e : σ[i]? = (σ0.set i (some (.ref a)))[i]? := congrArg (fun z : St => z[i]?) hs0
        rw [e]
        exact List.getElem?_set_self (by
          have e2 : σ.length = (σ0.set i (some (.ref a))).length := congrArg List.length hs0
          rw [List.length_set] at e2
          omega)
      have hv : Vis (X.suite a ((a, oe) :: pn)).env.scope n := .inl hln
      refine (pss_one (ps_ret (pe_ifExp (pt_val (pe_callB (X := X.suite a ((a, oe) :: pn)) (call_isE E.ec hz hf) hg hm (by decide +kernel) (pa_cons (pe_var (i := i) hi hv hn hn2) (pa_cons (pe_bltn (v := .ty "ValueError") hgV hmV (by decide +kernel) rfl (by decide) (by decide)) pa_nil)) (by decide) (by decide))) pe_str pe_str))).run pins s σ H D I ?_
      exact ⟨.ref a, hs, .ty "ValueError", .type "ValueError", true, rfl, (fun u hu => by cases hu; rfl), E.ko, true, rfl, hD⟩⟩) (slip_cl hg hm hgV hmV r)
theorem w_slip {W : WX} {D : Ends} {c : Nat} {t : Str} {σ : St} {H : Hp} (hE : ErrX X.K (P.ca c)) (hr : ∀ H', H' = H → D.rt (.str t) H') : ∀ {ls : List (Nat × Nat × Str)}, lookC c ls = some t → (∀ l ∈ ls, PySem.W.exmOne X.K (.ref (P.ca c)) (.ref (P.ca l.1)) = some (decide (c = l.1))) →
    wClauses X.K W D (ls.map (slipCl P X.K)) (.ref (P.ca c)) none σ H
  | [], h, _ => by cases h
  | (c', i, t') :: ls, h, he => by
    unfold lookC at h
    refine ⟨decide (c = c'), he _ List.mem_cons_self, fun hb a ha => ?_, fun hb => ?_⟩
    · rw [if_pos (of_decide_eq_true hb)] at h
      cases h
      exact ⟨_, rfl, rfl, hE, ⟨σ, rfl⟩, hr H rfl⟩
    · rw [if_neg (of_decide_eq_false hb)] at h
      exact w_slip hE hr h fun l hl' => he l (List.mem_cons_of_mem _ hl')
theorem look_mem {c : Nat} {t : Str} : ∀ {ls : List (Nat × Nat × Str)}, lookC c ls = some t → c ∈ ls.map (·.1)
  | [], h => by cases h
  | (c', i, t') :: ls, h => by
    unfold lookC at h
    by_cases e : c = c'
    · rw [e]; exact List.mem_cons_self
    · rw [if_neg e] at h
      exact List.mem_cons_of_mem _ (look_mem h)
end
section
variable {X : Cx} {P : Px} {body : List Stmt} {h₀ : ExceptHandler} {hds : List ExceptHandler} {ls : List (Nat × Nat × Str)} {pos : Pos} {u : DEnv → M Out}
theorem ss_slip (hc : X.calm = true) (hN : X.N.Nodup) (hg : Gl X "isinstance") (hm : X.mg "isinstance" = none) (hgV : Gl X "ValueError") (hmV : X.mg "ValueError" = none)
    (hE : ∀ c ∈ ls.map (·.1), ErrX X.K (P.ca c)) (hM : ∀ c ∈ ls.map (·.1), ∀ l ∈ ls, PySem.W.exmOne X.K (.ref (P.ca c)) (.ref (P.ca l.1)) = some (decide (c = l.1)))
    (hb : ∀ (pn : List (Addr × Obj)) (xe : Value → Shared → Prop), PassesOwn (model X.prog X.w) X.A X.env xe → SSs (X.tr pn xe) P body u) (ok : SlipOk X P (h₀ :: hds) ls)
    (hs : X.stack = X.env :: X.outer := by rfl) (hf : X.env.frame = some X.env.locals := by rfl) : SS X P (.Try body (h₀ :: hds) [] [] pos) (sSlip ls u) := ⟨fun W tk =>
  ps_imp (ps_try_clauses (tb := fun W => rS P W u) hN hs hf tk (fun W pn xe t p => (hb pn xe p).ps W t) (slip_cl hg hm hgV hmV ok)) fun E σ H h => by
    obtain ⟨g, H0, ρ, b, hP, S, B, w⟩ := h
    refine ⟨g, H0, ρ, b, hP, S, B, ?_⟩
    have w : wpS g H0 W H (match u ρ b with
      | .ok o b => .ok o b
      | .exc ⟨c, none⟩ b => match lookC c ls with
        | some t => .ok (.rt (.str t)) b
        | none => .stk
      | _ => .stk) E := w
    match u ρ b, w with
    | .ok (.nx _) b, w => exact w
    | .ok (.rt _) b, w => exact w
    | .ok (.bk _) b, w => exact w
    | .ok (.ct _) b, w => exact w
    | .exc ⟨c, some i⟩ b, w => exact w.elim
    | .exc ⟨c, none⟩ b, w =>
      have w : wpS g H0 W H (match lookC c ls with
        | some t => .ok (.rt (.str t)) b
        | none => .stk) E := w
      cases el : lookC c ls with
      | none => rw [el] at w; exact w.elim
      | some t =>
        rw [el] at w
        intro cls dd σ' H' e Bx xr
        obtain ⟨rfl, rfl⟩ := xr
        rw [hP]
        have hc' := look_mem el
        exact w_slip (hE c hc') (fun H2 e2 => by rw [e2]; exact w (.str t) H' e Bx (.str t)) el (hM c hc')⟩
end
end Pu

set_option Elab.async false
set_option linter.all false
set_option maxRecDepth 100000
set_option maxHeartbeats 4000000
/-! The pure layer, part R: len(set(xs)), xs a list of tuples of ints; a Hook with one more look -/
namespace Pu
open PySem L2
theorem len_le_of {α : Type} [DecidableEq α] : ∀ {l m : List α}, l.Nodup → (∀ x ∈ l, x ∈ m) → l.length ≤ m.length
  | [], m, _, _ => Nat.zero_le _
  | a :: l, m, h, k => by
    obtain ⟨h1, h2⟩ := List.nodup_cons.mp h
    have ha := k a List.mem_cons_self
    have ih := len_le_of (l := l) (m := m.erase a) h2 fun x hx => (List.mem_erase_of_ne (fun z => h1 (by rw [← z]; exact hx))).mpr (k x (List.mem_cons_of_mem _ hx))
    rw [List.length_erase_of_mem ha] at ih
    have := List.length_pos_of_mem ha
    rw [List.length_cons]
    omega
theorem len_eq_of {α : Type} [DecidableEq α] {l m : List α} (h1 : l.Nodup) (h2 : m.Nodup) (h : ∀ x, x ∈ l ↔ x ∈ m) : l.length = m.length :=
  Nat.le_antisymm (len_le_of h1 fun x hx => (h x).mp hx) (len_le_of h2 fun x hx => (h x).mpr hx)
def nubL {α : Type} [DecidableEq α] : List α → List α
  | [] => []
  | x :: xs => if x ∈ xs then nubL xs else x :: nubL xs
theorem nub_mem {α : Type} [DecidableEq α] : ∀ {xs : List α} {z : α}, z ∈ nubL xs ↔ z ∈ xs
  | [], z => Iff.rfl
  | x :: xs, z => by
    unfold nubL
    split
    · rename_i h
      rw [nub_mem, List.mem_cons]
      exact ⟨.inr, fun q => q.elim (fun e => by rw [e]; exact h) id⟩
    · rw [List.mem_cons, List.mem_cons, nub_mem]
theorem nub_nd {α : Type} [DecidableEq α] : ∀ xs : List α, (nubL xs).Nodup
  | [] => List.Pairwise.nil
  | x :: xs => by
    unfold nubL
    split
    · exact nub_nd xs
    · rename_i h
      exact List.nodup_cons.mpr ⟨fun z => h (nub_mem.mp z), nub_nd xs⟩
def tLenSetT (K : PySem.W.Frag) (ta : TE) : TE := fun σ H Q => ta σ H fun x H1 => ∃ (l : Addr) (ks : List (Addr × List Int)), x = V.ref l ∧ SqL K H1 l (ks.map fun p => V.ref p.1) ∧ (∀ p ∈ ks, SqT K H1 p.1 (p.2.map V.int)) ∧ ks.length < 64 ∧ Q (.int (nubL (ks.map (·.2))).length) H1
theorem pe_lenSetT {X : Cx} {a : Expr} {ta : TE} {p p2 q pos : Pos} {k : Nat} (hr : Room k X.A) (hc : X.calm = true) (hg : Gl X "len") (hm : X.mg "len" = none) (hg2 : Gl X "set") (hm2 : X.mg "set" = none) (ha : PE X a ta)
    (na : starEach [a] X.env = (false, eval a X.env) :: starEach [] X.env := by rfl) : PE X (.Call (.Name "len" p) [.Call (.Name "set" p2) [a] [] q] [] pos) (tLenSetT X.K ta) := by
  refine ⟨fun pins s σ H Q I h => ?_⟩
  refine PyProof.Rows.Call_ (ld_blt I hg hm PySem.boot_len ?_)
  refine PyProof.Rows.callWith_builtin1 (PyProof.Rows.args_cons ?_ rfl) rfl rfl
  refine PyProof.Rows.Call_ (ld_blt I hg2 hm2 PyProof.Rows.boot_set ?_)
  refine PyProof.Rows.callWith_type1 (PyProof.Rows.args_cons (thn (ha.run pins s σ H _ I h) fun v s1 ⟨x, H1, I1, r1, q1⟩ => PyProof.Rows.args_nil ?_) na) na rfl
  obtain ⟨l, ks, rfl, hq, hk, h64, q1⟩ := q1
  cases r1
  obtain ⟨its, r, pl, hz⟩ := I1.list hq
  refine call_set_tups (P := X.prog) (w := X.w) ks (I1.ok.hd hc) pl.isList (by simpa using refs_of_vals r) (fun p hp => I1.isT (hk p hp)) h64 (by have := hr.un; omega) fun h' tk L es ep t R g kp => ?_
  refine PyProof.Rows.args_nil ?_
  have I2 : Inv X pins σ H1 { s1 with heap := h', toks := tk } := I1.kept kp
  obtain ⟨o, ho, hex, hd⟩ := R.ob
  have hsz : es.size = L.length := by
    have z := congrArg List.length R.rows
    rw [Array.length_toList, rowsOf, List.length_map] at z
    exact z
  have hfew := R.few
  have e : es.size = (nubL (ks.map (·.2))).length := by
    rw [hsz, ← List.length_map (f := (·.2)) (as := L)]
    refine len_eq_of R.nd (nub_nd _) fun x => ?_
    rw [nub_mem]
    constructor
    · intro hx
      obtain ⟨p, hp, e⟩ := List.mem_map.mp hx
      exact List.mem_map.mpr ⟨p, List.mem_of_mem_take (g.sub p hp), e⟩
    · intro hx
      obtain ⟨p, hp, e⟩ := List.mem_map.mp hx
      rw [← e]
      exact g.all p (by rw [List.take_length]; exact hp)
  exact call_len_set ho hex hd (SetTR.fits (s := { s1 with heap := h', toks := tk }) R) (by rw [hsz]; omega) ⟨.int (es.size : Int), H1, I2.tok _, ⟨_, rfl⟩, by rw [e]; exact q1⟩
def tupI : D → Option (List Int)
  | .tup xs => intsOf xs
  | _ => none
def tupIs : List D → Option (List (List Int))
  | [] => some []
  | d :: ds => match tupI d, tupIs ds with
    | some k, some ks => some (k :: ks)
    | _, _ => none
theorem tupIs_rep {P : Px} {O : Addr → Prop} {bx : Option Addr} {H : Hp} : ∀ {ds : List D} {vs : List V} {kss : List (List Int)}, Reps P O bx H ds vs → tupIs ds = some kss → ∃ ks : List (Addr × List Int), vs = ks.map (fun p => V.ref p.1) ∧ ks.map (·.2) = kss ∧ ∀ p ∈ ks, H p.1 = some (.tup (p.2.map V.int))
  | _, _, _, .nil, e => by
    cases e
    exact ⟨[], rfl, rfl, fun p hp => by cases hp⟩
  | d :: ds, _, kss, .cons h t, e => by
    unfold tupIs at e
    cases e1 : tupI d with
    | none => simp only [e1] at e; cases e
    | some k =>
      cases e2 : tupIs ds with
      | none => simp only [e1, e2] at e; cases e
      | some ks' =>
        simp only [e1, e2] at e
        cases e
        obtain ⟨ks, rfl, rfl, h3⟩ := tupIs_rep t e2
        unfold tupI at e1
        cases h with
        | @tup a xs vs q r =>
          have ev := ints_rep r e1
          subst ev
          exact ⟨(a, k) :: ks, rfl, rfl, fun p hp => by
            rcases List.mem_cons.mp hp with z | z
            · rw [z]; exact q
            · exact h3 p z⟩
        | _ => cases e1
def lenSet1 (d : D) : M D := match d.lseq with
  | some xs => match tupIs xs with
    | some ks => if ks.length < 64 then pure (.int (nubL ks).length) else stuck
    | none => stuck
  | none => stuck
section
variable {X : Cx} {P : Px} {a : Expr} {pos : Pos} {f : DEnv → M D}
theorem se_lenSet {p p2 q : Pos} {k : Nat} (hr : Room k X.A) (hc : X.calm = true) (hg : Gl X "len") (hm : X.mg "len" = none) (hg2 : Gl X "set") (hm2 : X.mg "set" = none) (ha : SE X P a f) (hK : X.K = P.K := by rfl)
    (na : starEach [a] X.env = (false, eval a X.env) :: starEach [] X.env := by rfl) : SE X P (.Call (.Name "len" p) [.Call (.Name "set" p2) [a] [] q] [] pos) (eUn lenSet1 f) :=
  ⟨fun W tk => pe_imp (pe_lenSetT hr hc hg hm hg2 hm2 (ha.pe W tk) na) fun σ H Q h => by
    obtain ⟨g, ρ, b, hP, S, w⟩ := h
    refine ⟨g, ρ, b, hP, S, (wpG.bind (R1 := RepT g) w).imp fun v H1 ⟨d, b1, e1, B1, r1, w1⟩ => ?_⟩
    unfold lenSet1 at w1
    cases e : d.lseq with
    | none => rw [e] at w1; exact w1.elim
    | some xs =>
      rw [e] at w1
      obtain ⟨a, vs, rfl, h, r⟩ := lseq_rep r1 e
      cases e2 : tupIs xs with
      | none => simp only [e2] at w1; exact w1.elim
      | some kss =>
        simp only [e2] at w1
        obtain ⟨hl, w2⟩ := wp_ite (c := kss.length < 64) (m := pure (D.int (nubL kss).length)) w1
        obtain ⟨ks, rfl, rfl, h3⟩ := tupIs_rep r e2
        rw [List.length_map] at hl
        exact ⟨a, ks, rfl, .inl (.inl h), fun p hp => sqt (h3 p hp), hl, wpG_ok w2 B1 (.rep (.int _))⟩⟩
end
theorem excCB_ok {K : PySem.W.Frag} {D : Addr} (h : excCB K D = true) : ErrX K D := by
  obtain ⟨h1, h⟩ := He.ba h
  obtain ⟨h2, h⟩ := He.ba h
  obtain ⟨h3, h⟩ := He.ba h
  obtain ⟨h4, h⟩ := He.ba h
  obtain ⟨h5, h⟩ := He.ba h
  obtain ⟨h6, h⟩ := He.ba h
  obtain ⟨h7, h⟩ := He.ba h
  obtain ⟨h8, h9⟩ := He.ba h
  exact ⟨⟨He.eqO_ok h1, He.eqO_ok h2, of_decide_eq_true h3, h4, He.eqO_ok h5, He.eqO_ok h6, of_decide_eq_true h7, of_decide_eq_true h8⟩, of_decide_eq_true h9⟩
end Pu

set_option Elab.async false
set_option linter.all false
set_option maxRecDepth 100000
set_option maxHeartbeats 4000000
/-! The pure layer, part S: items() of a dict with tuple keys -/
namespace Pu
open PySem L2
/-- the pairs of a locked dict with tuple keys, each in a new tuple -/
def ItiT (d : Addr) (o : Obj) (kvs : List (List Key × V)) : It :=
  ⟨fun i H => H d = some (.frz o (.dT kvs)) ∧ i < kvs.length,
   fun i H x H' => ∃ T k v q, kvs[i]? = some (k, v) ∧ x = .ref T ∧ H T = none ∧ H q = some (.tup (k.map kV)) ∧ H' = upd H T (.tup [.ref q, v]),
   fun i H => H d = some (.frz o (.dT kvs)) ∧ kvs.length ≤ i⟩
theorem frzTV {X : Cx} {pins : List (Addr × Obj)} {σ : St} {H : Hp} {s : Shared} {d : Addr} {o : Obj} {kvs : List (List Key × V)} (I : Inv X pins σ H s) (h : H d = some (.frz o (.dT kvs))) :
    (d == sysModules) = false ∧ s.heap.get? d = some o ∧ o.ExactDict ∧ ∃ (es : Array DictEntry) (ep : Nat), o.data = .dict es ep ∧ es.size = kvs.length ∧
      ∀ (i : Nat) (k : List Key) (v : V), kvs[i]? = some (k, v) → ∃ (en : DictEntry) (q : Addr), es[i]? = some en ∧ en.key = .ref q ∧ H q = some (.tup (k.map kV)) ∧ RelV v en.val := by
  obtain ⟨hd, z, hs, xs, pr, o', es, ep, ho, hx, hdt, he, _⟩ := I.hok d _ h
  rw [hd] at ho
  cases ho
  have l2 : kvs.length = xs.length := Paired.length pr
  have l1 : es.size = xs.length := by
    have z := congrArg List.length he
    rw [Array.length_toList, List.length_map] at z
    exact z
  refine ⟨hs, hd, hx, es, ep, hdt, by omega, fun i k v e => ?_⟩
  have get : ∀ {l : List (List Key × V)} {m : List (List Key × Addr × Value)} {i : Nat}, KT H l m → l[i]? = some (k, v) → ∃ p, m[i]? = some p ∧ k = p.1 ∧ H p.2.1 = some (.tup (k.map kV)) ∧ RelV v p.2.2 := by
    intro l m i q
    induction q generalizing i with
    | nil => intro h; simp at h
    | @cons p q ps qs hq t ih =>
      intro h
      cases i with
      | zero =>
        have h' : p = (k, v) := Option.some.inj h
        subst h'
        exact ⟨q, rfl, hq⟩
      | succ i =>
        obtain ⟨p', h1, h2⟩ := ih (i := i) (by simpa using h)
        exact ⟨p', by simpa using h1, h2⟩
  obtain ⟨p, hp, e1, e2, e3⟩ := get pr e
  refine ⟨entryOfKey (tupleKind (mixKind X.prog X.w)) p, p.2.1, ?_, rfl, e2, e3⟩
  rw [entry_at he i, hp]
  rfl
section
variable {P : Program} {w : World} {K : PySem.W.Frag} {d : Addr} {o : Obj} {es : Array DictEntry} {ep : Nat}
theorem turn_itemsT {kvs : List (List Key × V)} {elts : List Expr} {kk : Nat} {tpos : Pos} (it : Addr) (hod : o.data = .dict es ep) :
    Turn P w K (.Tuple elts kk tpos) (ItiT d o kvs) [it] it (fun i h => ∃ ok ov, IsItemIter h it d i es.size ep ok ov) where
  mem := by simp
  obj := fun i h st b hb => by
    have e : b = it := by simpa using hb
    subst e
    obtain ⟨ok, ov, e⟩ := st
    exact ⟨_, e, fun v z => nomatch z⟩
  keep := fun i h h' st k => let ⟨ok, ov, e⟩ := st; ⟨ok, ov, k it (by simp) _ e⟩
  item := by
    intro X hP hw hK hc i pins s σ H E I hf st hg
    subst hP hw hK
    obtain ⟨hd, hi⟩ := hg
    obtain ⟨hs, hgd, hx, es', ep', hdt, hsz, ent⟩ := frzTV I hd
    obtain ⟨rfl, rfl⟩ := dict_ep hod hdt
    obtain ⟨⟨k, v⟩, hkv⟩ : ∃ p, kvs[i]? = some p := ⟨kvs[i], List.getElem?_eq_getElem hi⟩
    obtain ⟨en, q, hen, hkey, hq, rv⟩ := ent i k v hkv
    obtain ⟨ok, ov, he⟩ := st
    have hlt : it < s.heap.objs.size := Heap.lt_size he
    have hie : i < es'.size := by omega
    have een : es'[i] = en := by
      rw [Array.getElem?_eq_getElem hie] at hen
      exact Option.some.inj hen
    refine DT.nextI he ⟨o, hgd, hx, hdt⟩ hie fun h' ho hT hz hk => ?_
    rw [een, hkey] at ho hT
    refine ⟨_, rfl, wpAny_letOwnedTupleGo_items (s := { s with heap := h' }) ho fun h'' he' sb => ?_⟩
    have hT2 : h''.get? s.heap.objs.size = some { cls := .type "tuple", data := .seq #[.ref q, en.val] } := (sb.2 _ (Nat.ne_of_gt hlt)).trans hT
    have new : ObjOk X.prog X.w (upd H s.heap.objs.size (.tup [.ref q, v])) h'' s.heap.objs.size (.tup [.ref q, v]) :=
      ⟨by show 2 ≤ sizeLine; decide, [.ref q, en.val], .cons rfl (.cons rv .nil), ⟨_, hT2, rfl, _, rfl⟩⟩
    have I1 : Inv X pins σ (upd H s.heap.objs.size (.tup [.ref q, v])) { s with heap := h'' } :=
      I.turnedNew (t' := s.toks) (ch := [it]) (fun b ob hb e => (sb.2 b (by simpa using hb)).trans (hk b ob (by simpa using hb) e)) hf (Nat.le_refl _) new
    refine ⟨.ref s.heap.objs.size, _, I1, rfl, ⟨_, k, v, q, hkv, rfl, I.hok.fresh (Nat.le_refl _), hq, rfl⟩, ⟨.ref q, en.val, he'⟩, fun b hb => ?_⟩
    have e : b = it := by simpa using hb
    rw [e, upd_ne (Nat.ne_of_lt hlt)]
    exact (hf it (by simp)).1
  done := by
    intro X hP hw hK hc i pins s σ H E I hf st hg
    subst hP hw hK
    obtain ⟨hd, hi⟩ := hg
    obtain ⟨f0, f1, f2, f3, f4, f5⟩ := hf it (by simp)
    obtain ⟨hs, hgd, hx, es', ep', hdt, hsz, ent⟩ := frzTV I hd
    obtain ⟨rfl, rfl⟩ := dict_ep hod hdt
    obtain ⟨ok, ov, he⟩ := st
    exact DT.endI (I.ok.hd hc) he ⟨o, hgd, hx, hdt⟩ (by omega) fun h' eb => ⟨rfl, I.turned (t' := s.toks) (fun b o hb e => eb b o hb e) f0 f1 f3 f4 f5⟩
  self := fun A i s Q E st h => let ⟨_, _, e⟩ := st; PySem.W.kcp_self e h
end
def iItemsT (td : TE) : TI := fun σ H R => td σ H fun x H1 => ∃ d o kvs, x = .ref d ∧ H1 d = some (.frz o (.dT kvs)) ∧ R (ItiT d o kvs) H1
theorem pi_itemsT {X : Cx} {e : Expr} {td : TE} {apos cpos : Pos} {elts : List Expr} {kk : Nat} {tpos : Pos} (he : PE X e td) (hbase : attributeBase e "items" X.env (eval e X.env) = eval e X.env := by rfl) (hline : (apos.endLine == cpos.line) = true := by rfl) :
    PI X (.Tuple elts kk tpos) (.Call (.Attribute e "items" apos) [] [] cpos) (iItemsT td) := by
  refine ⟨fun pins s σ H R I h => ?_⟩
  refine wpAny_Call_method (T := "dict") (id := "dict.items") hbase rfl hline PySem.F.plainAttrs_dict PySem.F.slot_dict_items PySem.F.type_dict_items (thn (he.run pins s σ H _ I h) fun u s1 ⟨x, H1, I1, rx, d, o, kvs, ex, hd, q⟩ => ?_)
  subst ex
  obtain rfl : u = Value.ref d := rx
  obtain ⟨hs, hgd, hx, es, ep, hdt, hsz, ent⟩ := frzTV I1 hd
  have ty : s1.TypeIs (.ref d) "dict" := ⟨o, hgd, hx.1⟩
  have raw : DT.Raw s1.heap d es ep := ⟨o, hgd, hx, hdt⟩
  refine ⟨ty, fun a e => (by cases e; exact ⟨o, hgd, hx.2.1⟩), ?_⟩
  have I2 : Inv X pins σ H1 { s1 with heap := s1.heap.push { cls := .type "dict_items", data := .fields #[.ref d] } } := I1.kept (t' := s1.toks) fun b ob q => Heap.get?_push_of_some _ q
  have fin : wpAny (model X.prog X.w) X.A (pyIter (.ref s1.heap.objs.size)) (PIE X pins σ (.Tuple elts kk tpos) R) X.xe { s1 with heap := s1.heap.push { cls := .type "dict_items", data := .fields #[.ref d] } } := by
    refine DT.iterI (d := d) ⟨_, Heap.get?_push_size _ rfl, rfl, rfl⟩ (raw.push _) (pi_one (tk := s1.toks) I2 _ (turn_itemsT _ hdt) ⟨.none, .none, ?_⟩ q)
    exact Heap.get?_push_size _ rfl
  show wpAny _ _ (callWith cpos (.builtin "dict.items") [.ref d] [] []) _ X.xe s1
  exact method_meetsIn PySem.F.slot_dict_items PySem.F.entry_dict_items rfl (PySem.evalArgs_none ⟨rfl, ty, PySem.F.args_dict_items_1 _, _, DT.meetsItems hs, raw, fin⟩)
end Pu

set_option Elab.async false
set_option linter.all false
set_option maxRecDepth 100000
set_option maxHeartbeats 4000000
/-! The pure layer, part T: a def that gathers places by tuples of ints in a dict and gives them sorted -/
namespace Pu
open PySem L2
/-- no list, no tuple stands at p -/
structure NoSeq (u : Option HO) : Prop where
  l : ∀ vs, u ≠ some (.lst vs)
  t : ∀ vs, u ≠ some (.tup vs)
  f : ∀ o vs, u ≠ some (.frz o (.lst vs))
section
variable {P : Px} {O : Addr → Prop} {bx : Option Addr} {H : Hp} {p : Addr} {u : HO}
mutual
theorem Rep.chg (h0 : NoSeq (H p)) : ∀ {d : D} {v : V}, Rep P O bx H d v → Rep P O bx (upd H p u) d v
  | _, _, .non => .non
  | _, _, .bl b => .bl b
  | _, _, .int i => .int i
  | _, _, .str x => .str x
  | _, _, .ty n => .ty n
  | _, _, .fn i => .fn i
  | _, _, .box h => .box h
  | _, _, .tup (a := a) h r => .tup (by rw [upd_ne (fun z => h0.t _ (by rw [← z]; exact h))]; exact h) (Reps.chg h0 r)
  | _, _, .lst (a := a) h n r => .lst (by rw [upd_ne (fun z => h0.l _ (by rw [← z]; exact h))]; exact h) n (Reps.chg h0 r)
  | _, _, .fro (a := a) h r => .fro (h.elim (fun ⟨ob, q⟩ => .inl ⟨ob, by rw [upd_ne (fun z => h0.f _ _ (by rw [← z]; exact q))]; exact q⟩) .inr) (Reps.chg h0 r)
theorem Reps.chg (h0 : NoSeq (H p)) : ∀ {ds : List D} {vs : List V}, Reps P O bx H ds vs → Reps P O bx (upd H p u) ds vs
  | _, _, .nil => .nil
  | _, _, .cons h t => .cons (Rep.chg h0 h) (Reps.chg h0 t)
end
end
theorem BoxOk.chg {g : Gh} {b : Bx} {H : Hp} {p : Addr} {u : HO} (h : BoxOk g b H) (h0 : NoSeq (H p)) : BoxOk g b (upd H p u) := by
  unfold BoxOk at h ⊢
  cases e : g.bx with
  | none => rw [e] at h; exact h
  | some a =>
    rw [e] at h
    exact ⟨h.1, by rw [upd_ne (fun z => h0.l _ (by rw [← z]; exact h.2))]; exact h.2⟩
theorem StE.chg {g : Gh} {ρ : DEnv} {b : Bx} {σ : St} {H : Hp} {p : Addr} {u : HO} (S : StE g ρ b σ H) (h0 : NoSeq (H p)) (m : g.O p → Mut (some u)) : StE g ρ b σ (upd H p u) := by
  refine ⟨S.len, fun i d h => ?_, S.sep, S.box.chg h0, fun a h => ?_⟩
  · obtain ⟨v, h1, h2⟩ := S.val i d h
    refine ⟨v, h1, ?_⟩
    cases h2 with
    | rep r => exact .rep (r.chg h0)
    | own q o n nb r => exact .own (by rw [upd_ne (fun z => h0.l _ (by rw [← z]; exact q))]; exact q) o n nb (r.chg h0)
  · by_cases z : a = p
    · rw [z, upd_same]
      exact m (z ▸ h)
    · rw [upd_ne z]
      exact S.mt a h
/-! ### the table -/
abbrev Tbl := List (List Int × List Int)
def getT (T : Tbl) (k : List Int) : List Int := match T with
  | [] => []
  | (k', v) :: r => if k' = k then v else getT r k
def hasT (T : Tbl) (k : List Int) : Bool := T.any fun kv => decide (kv.1 = k)
def repT (T : Tbl) (k v : List Int) : Tbl := T.map fun kv => if kv.1 = k then (kv.1, v) else kv
def putT (T : Tbl) (k v : List Int) : Tbl := if hasT T k = true then repT T k v else T ++ [(k, v)]
abbrev kI (k : List Int) : List L2.Key := k.map Sum.inl
theorem kI_inj {k k' : List Int} (h : kI k = kI k') : k = k' := by
  unfold kI at h
  exact List.map_inj_right (fun a b e => Sum.inl.inj e) |>.mp h
theorem kI_v (k : List Int) : (kI k).map kV = k.map V.int := by
  unfold kI
  rw [List.map_map]
  rfl
inductive TRep (O : Addr → Prop) (H : Hp) : Tbl → List (List L2.Key × V) → Prop
  | nil : TRep O H [] []
  | cons {k v : List Int} {l : Addr} {T : Tbl} {kvs : List (List L2.Key × V)} (h : H l = some (.lst (v.map V.int))) (n : ¬ O l) (t : TRep O H T kvs) : TRep O H ((k, v) :: T) ((kI k, .ref l) :: kvs)
section
variable {O : Addr → Prop} {H H' : Hp} {T : Tbl} {kvs : List (List L2.Key × V)}
theorem TRep.keep (k : ∀ a vs, ¬ O a → H a = some (.lst vs) → H' a = some (.lst vs)) (t : TRep O H T kvs) : TRep O H' T kvs := by
  induction t with
  | nil => exact .nil
  | cons h n t ih => exact .cons (k _ _ n h) n ih
theorem TRep.length (t : TRep O H T kvs) : kvs.length = T.length := by
  induction t with
  | nil => rfl
  | cons h n t ih => rw [List.length_cons, List.length_cons, ih]
theorem TRep.get (t : TRep O H T kvs) (k : List Int) : (valV kvs (kI k) = none ∧ getT T k = []) ∨ ∃ l, valV kvs (kI k) = some (.ref l) ∧ H l = some (.lst ((getT T k).map V.int)) ∧ ¬ O l := by
  induction t with
  | nil => exact .inl ⟨rfl, rfl⟩
  | @cons k' v l T kvs h n t ih =>
    by_cases e : k' = k
    · refine .inr ⟨l, valV_pos (by rw [e]), ?_, n⟩
      unfold getT
      rw [if_pos e]
      exact h
    · rw [valV_neg (fun z => e (kI_inj z))]
      unfold getT
      rw [if_neg e]
      exact ih
theorem TRep.has (t : TRep O H T kvs) (k : List Int) : (kvs.any fun kv => decide (kv.1 = kI k)) = hasT T k := by
  induction t with
  | nil => rfl
  | @cons k' v l T kvs h n t ih =>
    unfold hasT at ih ⊢
    rw [List.any_cons, List.any_cons, ih]
    congr 1
    by_cases e : k' = k
    · rw [decide_eq_true (by rw [e]), decide_eq_true e]
    · rw [decide_eq_false (fun z => e (kI_inj z)), decide_eq_false e]
theorem TRep.rep (t : TRep O H T kvs) (k v : List Int) {l : Addr} (h : H l = some (.lst (v.map V.int))) (n : ¬ O l) : TRep O H (repT T k v) (kvs.map fun kv => if kv.1 = kI k then (kv.1, .ref l) else kv) := by
  induction t with
  | nil => exact .nil
  | @cons k' v' l' T kvs h' n' t ih =>
    unfold repT at ih ⊢
    rw [List.map_cons, List.map_cons]
    by_cases e : k' = k
    · rw [if_pos e, if_pos (by rw [e])]
      exact .cons h n ih
    · rw [if_neg e, if_neg (fun z => e (kI_inj z))]
      exact .cons h' n' ih
theorem TRep.snoc (t : TRep O H T kvs) (k v : List Int) {l : Addr} (h : H l = some (.lst (v.map V.int))) (n : ¬ O l) : TRep O H (T ++ [(k, v)]) (kvs ++ [(kI k, .ref l)]) := by
  induction t with
  | nil => exact .cons h n .nil
  | cons h' n' t ih => exact .cons h' n' ih
theorem TRep.put (t : TRep O H T kvs) (k v : List Int) {l : Addr} (h : H l = some (.lst (v.map V.int))) (n : ¬ O l) : TRep O H (putT T k v) (putK kvs (kI k) (.ref l)) := by
  unfold putT putK
  rw [t.has k]
  cases hasT T k with
  | true => exact t.rep k v h n
  | false => exact t.snoc k v h n
end
end Pu

set_option Elab.async false
set_option linter.all false
set_option maxRecDepth 100000
set_option maxHeartbeats 4000000
/-! The pure layer, part U: the loops that gather, the end -/
namespace Pu
open PySem L2
def intAt (ρ : DEnv) (i : Nat) : Option Int := match ρ[i]? with
  | some (some (.int n)) => some n
  | _ => none
def keyAt (ρ : DEnv) (i : Nat) : Option (List Int) := match ρ[i]? with
  | some (some (.tup xs)) => intsOf xs
  | _ => none
theorem intAt_ok {g : Gh} {ρ : DEnv} {b : Bx} {σ : St} {H : Hp} (S : StE g ρ b σ H) {i : Nat} {n : Int} (h : intAt ρ i = some n) : σ[i]? = some (some (.int n)) := by
  unfold intAt at h
  split at h
  · rename_i m e
    cases h
    obtain ⟨v, h1, h2⟩ := S.val i _ e
    rw [h1, int_rt h2]
  · cases h
theorem keyAt_ok {g : Gh} {ρ : DEnv} {b : Bx} {σ : St} {H : Hp} (S : StE g ρ b σ H) {i : Nat} {k : List Int} (h : keyAt ρ i = some k) : ∃ a, σ[i]? = some (some (.ref a)) ∧ H a = some (.tup (k.map V.int)) := by
  unfold keyAt at h
  split at h
  · rename_i xs e
    obtain ⟨v, h1, h2⟩ := S.val i _ e
    cases h2 with
    | rep r =>
      cases r with
      | @tup a _ vs q r =>
        have ev := ints_rep r h
        subst ev
        exact ⟨a, h1, q⟩
  · cases h
structure LnS (g : Gh) (dA : Addr) (ρ : DEnv) (b : Bx) (σ : St) (H : Hp) (T : Tbl) : Prop where
  S : StE g ρ b σ H
  f : σ[1]? = some (some (.ref dA))
  o : g.O dA
  n0 : ¬ g.O0 dA
  nb : g.bx ≠ some dA
  d : ∃ kvs, H dA = some (.dT kvs) ∧ TRep g.O H T kvs
def lnPut (ρ : DEnv) (T : Tbl) : M Tbl := match keyAt ρ 5 with
  | some k => match intAt ρ 4 with
    | some i => match intAt ρ 2 with
      | some j => if (getT T k).length < 60 ∧ T.length < 100000 then pure (putT T k (usort (getT T k ++ [i, j]))) else stuck
      | none => stuck
    | none => stuck
  | none => stuck
theorem dT_noseq {kvs : List (List L2.Key × V)} : NoSeq (some (.dT kvs)) := ⟨fun _ h => (by cases h), fun _ h => (by cases h), fun _ _ h => (by cases h)⟩
theorem frzT_noseq {o : Obj} {kvs : List (List L2.Key × V)} : NoSeq (some (.frz o (.dT kvs))) := ⟨fun _ h => (by cases h), fun _ h => (by cases h), fun _ _ h => (by cases h)⟩
theorem Ex1.lst {bx : Option Addr} {H H' : Hp} {O : Addr → Prop} (e : Ex1 bx H H') (bo : ∀ a, bx = some a → O a) : ∀ a vs, ¬ O a → H a = some (.lst vs) → H' a = some (.lst vs) := fun a vs n h => e a _ (fun z => n (bo a z)) h
section
variable {K : PySem.W.Frag} {g : Gh} {H0 : Hp} {W : WX} {E D : Ends} {dA : Addr} {ρ : DEnv} {b : Bx} {σ : St} {H : Hp} {T : Tbl} {k : Tbl → M Out}
/-- the value that is stored is made: then the store -/
theorem ln_store {kk : List Int} {ka : Addr} {v : List Int} (L : LnS g dA ρ b σ H T) (B : Base g H0 H) (h5 : σ[5]? = some (some (.ref ka))) (hk : H ka = some (.tup (kk.map V.int))) (hl : T.length < 100000)
    (nx : ∀ H' T', Tr g.O H g.O H' → LnS g dA ρ b σ H' T' → Base g H0 H' → T' = putT T kk v → D.nx σ H') {p : Addr} {H1 : Hp} (e1 : Ex1 g.bx H H1) (B1 : BoxOk g b H1) (hp : H1 p = none) :
    gSub (tVar 1) (tVar 5) rSetD (.ref p) σ (upd H1 p (.lst (v.map V.int))) D.nx := by
  obtain ⟨kvs, hd, t⟩ := L.d
  have e2 : Ex1 g.bx H (upd H1 p (.lst (v.map V.int))) := e1.trans (Ex1.new hp)
  have S2 := L.S.mono e2 (B1.new hp)
  have hd2 : upd H1 p (.lst (v.map V.int)) dA = some (.dT kvs) := e2 dA _ L.nb hd
  have hk2 : upd H1 p (.lst (v.map V.int)) ka = some (.tup (kk.map V.int)) := e2 ka _ (fun z => by
    obtain ⟨_, vs, q⟩ := L.S.box.bxl ka z
    rw [hk] at q; cases q) hk
  have np : ¬ g.O p := fun z => L.S.trk p z (fresh_back B1.bxl e1 hp)
  have t2 := t.keep (H' := upd H1 p (.lst (v.map V.int))) (e2.lst L.S.bo)
  have ns : NoSeq (upd H1 p (.lst (v.map V.int)) dA) := by rw [hd2]; exact dT_noseq
  have S3 : StE g ρ b σ (upd (upd H1 p (.lst (v.map V.int))) dA (.dT (putK kvs (kI kk) (.ref p)))) := S2.chg ns fun _ => trivial
  have t3 : TRep g.O (upd (upd H1 p (.lst (v.map V.int))) dA (.dT (putK kvs (kI kk) (.ref p)))) (putT T kk v) (putK kvs (kI kk) (.ref p)) := by
    have t4 := t2.put kk v upd_same np
    exact t4.keep fun a vs n h => by rw [upd_ne (fun z => n (by rw [z]; exact L.o))]; exact h
  refine ⟨.ref dA, L.f, .ref ka, h5, dA, _, rfl, DPut.t (k := kI kk) hd2 (by rw [kI_v]; exact hk2) (by rw [t.length]; exact szlt hl), ?_⟩
  have ba : Base g H0 (upd (upd H1 p (.lst (v.map V.int))) dA (.dT (putK kvs (kI kk) (.ref p)))) := by
    have b2 := B.at e2
    refine ⟨b2.sub, b2.new, fun a u n q => ?_, b2.trk⟩
    by_cases z : a = dA
    · subst z
      have q2 := (B.new a L.o).resolve_left L.n0
      rw [q2] at q; cases q
    · rw [upd_ne z]
      exact b2.ex a u n q
  exact nx _ _ ⟨fun a u n q => by rw [upd_ne (fun z => n (by rw [z]; exact L.o))]; exact e2 a u (fun z => n (L.S.bo a z)) q, fun _ h => .inl h⟩ ⟨S3, L.f, L.o, L.n0, L.nb, _, upd_same, t3⟩ ba rfl
/-- found[line] = sorted(set(found.get(line, []) + [its, place])) -/
theorem ln_put (L : LnS g dA ρ b σ H T) (B : Base g H0 H) (w : wpS g H0 W H ((lnPut ρ T b).bind k) E)
    (nx : ∀ H' T', Tr g.O H g.O H' → LnS g dA ρ b σ H' T' → Base g H0 H' → wpS g H0 W H (k T' b) E → D.nx σ H') :
    tAsg (tSortSet K (tOp rCat (tDGet2 (tVar 1) (tVar 5) (tLst tNil)) (tLst (tCons (tVar 4) (tCons (tVar 2) tNil))))) (gSub (tVar 1) (tVar 5) rSetD) D σ H := by
  unfold lnPut at w
  cases e5 : keyAt ρ 5 with
  | none => simp only [e5] at w; exact w.elim
  | some kk =>
    cases e4 : intAt ρ 4 with
    | none => simp only [e5, e4] at w; exact w.elim
    | some i =>
      cases e2 : intAt ρ 2 with
      | none => simp only [e5, e4, e2] at w; exact w.elim
      | some j =>
        simp only [e5, e4, e2] at w
        have hc : ((getT T kk).length < 60 ∧ T.length < 100000) ∧ wpS g H0 W H (k (putT T kk (usort (getT T kk ++ [i, j]))) b) E := by
          by_cases c : (getT T kk).length < 60 ∧ T.length < 100000
          · rw [if_pos c] at w
            exact ⟨c, w⟩
          · rw [if_neg c] at w
            exact w.elim
        obtain ⟨⟨hl, hT⟩, w⟩ := hc
        obtain ⟨ka, h5, hk⟩ := keyAt_ok L.S e5
        have h4 := intAt_ok L.S e4
        have h2 := intAt_ok L.S e2
        obtain ⟨kvs, hd, t⟩ := L.d
        have kx : g.bx ≠ some ka := fun z => by
          obtain ⟨_, vs, q⟩ := L.S.box.bxl ka z
          rw [hk] at q; cases q
        have store : ∀ {p : Addr} {H1 : Hp}, Ex1 g.bx H H1 → BoxOk g b H1 → H1 p = none → gSub (tVar 1) (tVar 5) rSetD (.ref p) σ (upd H1 p (.lst ((usort (getT T kk ++ [i, j])).map V.int))) D.nx := fun e1 B1 hp =>
          ln_store L B h5 hk hT (fun H' T' tr L' B' eT => nx H' T' tr L' B' (by rw [eT]; exact w)) e1 B1 hp
        refine ⟨.ref dA, L.f, dA, rfl, .inr ⟨kvs, .inl hd⟩, .ref ka, h5, Nat.zero_le _, fun p0 n0 => ?_⟩
        have ex0 : Ex1 g.bx H (upd H p0 (.lst [])) := Ex1.new n0
        have B0 : BoxOk g b (upd H p0 (.lst [])) := L.S.box.new n0
        refine ⟨valV kvs (kI kk), DGet.t (ex0 dA _ L.nb hd) (by rw [kI_v]; exact ex0 ka _ kx hk), ?_⟩
        -- the list that stands for it
        have old : ∃ q, ((valV kvs (kI kk)).getD (.ref p0)) = .ref q ∧ upd H p0 (.lst []) q = some (.lst ((getT T kk).map V.int)) := by
          rcases t.get kk with ⟨a1, a2⟩ | ⟨l, a1, a2, a3⟩
          · rw [a1, a2]
            exact ⟨p0, rfl, upd_same⟩
          · rw [a1]
            refine ⟨l, rfl, ?_⟩
            rw [upd_ne (ne_of_none a2 n0)]
            exact a2
        obtain ⟨q, eq, hq⟩ := old
        rw [eq]
        refine ⟨.int i, h4, .int j, h2, by show 2 ≤ sizeLine; decide, fun p1 n1 => ?_⟩
        have ex1 : Ex1 g.bx H (upd (upd H p0 (.lst [])) p1 (.lst [.int i, .int j])) := ex0.trans (Ex1.new n1)
        have B1 : BoxOk g b (upd (upd H p0 (.lst [])) p1 (.lst [.int i, .int j])) := B0.new n1
        refine ⟨q, p1, (getT T kk).map V.int, [.int i, .int j], rfl, rfl, by rw [upd_ne (ne_of_none hq n1)]; exact hq, upd_same, ?_, fun p2 n2 => ?_⟩
        · rw [List.length_map]
          show _ + 2 ≤ _
          exact szl (by omega)
        have ex2 := ex1.trans (Ex1.new (bx := g.bx) (o := .lst ((getT T kk).map V.int ++ [.int i, .int j])) n2)
        have B2 := B1.new (o := .lst ((getT T kk).map V.int ++ [.int i, .int j])) n2
        refine ⟨p2, getT T kk ++ [i, j], rfl, .inl (.inl (by rw [List.map_append]; exact upd_same)), by rw [List.length_append]; show _ + 2 < 64; omega, fun p3 n3 => ?_⟩
        exact store ex2 B2 n3
end
end Pu

set_option Elab.async false
set_option linter.all false
set_option maxRecDepth 100000
set_option maxHeartbeats 4000000
/-! The pure layer, part V: the loops that gather -/
namespace Pu
open PySem L2
def lnInner (kI : D → DEnv → Option DEnv) (fL : DEnv → M D) : List D → DEnv → Tbl → M (DEnv × Tbl)
  | [], ρ, T => pure (ρ, T)
  | d :: ds, ρ, T => match kI d ρ with
    | some ρ1 => fL ρ1 >>= fun l => chk l >>= fun l => lnPut (ρ1.set 5 (some l)) T >>= fun T' => lnInner kI fL ds (ρ1.set 5 (some l)) T'
    | none => stuck
def lnOuter (kO : D → DEnv → Option DEnv) (fsI : DEnv → M (List D)) (kI : D → DEnv → Option DEnv) (fL : DEnv → M D) : List D → DEnv → Tbl → M (DEnv × Tbl)
  | [], ρ, T => pure (ρ, T)
  | d :: ds, ρ, T => match kO d ρ with
    | some ρ1 => fsI ρ1 >>= fun js => lnInner kI fL js ρ1 T >>= fun r => lnOuter kO fsI kI fL ds r.1 r.2
    | none => stuck
theorem LnS.mono {g : Gh} {dA : Addr} {ρ : DEnv} {b b' : Bx} {σ : St} {H H' : Hp} {T : Tbl} (L : LnS g dA ρ b σ H T) (e : Ex1 g.bx H H') (B : BoxOk g b' H') : LnS g dA ρ b' σ H' T := by
  obtain ⟨kvs, hd, t⟩ := L.d
  exact ⟨L.S.mono e B, L.f, L.o, L.n0, L.nb, kvs, e dA _ L.nb hd, t.keep (e.lst L.S.bo)⟩
theorem LnS.tgt {g : Gh} {dA : Addr} {ρ ρ' : DEnv} {b : Bx} {σ σ' : St} {H : Hp} {T : Tbl} {js : List Nat} (L : LnS g dA ρ b σ H T) (S : StE g ρ' b σ' H) (a : Agr js σ σ') (h : 1 ∉ js) : LnS g dA ρ' b σ' H T :=
  ⟨S, (a.2 1 h).trans L.f, L.o, L.n0, L.nb, L.d⟩
abbrev tStore (K : PySem.W.Frag) : TS := tAsg (tSortSet K (tOp rCat (tDGet2 (tVar 1) (tVar 5) (tLst tNil)) (tLst (tCons (tVar 4) (tCons (tVar 2) tNil))))) (gSub (tVar 1) (tVar 5) rSetD)
section
variable {P : Px} {K : PySem.W.Frag} {g : Gh} {H0 : Hp} {W : WX} {E D0 : Ends} {dA : Addr} {ρ : DEnv} {b : Bx} {σ : St} {H : Hp} {T : Tbl} {jsI jsO : List Nat} {kI kO : D → DEnv → Option DEnv} {fsI fsO : DEnv → M (List D)} {fL : DEnv → M D} {k : DEnv × Tbl → M Out}
theorem ln_inner (hP : g.P = P) (h1 : 1 ∉ jsI) (L : LnS g dA ρ b σ H T) (B : Base g H0 H) (w : wpS g H0 W H ((fsI ρ b).bind fun js => lnInner kI fL js ρ T >>= k) E)
    (nx : ∀ ρ' b' σ' H' T', Tr g.O H g.O H' → LnS g dA ρ' b' σ' H' T' → Base g H0 H' → wpS g H0 W H' (k (ρ', T') b') E → D0.nx σ' H') :
    tFor (rG P W (fun g H ds J => JOk g H ds J) fsI) (rP P jsI kI) (tSeq (tAsg (rE P W fL) (gName 5)) (tStore K)) D0 σ H := by
  refine ⟨g, ρ, b, hP, L.S, (wpS_bind (R1 := fun H ds J => JOk g H ds J) w B).imp fun J H1 ⟨ds, b1, e1, B1, jok, w1⟩ => ?_⟩
  have L1 := L.mono e1 B1
  have t01 : Tr g.O H g.O H1 := Tr.ex e1 L.S.bo
  refine ⟨fun i m σ' H' => m = ds.length - i ∧ i ≤ ds.length ∧ ∃ ρ' b' T', LnS g dA ρ' b' σ' H' T' ∧ Base g H0 H' ∧ Tr g.O H1 g.O H' ∧ wpS g H0 W H' ((lnInner kI fL (ds.drop i) ρ' T' b').bind k) E,
    ⟨ds.length, rfl, Nat.zero_le _, ρ, b1, T, L1, B.at e1, Tr.refl, wpS.at (g := g) t01 w1⟩, ?_⟩
  rintro i m σ' H' ⟨rfl, hl, ρ', b', T', L', B', t', w'⟩
  obtain ⟨j1, j2⟩ := jok g.O H' t' L'.S.mt i
  by_cases hlt : i < ds.length
  · have hd : ds[i]? = some ds[i] := List.getElem?_eq_getElem hlt
    have ed : ds.drop i = ds[i] :: ds.drop (i + 1) := List.drop_eq_getElem_cons hlt
    obtain ⟨go, yl⟩ := j1 _ hd
    rw [ed] at w'
    refine .inr ⟨go, fun σ2 H2 => ∃ ρ2 b2 T2, LnS g dA ρ2 b2 σ2 H2 T2 ∧ Base g H0 H2 ∧ Tr g.O H1 g.O H2 ∧ wpS g H0 W H2 ((lnInner kI fL (ds.drop (i + 1)) ρ2 T2 b2).bind k) E, fun σ2 H2 n2 => ⟨ds.length - (i + 1), by omega, rfl, hlt, n2⟩, fun x H2 y => ?_⟩
    obtain ⟨keep, rx⟩ := yl x H2 y
    have e2 : Ex1 g.bx H' H2 := fun a o _ q => keep a o q
    have L2' := L'.mono e2 (L'.S.box.ex keep)
    have t2 : Tr g.O H' g.O H2 := Tr.ex e2 L.S.bo
    have w' : wpS g H0 W H' (((match kI ds[i] ρ' with
      | some ρ1 => fL ρ1 >>= fun l => chk l >>= fun l => lnPut (ρ1.set 5 (some l)) T' >>= fun T'' => lnInner kI fL (ds.drop (i + 1)) (ρ1.set 5 (some l)) T''
      | none => stuck : M (DEnv × Tbl)) b').bind k) E := w'
    cases ek : kI ds[i] ρ' with
    | none => simp only [ek] at w'; exact w'.elim
    | some ρ1 =>
      simp only [ek] at w'
      refine ⟨g, ρ', b', _, hP, L2'.S, rx, ρ1, ek, fun σ3 S3 ag => ?_⟩
      have L3 := L2'.tgt S3 ag h1
      have B2 := B'.at e2
      have w2 := wpS.at (g := g) t2 w'
      have em : ∀ bb : Bx, Res.bind ((fL ρ1 >>= fun l => chk l >>= fun l => lnPut (ρ1.set 5 (some l)) T' >>= fun T'' => lnInner kI fL (ds.drop (i + 1)) (ρ1.set 5 (some l)) T'' : M (DEnv × Tbl)) bb) k
          = Res.bind (fL ρ1 bb) fun l => (chk l >>= fun l => lnPut (ρ1.set 5 (some l)) T' >>= fun T'' => lnInner kI fL (ds.drop (i + 1)) (ρ1.set 5 (some l)) T'' >>= k) := fun bb => by
        show Res.bind (Res.bind (fL ρ1 bb) _) k = _
        cases fL ρ1 bb with
        | ok l b9 =>
          show Res.bind (Res.bind (chk l b9) _) k = Res.bind (chk l b9) _
          cases chk l b9 with
          | ok l b9 =>
            show Res.bind (Res.bind (lnPut (ρ1.set 5 (some l)) T' b9) _) k = Res.bind (lnPut (ρ1.set 5 (some l)) T' b9) _
            cases lnPut (ρ1.set 5 (some l)) T' b9 <;> rfl
          | exc x b9 => rfl
          | stk => rfl
        | exc x b9 => rfl
        | stk => rfl
      rw [em] at w2
      refine ⟨g, ρ1, b', hP, L3.S, (wpS_bind (R1 := RepT g) w2 B2).imp fun v H3 ⟨d, b3, e3, B3, r3, w3⟩ => ?_⟩
      obtain ⟨rd, w4⟩ := chk_repS r3 w3
      have L4 := L3.mono e3 B3
      have t3 : Tr g.O H2 g.O H3 := Tr.ex e3 L.S.bo
      have L5 : LnS g dA (ρ1.set 5 (some d)) b3 (σ3.set 5 (some v)) H3 T' := ⟨L4.S.set rd 5, (List.getElem?_set_ne (by decide)).trans L4.f, L4.o, L4.n0, L4.nb, L4.d⟩
      refine ln_put L5 (B2.at e3) (k := fun T'' => lnInner kI fL (ds.drop (i + 1)) (ρ1.set 5 (some d)) T'' >>= k) (wpS.at (g := g) t3 w4) fun H5 T5 t5 L6 B6 w6 => ?_
      exact ⟨_, b3, T5, L6, B6, (t'.trans t2).trans (t3.trans t5), wpS.at (g := g) t5 w6⟩
  · have e : i = ds.length := by omega
    subst e
    rw [List.drop_length] at w'
    exact .inl ⟨j2 (Nat.le_refl _), nx ρ' b' σ' H' T' (t01.trans t') L' B' w'⟩
theorem ln_outer (hP : g.P = P) (h1 : 1 ∉ jsI) (h2 : 1 ∉ jsO) (L : LnS g dA ρ b σ H T) (B : Base g H0 H) (w : wpS g H0 W H ((fsO ρ b).bind fun ds => lnOuter kO fsI kI fL ds ρ T >>= k) E)
    (nx : ∀ ρ' b' σ' H' T', Tr g.O H g.O H' → LnS g dA ρ' b' σ' H' T' → Base g H0 H' → wpS g H0 W H' (k (ρ', T') b') E → D0.nx σ' H') :
    tFor (rG P W (fun g H ds J => JOk g H ds J) fsO) (rP P jsO kO) (tFor (rG P W (fun g H ds J => JOk g H ds J) fsI) (rP P jsI kI) (tSeq (tAsg (rE P W fL) (gName 5)) (tStore K))) D0 σ H := by
  refine ⟨g, ρ, b, hP, L.S, (wpS_bind (R1 := fun H ds J => JOk g H ds J) w B).imp fun J H1 ⟨ds, b1, e1, B1, jok, w1⟩ => ?_⟩
  have L1 := L.mono e1 B1
  have t01 : Tr g.O H g.O H1 := Tr.ex e1 L.S.bo
  refine ⟨fun i m σ' H' => m = ds.length - i ∧ i ≤ ds.length ∧ ∃ ρ' b' T', LnS g dA ρ' b' σ' H' T' ∧ Base g H0 H' ∧ Tr g.O H1 g.O H' ∧ wpS g H0 W H' ((lnOuter kO fsI kI fL (ds.drop i) ρ' T' b').bind k) E,
    ⟨ds.length, rfl, Nat.zero_le _, ρ, b1, T, L1, B.at e1, Tr.refl, wpS.at (g := g) t01 w1⟩, ?_⟩
  rintro i m σ' H' ⟨rfl, hl, ρ', b', T', L', B', t', w'⟩
  obtain ⟨j1, j2⟩ := jok g.O H' t' L'.S.mt i
  by_cases hlt : i < ds.length
  · have hd : ds[i]? = some ds[i] := List.getElem?_eq_getElem hlt
    have ed : ds.drop i = ds[i] :: ds.drop (i + 1) := List.drop_eq_getElem_cons hlt
    obtain ⟨go, yl⟩ := j1 _ hd
    rw [ed] at w'
    refine .inr ⟨go, fun σ2 H2 => ∃ ρ2 b2 T2, LnS g dA ρ2 b2 σ2 H2 T2 ∧ Base g H0 H2 ∧ Tr g.O H1 g.O H2 ∧ wpS g H0 W H2 ((lnOuter kO fsI kI fL (ds.drop (i + 1)) ρ2 T2 b2).bind k) E, fun σ2 H2 n2 => ⟨ds.length - (i + 1), by omega, rfl, hlt, n2⟩, fun x H2 y => ?_⟩
    obtain ⟨keep, rx⟩ := yl x H2 y
    have e2 : Ex1 g.bx H' H2 := fun a o _ q => keep a o q
    have L2' := L'.mono e2 (L'.S.box.ex keep)
    have t2 : Tr g.O H' g.O H2 := Tr.ex e2 L.S.bo
    have w' : wpS g H0 W H' (((match kO ds[i] ρ' with
      | some ρ1 => fsI ρ1 >>= fun js => lnInner kI fL js ρ1 T' >>= fun r => lnOuter kO fsI kI fL (ds.drop (i + 1)) r.1 r.2
      | none => stuck : M (DEnv × Tbl)) b').bind k) E := w'
    cases ek : kO ds[i] ρ' with
    | none => simp only [ek] at w'; exact w'.elim
    | some ρ1 =>
      simp only [ek] at w'
      refine ⟨g, ρ', b', _, hP, L2'.S, rx, ρ1, ek, fun σ3 S3 ag => ?_⟩
      have L3 := L2'.tgt S3 ag h2
      have B2 := B'.at e2
      have w2 := wpS.at (g := g) t2 w'
      have em : Res.bind ((fsI ρ1 >>= fun js => lnInner kI fL js ρ1 T' >>= fun r => lnOuter kO fsI kI fL (ds.drop (i + 1)) r.1 r.2 : M (DEnv × Tbl)) b') k
          = Res.bind (fsI ρ1 b') fun js => (lnInner kI fL js ρ1 T' >>= fun r => lnOuter kO fsI kI fL (ds.drop (i + 1)) r.1 r.2 >>= k) := by
        show Res.bind (Res.bind (fsI ρ1 b') _) k = _
        cases fsI ρ1 b' with
        | ok js b9 =>
          show Res.bind (Res.bind (lnInner kI fL js ρ1 T' b9) _) k = Res.bind (lnInner kI fL js ρ1 T' b9) _
          cases lnInner kI fL js ρ1 T' b9 <;> rfl
        | exc x b9 => rfl
        | stk => rfl
      rw [em] at w2
      refine ln_inner (K := K) hP h1 L3 B2 (k := fun r => lnOuter kO fsI kI fL (ds.drop (i + 1)) r.1 r.2 >>= k) w2 fun ρ5 b5 σ5 H5 T5 t5 L5 B5 w5 => ?_
      exact ⟨ρ5, b5, T5, L5, B5, (t'.trans t2).trans t5, w5⟩
  · have e : i = ds.length := by omega
    subst e
    rw [List.drop_length] at w'
    exact .inl ⟨j2 (Nat.le_refl _), nx ρ' b' σ' H' T' (t01.trans t') L' B' w'⟩
end
end Pu

set_option Elab.async false
set_option linter.all false
set_option maxRecDepth 100000
set_option maxHeartbeats 4000000
/-! The pure layer, part W: the def that gathers, whole -/
namespace Pu
open PySem L2
theorem StE.moreO {g : Gh} {ρ : DEnv} {b b' : Bx} {σ : St} {H H' : Hp} {p : Addr} (S : StE g ρ b σ H) (hp : H p = none) (e : Ex1 g.bx H H') (B : BoxOk g b' H') (hq : Mut (H' p)) : StE (g.at fun a => g.O a ∨ a = p) ρ b' σ H' := by
  have w : ∀ a, (g.O a ∨ a = p) → g.O a ∨ H a = none := fun a h => h.elim .inl fun z => .inr (by rw [z]; exact hp)
  have bl : BxL (fun a => g.O a ∨ a = p) g.bx H := fun a z => ⟨.inl (S.bo a z), (S.box.bxl a z).2⟩
  refine ⟨S.len, fun i d h => ?_, S.sep, ?_, fun a h => ?_⟩
  · obtain ⟨v, h1, h2⟩ := S.val i d h
    refine ⟨v, h1, ?_⟩
    cases h2 with
    | rep r => exact .rep ((r.own w).mono bl e)
    | own q o n nb r => exact .own (e _ _ nb q) (.inl o) n nb ((r.own w).mono bl e)
  · unfold BoxOk at B ⊢
    cases eb : g.bx with
    | none => rw [eb] at B; exact B
    | some a =>
      rw [eb] at B
      exact ⟨⟨B.1.1, .inl B.1.2⟩, B.2⟩
  · rcases h with h | h
    · exact (S.mono e B).mt a h
    · rw [h]
      exact hq
theorem StE.hid {g : Gh} {ρ : DEnv} {b : Bx} {σ : St} {H : Hp} {i : Nat} {x : Option V} (S : StE g ρ b σ H) (h : ρ[i]? = some none) : StE g ρ b (σ.set i x) H := by
  have ne : ∀ (j : Nat) (d : D), ρ[j]? = some (some d) → i ≠ j := fun j d hj e => by
    rw [← e, h] at hj
    cases hj
  refine ⟨by rw [List.length_set]; exact S.len, fun j d hj => ?_, fun j l ds es a h1 h2 h3 h4 => ?_, S.box, S.mt⟩
  · rw [List.getElem?_set_ne (ne j d hj)]
    exact S.val j d hj
  · rw [List.getElem?_set_ne (ne j _ h1)] at h3
    rw [List.getElem?_set_ne (ne l _ h2)] at h4
    exact S.sep j l ds es a h1 h2 h3 h4
theorem StE.less {g : Gh} {ρ : DEnv} {b : Bx} {σ : St} {H : Hp} {p : Addr} (S : StE g ρ b σ H) (hp : ∀ vs, H p ≠ some (.lst vs)) : StE (g.at fun a => g.O a ∧ a ≠ p) ρ b σ H := by
  refine ⟨S.len, fun i d h => ?_, S.sep, ?_, fun a h => S.mt a h.1⟩
  · obtain ⟨v, h1, h2⟩ := S.val i d h
    refine ⟨v, h1, ?_⟩
    cases h2 with
    | rep r => exact .rep (r.own fun a h => .inl h.1)
    | own q o n nb r => exact .own q ⟨o, fun z => hp _ (by rw [← z]; exact q)⟩ n nb (r.own fun a h => .inl h.1)
  · have B := S.box
    unfold BoxOk at B ⊢
    cases eb : g.bx with
    | none => rw [eb] at B; exact B
    | some a =>
      rw [eb] at B
      exact ⟨⟨B.1.1, B.1.2, fun z => hp _ (by rw [← z]; exact B.2)⟩, B.2⟩
def itemD (kv : List Int × List Int) : D := .tup [.tup (kv.1.map D.int), .lst (kv.2.map D.int)]
theorem TRep.at {O : Addr → Prop} {H : Hp} {T : Tbl} {kvs : List (List L2.Key × V)} (t : TRep O H T kvs) : ∀ {i : Nat} {k v : List Int}, T[i]? = some (k, v) → ∃ l, kvs[i]? = some (kI k, .ref l) ∧ H l = some (.lst (v.map V.int)) ∧ ¬ O l := by
  induction t with
  | nil => intro i k v h; simp at h
  | @cons k' v' l T kvs h n t ih =>
    intro i k v hi
    cases i with
    | zero =>
      have e : (k', v') = (k, v) := Option.some.inj hi
      cases e
      exact ⟨l, rfl, h, n⟩
    | succ i =>
      obtain ⟨l', h1, h2, h3⟩ := ih (i := i) (by simpa using hi)
      exact ⟨l', by simpa using h1, h2, h3⟩
theorem TRep.sub {O O' : Addr → Prop} {H : Hp} {T : Tbl} {kvs : List (List L2.Key × V)} (w : ∀ a, O' a → O a) (t : TRep O H T kvs) : TRep O' H T kvs := by
  induction t with
  | nil => exact .nil
  | cons h n t ih => exact .cons h (fun z => n (w _ z)) ih
theorem jok_items {g : Gh} {H : Hp} {dA : Addr} {od : Obj} {T : Tbl} {kvs : List (List L2.Key × V)} (hd : H dA = some (.frz od (.dT kvs))) (t : TRep g.O H T kvs) (no : ¬ g.O dA) : JOk g H (T.map itemD) (ItiT dA od kvs) := fun O' H' tr m i => by
  have hd' : H' dA = some (.frz od (.dT kvs)) := tr.keep _ _ no hd
  refine ⟨fun d hi => ?_, fun hl => ⟨hd', by rw [t.length, ← List.length_map (f := itemD)]; exact hl⟩⟩
  rw [List.getElem?_map] at hi
  cases e : T[i]? with
  | none => rw [e] at hi; cases hi
  | some kv =>
    rw [e] at hi
    obtain rfl := Option.some.inj hi
    obtain ⟨k, v⟩ := kv
    obtain ⟨l, h1, h2, h3⟩ := t.at e
    have h2' := tr.keep _ _ h3 h2
    have nl : ¬ O' l := fun z => (tr.own l z).elim h3 fun q => by rw [h2] at q; cases q
    refine ⟨⟨hd', get_len h1⟩, fun x H2 y => ?_⟩
    obtain ⟨T0, kk, vv, q, hk, rfl, hT, hq, rfl⟩ := y
    rw [h1] at hk
    cases hk
    refine ⟨new_keep hT, .tup upd_same (.cons (.tup (vs := k.map V.int) ?_ (reps_ints k)) (.cons (.lst (vs := v.map V.int) (new_keep hT _ _ h2') nl (reps_ints v)) .nil))⟩
    rw [kI_v] at hq
    exact new_keep hT _ _ hq
section
variable {X : Cx} {P : Px} {f : DEnv → M D} {k : D → DEnv → Option DEnv}
theorem sort_read {W : WX} {σ : St} {H : Hp} {Q : VK} (hK : X.K = P.K) (h : rF P W (fSort f) σ H Q) : tCB (rSortedAny X.K) (tCons (rE P W f) tNil) σ H Q := by
  obtain ⟨g, ρ, b, hP, S, w⟩ := h
  refine ⟨g, ρ, b, hP, S, (wpG.bind (R1 := RepT g) w).imp fun v H1 ⟨d, b1, e1, B1, r1, w1⟩ => ?_⟩
  unfold sortF1 at w1
  cases e : d.lseq with
  | none => rw [e] at w1; exact w1.elim
  | some xs =>
    rw [e] at w1
    obtain ⟨hok, w2⟩ := wp_ite (c := (D.oks deep xs && sortB (D.pys xs)) = true) (m := pure (isort ltoD xs)) w1
    obtain ⟨h1, h2⟩ := and2 hok
    obtain ⟨a, vs, rfl, h, r⟩ := lseq_rep r1 e
    subst hP
    rw [hK]
    have dp := Reps.dp (n := deep) r h1
    exact ⟨a, D.pys xs, vs, rfl, .inl (.inl h), dp, h2, (oks_lay _ _ h1).2, fun l hl => w2 (.ref l) _ (Ex1.new hl) (B1.new hl) (rf_new B1 e1 hl (sort_reps r))⟩
def eEndT (vs : List Nat) (k : D → DEnv → Option DEnv) (f : DEnv → M D) (T : Tbl) : DEnv → M D := eF (fSort (eF (fComp (fun _ => pure (T.map itemD)) vs k tYesD f)))
def sLines (fsO : DEnv → M (List D)) (kO : D → DEnv → Option DEnv) (fsI : DEnv → M (List D)) (kI : D → DEnv → Option DEnv) (fL : DEnv → M D) (vs : List Nat) (kC : D → DEnv → Option DEnv) (f : DEnv → M D) : DEnv → M Out := fun ρ => match ρ[1]? with
  | some none => fsO ρ >>= fun ds => lnOuter kO fsI kI fL ds ρ [] >>= fun r => eEndT vs kC f r.2 r.1 >>= fun d => pure (.rt (strip d))
  | _ => stuck
/-- sorted([.. for k, v in found.items()]) while found is locked, then returned -/
theorem ln_end {g : Gh} {H0 : Hp} {W : WX} {E : Ends} {dA : Addr} {ρ : DEnv} {b : Bx} {σ : St} {H : Hp} {T : Tbl} {vs js : List Nat} (hK : X.K = P.K) (hP : g.P = P) (hj : ∀ j ∈ js, j ∈ vs) (L : LnS g dA ρ b σ H T) (B : Base g H0 H)
    (w : wpS g H0 W H ((eEndT vs k f T ρ b).bind fun d => pure (.rt (strip d))) E) :
    tLock (tRet (tCB (rSortedAny X.K) (tCons (tLc (iItemsT (tVar 1)) (rP P js k) (rT P W0 tYesD) (rE P W0 f) vs) tNil))) E σ H := by
  obtain ⟨kvs, hd, t⟩ := L.d
  refine ⟨dA, .dT kvs, hd, trivial, fun od => ?_⟩
  have ns : NoSeq (H dA) := by rw [hd]; exact dT_noseq
  have S4 := (L.S.less (p := dA) ns.l).chg (u := .frz od (.dT kvs)) ns fun z => absurd rfl z.2
  have hd4 : upd H dA (.frz od (.dT kvs)) dA = some (.frz od (.dT kvs)) := upd_same
  have t4 : TRep (fun a => g.O a ∧ a ≠ dA) (upd H dA (.frz od (.dT kvs))) T kvs := by
    have t5 := t.keep (H' := upd H dA (.frz od (.dT kvs))) fun a vs n h => by rw [upd_ne (fun z => n (by rw [z]; exact L.o))]; exact h
    exact t5.sub fun a h => h.1
  -- what is wished of the value
  have fin : wpG (g.at fun a => g.O a ∧ a ≠ dA) W σ (RepT (g.at fun a => g.O a ∧ a ≠ dA)) (upd H dA (.frz od (.dT kvs))) (eEndT vs k f T ρ b) fun v H' => H' dA = some (.frz od (.dT kvs)) ∧ E.rt v (upd H' dA (.dT kvs)) := by
    have w' := w
    have h0n : H0 dA = none := (B.new dA L.o).resolve_left L.n0
    have exs : ∀ {H' : Hp}, Ex1 g.bx (upd H dA (.frz od (.dT kvs))) H' → ∀ a o, g.bx ≠ some a → H0 a = some o → H' a = some o := fun {H'} e a o n q => by
      have ne : a ≠ dA := fun z => by rw [z, h0n] at q; cases q
      refine e a o n ?_
      rw [upd_ne ne]
      exact B.ex a o n q
    have boxs : ∀ {b2 : Bx} {H' : Hp}, BoxOk (g.at fun a => g.O a ∧ a ≠ dA) b2 H' → BoxOk (g.at g.O0) b2 H' := fun {b2 H'} Bx => by
      unfold BoxOk at Bx ⊢
      cases eb : g.bx with
      | none => rw [eb] at Bx; exact Bx
      | some a =>
        rw [eb] at Bx
        exact ⟨⟨Bx.1.1, Bx.1.1⟩, Bx.2⟩
    match eEndT vs k f T ρ b, w' with
    | .ok d b2, w' =>
      intro v H' e Bx r
      have hd5 : H' dA = some (.frz od (.dT kvs)) := e dA _ L.nb upd_same
      have ns5 : NoSeq (H' dA) := by rw [hd5]; exact frzT_noseq
      refine ⟨hd5, w' v _ (fun a o n q => ?_) ((boxs Bx).chg ns5) ?_⟩
      · have ne : a ≠ dA := fun z => by rw [z, h0n] at q; cases q
        rw [upd_ne ne]
        exact exs e a o n q
      · have r0 : Rep g.P g.O0 g.bx H' (strip d) v := by
          have wd : ∀ a, g.O0 a → (g.O a ∧ a ≠ dA) ∨ H' a = none := fun a h => .inl ⟨B.sub a h, fun z => L.n0 (z ▸ h)⟩
          cases r with
          | own q o n nb r => exact .lst q n (r.own wd)
          | rep r =>
            have q := r.own wd
            cases r <;> exact q
        exact r0.chg ns5
    | .exc x b2, w' => exact fun cls dd H' e Bx xr => w' cls dd σ H' (fun a o n q => exs e a o n q) (boxs Bx) xr
  show tRet (tCB (rSortedAny X.K) (tCons (tLc (iItemsT (tVar 1)) (rP P js k) (rT P W0 tYesD) (rE P W0 f) vs) tNil)) _ σ (upd H dA (.frz od (.dT kvs)))
  generalize hg2 : (g.at fun a => g.O a ∧ a ≠ dA) = g2 at S4 fin
  have hP2 : g2.P = P := by rw [← hg2]; exact hP
  have no2 : ¬ g2.O dA := by rw [← hg2]; exact fun z => z.2 rfl
  have t6 : TRep g2.O (upd H dA (.frz od (.dT kvs))) T kvs := by rw [← hg2]; exact t4
  generalize upd H dA (.frz od (.dT kvs)) = H4 at S4 fin hd4 t6
  refine ⟨.ref dA, L.f, dA, od, kvs, rfl, hd4, ?_⟩
  have fin2 : wpG g2 W σ (RepT g2) H4 ((((if (T.map itemD).length < 100000 then compL vs k tYesD f ρ (T.map itemD) else stuck : M (List D)) b).bind fun ys => (sortF1 (.lst ys) >>= fun zs => pure (.lst zs)))) (fun v H' => H' dA = some (.frz od (.dT kvs)) ∧ E.rt v (upd H' dA (.dT kvs))) := by
    refine Eq.mp (congrArg (fun z => wpG g2 W σ (RepT g2) H4 z _) ?_) fin
    show Res.bind (Res.bind (Res.bind ((if (T.map itemD).length < 100000 then compL vs k tYesD f ρ (T.map itemD) else stuck : M (List D)) b) _) _) _ = _
    cases (if (T.map itemD).length < 100000 then compL vs k tYesD f ρ (T.map itemD) else stuck : M (List D)) b with
    | ok ys b' =>
      show Res.bind (sortF1 (.lst ys) b') _ = Res.bind (sortF1 (.lst ys) b') _
      rfl
    | exc x b' => rfl
    | stk => rfl
  have hlen : (T.map itemD).length < 100000 := by
    by_cases z : (T.map itemD).length < 100000
    · exact z
    · rw [if_neg z] at fin2
      exact fin2.elim
  rw [if_pos hlen] at fin2
  refine comp_body (Q := fun v H5 => rSortedAny X.K [v] H5 (fun v H' => H' dA = some (.frz od (.dT kvs)) ∧ E.rt v (upd H' dA (.dT kvs)))) hj hP2 S4 (jok_items hd4 t6 no2) hlen (fun _ h => h) ((wpG.bind (R1 := RF g2 H4) fin2).imp fun v H5 ⟨ys, b5, e5, B5, r5, w5⟩ => ?_)
  obtain ⟨p, us, rfl, h0, hp, r⟩ := r5
  have w5 : wpG g2 W σ (RepT g2) H5 ((sortF1 (.lst ys) b5).bind fun zs => pure (.lst zs)) (fun v H' => H' dA = some (.frz od (.dT kvs)) ∧ E.rt v (upd H' dA (.dT kvs))) := w5
  unfold sortF1 at w5
  have w5 : wpG g2 W σ (RepT g2) H5 (((if (D.oks deep ys && sortB (D.pys ys)) = true then pure (isort ltoD ys) else stuck : M (List D)) b5).bind fun zs => pure (.lst zs)) (fun v H' => H' dA = some (.frz od (.dT kvs)) ∧ E.rt v (upd H' dA (.dT kvs))) := w5
  by_cases hok : (D.oks deep ys && sortB (D.pys ys)) = true
  · rw [if_pos hok] at w5
    obtain ⟨o1, o2⟩ := and2 hok
    have dp := Reps.dp (n := deep) r o1
    refine ⟨p, D.pys ys, us, rfl, .inl (.inl hp), by rw [hK, ← hP2]; exact dp, o2, (oks_lay _ _ o1).2, fun l hl => ?_⟩
    have S5 := S4.mono e5 B5
    have r' : Reps g2.P g2.O g2.bx H5 ys us := r.own fun a h => .inl (.inl h)
    have rs := sort_reps r'
    exact w5 (.ref l) _ (Ex1.new hl) (B5.new hl) (.rep (.lst upd_same (fun z => S5.trk l z hl) (rs.mono B5.bxl (Ex1.new hl))))
  · rw [if_neg hok] at w5
    exact w5.elim
end
section
variable {X : Cx} {P : Px} {tgO iterO tgI iterI eL elt tgC : Expr} {fsO fsI : DEnv → M (List D)} {kO kI kC : D → DEnv → Option DEnv} {fL f : DEnv → M D} {jsO jsI js : List Nat}
theorem sss_lines {kk : Nat} {xf xp xi xl : Str} {scope : Scope} {own : List (Str × Nat)} {celts : List Expr} {ck : Nat} {cpos q1 q2 q3 q4 q5 q6 q7 q8 q9 q10 q11 q12 q13 q14 q15 q16 q17 q18 q19 q20 q21 q22 q23 q24 q25 q26 q27 q28 q29 q30 q31 : Pos} (hr : Room kk X.A) (hc : X.calm = true) (hN : X.N.Nodup) (hp : PassesOwn (model X.prog X.w) X.A X.env X.xe)
    (hgs : Gl X "sorted") (hms : X.mg "sorted" = none) (hgt : Gl X "set") (hmt : X.mg "set" = none)
    (hO : SI X P tgO iterO fsO) (gO : SG X P tgO jsO kO) (hI : SI X P tgI iterI fsI) (gI : SG X P tgI jsI kI) (hL : SE X P eL fL) (hjO : 1 ∉ jsO) (hjI : 1 ∉ jsI)
    (n1 : X.N[1]? = some xf) (n2 : X.N[2]? = some xp) (n4 : X.N[4]? = some xi) (n5 : X.N[5]? = some xl)
    (lf : X.env.scope.names.lookup xf = some .local) (lp : X.env.scope.names.lookup xp = some .local) (li : X.env.scope.names.lookup xi = some .local) (ll : X.env.scope.names.lookup xl = some .local)
    (df : (xf == ("__debug__" : Str)) = false) (df2 : (xf == ("__classdict__" : Str)) = false) (dp : (xp == ("__debug__" : Str)) = false) (dp2 : (xp == ("__classdict__" : Str)) = false) (di : (xi == ("__debug__" : Str)) = false) (di2 : (xi == ("__classdict__" : Str)) = false) (dl : (xl == ("__debug__" : Str)) = false) (dl2 : (xl == ("__classdict__" : Str)) = false)
    (ok : BlkOk X.N X.env.scope scope own) (hj : ∀ j ∈ js, j ∈ own.map (·.2))
    (hg : ∀ (s : Shared) (H : Hp) (C : Addr) (cl : List (Str × Addr)) (fp : List Addr), SG (X.blk s H scope (compEnvC scope cl C X.env) fp) P (.Tuple celts ck cpos) js kC)
    (he : ∀ (s : Shared) (H : Hp) (C : Addr) (cl : List (Str × Addr)) (fp : List Addr), SE (X.blk s H scope (compEnvC scope cl C X.env) fp) P elt f) (hK : X.K = P.K)
    (s1 : swapsWith (.Dict [] [] q2) (some (.Name xf q1)) q3.line X.env = pure false) (s2 : swapsWith eL (some (.Name xl q6)) q7.line X.env = pure false) (s3 : ∀ x, foldedSetIterable iterO X.env x = pure x) (s4 : ∀ x, foldedSetIterable iterI X.env x = pure x)
    (s5 : swapsWithSole [.Subscript (.Name xf q8) (.Name xl q9) q10] (.Call (.Name "sorted" q11) [.Call (.Name "set" q12) [.BinOp (.Call (.Attribute (.Name xf q13) "get" q14) [.Name xl q15, .List [] q16] [] q17) .Add (.List [.Name xi q18, .Name xp q19] q20) q21] [] q22] [] q23) q24.line X.env = pure false)
    (m2 : M2 X (.Name xf q13) "get" q14 (.Name xl q15) (.List [] q16) q17) (hli : (q27.endLine == q28.line) = true)
    (hs : ∀ x, foldedSetIterable (.Call (.Attribute (.Name xf q26) "items" q27) [] [] q28) X.env x = pure x := by intro _; rfl) :
    SSs X P [.Assign [.Name xf q1] (.Dict [] [] q2) q3, .For tgO iterO [.For tgI iterI [.Assign [.Name xl q6] eL q7, .Assign [.Subscript (.Name xf q8) (.Name xl q9) q10] (.Call (.Name "sorted" q11) [.Call (.Name "set" q12) [.BinOp (.Call (.Attribute (.Name xf q13) "get" q14) [.Name xl q15, .List [] q16] [] q17) .Add (.List [.Name xi q18, .Name xp q19] q20) q21] [] q22] [] q23) q24] [] q5] [] q4,
      .Return (some (.Call (.Name "sorted" q25) [.ListComp elt [⟨.Tuple celts ck cpos, .Call (.Attribute (.Name xf q26) "items" q27) [] [] q28, [], 0⟩] scope q29] [] q30)) q31] (sLines fsO kO fsI kI fL (own.map (·.2)) kC f) := by
  have hu : X.A.units + 1 < cLine := by have := hr.un; omega
  have vf : ∀ {p : Pos}, PE X (.Name xf p) (tVar 1) := pe_var n1 (.inl lf) df df2
  have vp : ∀ {p : Pos}, PE X (.Name xp p) (tVar 2) := pe_var n2 (.inl lp) dp dp2
  have vi : ∀ {p : Pos}, PE X (.Name xi p) (tVar 4) := pe_var n4 (.inl li) di di2
  have vl : ∀ {p : Pos}, PE X (.Name xl p) (tVar 5) := pe_var n5 (.inl ll) dl dl2
  refine ⟨fun W tk => pss_imp (pss_cons (ps_set hN n1 (.inl lf) pe_dnewT s1 (.inr lf)) (pss_cons (ps_for hp hc (hO.pi W tk) gO.pg (pss_one (ps_for hp hc (hI.pi W tk) gI.pg
      (pss_cons (ps_set hN n5 (.inl ll) (hL.pe W tk) s2 (.inr ll)) (pss_one (ps_asg (pe_sortSet hc hgs hms hgt hmt (pe_op op_cat (pe_dget2 hu vf vl (pe_lst pa_nil) m2) (pe_lst (pa_cons vi (pa_cons vp pa_nil))))) (pg_sub vf vl (set_dict hu)) s5))) s4)) s3)
      (pss_one (ps_lock (ps_ret (pe_callB (cr_sortedAny hr) hgs hms PyProof.Rows.boot_sorted (pa_cons (pe_lc hc hN (pi_itemsT vf rfl hli) ok (fun s H C cl fp => (hg s H C cl fp).pg) (fun s H C cl fp => (sts_nil (P := P)).pt _ takes0) (fun s H C cl fp => (he s H C cl fp).pe _ takes0) hs) pa_nil) (by decide) (by decide)))))) ) fun E σ H h => ?_⟩
  obtain ⟨g, H0, ρ, b, hP, S, B, w⟩ := h
  have hw : ρ[1]? = some none ∧ wpS g H0 W H ((fsO ρ b).bind fun ds => lnOuter kO fsI kI fL ds ρ [] >>= fun r => eEndT (own.map (·.2)) kC f r.2 r.1 >>= fun d => pure (.rt (strip d))) E := by
    have w : wpS g H0 W H ((match ρ[1]? with
      | some none => fsO ρ >>= fun ds => lnOuter kO fsI kI fL ds ρ [] >>= fun r => eEndT (own.map (·.2)) kC f r.2 r.1 >>= fun d => pure (.rt (strip d))
      | _ => stuck : M Out) b) E := w
    cases hx : ρ[1]? with
    | none => rw [hx] at w; exact w.elim
    | some o =>
      cases o with
      | some d => rw [hx] at w; exact w.elim
      | none =>
        rw [hx] at w
        exact ⟨rfl, w⟩
  obtain ⟨e1, w⟩ := hw
  intro p hp0
  have e2 : Ex1 g.bx H (upd H p (.dT [])) := Ex1.new hp0
  have B2 : BoxOk g b (upd H p (.dT [])) := S.box.new hp0
  have S2 := (S.moreO hp0 e2 B2 (by rw [upd_same]; trivial)).hid (i := 1) (x := some (.ref p)) e1
  have n0 : ¬ g.O0 p := fun z => S.trk p (B.sub p z) hp0
  have nb : g.bx ≠ some p := fun z => by
    obtain ⟨_, vs, q⟩ := S.box.bxl p z
    rw [hp0] at q; cases q
  have hl1 : 1 < σ.length := by
    rw [S.len]
    exact get_len e1
  have L : LnS (g.at fun a => g.O a ∨ a = p) p ρ b (σ.set 1 (some (.ref p))) (upd H p (.dT [])) [] := ⟨S2, List.getElem?_set_self hl1, .inr rfl, n0, nb, [], upd_same, .nil⟩
  have tr : Tr g.O H (fun a => g.O a ∨ a = p) (upd H p (.dT [])) := ⟨fun a o n q => e2 a o (fun z => n (S.bo a z)) q, fun a h => h.elim .inl fun z => .inr (by rw [z]; exact hp0)⟩
  have Bs : Base (g.at fun a => g.O a ∨ a = p) H0 (upd H p (.dT [])) := by
    have B1' := B.at e2
    refine ⟨fun a h => .inl (B1'.sub a h), fun a h => ?_, B1'.ex, B1'.trk⟩
    rcases h with h | h
    · exact B1'.new a h
    · rw [h]
      exact .inr (fresh_back S.box.bxl B.ex hp0)
  have w1 := wpS.at tr w
  generalize hkk : (fun r : DEnv × Tbl => (eEndT (own.map (·.2)) kC f r.2 r.1 >>= fun d => pure (.rt (strip d)) : M Out)) = kk0 at w1
  have w2 : wpS (g.at fun a => g.O a ∨ a = p) H0 W (upd H p (.dT [])) ((fsO ρ b).bind fun ds => lnOuter kO fsI kI fL ds ρ [] >>= kk0) E := w1
  show tFor (rG P W (fun g H ds J => JOk g H ds J) fsO) (rP P jsO kO) (tFor (rG P W (fun g H ds J => JOk g H ds J) fsI) (rP P jsI kI) (tSeq (tAsg (rE P W fL) (gName 5)) (tStore X.K)))
    { E with nx := tLock (tRet (tCB (rSortedAny X.K) (tCons (tLc (iItemsT (tVar 1)) (rP P js kC) (rT P W0 tYesD) (rE P W0 f) (own.map (·.2))) tNil))) E } (σ.set 1 (some (.ref p))) (upd H p (.dT []))
  refine ln_outer (K := X.K) (P := P) (g := g.at fun a => g.O a ∨ a = p) hP hjI hjO L Bs (k := kk0) w2 fun ρ' b' σ' H' T' t' L' B' w' => ?_
  have w3 : wpS (g.at fun a => g.O a ∨ a = p) H0 W H' ((eEndT (own.map (·.2)) kC f T' ρ' b').bind fun d => pure (.rt (strip d))) E := by
    rw [← hkk] at w'
    exact w'
  exact ln_end (g := g.at fun a => g.O a ∨ a = p) hK hP hj L' B' w3
end
/-! ### the table of the defs that a name may hold -/
def lookF (n : Nat) : List (Nat × (List D → M D)) → Option (List D → M D)
  | [] => none
  | (m, F) :: r => if n = m then some F else lookF n r
def AllF (Q : Nat → (List D → M D) → Prop) : List (Nat × (List D → M D)) → Prop
  | [] => True
  | (m, F) :: r => Q m F ∧ AllF Q r
theorem lookF_ok {Q : Nat → (List D → M D) → Prop} : ∀ {l : List (Nat × (List D → M D))}, AllF Q l → ∀ n F, lookF n l = some F → Q n F
  | [], _, n, F, h => by cases h
  | (m, G) :: r, a, n, F, h => by
    unfold lookF at h
    by_cases e : n = m
    · rw [if_pos e] at h
      cases h
      rw [e]
      exact a.1
    · rw [if_neg e] at h
      exact lookF_ok a.2 n F h
end Pu

set_option Elab.async false
set_option linter.all false
set_option maxRecDepth 100000
set_option maxHeartbeats 4000000
/-! The pure layer, part X: a law's def: its first line makes the box that the rest draws from -/
namespace Pu
open PySem L2
def spLaw (P : Px) : Sp := fun vs H Q _ => ∃ (a : Addr) (ns : List Int), vs = [.ref a] ∧ ns.length ≤ 63 ∧ ((∃ o, H a = some (.frz o (.lst (ns.map V.int)))) ∨ ∀ H', SqL P.K H' a (ns.map V.int)) ∧ ∀ H', Q (.bl true) H'
/-- what is to be shown of the law's two parts -/
def Good (n i : Nat) (u1 u2 : DEnv → M Out) : Prop := ∀ ns : List Int, ns.length ≤ 63 → ∃ (ρ1 : DEnv) (iz : List Int), u1 (startD n [.fro (ns.map D.int)]) [] = .ok (.nx ρ1) [] ∧ ρ1[i]? = some (some (.lst (iz.map D.int))) ∧ ρ1.length = n ∧
  ∃ b', u2 ((List.replicate n none).set i (some .box)) iz = .ok (.rt (.bl true)) b'
theorem intsOf_map : ∀ ns : List Int, intsOf (ns.map D.int) = some ns
  | [] => rfl
  | n :: ns => by
    rw [List.map_cons, intsOf, intsOf_map]
    rfl
theorem law_ok {prog : Program} {w : World} {K : PySem.W.Frag} {mg : Str → Option Value} {base : Heap} {P : Px} {x qual p0 : Str} {st s1 : Stmt} {rest : List Stmt} {f0 : Addr} {fd : FuncData} {N : List Str} {k i : Nat} {u1 u2 : DEnv → M Out} (hK : P.K = K) (F : Fun K x qual st f0 fd) (S : FnScope N [p0] (defScope st)) (hst : defBody st = s1 :: rest)
    (hb : ∀ (cdv : Value) (A : Around) (outer : List Env) (s : Shared) (H : Hp) (E : XK), Room k (A.deeper (PyProof.Rows.envOfC qual (defScope st) s.heap.objs.size f0 cdv)) →
      SS (cxOf (L2.CX prog w) prog w K mg base N qual (defScope st) f0 cdv A outer s H E) P s1 u1 ∧ SSs (cxOf (L2.CX prog w) prog w K mg base N qual (defScope st) f0 cdv A outer s H E) P rest u2) (good : Good N.length i u1 u2) :
    FnOk prog w K mg base (L2.CX prog w) (k + 1) f0 fd [p0] (spLaw P) := by
  have hpl : 1 ≤ N.length := by
    have := congrArg List.length S.pre
    rw [List.length_take] at this
    have e : ([p0] : List Str).length = 1 := rfl
    rw [e] at this
    omega
  refine F.okX S (fun vs H Q E h => ?_) (fun cdv A outer s H vs Q E hr h => ?_)
  · obtain ⟨a, ns, rfl, _⟩ := h
    rfl
  · obtain ⟨h1, h2⟩ := hb cdv A outer s H E hr
    have tk := takes_of (X := cxOf (L2.CX prog w) prog w K mg base N qual (defScope st) f0 cdv A outer s H E) (E := E) rfl rfl rfl rfl
    refine ⟨_, by rw [hst]; exact pss_cons (h1.ps (fun cls d _ H => E cls d H) tk) (h2.ps (fun cls d _ H => E cls d H) tk), ?_⟩
    obtain ⟨a, ns, rfl, hl, hs, hQ⟩ := h
    obtain ⟨ρ1, iz, e1, e2, e3, b', e4⟩ := good ns hl
    have none_at : ∀ (j : Nat) (d : D), (startD N.length [.fro (ns.map D.int)])[j]? = some (some d) → j = 0 ∧ d = .fro (ns.map D.int) := fun j d hj => by
      unfold startD at hj
      cases j with
      | zero =>
        have hj : some (some (D.fro (ns.map D.int))) = some (some d) := hj
        cases hj
        exact ⟨rfl, rfl⟩
      | succ j =>
        rw [List.map_cons, List.map_nil, List.cons_append, List.nil_append, List.getElem?_cons_succ, List.getElem?_replicate] at hj
        split at hj <;> cases hj
    refine ⟨⟨P, fun _ => False, fun _ => False, none⟩, H, startD N.length [.fro (ns.map D.int)], [], rfl, ⟨?_, fun j d hj => ?_, fun j l ds es c q1 _ => ?_, rfl, fun _ z => z.elim⟩, ⟨fun _ z => z, fun _ z => z.elim, Ex1.refl, fun _ z => z.elim⟩, ?_⟩
    · unfold L2.start startD
      rw [List.length_append, List.length_append, List.length_map, List.length_map, List.length_replicate, List.length_replicate]
      rfl
    · obtain ⟨rfl, rfl⟩ := none_at j d hj
      refine ⟨.ref a, rfl, .rep (.fro hs ?_)⟩
      exact reps_ints ns
    · obtain ⟨_, z⟩ := none_at j _ q1
      cases z
    · rw [e1]
      intro O' σ' H' t S' B'
      obtain ⟨v, hv, rv⟩ := S'.val i _ e2
      cases rv with
      | rep rv =>
        cases rv with
        | @lst c _ vs q n r =>
          have ev := ints_rep r (intsOf_map iz)
          subst ev
          refine ⟨⟨P, fun z => z = c, fun z => z = c, some c⟩, H', (List.replicate N.length none).set i (some .box), iz, rfl, ⟨?_, fun j d hj => ?_, fun j l ds es c' q1 _ => ?_, ⟨⟨rfl, rfl⟩, q⟩, fun z hz => ?_⟩, ⟨fun _ z => z, fun _ z => .inl z, Ex1.refl, fun z hz => ?_⟩, ?_⟩
          · rw [S'.len, e3, List.length_set, List.length_replicate]
          · rcases get_set hj with ⟨z1, z2, _⟩ | ⟨_, z2⟩
            · cases z2
              subst z1
              exact ⟨_, hv, .rep (.box rfl)⟩
            · rw [List.getElem?_replicate] at z2
              split at z2 <;> cases z2
          · rcases get_set q1 with ⟨z1, z2, _⟩ | ⟨_, z2⟩
            · cases z2
            · rw [List.getElem?_replicate] at z2
              split at z2 <;> cases z2
          · have hz : z = c := hz
            rw [hz, q]
            trivial
          · have hz : z = c := hz
            rw [hz, q]
            exact fun z => by cases z
          · rw [e4]
            intro v2 H2 _ _ r2
            cases r2
            exact hQ H2
end Pu

set_option Elab.async false
set_option linter.all false
set_option maxRecDepth 100000
set_option maxHeartbeats 4000000
/-! The pure layer, part AA: list(range(..)), tuple(range(..)), l.count(k), l.index(x), l[::-1] -/
namespace Pu
open PySem L2
section
variable {X : Cx} {P : Px} {e a b : Expr} {pos : Pos} {f fa fb : DEnv → M D} {fs : DEnv → M (List D)}
/-! ### l.count(k) -/
def cntD (xs : List D) (y : D) : M D := match y with
  | .int k => match intsOf xs with
    | some ns => pure (.int (ns.count k : Nat))
    | none => stuck
  | _ => stuck
def eCount (f g : DEnv → M D) : DEnv → M D := fun ρ => f ρ >>= fun x => match x.lseq with
  | some xs => g ρ >>= fun y => cntD xs y
  | none => stuck
theorem tyV_lst {K : PySem.W.Frag} {H : Hp} {a : Addr} {vs : List V} (h : H a = some (.lst vs)) : tyV K "list" (.ref a) H := .inl ⟨rfl, _, .inl (.inl h)⟩
theorem lst_keep {g : Gh} {H H1 : Hp} {d : D} {v : V} {xs : List D} (r : RepT g H d v) (e : d.lseq = some xs) (B : BxL g.O g.bx H) (x : Ex1 g.bx H H1) : ∃ a vs, v = .ref a ∧ H a = some (.lst vs) ∧ H1 a = some (.lst vs) ∧ Reps g.P g.O g.bx H1 xs vs := by
  obtain ⟨a, vs, rfl, h, _⟩ := lseq_rep r e
  obtain ⟨a', vs', ev, h', r'⟩ := lseq_rep (r.mono B x) e
  cases ev
  have nb : g.bx ≠ some a := fun z => by
    cases r with
    | rep r =>
      cases r with
      | lst _ nb _ => exact nb (B a z).1
      | _ => cases e
    | own _ _ _ nb _ => exact nb z
  have q := x a _ nb h
  rw [q] at h'
  cases h'
  exact ⟨a, vs, rfl, h, q, r'⟩
theorem se_count {p2 p3 : Pos} (ha : SE X P a fa) (hb : SE X P b fb) (hK : X.K = P.K := by rfl)
    (hpe : ∀ {t1 t2 : TE}, PE X a t1 → PE X b t2 → PE X (.Call (.Attribute a "count" p2) [b] [] p3) (tBM X.K "list" (rCntI X.K) t1 (tCons t2 tNil)) := by
      intro t1 t2 h1 h2
      exact pe_bm PySem.F.plainAttrs_list PySem.F.slot_list_count PySem.F.type_list_count mt_lcount h1 (pa_cons h2 pa_nil)) :
    SE X P (.Call (.Attribute a "count" p2) [b] [] p3) (eCount fa fb) := ⟨fun W tk => pe_imp (hpe (ha.pe W tk) (hb.pe W tk)) fun σ H Q h => by
  obtain ⟨g, ρ, b, hP, S, w⟩ := h
  refine ⟨g, ρ, b, hP, S, (wpG.bind (R1 := RepT g) w).imp fun v H1 ⟨d, b1, e1, B1, r1, w1⟩ => ?_⟩
  have S1 := S.mono e1 B1
  cases el : d.lseq with
  | none => simp only [el] at w1; exact w1.elim
  | some xs =>
    simp only [el] at w1
    obtain ⟨p, vs, rfl, hp, _⟩ := lseq_rep r1 el
    refine ⟨tyV_lst hp, g, ρ, b1, hP, S1, (wpG.bind (R1 := RepT g) w1).imp fun y H2 ⟨d2, b2, e2, B2, r2, w2⟩ => ?_⟩
    obtain ⟨p', vs', ev, _, h2, rx⟩ := lst_keep r1 el S1.box.bxl e2
    cases ev
    unfold cntD at w2
    cases d2 with
    | int k =>
      cases int_rt r2
      cases ei : intsOf xs with
      | none => simp only [ei] at w2; exact w2.elim
      | some ns =>
        simp only [ei] at w2
        have ev := ints_rep rx ei
        subst ev
        exact ⟨p, ns, k, rfl, rfl, .inl (.inl h2), wpG_ok w2 B2 (.rep (.int _))⟩
    | _ => exact w2.elim⟩
/-! ### l.index(x): the first place of an equal one -/
def firstEq (x : D) : List D → Option Nat
  | [] => none
  | y :: ys => if D.eqv y x = true then some 0 else (firstEq x ys).map (· + 1)
def idx1 (o : Option Nat) : M D := match o with
  | some j => pure (.int (j : Nat))
  | none => stuck
def idxD (xs : List D) (y : D) : M D := if (y.ok deep && D.oks deep xs) = true then idx1 (firstEq y xs) else stuck
def eIndex (f g : DEnv → M D) : DEnv → M D := fun ρ => f ρ >>= fun x => match x.lseq with
  | some xs => g ρ >>= fun y => idxD xs y
  | none => stuck
theorem firstEq_get {x : D} : ∀ {xs : List D} {j : Nat}, firstEq x xs = some j → ∃ z, xs[j]? = some z ∧ D.eqv z x = true ∧ ∀ (m : Nat) (z' : D), m < j → xs[m]? = some z' → D.eqv z' x = false
  | y :: ys, j, h => by
    unfold firstEq at h
    by_cases e : D.eqv y x = true
    · rw [if_pos e] at h
      cases h
      exact ⟨y, rfl, e, fun m z' hm _ => absurd hm (Nat.not_lt_zero _)⟩
    · rw [if_neg e] at h
      cases q : firstEq x ys with
      | none => rw [q] at h; cases h
      | some k =>
        rw [q] at h
        cases h
        obtain ⟨z, h1, h2, h3⟩ := firstEq_get q
        refine ⟨z, h1, h2, fun m z' hm hz => ?_⟩
        cases m with
        | zero => cases hz; exact Bool.eq_false_iff.mpr e
        | succ m => exact h3 m z' (Nat.lt_of_succ_lt_succ hm) hz
theorem pys_get : ∀ {xs : List D} {j : Nat}, (D.pys xs)[j]? = xs[j]?.map D.py
  | [], j => by rw [D.pys]; rfl
  | x :: xs, 0 => by rw [D.pys]; rfl
  | x :: xs, j + 1 => by
    rw [D.pys, List.getElem?_cons_succ, List.getElem?_cons_succ]
    exact pys_get
theorem oks_get : ∀ {n : Nat} {xs : List D} {j : Nat} {z : D}, D.oks n xs = true → xs[j]? = some z → z.ok n = true
  | n, x :: xs, j, z, h, e => by
    have q : x.ok n = true ∧ D.oks n xs = true := by simpa [D.oks] using h
    cases j with
    | zero => cases e; exact q.1
    | succ j => exact oks_get q.2 e
theorem se_index {k : Nat} {p2 p3 : Pos} (hr : Room (k + 1) X.A) (ha : SE X P a fa) (hb : SE X P b fb) (hK : X.K = P.K := by rfl)
    (hpe : ∀ {t1 t2 : TE}, PE X a t1 → PE X b t2 → PE X (.Call (.Attribute a "index" p2) [b] [] p3) (tBM X.K "list" (rIndexD X.K) t1 (tCons t2 tNil)) := by
      intro t1 t2 h1 h2
      exact pe_bm PySem.F.plainAttrs_list PySem.F.slot_list_index PySem.F.type_list_index (mt_indexD (room65 hr)) h1 (pa_cons h2 pa_nil)) :
    SE X P (.Call (.Attribute a "index" p2) [b] [] p3) (eIndex fa fb) := ⟨fun W tk => pe_imp (hpe (ha.pe W tk) (hb.pe W tk)) fun σ H Q h => by
  obtain ⟨g, ρ, b, hP, S, w⟩ := h
  refine ⟨g, ρ, b, hP, S, (wpG.bind (R1 := RepT g) w).imp fun v H1 ⟨d, b1, e1, B1, r1, w1⟩ => ?_⟩
  have S1 := S.mono e1 B1
  cases el : d.lseq with
  | none => simp only [el] at w1; exact w1.elim
  | some xs =>
    simp only [el] at w1
    obtain ⟨p, vs, rfl, hp, _⟩ := lseq_rep r1 el
    refine ⟨tyV_lst hp, g, ρ, b1, hP, S1, (wpG.bind (R1 := RepT g) w1).imp fun y H2 ⟨d2, b2, e2, B2, r2, w2⟩ => ?_⟩
    obtain ⟨p', vs', ev, _, h2, rx⟩ := lst_keep r1 el S1.box.bxl e2
    cases ev
    obtain ⟨hok, w3⟩ := wp_ite (c := (d2.ok deep && D.oks deep xs) = true) (m := idx1 (firstEq d2 xs)) w2
    obtain ⟨o1, os⟩ := and2 hok
    cases ej : firstEq d2 xs with
    | none => rw [ej] at w3; exact w3.elim
    | some j =>
      rw [ej] at w3
      obtain ⟨z, q1, q2, q3⟩ := firstEq_get ej
      have o2 : (D.lst xs).ok (deep + 1) = true := by rw [D.ok]; exact os
      have dz := oks_get os q1
      subst hP
      rw [hK]
      have eqv : ∀ {z : D}, z.ok deep = true → PyData.eqv z.py d2.py = D.eqv z d2 := fun {z} hz => py_eqv deep _ _ hz o1
      refine ⟨p, y, d2.py, D.pys xs, j, z.py, rfl, rfl, .lst (.inl (.inl h2)) (Reps.dp rx os), r2.dp o1, ?_, ok_shaped o1 (by decide), by rw [pys_get, q1]; rfl, by rw [eqv dz]; exact q2, fun m z' hm hz => ?_, wpG_ok w3 B2 (.rep (.int _))⟩
      · have := ok_shaped o2 (by decide)
        rwa [D.py] at this
      · rw [pys_get] at hz
        cases hx : xs[m]? with
        | none => rw [hx] at hz; cases hz
        | some z2 =>
          rw [hx] at hz
          cases hz
          rw [eqv (oks_get os hx)]
          exact q3 m z2 hm hx⟩
/-! ### list(range(..)), tuple(range(..)) -/
def rgOk (i j : Int) : Bool := decide (i.natAbs < 2 ^ 40) && decide (j.natAbs < 2 ^ 40) && decide ((j - i).toNat ≤ 100000)
def lrg2 (x y : D) : M (List D) := match x, y with
  | .int i, .int j => if rgOk i j = true then pure (rangeD i (j - i).toNat) else stuck
  | _, _ => stuck
def fRg1 (f : DEnv → M D) : DEnv → M (List D) := fun ρ => f ρ >>= fun x => lrg2 (.int 0) x
def fRg2 (fa fb : DEnv → M D) : DEnv → M (List D) := fun ρ => fa ρ >>= fun x => fb ρ >>= fun y => lrg2 x y
def eTupF (fs : DEnv → M (List D)) : DEnv → M D := fun ρ => fs ρ >>= fun ds => pure (.tup ds)
theorem reps_range {P : Px} {O : Addr → Prop} {bx : Option Addr} {H : Hp} (i j : Int) : Reps P O bx H (rangeD i (j - i).toNat) (rgV i j) := by
  unfold rangeD rgV
  generalize (List.range (j - i).toNat) = l
  induction l with
  | nil => exact .nil
  | cons n l ih => exact .cons (.int _) ih
theorem rgOk_of {i j : Int} (h : rgOk i j = true) : RgOk i j := by
  unfold rgOk at h
  simp only [Bool.and_eq_true, decide_eq_true_eq] at h
  exact ⟨by omega, by omega, by omega, by omega, by omega⟩
theorem lrg_lst {g : Gh} {W : WX} {σ : St} {H H0 : Hp} {Q : VK} {i j : Int} {b : Bx} (B : BoxOk g b H) (e : Ex1 g.bx H0 H) (w : wpG g W σ (RF g H0) H (lrg2 (.int i) (.int j) b) Q) : RgOk i j ∧ ∀ q, H q = none → Q (.ref q) (upd H q (.lst (rgV i j))) := by
  obtain ⟨h, w2⟩ := wp_ite (c := rgOk i j = true) (m := pure (rangeD i (j - i).toNat)) w
  exact ⟨rgOk_of h, fun l hl => w2 (.ref l) _ (Ex1.new hl) (B.new hl) (rf_new B e hl (reps_range i j))⟩
theorem int_of {g : Gh} {H : Hp} {v : V} {d : D} {γ δ : Type} {W : WX} {σ : St} {R : Hp → γ → δ → Prop} {Q : δ → Hp → Prop} {k : Int → M γ} {b : Bx} (r : RepT g H d v) (w : wpG g W σ R H ((match d with | .int i => k i | _ => stuck : M γ) b) Q) : ∃ i, d = .int i ∧ v = .int i ∧ wpG g W σ R H (k i b) Q := by
  cases d with
  | int i => exact ⟨i, rfl, int_rt r, w⟩
  | _ => exact w.elim
theorem sf_listRg1 {p p1 p2 : Pos} {x : Expr} (hc : X.calm = true) (hg : Gl X "list") (hm : X.mg "list" = none) (hg2 : Gl X "range") (hm2 : X.mg "range" = none) (ha : SE X P x f) (hK : X.K = P.K := by rfl)
    (na : starEach [x] X.env = (false, eval x X.env) :: starEach [] X.env := by rfl) (nb : starEach [.Call (.Name "range" p1) [x] [] p2] X.env = (false, eval (.Call (.Name "range" p1) [x] [] p2) X.env) :: starEach [] X.env := by rfl) :
    SF X P (.Call (.Name "list" p) [.Call (.Name "range" p1) [x] [] p2] [] pos) (fRg1 f) := ⟨fun W tk => pe_imp (pe_listRg hc hg hm (prg_1 hg2 hm2 (ha.pe W tk) na) nb) fun σ H Q h => by
  obtain ⟨g, ρ, b, hP, S, w⟩ := h
  refine ⟨g, ρ, b, hP, S, (wpG.bind (R1 := RepT g) w).imp fun v H1 ⟨d, b1, e1, B1, r1, w1⟩ => ?_⟩
  have w1 : wpG g W σ (RF g H) H1 (lrg2 (.int 0) d b1) Q := w1
  cases d with
  | int j =>
    cases int_rt r1
    exact ⟨j, rfl, lrg_lst B1 e1 w1⟩
  | _ => exact w1.elim⟩
theorem sf_listRg2 {p p1 p2 : Pos} {x y : Expr} {f g : DEnv → M D} (hc : X.calm = true) (hg : Gl X "list") (hm : X.mg "list" = none) (hg2 : Gl X "range") (hm2 : X.mg "range" = none) (ha : SE X P x f) (hb : SE X P y g) (hK : X.K = P.K := by rfl)
    (na : starEach [x, y] X.env = (false, eval x X.env) :: starEach [y] X.env := by rfl) (nc : starEach [y] X.env = (false, eval y X.env) :: starEach [] X.env := by rfl) (hp : (backTo p2 (starEach [y] X.env)).any (·.1) = false := by rfl)
    (nb : starEach [.Call (.Name "range" p1) [x, y] [] p2] X.env = (false, eval (.Call (.Name "range" p1) [x, y] [] p2) X.env) :: starEach [] X.env := by rfl) :
    SF X P (.Call (.Name "list" p) [.Call (.Name "range" p1) [x, y] [] p2] [] pos) (fRg2 f g) := ⟨fun W tk => pe_imp (pe_listRg hc hg hm (prg_2 hg2 hm2 (ha.pe W tk) (hb.pe W tk) na nc hp) nb) fun σ H Q h => by
  obtain ⟨g0, ρ, b, hP, S, w⟩ := h
  refine ⟨g0, ρ, b, hP, S, (wpG.bind (R1 := RepT g0) w).imp fun v H1 ⟨d, b1, e1, B1, r1, w1⟩ => ?_⟩
  have S1 := S.mono e1 B1
  refine ⟨g0, ρ, b1, hP, S1, (wpG.bind (R1 := RepT g0) w1).imp fun u H2 ⟨d2, b2, e2, B2, r2, w2⟩ => ?_⟩
  have w2 : wpG g0 W σ (RF g0 H) H2 (lrg2 d d2 b2) Q := w2
  cases d with
  | int i =>
    cases d2 with
    | int j =>
      cases int_rt r1
      cases int_rt r2
      exact ⟨i, j, rfl, rfl, lrg_lst B2 (e1.trans e2) w2⟩
    | _ => exact w2.elim
  | _ => exact w2.elim⟩
theorem lrg_tup {g : Gh} {W : WX} {σ : St} {H : Hp} {Q : VK} {i j : Int} {b : Bx} (B : BoxOk g b H) (w : wpG g W σ (RepT g) H ((lrg2 (.int i) (.int j) b).bind fun ds => pure (.tup ds)) Q) : RgOk i j ∧ ∀ q, H q = none → Q (.ref q) (upd H q (.tup (rgV i j))) := by
  by_cases h : rgOk i j = true
  · have e : lrg2 (.int i) (.int j) b = .ok (rangeD i (j - i).toNat) b := by
      show (if rgOk i j = true then _ else _ : M (List D)) b = _
      rw [if_pos h]
      rfl
    rw [e] at w
    exact ⟨rgOk_of h, fun l hl => w (.ref l) _ (Ex1.new hl) (B.new hl) (.rep (.tup (upd_same) ((reps_range i j).mono B.bxl (Ex1.new hl))))⟩
  · have e : lrg2 (.int i) (.int j) b = .stk := by
      show (if rgOk i j = true then _ else _ : M (List D)) b = _
      rw [if_neg h]
      rfl
    rw [e] at w
    exact w.elim
theorem se_tupRg1 {p p1 p2 : Pos} {x : Expr} (hc : X.calm = true) (hg : Gl X "tuple") (hm : X.mg "tuple" = none) (hg2 : Gl X "range") (hm2 : X.mg "range" = none) (ha : SE X P x f) (hK : X.K = P.K := by rfl)
    (na : starEach [x] X.env = (false, eval x X.env) :: starEach [] X.env := by rfl) (nb : starEach [.Call (.Name "range" p1) [x] [] p2] X.env = (false, eval (.Call (.Name "range" p1) [x] [] p2) X.env) :: starEach [] X.env := by rfl) :
    SE X P (.Call (.Name "tuple" p) [.Call (.Name "range" p1) [x] [] p2] [] pos) (eTupF (fRg1 f)) := ⟨fun W tk => pe_imp (pe_tupRg hc hg hm (prg_1 hg2 hm2 (ha.pe W tk) na) nb) fun σ H Q h => by
  obtain ⟨g, ρ, b, hP, S, w⟩ := h
  have w : wpG g W σ (RepT g) H ((f ρ >>= fun x => lrg2 (.int 0) x >>= fun ds => pure (.tup ds)) b) Q := by
    have q : eTupF (fRg1 f) ρ b = (f ρ >>= fun x => lrg2 (.int 0) x >>= fun ds => pure (.tup ds)) b := by
      unfold eTupF fRg1
      rw [bind_assoc']
    rw [← q]
    exact w
  refine ⟨g, ρ, b, hP, S, (wpG.bind (R1 := RepT g) w).imp fun v H1 ⟨d, b1, e1, B1, r1, w1⟩ => ?_⟩
  cases d with
  | int j =>
    cases int_rt r1
    exact ⟨j, rfl, lrg_tup B1 w1⟩
  | _ => exact w1.elim⟩
/-! ### l[::-1] -/
def revF1 (d : D) : M (List D) := match d.lseq with
  | some xs => pure xs.reverse
  | none => stuck
def fRev (f : DEnv → M D) : DEnv → M (List D) := fun ρ => f ρ >>= revF1
theorem Reps.rev {P : Px} {O : Addr → Prop} {bx : Option Addr} {H : Hp} {ds : List D} {vs : List V} (r : Reps P O bx H ds vs) : Reps P O bx H ds.reverse vs.reverse := by
  have go : ∀ {ds : List D} {vs : List V} {es : List D} {us : List V}, Reps P O bx H ds vs → Reps P O bx H es us → Reps P O bx H (ds.reverseAux es) (vs.reverseAux us) := by
    intro ds vs es us r
    induction ds generalizing vs es us with
    | nil => cases r; exact id
    | cons d ds ih =>
      cases r with
      | cons h t =>
        intro q
        have z := ih t (.cons h q)
        exact z
  have := go r (.nil : Reps P O bx H [] [])
  rwa [List.reverseAux_eq, List.reverseAux_eq, List.append_nil, List.append_nil] at this
theorem sf_rev {x : Expr} {k : Nat} {p1 p2 p3 : Pos} (ha : SE X P x f) (hK : X.K = P.K := by rfl) : SF X P (.Subscript x (.Slice none none (some (.UnaryOp .USub (.Constant (.int 1) k p1) p2)) p3) pos) (fRev f) := ⟨fun W tk => pe_imp (pe_revL (ha.pe W tk)) fun σ H Q h => by
  obtain ⟨g, ρ, b, hP, S, w⟩ := h
  refine ⟨g, ρ, b, hP, S, (wpG.bind (R1 := RepT g) w).imp fun v H1 ⟨d, b1, e1, B1, r1, w1⟩ => ?_⟩
  unfold revF1 at w1
  cases e : d.lseq with
  | none => rw [e] at w1; exact w1.elim
  | some xs =>
    rw [e] at w1
    obtain ⟨a, vs, rfl, h, r⟩ := lseq_rep r1 e
    exact ⟨a, vs, rfl, .inl (.inl h), fun l hl => w1 (.ref l) _ (Ex1.new hl) (B1.new hl) (rf_new B1 e1 hl (Reps.rev r))⟩⟩
end
end Pu

set_option Elab.async false
set_option linter.all false
set_option maxRecDepth 100000
set_option maxHeartbeats 4000000
/-! The pure layer, part Y: the source of draws -/
namespace Pu
open PySem L2
theorem bindA {α β : Type} (m : M α) (k : α → M β) (b : Bx) : (m >>= k) b = (m b).bind k := rfl
theorem pureA {α : Type} (a : α) (b : Bx) : (pure a : M α) b = .ok a b := rfl
theorem okB {α β : Type} (a : α) (b : Bx) (k : α → M β) : (Res.ok a b).bind k = k a b := rfl
/-! ### what ends well -/
def Ev {α : Type} (m : M α) (b : Bx) (Q : α → Bx → Prop) : Prop := ∃ a b', m b = .ok a b' ∧ Q a b'
theorem Ev.bind {α β : Type} {m : M α} {k : α → M β} {b : Bx} {R : α → Bx → Prop} {Q : β → Bx → Prop} (h : Ev m b R) (g : ∀ a b', R a b' → Ev (k a) b' Q) : Ev (m >>= k) b Q := by
  obtain ⟨a, b', e, r⟩ := h
  obtain ⟨c, b2, e2, q⟩ := g a b' r
  exact ⟨c, b2, by rw [bindA, e, okB, e2], q⟩
theorem Ev.pure {α : Type} {a : α} {b : Bx} {Q : α → Bx → Prop} (h : Q a b) : Ev (pure a) b Q := ⟨a, b, rfl, h⟩
theorem Ev.imp {α : Type} {m : M α} {b : Bx} {R Q : α → Bx → Prop} (h : Ev m b R) (g : ∀ a b', R a b' → Q a b') : Ev m b Q := by
  obtain ⟨a, b', e, r⟩ := h
  exact ⟨a, b', e, g a b' r⟩
theorem Ev.eq {α : Type} {m : M α} {b b' : Bx} {a : α} {Q : α → Bx → Prop} (e : m b = .ok a b') (h : Q a b') : Ev m b Q := ⟨a, b', e, h⟩
theorem Ev.noX {α : Type} {m : M α} {b : Bx} {Q : α → Bx → Prop} (h : Ev m b Q) : Ev (Pu.noX m) b Q := by
  obtain ⟨a, b', e, r⟩ := h
  exact ⟨a, b', by unfold Pu.noX; rw [e], r⟩

/-! ### the next draw -/
def takeB : DEnv → M Out := (sSeq (sIf (tB (eBin gtD (eBin ixD (eVar 0) (eC (.int 0))) (eC (.int 0)))) (sSeq (sSet 2 (eBin modD (eB intOfD (bCons (eBin ixD (eVar 0) (eC (.int 0))) aNil)) (eVar 1))) (sSeq (sPut 0 (eBin fdivD (eBin ixD (eVar 0) (eC (.int 0))) (eVar 1)) (eC (.int 0))) (sRet (eVar 2)))) sNext) (sSeq (sPut 0 (eBin addD (eBin ixD (eVar 0) (eC (.int 2))) (eC (.int 1))) (eC (.int 2))) (sSeq (sSet 3 (eBin modD (eB intOfD (bCons (eBin mulD (eBin addD (eBin ixD (eVar 0) (eC (.int 1))) (eBin mulD (eC (.int 48271)) (eBin ixD (eVar 0) (eC (.int 2))))) (eBin addD (eC (.int 39373)) (eBin ixD (eVar 0) (eC (.int 2))))) aNil)) (eC (.int 2147483647)))) (sSeq (sSet 4 (eBin addD (eBin modD (eB intOfD (bCons (eVar 3) aNil)) (eC (.int 40009))) (eC (.int 7)))) (sSeq (sSet 5 (eBin modD (eB intOfD (bCons (eBin mulD (eBin addD (eBin addD (eVar 3) (eBin ixD (eVar 0) (eC (.int 2)))) (eBin fdivD (eBin ixD (eVar 0) (eC (.int 1))) (eC (.int 1000003)))) (eVar 4)) aNil)) (eC (.int 2147483629)))) (sRet (eBin modD (eB intOfD (bCons (eBin fdivD (eBin modD (eB intOfD (bCons (eBin addD (eBin mulD (eVar 5) (eC (.int 48271))) (eVar 3)) aNil)) (eC (.int 2147483587))) (eC (.int 64))) aNil)) (eVar 1))))))))
def takeF : List D → M D := runD 2 6 takeB
def Vb (c : Nat) (b : Bx) : Prop := ∃ x0 x1 x2 : Int, b = [x0, x1, x2] ∧ 0 ≤ x0 ∧ 0 ≤ x1 ∧ x1 < 2 ^ 63 ∧ 0 ≤ x2 ∧ x2 ≤ c
theorem Vb.mono {c c' : Nat} {b : Bx} (h : Vb c b) (l : c ≤ c') : Vb c' b := by
  obtain ⟨x0, x1, x2, e, h0, h1, h2, h3, h4⟩ := h
  exact ⟨x0, x1, x2, e, h0, h1, h2, h3, by omega⟩
theorem gt_ok (i j : Int) (b : Bx) : cmpI (fun i j => decide (j < i)) (.int i) (.int j) b = .ok (.bl (decide (j < i))) b := rfl
theorem mul_ok {i j : Int} (h : mulOk i j = true) (b : Bx) : mulD (.int i) (.int j) b = .ok (.int (i * j)) b := by
  show (if mulOk i j then _ else _ : M D) b = _
  rw [if_pos h]
  rfl
theorem mul_okL {i j : Int} (h : i.natAbs < 2 ^ 64) (b : Bx) : mulD (.int i) (.int j) b = .ok (.int (i * j)) b := mul_ok (by unfold mulOk; rw [decide_eq_true h]; rfl) b
theorem mul_okR {i j : Int} (h : j.natAbs < 2 ^ 64) (b : Bx) : mulD (.int i) (.int j) b = .ok (.int (i * j)) b := mul_ok (by unfold mulOk; rw [decide_eq_true h, Bool.or_true, Bool.true_or]) b
theorem mod_ok {i j : Int} (h : j ≠ 0) (b : Bx) : modD (.int i) (.int j) b = .ok (.int (i.fmod j)) b := by
  show (if j ≠ 0 then _ else _ : M D) b = _
  rw [if_pos h]
  rfl
theorem pow9000 : (2 : Nat) ^ 64 ≤ 2 ^ 9000 := Nat.pow_le_pow_right (by decide) (by decide)
theorem fdiv_ok {i j : Int} (h : j ≠ 0) (l : j.natAbs < 2 ^ 64) (b : Bx) : fdivD (.int i) (.int j) b = .ok (.int (i.fdiv j)) b := by
  show (if (decide (j ≠ 0) && decide (j.natAbs < 2 ^ 9000)) = true then _ else _ : M D) b = _
  rw [if_pos (by rw [decide_eq_true h, decide_eq_true (Nat.lt_of_lt_of_le l pow9000)]; rfl)]
  rfl
theorem fmod_range (i : Int) {n : Int} (h : 0 < n) : 0 ≤ i.fmod n ∧ i.fmod n < n := ⟨Int.fmod_nonneg_of_pos i h, Int.fmod_lt_of_pos i h⟩
theorem take_pos {x0 x1 x2 n : Int} (h0 : 0 < x0) (hn : 0 < n) (hl : n < 2 ^ 63) : takeF [.box, .int n] [x0, x1, x2] = .ok (.int (x0.fmod n)) [x0.fdiv n, x1, x2] := by
  have nz : n ≠ 0 := by omega
  have nl : n.natAbs < 2 ^ 64 := by omega
  show (takeB [some .box, some (.int n), none, none, none, none] >>= endD) [x0, x1, x2] = _
  have c : tB (eBin gtD (eBin ixD (eVar 0) (eC (.int 0))) (eC (.int 0))) [some .box, some (.int n), none, none, none, none] [x0, x1, x2] = .ok (decide (0 < x0)) [x0, x1, x2] := rfl
  have e1 : eBin modD (eB intOfD (bCons (eBin ixD (eVar 0) (eC (.int 0))) aNil)) (eVar 1) [some .box, some (.int n), none, none, none, none] [x0, x1, x2] = .ok (.int (x0.fmod n)) [x0, x1, x2] := mod_ok nz _
  have e2 : eBin fdivD (eBin ixD (eVar 0) (eC (.int 0))) (eVar 1) [some .box, some (.int n), some (.int (x0.fmod n)), none, none, none] [x0, x1, x2] = .ok (.int (x0.fdiv n)) [x0, x1, x2] := fdiv_ok nz nl _
  have p1 : sSet 2 (eBin modD (eB intOfD (bCons (eBin ixD (eVar 0) (eC (.int 0))) aNil)) (eVar 1)) [some .box, some (.int n), none, none, none, none] [x0, x1, x2] = .ok (.nx [some .box, some (.int n), some (.int (x0.fmod n)), none, none, none]) [x0, x1, x2] := by
    unfold sSet
    rw [bindA, e1]
    rfl
  have p2 : sPut 0 (eBin fdivD (eBin ixD (eVar 0) (eC (.int 0))) (eVar 1)) (eC (.int 0)) [some .box, some (.int n), some (.int (x0.fmod n)), none, none, none] [x0, x1, x2] = .ok (.nx [some .box, some (.int n), some (.int (x0.fmod n)), none, none, none]) [x0.fdiv n, x1, x2] := by
    show (eBin fdivD (eBin ixD (eVar 0) (eC (.int 0))) (eVar 1) [some .box, some (.int n), some (.int (x0.fmod n)), none, none, none] >>= _) [x0, x1, x2] = _
    rw [bindA, e2]
    rfl
  unfold takeB sSeq sIf
  rw [bindA, bindA, bindA, c, okB, decide_eq_true h0, if_pos rfl]
  simp only [bindA, p1, okB, p2]
  rfl
section
variable {ρ ρ' : DEnv} {b b1 b2 b3 : Bx} {fa fb f : DEnv → M D} {fs gs : DEnv → M (List D)} {t t' : DEnv → M Bool} {u k : DEnv → M Out} {x y z d : D} {ds es : List D} {i j : Nat}
theorem v_var (h : ρ[i]? = some (some d)) : eVar i ρ b = .ok d b := by
  show gtE ρ i b = _
  unfold gtE
  rw [h]
  rfl
theorem v_c : eC d ρ b = .ok d b := rfl
theorem v_bin {o : D → D → M D} {r : Res D} (h1 : fa ρ b = .ok x b1) (h2 : fb ρ b1 = .ok y b2) (h3 : o x y b2 = r) : eBin o fa fb ρ b = r := by
  unfold eBin
  rw [bindA, h1, okB, bindA, h2, okB, h3]
theorem v_un {o : D → M D} {r : Res D} (h1 : fa ρ b = .ok x b1) (h3 : o x b1 = r) : eUn o fa ρ b = r := by
  unfold eUn
  rw [bindA, h1, okB, h3]
theorem v_b {o : List D → M D} {r : Res D} (h1 : fs ρ b = .ok ds b1) (h3 : o ds b1 = r) : eB o fs ρ b = r := by
  unfold eB
  rw [bindA, h1, okB, h3]
theorem v_call {o : List D → M D} {r : Res D} (h1 : fs ρ b = .ok ds b1) (h3 : o ds b1 = r) : eCall o fs ρ b = r := by
  unfold eCall
  rw [bindA, h1, okB, h3]
theorem v_nil : aNil ρ b = .ok [] b := rfl
theorem v_bcons (h1 : f ρ b = .ok d b1) (h2 : fs ρ b1 = .ok ds b2) : bCons f fs ρ b = .ok (d :: ds) b2 := by
  unfold bCons
  rw [bindA, h1, okB, bindA, h2, okB]
  rfl
theorem v_acons (h1 : f ρ b = .ok d b1) (hc : chk d = pure d) (h2 : fs ρ b1 = .ok ds b2) : aCons f fs ρ b = .ok (d :: ds) b2 := by
  unfold aCons
  rw [bindA, h1, okB, hc, bindA, pureA, okB, bindA, h2, okB]
  rfl
theorem v_f (h1 : fs ρ b = .ok ds b1) : eF fs ρ b = .ok (.lst ds) b1 := by
  unfold eF
  rw [bindA, h1, okB]
  rfl
theorem v_lst (h1 : fs ρ b = .ok ds b1) (l : ds.length ≤ 100000) : fLst fs ρ b = .ok ds b1 := by
  unfold fLst
  rw [bindA, h1, okB, if_pos l]
  rfl
theorem v_tup (h1 : fs ρ b = .ok ds b1) (l : ds.length ≤ 100000) : eTup fs ρ b = .ok (.tup ds) b1 := by
  unfold eTup
  rw [bindA, h1, okB, if_pos l]
  rfl
theorem v_tB {c : Bool} (h : f ρ b = .ok (.bl c) b1) : tB f ρ b = .ok c b1 := by
  unfold tB
  rw [bindA, h, okB]
  rfl
theorem v_tTr {c : Bool} (h : f ρ b = .ok d b1) (h2 : truthD d b1 = .ok c b2) : tTr f ρ b = .ok c b2 := by
  unfold tTr
  rw [bindA, h, okB, h2]
theorem v_set (h : f ρ b = .ok d b1) (hc : chk d = pure d) : sSet i f ρ b = .ok (.nx (ρ.set i (some d))) b1 := by
  unfold sSet
  rw [bindA, h, okB, hc]
  rfl
theorem v_own (h : fs ρ b = .ok ds b1) : sOwn i fs ρ b = .ok (.nx (ρ.set i (some (.own ds)))) b1 := by
  unfold sOwn
  rw [bindA, h, okB]
  rfl
theorem v_seq {r : Res Out} (h : u ρ b = .ok (.nx ρ') b1) (h2 : k ρ' b1 = r) : sSeq u k ρ b = r := by
  unfold sSeq
  rw [bindA, h, okB]
  exact h2
theorem v_seqR (h : u ρ b = .ok (.rt d) b1) : sSeq u k ρ b = .ok (.rt d) b1 := by
  unfold sSeq
  rw [bindA, h, okB]
  rfl
theorem v_ret (h : f ρ b = .ok d b1) (hs : strip d = y) : sRet f ρ b = .ok (.rt y) b1 := by
  unfold sRet
  rw [bindA, h, okB, hs]
  rfl
theorem v_if {c : Bool} {r : Res Out} (h : t ρ b = .ok c b1) (h2 : (if c = true then u ρ else k ρ) b1 = r) : sIf t u k ρ b = r := by
  unfold sIf
  rw [bindA, h, okB, h2]
theorem v_ifT {c : Bool} {r : Res Out} (h : t ρ b = .ok c b1) (hc : c = true) (h2 : u ρ b1 = r) : sIf t u k ρ b = r := v_if h (by rw [if_pos hc]; exact h2)
theorem v_ifF {c : Bool} {r : Res Out} (h : t ρ b = .ok c b1) (hc : c = false) (h2 : k ρ b1 = r) : sIf t u k ρ b = r := v_if h (by rw [if_neg (by rw [hc]; decide)]; exact h2)
theorem v_ifnF (h : f ρ b = .ok (.bl false) b1) : sIf (tB f) u sNext ρ b = .ok (.nx ρ) b1 := v_ifF (v_tB h) rfl rfl
theorem v_eifT {c : Bool} {r : Res D} (h : t ρ b = .ok c b1) (hc : c = true) (h2 : fa ρ b1 = r) : eIf t fa fb ρ b = r := by
  unfold eIf
  rw [bindA, h, okB, if_pos hc, h2]
theorem v_eifF {c : Bool} {r : Res D} (h : t ρ b = .ok c b1) (hc : c = false) (h2 : fb ρ b1 = r) : eIf t fa fb ρ b = r := by
  unfold eIf
  rw [bindA, h, okB, if_neg (by rw [hc]; decide), h2]
theorem v_put {r : Res Out} {dx : D} (h0 : ρ[i]? = some (some dx)) (h : fa ρ b = .ok d b1) (hc : chk d = pure d) (h2 : fb ρ b1 = .ok y b2) (h3 : putD i ρ dx d y b2 = r) : sPut i fa fb ρ b = r := by
  unfold sPut
  rw [h0]
  show (fa ρ >>= fun d => chk d >>= fun d => fb ρ >>= fun j => putD i ρ dx d j) b = r
  rw [bindA, h, okB, hc, bindA, pureA, okB, bindA, h2, okB, h3]
theorem v_run {n m : Nat} (hl : ds.length = n) (h : u (startD m ds) b = .ok (.rt d) b1) : runD n m u ds b = .ok d b1 := by
  unfold runD
  rw [if_pos hl, bindA, h, okB]
  rfl
end
theorem take_zero {x1 x2 n : Int} (h1 : 0 ≤ x1) (h1' : x1 < 2 ^ 63) (h2 : 0 ≤ x2) (h2' : x2 < 2 ^ 60) (hn : 0 < n) : ∃ r, 0 ≤ r ∧ r < n ∧ takeF [.box, .int n] [0, x1, x2] = .ok (.int r) [0, x1, x2 + 1] := by
  have nz : n ≠ 0 := by omega
  have ho : (39373 + (x2 + 1)).natAbs < 2 ^ 64 := by omega
  have hw : ∀ i : Int, (i.fmod 40009 + 7).natAbs < 2 ^ 64 := fun i => by
    have := fmod_range i (n := 40009) (by decide)
    omega
  suffices h : ∃ r0 : Int, takeB (startD 6 [.box, .int n]) [0, x1, x2] = .ok (.rt (.int (r0.fmod n))) [0, x1, x2 + 1] by
    obtain ⟨r0, h⟩ := h
    exact ⟨_, (fmod_range r0 hn).1, (fmod_range r0 hn).2, v_run rfl h⟩
  unfold takeB
  apply Exists.intro
  repeat' first | exact v_var rfl | exact v_c | exact v_nil | exact mul_okL (by decide) _ | exact mul_okR ho _ | exact mul_okR (hw _) _ | exact mul_okR (by decide) _ | exact mod_ok (by decide) _ | exact mod_ok nz _ | exact fdiv_ok (by decide) (by decide) _ | apply v_bin | apply v_b | apply v_bcons | apply v_seq | apply v_set | apply v_ret | apply v_put (h0 := rfl) | apply v_ifnF | rfl

theorem take_ev {c : Nat} {b : Bx} {n : Int} (h : Vb c b) (hc : c < 2 ^ 60) (hn : 0 < n) (hl : n < 2 ^ 63) : ∃ r b', 0 ≤ r ∧ r < n ∧ Vb (c + 1) b' ∧ takeF [.box, .int n] b = .ok (.int r) b' := by
  obtain ⟨x0, x1, x2, rfl, h0, h1, h2, h3, h4⟩ := h
  by_cases z : 0 < x0
  · have f := fmod_range x0 hn
    exact ⟨_, _, f.1, f.2, ⟨_, _, _, rfl, Int.fdiv_nonneg h0 (Int.le_of_lt hn), h1, h2, h3, by omega⟩, take_pos z hn hl⟩
  · have e : x0 = 0 := by omega
    subst e
    obtain ⟨r, r0, r1, e⟩ := take_zero h1 h2 h3 (by omega) hn
    exact ⟨r, _, r0, r1, ⟨_, _, _, rfl, Int.le_refl _, h1, h2, by omega, by omega⟩, e⟩

/-! ### the first cell -/
def cellsB : DEnv → M Out := (sSeq (sOwn 2 (fOr (fLstOf (eSl (eVar 0) oNone (oSome (eVar 1)))) (fLst (aCons (eC (.int 0)) aNil)))) (sSeq (sFor (iEnumD (aCons (eSl (eVar 0) (oSome (eVar 1)) (oSome (eC (.int 63)))) aNil)) (gTupD 2 (gConsD (gVar 3) (gConsD (gVar 4) gNilD))) (sSeq (sSet 5 (eBin modD (eB intOfD (bCons (eVar 3) aNil)) (eVar 1))) (sPut 2 (eBin addD (eBin ixD (eVar 2) (eVar 5)) (eBin mulD (eVar 4) (eBin addD (eVar 3) (eC (.int 2))))) (eVar 5)))) (sFrz 2 (sRet (eVar 2)))))
def cellsF : List D → M D := runD 2 6 cellsB
theorem cut_map (ns : List Int) (lo hi : Option Int) : ∃ ms : List Int, ms.length ≤ ns.length ∧ cutD (ns.map D.int) lo hi = ms.map D.int := by
  unfold cutD
  rw [← List.map_drop, ← List.map_take]
  refine ⟨_, ?_, rfl⟩
  rw [List.length_take, List.length_drop]
  omega
theorem cut_one (n : Int) (r : List Int) : cutD ((n :: r).map D.int) none (some 1) = [.int n] := by
  unfold cutD
  have e : HT.sIx ((n :: r).map D.int).length ((n :: r).map D.int).length (some 1) = 1 := by
    rw [show (some (1 : Int)) = some ((1 : Nat) : Int) from rfl, HT.sIx_nat, List.length_map, List.length_cons]
    omega
  rw [e, HT.sIx_none]
  rfl
theorem v_forC {k : D → DEnv → Option DEnv} {body : DEnv → M Out} {ρ ρ1 ρ2 : DEnv} {b b1 : Bx} {d : D} {ds : List D} {r : Res Out} (hk : k d ρ = some ρ1) (h : body ρ1 b = .ok (.nx ρ2) b1) (h2 : forL k body ds ρ2 b1 = r) : forL k body (d :: ds) ρ b = r := by
  rw [forL, hk]
  show (body ρ1 >>= _) b = r
  rw [bindA, h, okB]
  exact h2
theorem cells_for (b : Bx) (s : D) : ∀ (ms : List Int) (k : Nat) (c : Int) (e3 e4 e5 : Option D), k + ms.length < 2 ^ 60 → ∃ c' e3' e4' e5', forL (gTupD 2 (gConsD (gVar 3) (gConsD (gVar 4) gNilD))) (sSeq (sSet 5 (eBin modD (eB intOfD (bCons (eVar 3) aNil)) (eVar 1))) (sPut 2 (eBin addD (eBin ixD (eVar 2) (eVar 5)) (eBin mulD (eVar 4) (eBin addD (eVar 3) (eC (.int 2))))) (eVar 5))) (enumFrom k (ms.map D.int)) [some s, some (.int 1), some (.own [.int c]), e3, e4, e5] b = .ok (.nx [some s, some (.int 1), some (.own [.int c']), e3', e4', e5']) b
  | [], k, c, e3, e4, e5, _ => ⟨c, e3, e4, e5, rfl⟩
  | n :: ms, k, c, e3, e4, e5, hk => by
    have hk2 : k + (ms.length + 1) < 2 ^ 60 := hk
    obtain ⟨c', a3, a4, a5, ih⟩ := cells_for b s ms (k + 1) (c + n * ((k : Int) + 2)) (some (.int k)) (some (.int n)) (some (.int 0)) (by omega)
    refine ⟨c', a3, a4, a5, ?_⟩
    have hm : ((k : Int) + 2).natAbs < 2 ^ 64 := by omega
    have f1 : eBin modD (eB intOfD (bCons (eVar 3) aNil)) (eVar 1) [some s, some (.int 1), some (.own [.int c]), some (.int k), some (.int n), e5] b = .ok (.int 0) b := by
      refine v_bin (v_b (v_bcons (v_var rfl) v_nil) rfl) (v_var rfl) ((mod_ok (by decide) _).trans ?_)
      rw [Int.fmod_one]
    refine v_forC (ρ2 := [some s, some (.int 1), some (.own [.int (c + n * ((k : Int) + 2))]), some (.int k), some (.int n), some (.int 0)]) rfl ?_ ih
    refine v_seq (v_set f1 rfl) ?_
    refine v_put rfl (v_bin (v_bin (v_var rfl) (v_var rfl) rfl) (v_bin (v_var rfl) (v_bin (v_var rfl) v_c rfl) (mul_okR hm _)) rfl) rfl (v_var rfl) rfl
theorem cells_ok (ns : List Int) (b : Bx) (h : ns.length ≤ 63) : ∃ c : Int, cellsF [.fro (ns.map D.int), .int 1] b = .ok (.lst [.int c]) b := by
  suffices h : ∃ c : Int, cellsB (startD 6 [.fro (ns.map D.int), .int 1]) b = .ok (.rt (.lst [.int c])) b by
    obtain ⟨c, h⟩ := h
    exact ⟨c, v_run rfl h⟩
  have first : ∃ c : Int, sOwn 2 (fOr (fLstOf (eSl (eVar 0) oNone (oSome (eVar 1)))) (fLst (aCons (eC (.int 0)) aNil))) (startD 6 [.fro (ns.map D.int), .int 1]) b = .ok (.nx [some (.fro (ns.map D.int)), some (.int 1), some (.own [.int c]), none, none, none]) b := by
    cases ns with
    | nil => exact ⟨0, rfl⟩
    | cons n r =>
      refine ⟨n, v_own ?_⟩
      have e : eSl (eVar 0) oNone (oSome (eVar 1)) (startD 6 [.fro ((n :: r).map D.int), .int 1]) b = .ok (.lst [.int n]) b := by
        show (pure (D.lst (cutD ((n :: r).map D.int) none (some 1))) : M D) b = _
        rw [cut_one]
        rfl
      unfold fOr fLstOf
      rw [bindA, bindA, e]
      rfl
  obtain ⟨c, e1⟩ := first
  obtain ⟨ms, hl, e2⟩ := cut_map ns (some 1) (some 63)
  obtain ⟨c', a3, a4, a5, e3⟩ := cells_for b (.fro (ns.map D.int)) ms 0 c none none none (by omega)
  refine ⟨c', v_seq e1 (v_seq (ρ' := [some (.fro (ns.map D.int)), some (.int 1), some (.own [.int c']), a3, a4, a5]) ?_ rfl)⟩
  show (forL _ _ (enumFrom 0 (cutD (ns.map D.int) (some 1) (some 63))) _) b = _
  rw [e2]
  exact e3

/-! ### the box -/
def boxB : DEnv → M Out := (sSeq (sSet 2 (eIf (tB (eBin ltD (eVar 1) (eB lenD (bCons (eVar 0) aNil)))) (eBin ixD (eVar 0) (eVar 1)) (eC (.int 0)))) (sRet (eF (fLst (aCons (eBin mulD (eB absD (bCons (eVar 2) aNil)) (eB intOfD (bCons (eBin geD (eB absD (bCons (eVar 2) aNil)) (eBin powD (eC (.int 10)) (eC (.int 18)))) aNil))) (aCons (eBin addD (eBin addD (eBin modD (eB intOfD (bCons (eVar 2) aNil)) (eC (.int 2305843009213693951))) (eBin mulD (eC (.int 39373)) (eVar 1))) (eC (.int 26302))) (aCons (eC (.int 0)) aNil)))))))
def boxF : List D → M D := runD 2 3 boxB
theorem box_ok (c : Int) (b : Bx) : ∃ iz : List Int, Vb 0 iz ∧ boxF [.lst [.int c], .int 0] b = .ok (.lst (iz.map D.int)) b := by
  have f := fmod_range c (n := 2305843009213693951) (by decide)
  have hb : ∀ x : Bool, (if x then 1 else 0 : Int).natAbs < 2 ^ 64 := fun x => by cases x <;> decide
  suffices h : ∃ x0 x1 : Int, 0 ≤ x0 ∧ 0 ≤ x1 ∧ x1 < 2 ^ 63 ∧ boxB (startD 3 [.lst [.int c], .int 0]) b = .ok (.rt (.lst [.int x0, .int x1, .int 0])) b by
    obtain ⟨x0, x1, h0, h1, h2, e⟩ := h
    exact ⟨[x0, x1, 0], ⟨_, _, _, rfl, h0, h1, h2, by decide, by decide⟩, v_run rfl e⟩
  refine ⟨(if c < 0 then -c else c) * (if decide ((10 : Int) ^ (18 : Int).toNat ≤ (if c < 0 then -c else c)) then 1 else 0), c.fmod 2305843009213693951 + 39373 * 0 + 26302, ?_, by omega, by omega, ?_⟩
  · refine Int.mul_nonneg ?_ ?_ <;> split <;> omega
  · unfold boxB
    refine v_seq (ρ' := [some (.lst [.int c]), some (.int 0), some (.int c)]) rfl ?_
    refine v_ret (v_f (v_lst (v_acons (v_bin (v_b (v_bcons (v_var rfl) v_nil) rfl) (v_b (v_bcons (v_bin (v_b (v_bcons (v_var rfl) v_nil) rfl) rfl rfl) v_nil) rfl) (mul_okR (hb _) _)) rfl (v_acons (v_bin (v_bin (v_bin (v_b (v_bcons (v_var rfl) v_nil) rfl) v_c (mod_ok (by decide) _)) rfl rfl) v_c rfl) rfl (v_acons v_c rfl v_nil))) (Nat.le_of_ble_eq_true rfl))) rfl
end Pu

set_option Elab.async false
set_option linter.all false
set_option maxRecDepth 100000
set_option maxHeartbeats 400000
/-! The pure layer, part Z: what is picked; the law's first part -/
namespace Pu
open PySem L2
def pickB : DEnv → M Out := (sSeq (sParFF 3 4 (fLstOf (eVar 1)) (fLst aNil)) (sSeq (sFor (iRng1D (aCons (eB min2D (bCons (eB intOfD (bCons (eVar 2) aNil)) (bCons (eB lenD (bCons (eVar 3) aNil)) aNil))) aNil)) (gVar 5) (sPopApp 4 3 (eCall takeF (aCons (eVar 0) (aCons (eB lenD (bCons (eVar 3) aNil)) aNil))))) (sFrz 3 (sFrz 4 (sRet (eVar 4))))))
def pickF : List D → M D := runD 3 6 pickB
theorem erase_perm {α : Type} : ∀ (l : List α) (n : Nat) (h : n < l.length), (l[n] :: l.eraseIdx n).Perm l
  | x :: l, 0, _ => List.Perm.refl _
  | x :: l, n + 1, h => (List.Perm.swap x (l[n]'(Nat.lt_of_succ_lt_succ h)) _).trans ((erase_perm l n (Nat.lt_of_succ_lt_succ h)).cons x)
theorem seqIx {r : Int} {n : Nat} (h0 : 0 ≤ r) (h : r < n) : seqIndex? r n = some r.toNat := by
  unfold seqIndex?
  have e : (if r < 0 then r + (n : Int) else r) = r := if_neg (by omega)
  show (if (decide (0 ≤ (if r < 0 then r + (n : Int) else r)) && decide ((if r < 0 then r + (n : Int) else r) < (n : Int))) = true then some (if r < 0 then r + (n : Int) else r).toNat else none) = _
  rw [e, decide_eq_true h0, decide_eq_true h]
  rfl
theorem pick_for {g0 : D} {k0 : D} : ∀ (is : List D) (c : Nat) (b : Bx) (pool found : List D) (e5 : Option D), Vb c b → c + is.length < 2 ^ 60 → is.length ≤ pool.length → found.length + pool.length ≤ 100000 →
    ∃ pool' found' e5' b', forL (gVar 5) (sPopApp 4 3 (eCall takeF (aCons (eVar 0) (aCons (eB lenD (bCons (eVar 3) aNil)) aNil)))) is [some .box, some g0, some k0, some (.own pool), some (.own found), e5] b = .ok (.nx [some .box, some g0, some k0, some (.own pool'), some (.own found'), e5']) b' ∧
      Vb (c + is.length) b' ∧ (pool' ++ found').Perm (pool ++ found) ∧ found'.length = found.length + is.length
  | [], c, b, pool, found, e5, h, _, _, _ => ⟨pool, found, e5, b, rfl, h, List.Perm.refl _, rfl⟩
  | i :: is, c, b, pool, found, e5, h, hc, hl, hn => by
    have hc' : c + (is.length + 1) < 2 ^ 60 := hc
    have hl' : is.length + 1 ≤ pool.length := hl
    obtain ⟨r, b1, r0, r1, h1, e1⟩ := take_ev h (by omega) (n := (pool.length : Int)) (by omega) (by omega)
    have rl : r.toNat < pool.length := by omega
    obtain ⟨pool', found', e5', b', e2, h2, p2, l2⟩ := pick_for (g0 := g0) (k0 := k0) is (c + 1) b1 (pool.eraseIdx r.toNat) (found ++ [pool[r.toNat]]) (some i) h1 (by omega) (by rw [List.length_eraseIdx_of_lt rl]; omega) (by rw [List.length_eraseIdx_of_lt rl, List.length_append]; show found.length + 1 + (pool.length - 1) ≤ _; omega)
    refine ⟨pool', found', e5', b', v_forC (ρ2 := [some .box, some g0, some k0, some (.own (pool.eraseIdx r.toNat)), some (.own (found ++ [pool[r.toNat]])), some i]) rfl ?_ e2, ?_, p2.trans ?_, ?_⟩
    · show (eCall takeF (aCons (eVar 0) (aCons (eB lenD (bCons (eVar 3) aNil)) aNil)) [some .box, some g0, some k0, some (.own pool), some (.own found), some i] >>= fun d => popApp 4 3 [some .box, some g0, some k0, some (.own pool), some (.own found), some i] found pool d) b = _
      have e3 : eCall takeF (aCons (eVar 0) (aCons (eB lenD (bCons (eVar 3) aNil)) aNil)) [some .box, some g0, some k0, some (.own pool), some (.own found), some i] b = .ok (.int r) b1 := v_call (v_acons (v_var rfl) rfl (v_acons (v_b (v_bcons (v_var rfl) v_nil) rfl) rfl v_nil)) e1
      rw [bindA, e3, okB]
      show (if -(2 ^ 63) ≤ r ∧ r < 2 ^ 63 ∧ found.length < 100000 then _ else _ : M Out) b1 = _
      rw [if_pos ⟨by omega, by omega, by omega⟩, seqIx r0 r1]
      show (match pool[r.toNat]? with | some z => _ | none => _ : M Out) b1 = _
      rw [List.getElem?_eq_getElem rl]
      rfl
    · have : c + 1 + is.length = c + (is.length + 1) := by omega
      rw [this] at h2
      exact h2
    · have q := erase_perm pool r.toNat rl
      have q2 : (pool.eraseIdx r.toNat ++ (found ++ [pool[r.toNat]])).Perm (pool[r.toNat] :: pool.eraseIdx r.toNat ++ found) := by
        rw [← List.append_assoc]
        exact List.perm_append_comm
      exact q2.trans (q.append_right found)
    · rw [l2, List.length_append]
      show found.length + 1 + is.length = found.length + (is.length + 1)
      omega
theorem pick_ev {c : Nat} {b : Bx} {g : D} {gs : List D} {k : Nat} (h : Vb c b) (hg : g.seq = some gs) (hl : gs.length ≤ 100000) (hk : k ≤ 100000) (hc : c + 100000 < 2 ^ 60) :
    ∃ rs rest b', pickF [.box, g, .int k] b = .ok (.lst rs) b' ∧ (rest ++ rs).Perm gs ∧ rs.length = min k gs.length ∧ Vb (c + min k gs.length) b' := by
  have e0 : sParFF 3 4 (fLstOf (eVar 1)) (fLst aNil) (startD 6 [.box, g, .int k]) b = .ok (.nx [some .box, some g, some (.int k), some (.own gs), some (.own []), none]) b := by
    show (lstF1 g >>= _) b = _
    unfold lstF1
    rw [hg]
    rfl
  have hm : minI (k : Int) (gs.length : Int) = ((min k gs.length : Nat) : Int) := by
    unfold minI
    split <;> omega
  have e1 : iRng1D (aCons (eB min2D (bCons (eB intOfD (bCons (eVar 2) aNil)) (bCons (eB lenD (bCons (eVar 3) aNil)) aNil))) aNil) [some .box, some g, some (.int k), some (.own gs), some (.own []), none] b = .ok (rangeD 0 (min k gs.length)) b := by
    show rng1 [.int (minI (k : Int) (gs.length : Int))] b = _
    rw [hm]
    show (if ((min k gs.length : Nat) : Int).natAbs < 2 ^ 40 then pure (rangeD 0 ((min k gs.length : Nat) : Int).toNat) else stuck : M (List D)) b = _
    rw [if_pos (by omega)]
    rfl
  have hr : (rangeD 0 (min k gs.length)).length = min k gs.length := by
    unfold rangeD
    rw [List.length_map, List.length_range]
  obtain ⟨pool', found', e5', b', e2, h2, p2, l2⟩ := pick_for (g0 := g) (k0 := .int k) (rangeD 0 (min k gs.length)) c b gs [] none h (by rw [hr]; omega) (by rw [hr]; omega) (by rw [List.length_nil]; omega)
  rw [hr] at h2 l2
  rw [List.append_nil] at p2
  rw [List.length_nil, Nat.zero_add] at l2
  refine ⟨found', pool', b', v_run rfl (v_seq e0 (v_seq (ρ' := [some .box, some g, some (.int k), some (.own pool'), some (.own found'), e5']) (b1 := b') ?_ (r := .ok (.rt (.lst found')) b') rfl)), p2, l2, h2⟩
  show (iRng1D _ _ >>= _) b = _
  rw [bindA, e1, okB]
  exact e2
/-- the law's first part: of any script -/
theorem good_of {n i : Nat} {u2 : DEnv → M Out} (hi : 0 < i) (hin : i < n) (h : ∀ iz : List Int, Vb 0 iz → ∃ b', u2 ((List.replicate n none).set i (some .box)) iz = .ok (.rt (.bl true)) b') :
    Good n i (sSet i (eCall boxF (aCons (eCall cellsF (aCons (eVar 0) (aCons (eC (.int 1)) aNil))) (aCons (eC (.int 0)) aNil)))) u2 := fun ns hl => by
  obtain ⟨c, e1⟩ := cells_ok ns [] hl
  obtain ⟨iz, V, e2⟩ := box_ok c []
  have hs : startD n [.fro (ns.map D.int)] = some (.fro (ns.map D.int)) :: List.replicate (n - 1) none := rfl
  refine ⟨(startD n [.fro (ns.map D.int)]).set i (some (.lst (iz.map D.int))), iz, v_set (v_call (v_acons (v_call (v_acons (v_var (by rw [hs]; rfl)) rfl (v_acons v_c rfl v_nil)) e1) rfl (v_acons v_c rfl v_nil)) e2) rfl, ?_, ?_, h iz V⟩
  · rw [List.getElem?_set_self (by rw [hs, List.length_cons, List.length_replicate]; omega)]
  · rw [List.length_set, hs, List.length_cons, List.length_replicate]
    omega
end Pu

set_option Elab.async false
set_option linter.all false
set_option maxRecDepth 100000
set_option maxHeartbeats 4000000
namespace Lw
open PySem PySem.Spec PyProof.Rows L2 Pu
def px (K : PySem.W.Frag) : Px := ⟨K, fun i => He.ga K (nmF.getD i ""), fun i => He.ga K (nmC.getD i "")⟩
structure FX (K : PySem.W.Frag) (mg : Str → Option Value) : Prop where
  g : ∀ (i : Nat) (x : Str), nmF[i]? = some x → mg x = some (.ref ((px K).fa i))
  fr : ∀ (i : Nat) (x : Str), frL[i]? = some x → mg x = none
  it : ∀ (i : Nat) (x : Str) (n : Int), itL[i]? = some (x, n) → ∃ t, mg x = some (.int n t)
  ex : ∀ (i : Nat) (x : Str), nmC[i]? = some x → mg x = some (.ref ((px K).ca i)) ∧ ErrC K ((px K).ca i)
  slE : ∀ c : Nat, c < nmC.length → ErrX K ((px K).ca c)
  slM : ∀ c d : Nat, c < nmC.length → d < nmC.length → PySem.W.exmOne K (.ref ((px K).ca c)) (.ref ((px K).ca d)) = some (decide (c = d))
  dd : ∀ (i : Nat) (x : Str) (j : Nat), nmF[i]? = some x → ixF[i]? = some j → ∃ fd, FunD K x x (defArgs (top j)) (defBody (top j)) (defScope (top j)) [] [] ((px K).fa i) fd
abbrev pg : Program := PySem.Challenge.pw_linesoftwo_k10_whole_what_is_refused
end Lw

set_option Elab.async false
set_option linter.all false
set_option maxRecDepth 100000
set_option maxHeartbeats 4000000
namespace Lw
open PySem PySem.Spec PyProof.Rows L2 Pu
def b_is_number : DEnv → M Out := (sRet (eAnd (eIsi "int" (eVar 0)) (eNot (eIsi "bool" (eVar 0)))))
def f_is_number : List D → M D := runD 1 1 b_is_number
theorem sc_is_number : FnScope ["thing"] ["thing"] (defScope (top 5)) := ⟨rfl, rfl, rfl, by decide +kernel, rfl, by decide +kernel, by decide +kernel⟩
theorem ok_is_number {w : World} {K : PySem.W.Frag} {mg : Str → Option Value} {base : Heap} (Z : FX K mg) : OkF pg w K mg base (px K) 3 0 f_is_number := by
  obtain ⟨fd, F⟩ := Z.dd 0 _ _ rfl rfl
  have sc := sc_is_number
  refine okF_mk (K := K) (P := px K) (st := top 5) (k := 2) rfl F sc (F.bindsN (ps := ["thing"]) fun _ _ _ _ _ _ us hl => match us, hl with | [_], _ => rfl) fun cdv A outer s H E hr => ?_
  exact (sss_one (ss_ret (se_and (se_isi rfl (Z.fr 7 _ rfl) (se_var 0) rfl (Z.fr 6 _ rfl) rfl) (se_one (se_not (se_isi rfl (Z.fr 7 _ rfl) (se_var 0) rfl (Z.fr 3 _ rfl) rfl))))))
def b_is_within : DEnv → M Out := (sRet (eAnd (eCall f_is_number (aCons (eVar 0) aNil)) (eChain leD leD (eVar 1) (eVar 0) (eVar 2))))
def f_is_within : List D → M D := runD 3 3 b_is_within
theorem sc_is_within : FnScope ["thing", "least", "most"] ["thing", "least", "most"] (defScope (top 6)) := ⟨rfl, rfl, rfl, by decide +kernel, rfl, by decide +kernel, by decide +kernel⟩
theorem ok_is_within {w : World} {K : PySem.W.Frag} {mg : Str → Option Value} {base : Heap} (Z : FX K mg) : OkF pg w K mg base (px K) 4 1 f_is_within := by
  obtain ⟨fd, F⟩ := Z.dd 1 _ _ rfl rfl
  have o_is_number := ok_is_number (w := w) (base := base) Z
  have sc := sc_is_within
  refine okF_mk (K := K) (P := px K) (st := top 6) (k := 3) rfl F sc (F.bindsN (ps := ["thing", "least", "most"]) fun _ _ _ _ _ _ us hl => match us, hl with | [_, _, _], _ => rfl) fun cdv A outer s H E hr => ?_
  exact (sss_one (ss_ret (se_and (se_callF o_is_number (hr.mono (by decide)) (Z.g 0 _ rfl) rfl (sa_cons (se_var 0) sa_nil)) (se_one (se_chain op_le op_le (se_var 1) (se_var 0) (se_var 2))))))
def b_sure_within : DEnv → M Out := (sSeq (sIf (tNotD (tTr (eCall f_is_within (aCons (eVar 0) (aCons (eVar 1) (aCons (eVar 2) aNil)))))) (sRaise 2) sNext) (sRet (eVar 0)))
def f_sure_within : List D → M D := runD 3 3 b_sure_within
theorem sc_sure_within : FnScope ["thing", "least", "most"] ["thing", "least", "most"] (defScope (top 7)) := ⟨rfl, rfl, rfl, by decide +kernel, rfl, by decide +kernel, by decide +kernel⟩
theorem ok_sure_within {w : World} {K : PySem.W.Frag} {mg : Str → Option Value} {base : Heap} (Z : FX K mg) : OkF pg w K mg base (px K) 5 2 f_sure_within := by
  obtain ⟨fd, F⟩ := Z.dd 2 _ _ rfl rfl
  have o_is_within := ok_is_within (w := w) (base := base) Z
  have sc := sc_sure_within
  refine okF_mk (K := K) (P := px K) (st := top 7) (k := 4) rfl F sc (F.bindsN (ps := ["thing", "least", "most"]) fun _ _ _ _ _ _ us hl => match us, hl with | [_, _, _], _ => rfl) fun cdv A outer s H E hr => ?_
  exact (sss_cons (ss_if (st_not (st_tr (se_callF o_is_within (hr.mono (by decide)) (Z.g 1 _ rfl) rfl (sa_cons (se_var 0) (sa_cons (se_var 1) (sa_cons (se_var 2) sa_nil)))))) (sss_one (ss_raise 2 rfl (Z.ex 2 _ rfl).2 (Z.ex 2 _ rfl).1 rfl)) sss_nil) (sss_one (ss_ret (se_var 0))))
def b_is_long : DEnv → M Out := (sRet (eAnd (eIsi "tuple" (eVar 0)) (eBin eqD (eB lenD (bCons (eVar 0) aNil)) (eVar 1))))
def f_is_long : List D → M D := runD 2 2 b_is_long
theorem sc_is_long : FnScope ["thing", "length"] ["thing", "length"] (defScope (top 8)) := ⟨rfl, rfl, rfl, by decide +kernel, rfl, by decide +kernel, by decide +kernel⟩
theorem ok_is_long {w : World} {K : PySem.W.Frag} {mg : Str → Option Value} {base : Heap} (Z : FX K mg) : OkF pg w K mg base (px K) 3 3 f_is_long := by
  obtain ⟨fd, F⟩ := Z.dd 3 _ _ rfl rfl
  have sc := sc_is_long
  refine okF_mk (K := K) (P := px K) (st := top 8) (k := 2) rfl F sc (F.bindsN (ps := ["thing", "length"]) fun _ _ _ _ _ _ us hl => match us, hl with | [_, _], _ => rfl) fun cdv A outer s H E hr => ?_
  exact (sss_one (ss_ret (se_and (se_isi rfl (Z.fr 7 _ rfl) (se_var 0) rfl (Z.fr 17 _ rfl) rfl) (se_one (se_eq hr (se_len rfl (Z.fr 8 _ rfl) (sb_cons (se_var 0) sb_nil)) (se_var 1))))))
def b_are_numbers : DEnv → M Out := (sRet (eAnd (eIsi "tuple" (eVar 0)) (eB allD (bCons (eF (fComp (iSeqD (eVar 0)) [1] (gVar 1) tYesD (eCall f_is_number (aCons (eVar 1) aNil)))) aNil))))
def f_are_numbers : List D → M D := runD 1 2 b_are_numbers
theorem sc_are_numbers : FnScope ["thing", "own"] ["thing"] (defScope (top 9)) := ⟨rfl, rfl, rfl, by decide +kernel, rfl, by decide +kernel, by decide +kernel⟩
theorem ok_are_numbers {w : World} {K : PySem.W.Frag} {mg : Str → Option Value} {base : Heap} (Z : FX K mg) : OkF pg w K mg base (px K) 4 4 f_are_numbers := by
  obtain ⟨fd, F⟩ := Z.dd 4 _ _ rfl rfl
  have o_is_number := ok_is_number (w := w) (base := base) Z
  have sc := sc_are_numbers
  refine okF_mk (K := K) (P := px K) (st := top 9) (k := 3) rfl F sc (F.bindsN (ps := ["thing"]) fun _ _ _ _ _ _ us hl => match us, hl with | [_], _ => rfl) fun cdv A outer s H E hr => ?_
  exact (sss_one (ss_ret (se_and (se_isi rfl (Z.fr 7 _ rfl) (se_var 0) rfl (Z.fr 17 _ rfl) rfl) (se_one (se_all rfl rfl (Z.fr 2 _ rfl) (sb_cons (se_f (sf_comp (own := [("own", 1)]) rfl sc.nd (si_seq (se_var 0)) (blkOk_by (own := [("own", 1)]) (by kernel_rfl)) (by decide) (fun _ _ _ _ _ => (sg_var 1 sc.nd)) (fun _ _ _ _ _ => sts_nil) (fun _ _ _ _ _ => (se_callF o_is_number (hr.mono (by decide)) (Z.g 0 _ rfl) rfl (sa_cons (se_var 1) sa_nil))))) sb_nil))))))
def b_tupled (rc : List D → M D) : DEnv → M Out := (sRet (eIf (tTr (eIsi2 "list" "tuple" (eVar 0))) (eB tupD (bCons (eF (fComp (iSeqD (eVar 0)) [1] (gVar 1) tYesD (eCall rc (aCons (eVar 1) aNil)))) aNil)) (eVar 0)))
def r_tupled : Nat → List D → M D
  | 0 => fun _ => stuck
  | n + 1 => runD 1 2 (b_tupled (r_tupled n))
def f_tupled : List D → M D := r_tupled 12
theorem sc_tupled : FnScope ["value", "own"] ["value"] (defScope (top 10)) := ⟨rfl, rfl, rfl, by decide +kernel, rfl, by decide +kernel, by decide +kernel⟩
theorem ok0_tupled {w : World} {K : PySem.W.Frag} {mg : Str → Option Value} {base : Heap} (Z : FX K mg) : OkF pg w K mg base (px K) 3 5 (fun _ => stuck) := by
  obtain ⟨fd, F⟩ := Z.dd 5 _ _ rfl rfl
  exact OkF.stk (okF_mk (K := K) (P := px K) (st := top 10) (k := 2) (u := sStk) rfl F sc_tupled (F.bindsN (ps := ["value"]) fun _ _ _ _ _ _ us hl => match us, hl with | [_], _ => rfl) fun cdv A outer s H E hr => sss_stk)
theorem okr_tupled {w : World} {K : PySem.W.Frag} {mg : Str → Option Value} {base : Heap} (Z : FX K mg) : ∀ n, OkF pg w K mg base (px K) (n + 3) 5 (r_tupled n)
  | 0 => (ok0_tupled Z).mono (by omega)
  | n + 1 => by
    have rcOk := okr_tupled (w := w) (base := base) Z n
    obtain ⟨fd, F⟩ := Z.dd 5 _ _ rfl rfl
    have sc := sc_tupled
    refine okF_mk (K := K) (P := px K) (st := top 10) (k := n + 3) rfl F sc (F.bindsN (ps := ["value"]) fun _ _ _ _ _ _ us hl => match us, hl with | [_], _ => rfl) fun cdv A outer s H E hr => ?_
    exact (sss_one (ss_ret (se_if (st_tr (se_isi2 rfl (Z.fr 7 _ rfl) (se_var 0) rfl (Z.fr 9 _ rfl) rfl rfl (Z.fr 17 _ rfl) rfl)) (se_toTup rfl (Z.fr 17 _ rfl) (sb_cons (se_f (sf_comp (own := [("own", 1)]) rfl sc.nd (si_seq (se_var 0)) (blkOk_by (own := [("own", 1)]) (by kernel_rfl)) (by decide) (fun _ _ _ _ _ => (sg_var 1 sc.nd)) (fun _ _ _ _ _ => sts_nil) (fun _ _ _ _ _ => (se_callF rcOk (hr.mono (by omega)) (Z.g 5 _ rfl) rfl (sa_cons (se_var 1) sa_nil))))) sb_nil)) (se_var 0))))
theorem ok_tupled {w : World} {K : PySem.W.Frag} {mg : Str → Option Value} {base : Heap} (Z : FX K mg) : OkF pg w K mg base (px K) 15 5 f_tupled := (okr_tupled Z 12).mono (by omega)
def b_common : DEnv → M Out := (sSeq (sPar 0 1 (aCons (eB absD (bCons (eVar 0) aNil)) (aCons (eB absD (bCons (eVar 1) aNil)) aNil))) (sSeq (sWhile (fun ρ => natAt ρ 1 + 2) (tB (eBin neD (eVar 1) (eC (.int 0)))) (sPar 0 1 (aCons (eVar 1) (aCons (eBin modD (eVar 0) (eVar 1)) aNil)))) (sRet (eVar 0))))
def f_common : List D → M D := runD 2 2 b_common
theorem sc_common : FnScope ["one", "other"] ["one", "other"] (defScope (top 11)) := ⟨rfl, rfl, rfl, by decide +kernel, rfl, by decide +kernel, by decide +kernel⟩
theorem ok_common {w : World} {K : PySem.W.Frag} {mg : Str → Option Value} {base : Heap} (Z : FX K mg) : OkF pg w K mg base (px K) 3 6 f_common := by
  obtain ⟨fd, F⟩ := Z.dd 6 _ _ rfl rfl
  have sc := sc_common
  refine okF_mk (K := K) (P := px K) (st := top 11) (k := 2) rfl F sc (F.bindsN (ps := ["one", "other"]) fun _ _ _ _ _ _ us hl => match us, hl with | [_, _], _ => rfl) fun cdv A outer s H E hr => ?_
  exact (sss_cons (ss_par 0 1 rfl sc.nd (sa_cons (se_abs rfl (Z.fr 1 _ rfl) (sb_cons (se_var 0) sb_nil)) (sa_cons (se_abs rfl (Z.fr 1 _ rfl) (sb_cons (se_var 1) sb_nil)) sa_nil))) (sss_cons (ss_while (fun ρ => natAt ρ 1 + 2) (passes_of rfl) (st_ne hr (se_var 1) se_int) (sss_one (ss_par 0 1 rfl sc.nd (sa_cons (se_var 1) (sa_cons (se_mod (se_var 0) (se_var 1)) sa_nil))))) (sss_one (ss_ret (se_var 0)))))
def b_is_set : DEnv → M Out := (sRet (eAnd (eCall f_are_numbers (aCons (eVar 0) aNil)) (eB allD (bCons (eF (fComp (iZipD (aCons (eVar 0) (aCons (eSl (eVar 0) (oSome (eC (.int 1))) oNone) aNil))) [1, 2] (gTupD 2 (gConsD (gVar 1) (gConsD (gVar 2) gNilD))) tYesD (eBin ltD (eVar 1) (eVar 2)))) aNil))))
def f_is_set : List D → M D := runD 1 3 b_is_set
theorem sc_is_set : FnScope ["thing", "near", "far"] ["thing"] (defScope (top 12)) := ⟨rfl, rfl, rfl, by decide +kernel, rfl, by decide +kernel, by decide +kernel⟩
theorem ok_is_set {w : World} {K : PySem.W.Frag} {mg : Str → Option Value} {base : Heap} (Z : FX K mg) : OkF pg w K mg base (px K) 5 7 f_is_set := by
  obtain ⟨fd, F⟩ := Z.dd 7 _ _ rfl rfl
  have o_are_numbers := ok_are_numbers (w := w) (base := base) Z
  have sc := sc_is_set
  refine okF_mk (K := K) (P := px K) (st := top 12) (k := 4) rfl F sc (F.bindsN (ps := ["thing"]) fun _ _ _ _ _ _ us hl => match us, hl with | [_], _ => rfl) fun cdv A outer s H E hr => ?_
  exact (sss_one (ss_ret (se_and (se_callF o_are_numbers (hr.mono (by decide)) (Z.g 4 _ rfl) rfl (sa_cons (se_var 0) sa_nil)) (se_one (se_all rfl rfl (Z.fr 2 _ rfl) (sb_cons (se_f (sf_comp (own := [("near", 1), ("far", 2)]) rfl sc.nd (si_zip rfl (Z.fr 18 _ rfl) (sa_cons (se_var 0) (sa_cons (se_slice (se_var 0) (so_some se_int) so_none) sa_nil))) (blkOk_by (own := [("near", 1), ("far", 2)]) (by kernel_rfl)) (by decide) (fun _ _ _ _ _ => (sg_tup rfl (sgs_cons (sg_var 1 sc.nd) (sgs_cons (sg_var 2 sc.nd) sgs_nil)))) (fun _ _ _ _ _ => sts_nil) (fun _ _ _ _ _ => (se_lt (se_var 1) (se_var 2))))) sb_nil))))))
end Lw

set_option Elab.async false
set_option linter.all false
set_option maxRecDepth 100000
set_option maxHeartbeats 4000000
namespace Lw
open PySem PySem.Spec PyProof.Rows L2 Pu
def b_lowest : DEnv → M Out := (sSeq (sSet 2 (eCall f_common (aCons (eVar 0) (aCons (eVar 1) aNil)))) (sSeq (sSet 3 (eIf (tB (eBin ltD (eVar 1) (eC (.int 0)))) (eUn negD (eC (.int 1))) (eC (.int 1)))) (sRet (eTup (aCons (eBin fdivD (eBin mulD (eVar 3) (eVar 0)) (eVar 2)) (aCons (eBin fdivD (eBin mulD (eVar 3) (eVar 1)) (eVar 2)) aNil))))))
def f_lowest : List D → M D := runD 2 4 b_lowest
theorem sc_lowest : FnScope ["above", "below", "by", "sign"] ["above", "below"] (defScope (top 17)) := ⟨rfl, rfl, rfl, by decide +kernel, rfl, by decide +kernel, by decide +kernel⟩
theorem ok_lowest {w : World} {K : PySem.W.Frag} {mg : Str → Option Value} {base : Heap} (Z : FX K mg) : OkF pg w K mg base (px K) 4 8 f_lowest := by
  obtain ⟨fd, F⟩ := Z.dd 8 _ _ rfl rfl
  have o_common := ok_common (w := w) (base := base) Z
  have sc := sc_lowest
  refine okF_mk (K := K) (P := px K) (st := top 17) (k := 3) rfl F sc (F.bindsN (ps := ["above", "below"]) fun _ _ _ _ _ _ us hl => match us, hl with | [_, _], _ => rfl) fun cdv A outer s H E hr => ?_
  exact (sss_cons (ss_set 2 sc.nd (se_callF o_common (hr.mono (by decide)) (Z.g 6 _ rfl) rfl (sa_cons (se_var 0) (sa_cons (se_var 1) sa_nil)))) (sss_cons (ss_set 3 sc.nd (se_if (st_lt (se_var 1) se_int) (se_neg se_int) se_int)) (sss_one (ss_ret (se_tup (sa_cons (se_fdiv (se_mul (se_var 3) (se_var 0)) (se_var 2)) (sa_cons (se_fdiv (se_mul (se_var 3) (se_var 1)) (se_var 2)) sa_nil)))))))
def b_is_fraction_in : DEnv → M Out := (sRet (eAnd (eCall f_is_long (aCons (eVar 0) (aCons (eC (.int 2)) aNil))) (eAnd (eCall f_are_numbers (aCons (eVar 0) aNil)) (eAnd (eBin gtD (eBin ixD (eVar 0) (eC (.int 1))) (eC (.int 0))) (eBin eqD (eCall f_common (aCons (eBin ixD (eVar 0) (eC (.int 0))) (aCons (eBin ixD (eVar 0) (eC (.int 1))) aNil))) (eC (.int 1)))))))
def f_is_fraction_in : List D → M D := runD 1 1 b_is_fraction_in
theorem sc_is_fraction_in : FnScope ["thing"] ["thing"] (defScope (top 18)) := ⟨rfl, rfl, rfl, by decide +kernel, rfl, by decide +kernel, by decide +kernel⟩
theorem ok_is_fraction_in {w : World} {K : PySem.W.Frag} {mg : Str → Option Value} {base : Heap} (Z : FX K mg) : OkF pg w K mg base (px K) 5 9 f_is_fraction_in := by
  obtain ⟨fd, F⟩ := Z.dd 9 _ _ rfl rfl
  have o_is_long := ok_is_long (w := w) (base := base) Z
  have o_are_numbers := ok_are_numbers (w := w) (base := base) Z
  have o_common := ok_common (w := w) (base := base) Z
  have sc := sc_is_fraction_in
  refine okF_mk (K := K) (P := px K) (st := top 18) (k := 4) rfl F sc (F.bindsN (ps := ["thing"]) fun _ _ _ _ _ _ us hl => match us, hl with | [_], _ => rfl) fun cdv A outer s H E hr => ?_
  exact (sss_one (ss_ret (se_and (se_callF o_is_long (hr.mono (by decide)) (Z.g 3 _ rfl) rfl (sa_cons (se_var 0) (sa_cons se_int sa_nil))) (se_and (se_callF o_are_numbers (hr.mono (by decide)) (Z.g 4 _ rfl) rfl (sa_cons (se_var 0) sa_nil)) (se_and (se_gt (se_ix (se_var 0) se_int) se_int) (se_one (se_eq hr (se_callF o_common (hr.mono (by decide)) (Z.g 6 _ rfl) rfl (sa_cons (se_ix (se_var 0) se_int) (sa_cons (se_ix (se_var 0) se_int) sa_nil))) se_int)))))))
def b_plus : DEnv → M Out := (sRet (eCall f_lowest (aCons (eBin addD (eBin mulD (eBin ixD (eVar 0) (eC (.int 0))) (eBin ixD (eVar 1) (eC (.int 1)))) (eBin mulD (eBin ixD (eVar 1) (eC (.int 0))) (eBin ixD (eVar 0) (eC (.int 1))))) (aCons (eBin mulD (eBin ixD (eVar 0) (eC (.int 1))) (eBin ixD (eVar 1) (eC (.int 1)))) aNil))))
def f_plus : List D → M D := runD 2 2 b_plus
theorem sc_plus : FnScope ["one", "other"] ["one", "other"] (defScope (top 19)) := ⟨rfl, rfl, rfl, by decide +kernel, rfl, by decide +kernel, by decide +kernel⟩
theorem ok_plus {w : World} {K : PySem.W.Frag} {mg : Str → Option Value} {base : Heap} (Z : FX K mg) : OkF pg w K mg base (px K) 5 10 f_plus := by
  obtain ⟨fd, F⟩ := Z.dd 10 _ _ rfl rfl
  have o_lowest := ok_lowest (w := w) (base := base) Z
  have sc := sc_plus
  refine okF_mk (K := K) (P := px K) (st := top 19) (k := 4) rfl F sc (F.bindsN (ps := ["one", "other"]) fun _ _ _ _ _ _ us hl => match us, hl with | [_, _], _ => rfl) fun cdv A outer s H E hr => ?_
  exact (sss_one (ss_ret (se_callF o_lowest (hr.mono (by decide)) (Z.g 8 _ rfl) rfl (sa_cons (se_add (se_mul (se_ix (se_var 0) se_int) (se_ix (se_var 1) se_int)) (se_mul (se_ix (se_var 1) se_int) (se_ix (se_var 0) se_int))) (sa_cons (se_mul (se_ix (se_var 0) se_int) (se_ix (se_var 1) se_int)) sa_nil)))))
def b_less : DEnv → M Out := (sRet (eCall f_lowest (aCons (eBin subD (eBin mulD (eBin ixD (eVar 0) (eC (.int 0))) (eBin ixD (eVar 1) (eC (.int 1)))) (eBin mulD (eBin ixD (eVar 1) (eC (.int 0))) (eBin ixD (eVar 0) (eC (.int 1))))) (aCons (eBin mulD (eBin ixD (eVar 0) (eC (.int 1))) (eBin ixD (eVar 1) (eC (.int 1)))) aNil))))
def f_less : List D → M D := runD 2 2 b_less
theorem sc_less : FnScope ["one", "other"] ["one", "other"] (defScope (top 20)) := ⟨rfl, rfl, rfl, by decide +kernel, rfl, by decide +kernel, by decide +kernel⟩
theorem ok_less {w : World} {K : PySem.W.Frag} {mg : Str → Option Value} {base : Heap} (Z : FX K mg) : OkF pg w K mg base (px K) 5 11 f_less := by
  obtain ⟨fd, F⟩ := Z.dd 11 _ _ rfl rfl
  have o_lowest := ok_lowest (w := w) (base := base) Z
  have sc := sc_less
  refine okF_mk (K := K) (P := px K) (st := top 20) (k := 4) rfl F sc (F.bindsN (ps := ["one", "other"]) fun _ _ _ _ _ _ us hl => match us, hl with | [_, _], _ => rfl) fun cdv A outer s H E hr => ?_
  exact (sss_one (ss_ret (se_callF o_lowest (hr.mono (by decide)) (Z.g 8 _ rfl) rfl (sa_cons (se_sub (se_mul (se_ix (se_var 0) se_int) (se_ix (se_var 1) se_int)) (se_mul (se_ix (se_var 1) se_int) (se_ix (se_var 0) se_int))) (sa_cons (se_mul (se_ix (se_var 0) se_int) (se_ix (se_var 1) se_int)) sa_nil)))))
def b_times : DEnv → M Out := (sRet (eCall f_lowest (aCons (eBin mulD (eBin ixD (eVar 0) (eC (.int 0))) (eBin ixD (eVar 1) (eC (.int 0)))) (aCons (eBin mulD (eBin ixD (eVar 0) (eC (.int 1))) (eBin ixD (eVar 1) (eC (.int 1)))) aNil))))
def f_times : List D → M D := runD 2 2 b_times
theorem sc_times : FnScope ["one", "other"] ["one", "other"] (defScope (top 21)) := ⟨rfl, rfl, rfl, by decide +kernel, rfl, by decide +kernel, by decide +kernel⟩
theorem ok_times {w : World} {K : PySem.W.Frag} {mg : Str → Option Value} {base : Heap} (Z : FX K mg) : OkF pg w K mg base (px K) 5 12 f_times := by
  obtain ⟨fd, F⟩ := Z.dd 12 _ _ rfl rfl
  have o_lowest := ok_lowest (w := w) (base := base) Z
  have sc := sc_times
  refine okF_mk (K := K) (P := px K) (st := top 21) (k := 4) rfl F sc (F.bindsN (ps := ["one", "other"]) fun _ _ _ _ _ _ us hl => match us, hl with | [_, _], _ => rfl) fun cdv A outer s H E hr => ?_
  exact (sss_one (ss_ret (se_callF o_lowest (hr.mono (by decide)) (Z.g 8 _ rfl) rfl (sa_cons (se_mul (se_ix (se_var 0) se_int) (se_ix (se_var 1) se_int)) (sa_cons (se_mul (se_ix (se_var 0) se_int) (se_ix (se_var 1) se_int)) sa_nil)))))
def b_over : DEnv → M Out := (sRet (eCall f_lowest (aCons (eBin mulD (eBin ixD (eVar 0) (eC (.int 0))) (eBin ixD (eVar 1) (eC (.int 1)))) (aCons (eBin mulD (eBin ixD (eVar 0) (eC (.int 1))) (eBin ixD (eVar 1) (eC (.int 0)))) aNil))))
def f_over : List D → M D := runD 2 2 b_over
theorem sc_over : FnScope ["one", "other"] ["one", "other"] (defScope (top 22)) := ⟨rfl, rfl, rfl, by decide +kernel, rfl, by decide +kernel, by decide +kernel⟩
theorem ok_over {w : World} {K : PySem.W.Frag} {mg : Str → Option Value} {base : Heap} (Z : FX K mg) : OkF pg w K mg base (px K) 5 13 f_over := by
  obtain ⟨fd, F⟩ := Z.dd 13 _ _ rfl rfl
  have o_lowest := ok_lowest (w := w) (base := base) Z
  have sc := sc_over
  refine okF_mk (K := K) (P := px K) (st := top 22) (k := 4) rfl F sc (F.bindsN (ps := ["one", "other"]) fun _ _ _ _ _ _ us hl => match us, hl with | [_, _], _ => rfl) fun cdv A outer s H E hr => ?_
  exact (sss_one (ss_ret (se_callF o_lowest (hr.mono (by decide)) (Z.g 8 _ rfl) rfl (sa_cons (se_mul (se_ix (se_var 0) se_int) (se_ix (se_var 1) se_int)) (sa_cons (se_mul (se_ix (se_var 0) se_int) (se_ix (se_var 1) se_int)) sa_nil)))))
def b_is_under : DEnv → M Out := (sRet (eBin ltD (eBin mulD (eBin ixD (eVar 0) (eC (.int 0))) (eBin ixD (eVar 1) (eC (.int 1)))) (eBin mulD (eBin ixD (eVar 1) (eC (.int 0))) (eBin ixD (eVar 0) (eC (.int 1))))))
def f_is_under : List D → M D := runD 2 2 b_is_under
theorem sc_is_under : FnScope ["one", "other"] ["one", "other"] (defScope (top 23)) := ⟨rfl, rfl, rfl, by decide +kernel, rfl, by decide +kernel, by decide +kernel⟩
theorem ok_is_under {w : World} {K : PySem.W.Frag} {mg : Str → Option Value} {base : Heap} (Z : FX K mg) : OkF pg w K mg base (px K) 3 14 f_is_under := by
  obtain ⟨fd, F⟩ := Z.dd 14 _ _ rfl rfl
  have sc := sc_is_under
  refine okF_mk (K := K) (P := px K) (st := top 23) (k := 2) rfl F sc (F.bindsN (ps := ["one", "other"]) fun _ _ _ _ _ _ us hl => match us, hl with | [_, _], _ => rfl) fun cdv A outer s H E hr => ?_
  exact (sss_one (ss_ret (se_lt (se_mul (se_ix (se_var 0) se_int) (se_ix (se_var 1) se_int)) (se_mul (se_ix (se_var 1) se_int) (se_ix (se_var 0) se_int)))))
def b_compared : DEnv → M Out := (sSeq (sSet 2 (eBin subD (eBin mulD (eBin ixD (eVar 0) (eC (.int 0))) (eBin ixD (eVar 1) (eC (.int 1)))) (eBin mulD (eBin ixD (eVar 1) (eC (.int 0))) (eBin ixD (eVar 0) (eC (.int 1)))))) (sRet (eBin subD (eB intOfD (bCons (eBin gtD (eVar 2) (eC (.int 0))) aNil)) (eB intOfD (bCons (eBin ltD (eVar 2) (eC (.int 0))) aNil)))))
def f_compared : List D → M D := runD 2 3 b_compared
theorem sc_compared : FnScope ["one", "other", "rest"] ["one", "other"] (defScope (top 24)) := ⟨rfl, rfl, rfl, by decide +kernel, rfl, by decide +kernel, by decide +kernel⟩
theorem ok_compared {w : World} {K : PySem.W.Frag} {mg : Str → Option Value} {base : Heap} (Z : FX K mg) : OkF pg w K mg base (px K) 3 15 f_compared := by
  obtain ⟨fd, F⟩ := Z.dd 15 _ _ rfl rfl
  have sc := sc_compared
  refine okF_mk (K := K) (P := px K) (st := top 24) (k := 2) rfl F sc (F.bindsN (ps := ["one", "other"]) fun _ _ _ _ _ _ us hl => match us, hl with | [_, _], _ => rfl) fun cdv A outer s H E hr => ?_
  exact (sss_cons (ss_set 2 sc.nd (se_sub (se_mul (se_ix (se_var 0) se_int) (se_ix (se_var 1) se_int)) (se_mul (se_ix (se_var 1) se_int) (se_ix (se_var 0) se_int)))) (sss_one (ss_ret (se_sub (se_toInt rfl (Z.fr 6 _ rfl) (sb_cons (se_gt (se_var 2) se_int) sb_nil)) (se_toInt rfl (Z.fr 6 _ rfl) (sb_cons (se_lt (se_var 2) se_int) sb_nil))))))
end Lw

set_option Elab.async false
set_option linter.all false
set_option maxRecDepth 100000
set_option maxHeartbeats 4000000
namespace Lw
open PySem PySem.Spec PyProof.Rows L2 Pu
def b_is_near_fraction : DEnv → M Out := (sRet (eAnd (eCall f_is_fraction_in (aCons (eVar 0) aNil)) (eBin leD (eB max2D (bCons (eB absD (bCons (eBin ixD (eVar 0) (eC (.int 0))) aNil)) (bCons (eBin ixD (eVar 0) (eC (.int 1))) aNil))) (eC (.int (1000000))))))
def f_is_near_fraction : List D → M D := runD 1 1 b_is_near_fraction
theorem sc_is_near_fraction : FnScope ["thing"] ["thing"] (defScope (top 25)) := ⟨rfl, rfl, rfl, by decide +kernel, rfl, by decide +kernel, by decide +kernel⟩
theorem ok_is_near_fraction {w : World} {K : PySem.W.Frag} {mg : Str → Option Value} {base : Heap} (Z : FX K mg) : OkF pg w K mg base (px K) 6 16 f_is_near_fraction := by
  obtain ⟨fd, F⟩ := Z.dd 16 _ _ rfl rfl
  have o_is_fraction_in := ok_is_fraction_in (w := w) (base := base) Z
  obtain ⟨t_MOST_SIZE, m_MOST_SIZE⟩ := Z.it 0 _ _ rfl
  have sc := sc_is_near_fraction
  refine okF_mk (K := K) (P := px K) (st := top 25) (k := 5) rfl F sc (F.bindsN (ps := ["thing"]) fun _ _ _ _ _ _ us hl => match us, hl with | [_], _ => rfl) fun cdv A outer s H E hr => ?_
  exact (sss_one (ss_ret (se_and (se_callF o_is_fraction_in (hr.mono (by decide)) (Z.g 9 _ rfl) rfl (sa_cons (se_var 0) sa_nil)) (se_one (se_le (se_max2 rfl rfl (Z.fr 10 _ rfl) (sb_cons (se_abs rfl (Z.fr 1 _ rfl) (sb_cons (se_ix (se_var 0) se_int) sb_nil)) (sb_cons (se_ix (se_var 0) se_int) sb_nil))) (se_gint rfl m_MOST_SIZE))))))
def b_is_point_in : DEnv → M Out := (sRet (eAnd (eCall f_is_long (aCons (eVar 0) (aCons (eC (.int 2)) aNil))) (eB allD (bCons (eF (fComp (iSeqD (eVar 0)) [1] (gVar 1) tYesD (eCall f_is_fraction_in (aCons (eVar 1) aNil)))) aNil))))
def f_is_point_in : List D → M D := runD 1 2 b_is_point_in
theorem sc_is_point_in : FnScope ["thing", "own"] ["thing"] (defScope (top 26)) := ⟨rfl, rfl, rfl, by decide +kernel, rfl, by decide +kernel, by decide +kernel⟩
theorem ok_is_point_in {w : World} {K : PySem.W.Frag} {mg : Str → Option Value} {base : Heap} (Z : FX K mg) : OkF pg w K mg base (px K) 6 17 f_is_point_in := by
  obtain ⟨fd, F⟩ := Z.dd 17 _ _ rfl rfl
  have o_is_long := ok_is_long (w := w) (base := base) Z
  have o_is_fraction_in := ok_is_fraction_in (w := w) (base := base) Z
  have sc := sc_is_point_in
  refine okF_mk (K := K) (P := px K) (st := top 26) (k := 5) rfl F sc (F.bindsN (ps := ["thing"]) fun _ _ _ _ _ _ us hl => match us, hl with | [_], _ => rfl) fun cdv A outer s H E hr => ?_
  exact (sss_one (ss_ret (se_and (se_callF o_is_long (hr.mono (by decide)) (Z.g 3 _ rfl) rfl (sa_cons (se_var 0) (sa_cons se_int sa_nil))) (se_one (se_all rfl rfl (Z.fr 2 _ rfl) (sb_cons (se_f (sf_comp (own := [("own", 1)]) rfl sc.nd (si_seq (se_var 0)) (blkOk_by (own := [("own", 1)]) (by kernel_rfl)) (by decide) (fun _ _ _ _ _ => (sg_var 1 sc.nd)) (fun _ _ _ _ _ => sts_nil) (fun _ _ _ _ _ => (se_callF o_is_fraction_in (hr.mono (by decide)) (Z.g 9 _ rfl) rfl (sa_cons (se_var 1) sa_nil))))) sb_nil))))))
def b_is_ahead : DEnv → M Out := (sSeq (sSet 2 (eCall f_compared (aCons (eBin ixD (eVar 0) (eC (.int 0))) (aCons (eBin ixD (eVar 1) (eC (.int 0))) aNil)))) (sRet (eOrT (eBin ltD (eVar 2) (eC (.int 0))) (eAnd (eBin eqD (eVar 2) (eC (.int 0))) (eCall f_is_under (aCons (eBin ixD (eVar 0) (eC (.int 1))) (aCons (eBin ixD (eVar 1) (eC (.int 1))) aNil)))))))
def f_is_ahead : List D → M D := runD 2 3 b_is_ahead
theorem sc_is_ahead : FnScope ["one", "other", "way"] ["one", "other"] (defScope (top 27)) := ⟨rfl, rfl, rfl, by decide +kernel, rfl, by decide +kernel, by decide +kernel⟩
theorem ok_is_ahead {w : World} {K : PySem.W.Frag} {mg : Str → Option Value} {base : Heap} (Z : FX K mg) : OkF pg w K mg base (px K) 4 18 f_is_ahead := by
  obtain ⟨fd, F⟩ := Z.dd 18 _ _ rfl rfl
  have o_compared := ok_compared (w := w) (base := base) Z
  have o_is_under := ok_is_under (w := w) (base := base) Z
  have sc := sc_is_ahead
  refine okF_mk (K := K) (P := px K) (st := top 27) (k := 3) rfl F sc (F.bindsN (ps := ["one", "other"]) fun _ _ _ _ _ _ us hl => match us, hl with | [_, _], _ => rfl) fun cdv A outer s H E hr => ?_
  exact (sss_cons (ss_set 2 sc.nd (se_callF o_compared (hr.mono (by decide)) (Z.g 15 _ rfl) rfl (sa_cons (se_ix (se_var 0) se_int) (sa_cons (se_ix (se_var 1) se_int) sa_nil)))) (sss_one (ss_ret (se_orT (se_lt (se_var 2) se_int) (se_one (se_and (se_eq hr (se_var 2) se_int) (se_one (se_callF o_is_under (hr.mono (by decide)) (Z.g 14 _ rfl) rfl (sa_cons (se_ix (se_var 0) se_int) (sa_cons (se_ix (se_var 1) se_int) sa_nil))))))))))
def b_are_points_in : DEnv → M Out := (sSeq (sIf (tOrD (tNotD (tTr (eIsi "tuple" (eVar 0)))) (tOrD (tB (eBin ltD (eB lenD (bCons (eVar 0) aNil)) (eC (.int (3))))) (tNotD (tTr (eB allD (bCons (eF (fComp (iSeqD (eVar 0)) [1] (gVar 1) tYesD (eCall f_is_point_in (aCons (eVar 1) aNil)))) aNil)))))) (sRet (eC (.bl false))) sNext) (sRet (eB allD (bCons (eF (fComp (iZipD (aCons (eVar 0) (aCons (eSl (eVar 0) (oSome (eC (.int 1))) oNone) aNil))) [2, 3] (gTupD 2 (gConsD (gVar 2) (gConsD (gVar 3) gNilD))) tYesD (eCall f_is_ahead (aCons (eVar 2) (aCons (eVar 3) aNil))))) aNil))))
def f_are_points_in : List D → M D := runD 1 4 b_are_points_in
theorem sc_are_points_in : FnScope ["thing", "own", "one", "other"] ["thing"] (defScope (top 28)) := ⟨rfl, rfl, rfl, by decide +kernel, rfl, by decide +kernel, by decide +kernel⟩
theorem ok_are_points_in {w : World} {K : PySem.W.Frag} {mg : Str → Option Value} {base : Heap} (Z : FX K mg) : OkF pg w K mg base (px K) 7 19 f_are_points_in := by
  obtain ⟨fd, F⟩ := Z.dd 19 _ _ rfl rfl
  have o_is_point_in := ok_is_point_in (w := w) (base := base) Z
  have o_is_ahead := ok_is_ahead (w := w) (base := base) Z
  obtain ⟨t_LEAST_POINTS, m_LEAST_POINTS⟩ := Z.it 1 _ _ rfl
  have sc := sc_are_points_in
  refine okF_mk (K := K) (P := px K) (st := top 28) (k := 6) rfl F sc (F.bindsN (ps := ["thing"]) fun _ _ _ _ _ _ us hl => match us, hl with | [_], _ => rfl) fun cdv A outer s H E hr => ?_
  exact (sss_cons (ss_if (SWt.st (sw_or (st_not (st_tr (se_isi rfl (Z.fr 7 _ rfl) (se_var 0) rfl (Z.fr 17 _ rfl) rfl))) (sw_or (st_lt (se_len rfl (Z.fr 8 _ rfl) (sb_cons (se_var 0) sb_nil)) (se_gint rfl m_LEAST_POINTS)) (sw_or1 (st_not (st_tr (se_all rfl rfl (Z.fr 2 _ rfl) (sb_cons (se_f (sf_comp (own := [("own", 1)]) rfl sc.nd (si_seq (se_var 0)) (blkOk_by (own := [("own", 1)]) (by kernel_rfl)) (by decide) (fun _ _ _ _ _ => (sg_var 1 sc.nd)) (fun _ _ _ _ _ => sts_nil) (fun _ _ _ _ _ => (se_callF o_is_point_in (hr.mono (by decide)) (Z.g 17 _ rfl) rfl (sa_cons (se_var 1) sa_nil))))) sb_nil)))))))) (sss_one (ss_ret se_bl)) sss_nil) (sss_one (ss_ret (se_all rfl rfl (Z.fr 2 _ rfl) (sb_cons (se_f (sf_comp (own := [("one", 2), ("other", 3)]) rfl sc.nd (si_zip rfl (Z.fr 18 _ rfl) (sa_cons (se_var 0) (sa_cons (se_slice (se_var 0) (so_some se_int) so_none) sa_nil))) (blkOk_by (own := [("one", 2), ("other", 3)]) (by kernel_rfl)) (by decide) (fun _ _ _ _ _ => (sg_tup rfl (sgs_cons (sg_var 2 sc.nd) (sgs_cons (sg_var 3 sc.nd) sgs_nil)))) (fun _ _ _ _ _ => sts_nil) (fun _ _ _ _ _ => (se_callF o_is_ahead (hr.mono (by decide)) (Z.g 18 _ rfl) rfl (sa_cons (se_var 2) (sa_cons (se_var 3) sa_nil)))))) sb_nil)))))
def b_sure_point : DEnv → M Out := (sSeq (sSet 1 (eCall f_tupled (aCons (eVar 0) aNil))) (sSeq (sIf (tOrD (tNotD (tTr (eCall f_is_point_in (aCons (eVar 1) aNil)))) (tNotD (tTr (eB allD (bCons (eF (fComp (iSeqD (eVar 1)) [2] (gVar 2) tYesD (eCall f_is_near_fraction (aCons (eVar 2) aNil)))) aNil))))) (sRaise 2) sNext) (sRet (eVar 1))))
def f_sure_point : List D → M D := runD 1 3 b_sure_point
theorem sc_sure_point : FnScope ["value", "own", "part"] ["value"] (defScope (top 29)) := ⟨rfl, rfl, rfl, by decide +kernel, rfl, by decide +kernel, by decide +kernel⟩
theorem ok_sure_point {w : World} {K : PySem.W.Frag} {mg : Str → Option Value} {base : Heap} (Z : FX K mg) : OkF pg w K mg base (px K) 16 20 f_sure_point := by
  obtain ⟨fd, F⟩ := Z.dd 20 _ _ rfl rfl
  have o_tupled := ok_tupled (w := w) (base := base) Z
  have o_is_point_in := ok_is_point_in (w := w) (base := base) Z
  have o_is_near_fraction := ok_is_near_fraction (w := w) (base := base) Z
  have sc := sc_sure_point
  refine okF_mk (K := K) (P := px K) (st := top 29) (k := 15) rfl F sc (F.bindsN (ps := ["value"]) fun _ _ _ _ _ _ us hl => match us, hl with | [_], _ => rfl) fun cdv A outer s H E hr => ?_
  exact (sss_cons (ss_set 1 sc.nd (se_callF o_tupled (hr.mono (by decide)) (Z.g 5 _ rfl) rfl (sa_cons (se_var 0) sa_nil))) (sss_cons (ss_if (SWt.st (sw_or (st_not (st_tr (se_callF o_is_point_in (hr.mono (by decide)) (Z.g 17 _ rfl) rfl (sa_cons (se_var 1) sa_nil)))) (sw_or1 (st_not (st_tr (se_all rfl rfl (Z.fr 2 _ rfl) (sb_cons (se_f (sf_comp (own := [("part", 2)]) rfl sc.nd (si_seq (se_var 1)) (blkOk_by (own := [("part", 2)]) (by kernel_rfl)) (by decide) (fun _ _ _ _ _ => (sg_var 2 sc.nd)) (fun _ _ _ _ _ => sts_nil) (fun _ _ _ _ _ => (se_callF o_is_near_fraction (hr.mono (by decide)) (Z.g 16 _ rfl) rfl (sa_cons (se_var 2) sa_nil))))) sb_nil))))))) (sss_one (ss_raise 2 rfl (Z.ex 2 _ rfl).2 (Z.ex 2 _ rfl).1 rfl)) sss_nil) (sss_one (ss_ret (se_var 1)))))
def b_sure_points : DEnv → M Out := (sSeq (sSet 1 (eCall f_tupled (aCons (eVar 0) aNil))) (sSeq (sIf (tOrD (tNotD (tTr (eCall f_are_points_in (aCons (eVar 1) aNil)))) (tB (eBin gtD (eB lenD (bCons (eVar 1) aNil)) (eC (.int (30)))))) (sRaise 2) sNext) (sSeq (sIf (tNotD (tTr (eB allD (bCons (eF (fComp2 (iSeqD (eVar 1)) [2, 3] (gVar 2) tYesD (iSeqD (eVar 2)) [3] (gVar 3) tYesD (eCall f_is_near_fraction (aCons (eVar 3) aNil)))) aNil)))) (sRaise 2) sNext) (sRet (eVar 1)))))
def f_sure_points : List D → M D := runD 1 4 b_sure_points
theorem sc_sure_points : FnScope ["value", "own", "point", "part"] ["value"] (defScope (top 30)) := ⟨rfl, rfl, rfl, by decide +kernel, rfl, by decide +kernel, by decide +kernel⟩
theorem ok_sure_points {w : World} {K : PySem.W.Frag} {mg : Str → Option Value} {base : Heap} (Z : FX K mg) : OkF pg w K mg base (px K) 16 21 f_sure_points := by
  obtain ⟨fd, F⟩ := Z.dd 21 _ _ rfl rfl
  have o_tupled := ok_tupled (w := w) (base := base) Z
  have o_are_points_in := ok_are_points_in (w := w) (base := base) Z
  have o_is_near_fraction := ok_is_near_fraction (w := w) (base := base) Z
  obtain ⟨t_MOST_POINTS, m_MOST_POINTS⟩ := Z.it 2 _ _ rfl
  have sc := sc_sure_points
  refine okF_mk (K := K) (P := px K) (st := top 30) (k := 15) rfl F sc (F.bindsN (ps := ["value"]) fun _ _ _ _ _ _ us hl => match us, hl with | [_], _ => rfl) fun cdv A outer s H E hr => ?_
  exact (sss_cons (ss_set 1 sc.nd (se_callF o_tupled (hr.mono (by decide)) (Z.g 5 _ rfl) rfl (sa_cons (se_var 0) sa_nil))) (sss_cons (ss_if (SWt.st (sw_or (st_not (st_tr (se_callF o_are_points_in (hr.mono (by decide)) (Z.g 19 _ rfl) rfl (sa_cons (se_var 1) sa_nil)))) (sw_or1 (st_gt (se_len rfl (Z.fr 8 _ rfl) (sb_cons (se_var 1) sb_nil)) (se_gint rfl m_MOST_POINTS))))) (sss_one (ss_raise 2 rfl (Z.ex 2 _ rfl).2 (Z.ex 2 _ rfl).1 rfl)) sss_nil) (sss_cons (ss_if (st_not (st_tr (se_all rfl rfl (Z.fr 2 _ rfl) (sb_cons (se_f (sf_comp2 (own := [("point", 2), ("part", 3)]) (vs1 := [3]) rfl sc.nd (si_seq (se_var 1)) (blkOk_by (own := [("point", 2), ("part", 3)]) (by kernel_rfl)) (by decide) (by decide) (by decide) (fun _ _ _ _ _ => (sg_var 2 sc.nd)) (fun _ _ _ _ _ => sts_nil) (fun _ _ _ _ _ => (si_seq (se_var 2))) (fun _ _ _ _ _ => (sg_var 3 sc.nd)) (fun _ _ _ _ _ => sts_nil) (fun _ _ _ _ _ => (se_callF o_is_near_fraction (hr.mono (by decide)) (Z.g 16 _ rfl) rfl (sa_cons (se_var 3) sa_nil))))) sb_nil)))) (sss_one (ss_raise 2 rfl (Z.ex 2 _ rfl).2 (Z.ex 2 _ rfl).1 rfl)) sss_nil) (sss_one (ss_ret (se_var 1))))))
def b_turn_of : DEnv → M Out := (sSeq (sSet 3 (eCall f_times (aCons (eCall f_less (aCons (eBin ixD (eVar 1) (eC (.int 0))) (aCons (eBin ixD (eVar 0) (eC (.int 0))) aNil))) (aCons (eCall f_less (aCons (eBin ixD (eVar 2) (eC (.int 1))) (aCons (eBin ixD (eVar 0) (eC (.int 1))) aNil))) aNil)))) (sRet (eCall f_compared (aCons (eVar 3) (aCons (eCall f_times (aCons (eCall f_less (aCons (eBin ixD (eVar 1) (eC (.int 1))) (aCons (eBin ixD (eVar 0) (eC (.int 1))) aNil))) (aCons (eCall f_less (aCons (eBin ixD (eVar 2) (eC (.int 0))) (aCons (eBin ixD (eVar 0) (eC (.int 0))) aNil))) aNil))) aNil)))))
def f_turn_of : List D → M D := runD 3 4 b_turn_of
theorem sc_turn_of : FnScope ["one", "other", "third", "across"] ["one", "other", "third"] (defScope (top 31)) := ⟨rfl, rfl, rfl, by decide +kernel, rfl, by decide +kernel, by decide +kernel⟩
theorem ok_turn_of {w : World} {K : PySem.W.Frag} {mg : Str → Option Value} {base : Heap} (Z : FX K mg) : OkF pg w K mg base (px K) 6 22 f_turn_of := by
  obtain ⟨fd, F⟩ := Z.dd 22 _ _ rfl rfl
  have o_less := ok_less (w := w) (base := base) Z
  have o_times := ok_times (w := w) (base := base) Z
  have o_compared := ok_compared (w := w) (base := base) Z
  have sc := sc_turn_of
  refine okF_mk (K := K) (P := px K) (st := top 31) (k := 5) rfl F sc (F.bindsN (ps := ["one", "other", "third"]) fun _ _ _ _ _ _ us hl => match us, hl with | [_, _, _], _ => rfl) fun cdv A outer s H E hr => ?_
  exact (sss_cons (ss_set 3 sc.nd (se_callF o_times (hr.mono (by decide)) (Z.g 12 _ rfl) rfl (sa_cons (se_callF o_less (hr.mono (by decide)) (Z.g 11 _ rfl) rfl (sa_cons (se_ix (se_var 1) se_int) (sa_cons (se_ix (se_var 0) se_int) sa_nil))) (sa_cons (se_callF o_less (hr.mono (by decide)) (Z.g 11 _ rfl) rfl (sa_cons (se_ix (se_var 2) se_int) (sa_cons (se_ix (se_var 0) se_int) sa_nil))) sa_nil)))) (sss_one (ss_ret (se_callF o_compared (hr.mono (by decide)) (Z.g 15 _ rfl) rfl (sa_cons (se_var 3) (sa_cons (se_callF o_times (hr.mono (by decide)) (Z.g 12 _ rfl) rfl (sa_cons (se_callF o_less (hr.mono (by decide)) (Z.g 11 _ rfl) rfl (sa_cons (se_ix (se_var 1) se_int) (sa_cons (se_ix (se_var 0) se_int) sa_nil))) (sa_cons (se_callF o_less (hr.mono (by decide)) (Z.g 11 _ rfl) rfl (sa_cons (se_ix (se_var 2) se_int) (sa_cons (se_ix (se_var 0) se_int) sa_nil))) sa_nil))) sa_nil))))))
def b_are_all_in_line : DEnv → M Out := (sRet (eB allD (bCons (eF (fComp (iSeqD (eSl (eVar 0) (oSome (eC (.int 2))) oNone)) [1] (gVar 1) tYesD (eBin eqD (eCall f_turn_of (aCons (eBin ixD (eVar 0) (eC (.int 0))) (aCons (eBin ixD (eVar 0) (eC (.int 1))) (aCons (eVar 1) aNil)))) (eC (.int 0))))) aNil)))
def f_are_all_in_line : List D → M D := runD 1 2 b_are_all_in_line
theorem sc_are_all_in_line : FnScope ["points", "own"] ["points"] (defScope (top 32)) := ⟨rfl, rfl, rfl, by decide +kernel, rfl, by decide +kernel, by decide +kernel⟩
theorem ok_are_all_in_line {w : World} {K : PySem.W.Frag} {mg : Str → Option Value} {base : Heap} (Z : FX K mg) : OkF pg w K mg base (px K) 7 23 f_are_all_in_line := by
  obtain ⟨fd, F⟩ := Z.dd 23 _ _ rfl rfl
  have o_turn_of := ok_turn_of (w := w) (base := base) Z
  have sc := sc_are_all_in_line
  refine okF_mk (K := K) (P := px K) (st := top 32) (k := 6) rfl F sc (F.bindsN (ps := ["points"]) fun _ _ _ _ _ _ us hl => match us, hl with | [_], _ => rfl) fun cdv A outer s H E hr => ?_
  exact (sss_one (ss_ret (se_all rfl rfl (Z.fr 2 _ rfl) (sb_cons (se_f (sf_comp (own := [("own", 1)]) rfl sc.nd (si_seq (se_slice (se_var 0) (so_some se_int) so_none)) (blkOk_by (own := [("own", 1)]) (by kernel_rfl)) (by decide) (fun _ _ _ _ _ => (sg_var 1 sc.nd)) (fun _ _ _ _ _ => sts_nil) (fun _ _ _ _ _ => (se_eq hr (se_callF o_turn_of (hr.mono (by decide)) (Z.g 22 _ rfl) rfl (sa_cons (se_ix (se_var 0) se_int) (sa_cons (se_ix (se_var 0) se_int) (sa_cons (se_var 1) sa_nil)))) se_int)))) sb_nil))))
end Lw

set_option Elab.async false
set_option linter.all false
set_option maxRecDepth 100000
set_option maxHeartbeats 4000000
namespace Lw
open PySem PySem.Spec PyProof.Rows L2 Pu
def b_are_on_one_line : DEnv → M Out := (sRet (eCall f_are_all_in_line (aCons (eCall f_sure_points (aCons (eVar 0) aNil)) aNil)))
def f_are_on_one_line : List D → M D := runD 1 1 b_are_on_one_line
theorem sc_are_on_one_line : FnScope ["points"] ["points"] (defScope (top 33)) := ⟨rfl, rfl, rfl, by decide +kernel, rfl, by decide +kernel, by decide +kernel⟩
theorem ok_are_on_one_line {w : World} {K : PySem.W.Frag} {mg : Str → Option Value} {base : Heap} (Z : FX K mg) : OkF pg w K mg base (px K) 17 24 f_are_on_one_line := by
  obtain ⟨fd, F⟩ := Z.dd 24 _ _ rfl rfl
  have o_sure_points := ok_sure_points (w := w) (base := base) Z
  have o_are_all_in_line := ok_are_all_in_line (w := w) (base := base) Z
  have sc := sc_are_on_one_line
  refine okF_mk (K := K) (P := px K) (st := top 33) (k := 16) rfl F sc (F.bindsN (ps := ["points"]) fun _ _ _ _ _ _ us hl => match us, hl with | [_], _ => rfl) fun cdv A outer s H E hr => ?_
  exact (sss_one (ss_ret (se_callF o_are_all_in_line (hr.mono (by decide)) (Z.g 23 _ rfl) rfl (sa_cons (se_callF o_sure_points (hr.mono (by decide)) (Z.g 21 _ rfl) rfl (sa_cons (se_var 0) sa_nil)) sa_nil))))
def b_is_line_in : DEnv → M Out := (sSeq (sIf (tOrD (tNotD (tTr (eCall f_is_long (aCons (eVar 0) (aCons (eC (.int 3)) aNil))))) (tOrD (tNotD (tTr (eCall f_are_numbers (aCons (eVar 0) aNil)))) (tB (eBin eqD (eSl (eVar 0) oNone (oSome (eC (.int 2)))) (eTup (aCons (eC (.int 0)) (aCons (eC (.int 0)) aNil))))))) (sRet (eC (.bl false))) sNext) (sSeq (sSet 1 (eIf (tB (eBin neD (eBin ixD (eVar 0) (eC (.int 0))) (eC (.int 0)))) (eBin ixD (eVar 0) (eC (.int 0))) (eBin ixD (eVar 0) (eC (.int 1))))) (sRet (eAnd (eBin gtD (eVar 1) (eC (.int 0))) (eBin eqD (eCall f_common (aCons (eCall f_common (aCons (eBin ixD (eVar 0) (eC (.int 0))) (aCons (eBin ixD (eVar 0) (eC (.int 1))) aNil))) (aCons (eBin ixD (eVar 0) (eC (.int 2))) aNil))) (eC (.int 1)))))))
def f_is_line_in : List D → M D := runD 1 2 b_is_line_in
theorem sc_is_line_in : FnScope ["thing", "first"] ["thing"] (defScope (top 36)) := ⟨rfl, rfl, rfl, by decide +kernel, rfl, by decide +kernel, by decide +kernel⟩
theorem ok_is_line_in {w : World} {K : PySem.W.Frag} {mg : Str → Option Value} {base : Heap} (Z : FX K mg) : OkF pg w K mg base (px K) 5 25 f_is_line_in := by
  obtain ⟨fd, F⟩ := Z.dd 25 _ _ rfl rfl
  have o_is_long := ok_is_long (w := w) (base := base) Z
  have o_are_numbers := ok_are_numbers (w := w) (base := base) Z
  have o_common := ok_common (w := w) (base := base) Z
  have sc := sc_is_line_in
  refine okF_mk (K := K) (P := px K) (st := top 36) (k := 4) rfl F sc (F.bindsN (ps := ["thing"]) fun _ _ _ _ _ _ us hl => match us, hl with | [_], _ => rfl) fun cdv A outer s H E hr => ?_
  exact (sss_cons (ss_if (SWt.st (sw_or (st_not (st_tr (se_callF o_is_long (hr.mono (by decide)) (Z.g 3 _ rfl) rfl (sa_cons (se_var 0) (sa_cons se_int sa_nil))))) (sw_or (st_not (st_tr (se_callF o_are_numbers (hr.mono (by decide)) (Z.g 4 _ rfl) rfl (sa_cons (se_var 0) sa_nil)))) (sw_or1 (st_eq hr (se_slice (se_var 0) so_none (so_some se_int)) (se_tup (sa_cons se_int (sa_cons se_int sa_nil)))))))) (sss_one (ss_ret se_bl)) sss_nil) (sss_cons (ss_set 1 sc.nd (se_if (st_ne hr (se_ix (se_var 0) se_int) se_int) (se_ix (se_var 0) se_int) (se_ix (se_var 0) se_int))) (sss_one (ss_ret (se_and (se_gt (se_var 1) se_int) (se_one (se_eq hr (se_callF o_common (hr.mono (by decide)) (Z.g 6 _ rfl) rfl (sa_cons (se_callF o_common (hr.mono (by decide)) (Z.g 6 _ rfl) rfl (sa_cons (se_ix (se_var 0) se_int) (sa_cons (se_ix (se_var 0) se_int) sa_nil))) (sa_cons (se_ix (se_var 0) se_int) sa_nil))) se_int)))))))
def b_sure_line : DEnv → M Out := (sSeq (sSet 1 (eCall f_tupled (aCons (eVar 0) aNil))) (sSeq (sIf (tOrD (tNotD (tTr (eCall f_is_line_in (aCons (eVar 1) aNil)))) (tB (eBin gtD (eB maxLD (bCons (eF (fComp (iSeqD (eVar 1)) [2] (gVar 2) tYesD (eB absD (bCons (eVar 2) aNil)))) aNil)) (eC (.int (10000000000000000000000000000000000000000)))))) (sRaise 2) sNext) (sRet (eVar 1))))
def f_sure_line : List D → M D := runD 1 3 b_sure_line
theorem sc_sure_line : FnScope ["value", "own", "part"] ["value"] (defScope (top 37)) := ⟨rfl, rfl, rfl, by decide +kernel, rfl, by decide +kernel, by decide +kernel⟩
theorem ok_sure_line {w : World} {K : PySem.W.Frag} {mg : Str → Option Value} {base : Heap} (Z : FX K mg) : OkF pg w K mg base (px K) 16 26 f_sure_line := by
  obtain ⟨fd, F⟩ := Z.dd 26 _ _ rfl rfl
  have o_tupled := ok_tupled (w := w) (base := base) Z
  have o_is_line_in := ok_is_line_in (w := w) (base := base) Z
  obtain ⟨t_MOST_LINE, m_MOST_LINE⟩ := Z.it 3 _ _ rfl
  have sc := sc_sure_line
  refine okF_mk (K := K) (P := px K) (st := top 37) (k := 15) rfl F sc (F.bindsN (ps := ["value"]) fun _ _ _ _ _ _ us hl => match us, hl with | [_], _ => rfl) fun cdv A outer s H E hr => ?_
  exact (sss_cons (ss_set 1 sc.nd (se_callF o_tupled (hr.mono (by decide)) (Z.g 5 _ rfl) rfl (sa_cons (se_var 0) sa_nil))) (sss_cons (ss_if (SWt.st (sw_or (st_not (st_tr (se_callF o_is_line_in (hr.mono (by decide)) (Z.g 25 _ rfl) rfl (sa_cons (se_var 1) sa_nil)))) (sw_or1 (st_gt (se_maxL rfl rfl (Z.fr 10 _ rfl) (sb_cons (se_f (sf_comp (own := [("part", 2)]) rfl sc.nd (si_seq (se_var 1)) (blkOk_by (own := [("part", 2)]) (by kernel_rfl)) (by decide) (fun _ _ _ _ _ => (sg_var 2 sc.nd)) (fun _ _ _ _ _ => sts_nil) (fun _ _ _ _ _ => (se_abs rfl (Z.fr 1 _ rfl) (sb_cons (se_var 2) sb_nil))))) sb_nil)) (se_gint rfl m_MOST_LINE))))) (sss_one (ss_raise 2 rfl (Z.ex 2 _ rfl).2 (Z.ex 2 _ rfl).1 rfl)) sss_nil) (sss_one (ss_ret (se_var 1)))))
def b_line_by : DEnv → M Out := (sSeq (sSet 3 (eBin mulD (eBin mulD (eBin ixD (eVar 0) (eC (.int 1))) (eBin ixD (eVar 1) (eC (.int 1)))) (eBin ixD (eVar 2) (eC (.int 1))))) (sSeq (sSet 4 (eF (fComp (iSeqD (eTup (aCons (eVar 0) (aCons (eVar 1) (aCons (eVar 2) aNil))))) [5] (gVar 5) tYesD (eBin mulD (eBin ixD (eVar 5) (eC (.int 0))) (eBin fdivD (eVar 3) (eBin ixD (eVar 5) (eC (.int 1)))))))) (sSeq (sSet 6 (eCall f_common (aCons (eCall f_common (aCons (eBin ixD (eVar 4) (eC (.int 0))) (aCons (eBin ixD (eVar 4) (eC (.int 1))) aNil))) (aCons (eBin ixD (eVar 4) (eC (.int 2))) aNil)))) (sSeq (sSet 7 (eIf (tB (eBin neD (eBin ixD (eVar 4) (eC (.int 0))) (eC (.int 0)))) (eBin ixD (eVar 4) (eC (.int 0))) (eBin ixD (eVar 4) (eC (.int 1))))) (sSeq (sSet 6 (eIf (tB (eBin ltD (eVar 7) (eC (.int 0)))) (eUn negD (eVar 6)) (eVar 6))) (sRet (eB tupD (bCons (eF (fComp (iSeqD (eVar 4)) [5] (gVar 5) tYesD (eBin fdivD (eVar 5) (eVar 6)))) aNil))))))))
def f_line_by : List D → M D := runD 3 8 b_line_by
theorem sc_line_by : FnScope ["across", "up", "rest", "below", "whole", "own", "by", "first"] ["across", "up", "rest"] (defScope (top 38)) := ⟨rfl, rfl, rfl, by decide +kernel, rfl, by decide +kernel, by decide +kernel⟩
theorem ok_line_by {w : World} {K : PySem.W.Frag} {mg : Str → Option Value} {base : Heap} (Z : FX K mg) : OkF pg w K mg base (px K) 4 27 f_line_by := by
  obtain ⟨fd, F⟩ := Z.dd 27 _ _ rfl rfl
  have o_common := ok_common (w := w) (base := base) Z
  have sc := sc_line_by
  refine okF_mk (K := K) (P := px K) (st := top 38) (k := 3) rfl F sc (F.bindsN (ps := ["across", "up", "rest"]) fun _ _ _ _ _ _ us hl => match us, hl with | [_, _, _], _ => rfl) fun cdv A outer s H E hr => ?_
  exact (sss_cons (ss_set 3 sc.nd (se_mul (se_mul (se_ix (se_var 0) se_int) (se_ix (se_var 1) se_int)) (se_ix (se_var 2) se_int))) (sss_cons (ss_setC (own := [("own", 5)]) 4 rfl sc.nd (si_seq (se_tup (sa_cons (se_var 0) (sa_cons (se_var 1) (sa_cons (se_var 2) sa_nil))))) (blkOk_by (own := [("own", 5)]) (by kernel_rfl)) (by decide) (fun _ _ _ _ _ => (sg_var 5 sc.nd)) (fun _ _ _ _ _ => sts_nil) (fun _ _ _ _ _ => (se_mul (se_ix (se_var 5) se_int) (se_fdiv (se_var 3) (se_ix (se_var 5) se_int))))) (sss_cons (ss_set 6 sc.nd (se_callF o_common (hr.mono (by decide)) (Z.g 6 _ rfl) rfl (sa_cons (se_callF o_common (hr.mono (by decide)) (Z.g 6 _ rfl) rfl (sa_cons (se_ix (se_var 4) se_int) (sa_cons (se_ix (se_var 4) se_int) sa_nil))) (sa_cons (se_ix (se_var 4) se_int) sa_nil)))) (sss_cons (ss_set 7 sc.nd (se_if (st_ne hr (se_ix (se_var 4) se_int) se_int) (se_ix (se_var 4) se_int) (se_ix (se_var 4) se_int))) (sss_cons (ss_set 6 sc.nd (se_if (st_lt (se_var 7) se_int) (se_neg (se_var 6)) (se_var 6))) (sss_one (ss_ret (se_toTup rfl (Z.fr 17 _ rfl) (sb_cons (se_f (sf_comp (own := [("own", 5)]) rfl sc.nd (si_seq (se_var 4)) (blkOk_by (own := [("own", 5)]) (by kernel_rfl)) (by decide) (fun _ _ _ _ _ => (sg_var 5 sc.nd)) (fun _ _ _ _ _ => sts_nil) (fun _ _ _ _ _ => (se_fdiv (se_var 5) (se_var 6))))) sb_nil)))))))))
def b_line_in : DEnv → M Out := (sSeq (sPar 2 3 (aCons (eCall f_less (aCons (eBin ixD (eVar 0) (eC (.int 1))) (aCons (eBin ixD (eVar 1) (eC (.int 1))) aNil))) (aCons (eCall f_less (aCons (eBin ixD (eVar 1) (eC (.int 0))) (aCons (eBin ixD (eVar 0) (eC (.int 0))) aNil))) aNil))) (sSeq (sSet 4 (eCall f_plus (aCons (eCall f_times (aCons (eVar 2) (aCons (eBin ixD (eVar 0) (eC (.int 0))) aNil))) (aCons (eCall f_times (aCons (eVar 3) (aCons (eBin ixD (eVar 0) (eC (.int 1))) aNil))) aNil)))) (sRet (eCall f_line_by (aCons (eVar 2) (aCons (eVar 3) (aCons (eTup (aCons (eUn negD (eBin ixD (eVar 4) (eC (.int 0)))) (aCons (eBin ixD (eVar 4) (eC (.int 1))) aNil))) aNil)))))))
def f_line_in : List D → M D := runD 2 5 b_line_in
theorem sc_line_in : FnScope ["one", "other", "across", "up", "rest"] ["one", "other"] (defScope (top 39)) := ⟨rfl, rfl, rfl, by decide +kernel, rfl, by decide +kernel, by decide +kernel⟩
theorem ok_line_in {w : World} {K : PySem.W.Frag} {mg : Str → Option Value} {base : Heap} (Z : FX K mg) : OkF pg w K mg base (px K) 6 28 f_line_in := by
  obtain ⟨fd, F⟩ := Z.dd 28 _ _ rfl rfl
  have o_less := ok_less (w := w) (base := base) Z
  have o_times := ok_times (w := w) (base := base) Z
  have o_plus := ok_plus (w := w) (base := base) Z
  have o_line_by := ok_line_by (w := w) (base := base) Z
  have sc := sc_line_in
  refine okF_mk (K := K) (P := px K) (st := top 39) (k := 5) rfl F sc (F.bindsN (ps := ["one", "other"]) fun _ _ _ _ _ _ us hl => match us, hl with | [_, _], _ => rfl) fun cdv A outer s H E hr => ?_
  exact (sss_cons (ss_par 2 3 rfl sc.nd (sa_cons (se_callF o_less (hr.mono (by decide)) (Z.g 11 _ rfl) rfl (sa_cons (se_ix (se_var 0) se_int) (sa_cons (se_ix (se_var 1) se_int) sa_nil))) (sa_cons (se_callF o_less (hr.mono (by decide)) (Z.g 11 _ rfl) rfl (sa_cons (se_ix (se_var 1) se_int) (sa_cons (se_ix (se_var 0) se_int) sa_nil))) sa_nil))) (sss_cons (ss_set 4 sc.nd (se_callF o_plus (hr.mono (by decide)) (Z.g 10 _ rfl) rfl (sa_cons (se_callF o_times (hr.mono (by decide)) (Z.g 12 _ rfl) rfl (sa_cons (se_var 2) (sa_cons (se_ix (se_var 0) se_int) sa_nil))) (sa_cons (se_callF o_times (hr.mono (by decide)) (Z.g 12 _ rfl) rfl (sa_cons (se_var 3) (sa_cons (se_ix (se_var 0) se_int) sa_nil))) sa_nil)))) (sss_one (ss_ret (se_callF o_line_by (hr.mono (by decide)) (Z.g 27 _ rfl) rfl (sa_cons (se_var 2) (sa_cons (se_var 3) (sa_cons (se_tup (sa_cons (se_neg (se_ix (se_var 4) se_int)) (sa_cons (se_ix (se_var 4) se_int) sa_nil))) sa_nil))))))))
def b_height_at : DEnv → M Out := (sSeq (sPar 2 3 (aCons (eCall f_times (aCons (eTup (aCons (eBin ixD (eVar 0) (eC (.int 0))) (aCons (eC (.int 1)) aNil))) (aCons (eBin ixD (eVar 1) (eC (.int 0))) aNil))) (aCons (eCall f_times (aCons (eTup (aCons (eBin ixD (eVar 0) (eC (.int 1))) (aCons (eC (.int 1)) aNil))) (aCons (eBin ixD (eVar 1) (eC (.int 1))) aNil))) aNil))) (sRet (eCall f_plus (aCons (eCall f_plus (aCons (eVar 2) (aCons (eVar 3) aNil))) (aCons (eTup (aCons (eBin ixD (eVar 0) (eC (.int 2))) (aCons (eC (.int 1)) aNil))) aNil)))))
def f_height_at : List D → M D := runD 2 4 b_height_at
theorem sc_height_at : FnScope ["line", "point", "across", "up"] ["line", "point"] (defScope (top 40)) := ⟨rfl, rfl, rfl, by decide +kernel, rfl, by decide +kernel, by decide +kernel⟩
theorem ok_height_at {w : World} {K : PySem.W.Frag} {mg : Str → Option Value} {base : Heap} (Z : FX K mg) : OkF pg w K mg base (px K) 6 29 f_height_at := by
  obtain ⟨fd, F⟩ := Z.dd 29 _ _ rfl rfl
  have o_times := ok_times (w := w) (base := base) Z
  have o_plus := ok_plus (w := w) (base := base) Z
  have sc := sc_height_at
  refine okF_mk (K := K) (P := px K) (st := top 40) (k := 5) rfl F sc (F.bindsN (ps := ["line", "point"]) fun _ _ _ _ _ _ us hl => match us, hl with | [_, _], _ => rfl) fun cdv A outer s H E hr => ?_
  exact (sss_cons (ss_par 2 3 rfl sc.nd (sa_cons (se_callF o_times (hr.mono (by decide)) (Z.g 12 _ rfl) rfl (sa_cons (se_tup (sa_cons (se_ix (se_var 0) se_int) (sa_cons se_int sa_nil))) (sa_cons (se_ix (se_var 1) se_int) sa_nil))) (sa_cons (se_callF o_times (hr.mono (by decide)) (Z.g 12 _ rfl) rfl (sa_cons (se_tup (sa_cons (se_ix (se_var 0) se_int) (sa_cons se_int sa_nil))) (sa_cons (se_ix (se_var 1) se_int) sa_nil))) sa_nil))) (sss_one (ss_ret (se_callF o_plus (hr.mono (by decide)) (Z.g 10 _ rfl) rfl (sa_cons (se_callF o_plus (hr.mono (by decide)) (Z.g 10 _ rfl) rfl (sa_cons (se_var 2) (sa_cons (se_var 3) sa_nil))) (sa_cons (se_tup (sa_cons (se_ix (se_var 0) se_int) (sa_cons se_int sa_nil))) sa_nil))))))
def b_is_on : DEnv → M Out := (sRet (eBin eqD (eBin ixD (eCall f_height_at (aCons (eVar 0) (aCons (eVar 1) aNil))) (eC (.int 0))) (eC (.int 0))))
def f_is_on : List D → M D := runD 2 2 b_is_on
theorem sc_is_on : FnScope ["line", "point"] ["line", "point"] (defScope (top 41)) := ⟨rfl, rfl, rfl, by decide +kernel, rfl, by decide +kernel, by decide +kernel⟩
theorem ok_is_on {w : World} {K : PySem.W.Frag} {mg : Str → Option Value} {base : Heap} (Z : FX K mg) : OkF pg w K mg base (px K) 7 30 f_is_on := by
  obtain ⟨fd, F⟩ := Z.dd 30 _ _ rfl rfl
  have o_height_at := ok_height_at (w := w) (base := base) Z
  have sc := sc_is_on
  refine okF_mk (K := K) (P := px K) (st := top 41) (k := 6) rfl F sc (F.bindsN (ps := ["line", "point"]) fun _ _ _ _ _ _ us hl => match us, hl with | [_, _], _ => rfl) fun cdv A outer s H E hr => ?_
  exact (sss_one (ss_ret (se_eq hr (se_ix (se_callF o_height_at (hr.mono (by decide)) (Z.g 29 _ rfl) rfl (sa_cons (se_var 0) (sa_cons (se_var 1) sa_nil))) se_int) se_int)))
def b_along_in : DEnv → M Out := (sRet (eCall f_less (aCons (eCall f_times (aCons (eTup (aCons (eBin ixD (eVar 0) (eC (.int 1))) (aCons (eC (.int 1)) aNil))) (aCons (eBin ixD (eVar 1) (eC (.int 0))) aNil))) (aCons (eCall f_times (aCons (eTup (aCons (eBin ixD (eVar 0) (eC (.int 0))) (aCons (eC (.int 1)) aNil))) (aCons (eBin ixD (eVar 1) (eC (.int 1))) aNil))) aNil))))
def f_along_in : List D → M D := runD 2 2 b_along_in
theorem sc_along_in : FnScope ["line", "point"] ["line", "point"] (defScope (top 42)) := ⟨rfl, rfl, rfl, by decide +kernel, rfl, by decide +kernel, by decide +kernel⟩
theorem ok_along_in {w : World} {K : PySem.W.Frag} {mg : Str → Option Value} {base : Heap} (Z : FX K mg) : OkF pg w K mg base (px K) 6 31 f_along_in := by
  obtain ⟨fd, F⟩ := Z.dd 31 _ _ rfl rfl
  have o_times := ok_times (w := w) (base := base) Z
  have o_less := ok_less (w := w) (base := base) Z
  have sc := sc_along_in
  refine okF_mk (K := K) (P := px K) (st := top 42) (k := 5) rfl F sc (F.bindsN (ps := ["line", "point"]) fun _ _ _ _ _ _ us hl => match us, hl with | [_, _], _ => rfl) fun cdv A outer s H E hr => ?_
  exact (sss_one (ss_ret (se_callF o_less (hr.mono (by decide)) (Z.g 11 _ rfl) rfl (sa_cons (se_callF o_times (hr.mono (by decide)) (Z.g 12 _ rfl) rfl (sa_cons (se_tup (sa_cons (se_ix (se_var 0) se_int) (sa_cons se_int sa_nil))) (sa_cons (se_ix (se_var 1) se_int) sa_nil))) (sa_cons (se_callF o_times (hr.mono (by decide)) (Z.g 12 _ rfl) rfl (sa_cons (se_tup (sa_cons (se_ix (se_var 0) se_int) (sa_cons se_int sa_nil))) (sa_cons (se_ix (se_var 1) se_int) sa_nil))) sa_nil)))))
end Lw

set_option Elab.async false
set_option linter.all false
set_option maxRecDepth 100000
set_option maxHeartbeats 4000000
namespace Lw
open PySem PySem.Spec PyProof.Rows L2 Pu
def b_foot_in : DEnv → M Out := (sSeq (sSet 2 (eCall f_over (aCons (eCall f_height_at (aCons (eVar 0) (aCons (eVar 1) aNil))) (aCons (eTup (aCons (eBin addD (eBin mulD (eBin ixD (eVar 0) (eC (.int 0))) (eBin ixD (eVar 0) (eC (.int 0)))) (eBin mulD (eBin ixD (eVar 0) (eC (.int 1))) (eBin ixD (eVar 0) (eC (.int 1))))) (aCons (eC (.int 1)) aNil))) aNil)))) (sRet (eTup (aCons (eCall f_less (aCons (eBin ixD (eVar 1) (eC (.int 0))) (aCons (eCall f_times (aCons (eVar 2) (aCons (eTup (aCons (eBin ixD (eVar 0) (eC (.int 0))) (aCons (eC (.int 1)) aNil))) aNil))) aNil))) (aCons (eCall f_less (aCons (eBin ixD (eVar 1) (eC (.int 1))) (aCons (eCall f_times (aCons (eVar 2) (aCons (eTup (aCons (eBin ixD (eVar 0) (eC (.int 1))) (aCons (eC (.int 1)) aNil))) aNil))) aNil))) aNil)))))
def f_foot_in : List D → M D := runD 2 3 b_foot_in
theorem sc_foot_in : FnScope ["line", "point", "by"] ["line", "point"] (defScope (top 43)) := ⟨rfl, rfl, rfl, by decide +kernel, rfl, by decide +kernel, by decide +kernel⟩
theorem ok_foot_in {w : World} {K : PySem.W.Frag} {mg : Str → Option Value} {base : Heap} (Z : FX K mg) : OkF pg w K mg base (px K) 7 32 f_foot_in := by
  obtain ⟨fd, F⟩ := Z.dd 32 _ _ rfl rfl
  have o_height_at := ok_height_at (w := w) (base := base) Z
  have o_over := ok_over (w := w) (base := base) Z
  have o_times := ok_times (w := w) (base := base) Z
  have o_less := ok_less (w := w) (base := base) Z
  have sc := sc_foot_in
  refine okF_mk (K := K) (P := px K) (st := top 43) (k := 6) rfl F sc (F.bindsN (ps := ["line", "point"]) fun _ _ _ _ _ _ us hl => match us, hl with | [_, _], _ => rfl) fun cdv A outer s H E hr => ?_
  exact (sss_cons (ss_set 2 sc.nd (se_callF o_over (hr.mono (by decide)) (Z.g 13 _ rfl) rfl (sa_cons (se_callF o_height_at (hr.mono (by decide)) (Z.g 29 _ rfl) rfl (sa_cons (se_var 0) (sa_cons (se_var 1) sa_nil))) (sa_cons (se_tup (sa_cons (se_add (se_mul (se_ix (se_var 0) se_int) (se_ix (se_var 0) se_int)) (se_mul (se_ix (se_var 0) se_int) (se_ix (se_var 0) se_int))) (sa_cons se_int sa_nil))) sa_nil)))) (sss_one (ss_ret (se_tup (sa_cons (se_callF o_less (hr.mono (by decide)) (Z.g 11 _ rfl) rfl (sa_cons (se_ix (se_var 1) se_int) (sa_cons (se_callF o_times (hr.mono (by decide)) (Z.g 12 _ rfl) rfl (sa_cons (se_var 2) (sa_cons (se_tup (sa_cons (se_ix (se_var 0) se_int) (sa_cons se_int sa_nil))) sa_nil))) sa_nil))) (sa_cons (se_callF o_less (hr.mono (by decide)) (Z.g 11 _ rfl) rfl (sa_cons (se_ix (se_var 1) se_int) (sa_cons (se_callF o_times (hr.mono (by decide)) (Z.g 12 _ rfl) rfl (sa_cons (se_var 2) (sa_cons (se_tup (sa_cons (se_ix (se_var 0) se_int) (sa_cons se_int sa_nil))) sa_nil))) sa_nil))) sa_nil))))))
def b_square_to : DEnv → M Out := (sSeq (sSet 2 (eCall f_height_at (aCons (eVar 0) (aCons (eVar 1) aNil)))) (sRet (eCall f_over (aCons (eCall f_times (aCons (eVar 2) (aCons (eVar 2) aNil))) (aCons (eTup (aCons (eBin addD (eBin mulD (eBin ixD (eVar 0) (eC (.int 0))) (eBin ixD (eVar 0) (eC (.int 0)))) (eBin mulD (eBin ixD (eVar 0) (eC (.int 1))) (eBin ixD (eVar 0) (eC (.int 1))))) (aCons (eC (.int 1)) aNil))) aNil)))))
def f_square_to : List D → M D := runD 2 3 b_square_to
theorem sc_square_to : FnScope ["line", "point", "high"] ["line", "point"] (defScope (top 44)) := ⟨rfl, rfl, rfl, by decide +kernel, rfl, by decide +kernel, by decide +kernel⟩
theorem ok_square_to {w : World} {K : PySem.W.Frag} {mg : Str → Option Value} {base : Heap} (Z : FX K mg) : OkF pg w K mg base (px K) 7 33 f_square_to := by
  obtain ⟨fd, F⟩ := Z.dd 33 _ _ rfl rfl
  have o_height_at := ok_height_at (w := w) (base := base) Z
  have o_times := ok_times (w := w) (base := base) Z
  have o_over := ok_over (w := w) (base := base) Z
  have sc := sc_square_to
  refine okF_mk (K := K) (P := px K) (st := top 44) (k := 6) rfl F sc (F.bindsN (ps := ["line", "point"]) fun _ _ _ _ _ _ us hl => match us, hl with | [_, _], _ => rfl) fun cdv A outer s H E hr => ?_
  exact (sss_cons (ss_set 2 sc.nd (se_callF o_height_at (hr.mono (by decide)) (Z.g 29 _ rfl) rfl (sa_cons (se_var 0) (sa_cons (se_var 1) sa_nil)))) (sss_one (ss_ret (se_callF o_over (hr.mono (by decide)) (Z.g 13 _ rfl) rfl (sa_cons (se_callF o_times (hr.mono (by decide)) (Z.g 12 _ rfl) rfl (sa_cons (se_var 2) (sa_cons (se_var 2) sa_nil))) (sa_cons (se_tup (sa_cons (se_add (se_mul (se_ix (se_var 0) se_int) (se_ix (se_var 0) se_int)) (se_mul (se_ix (se_var 0) se_int) (se_ix (se_var 0) se_int))) (sa_cons se_int sa_nil))) sa_nil))))))
def b_meeting : DEnv → M Out := (sSeq (sSet 2 (eBin subD (eBin mulD (eBin ixD (eVar 0) (eC (.int 0))) (eBin ixD (eVar 1) (eC (.int 1)))) (eBin mulD (eBin ixD (eVar 1) (eC (.int 0))) (eBin ixD (eVar 0) (eC (.int 1)))))) (sSeq (sIf (tB (eBin eqD (eVar 2) (eC (.int 0)))) (sRet (eC .non)) sNext) (sSeq (sSet 3 (eBin subD (eBin mulD (eBin ixD (eVar 0) (eC (.int 1))) (eBin ixD (eVar 1) (eC (.int 2)))) (eBin mulD (eBin ixD (eVar 1) (eC (.int 1))) (eBin ixD (eVar 0) (eC (.int 2)))))) (sRet (eTup (aCons (eCall f_lowest (aCons (eVar 3) (aCons (eVar 2) aNil))) (aCons (eCall f_lowest (aCons (eBin subD (eBin mulD (eBin ixD (eVar 0) (eC (.int 2))) (eBin ixD (eVar 1) (eC (.int 0)))) (eBin mulD (eBin ixD (eVar 1) (eC (.int 2))) (eBin ixD (eVar 0) (eC (.int 0))))) (aCons (eVar 2) aNil))) aNil)))))))
def f_meeting : List D → M D := runD 2 4 b_meeting
theorem sc_meeting : FnScope ["one", "other", "below", "across"] ["one", "other"] (defScope (top 45)) := ⟨rfl, rfl, rfl, by decide +kernel, rfl, by decide +kernel, by decide +kernel⟩
theorem ok_meeting {w : World} {K : PySem.W.Frag} {mg : Str → Option Value} {base : Heap} (Z : FX K mg) : OkF pg w K mg base (px K) 5 34 f_meeting := by
  obtain ⟨fd, F⟩ := Z.dd 34 _ _ rfl rfl
  have o_lowest := ok_lowest (w := w) (base := base) Z
  have sc := sc_meeting
  refine okF_mk (K := K) (P := px K) (st := top 45) (k := 4) rfl F sc (F.bindsN (ps := ["one", "other"]) fun _ _ _ _ _ _ us hl => match us, hl with | [_, _], _ => rfl) fun cdv A outer s H E hr => ?_
  exact (sss_cons (ss_set 2 sc.nd (se_sub (se_mul (se_ix (se_var 0) se_int) (se_ix (se_var 1) se_int)) (se_mul (se_ix (se_var 1) se_int) (se_ix (se_var 0) se_int)))) (sss_cons (ss_if (st_eq hr (se_var 2) se_int) (sss_one (ss_ret se_non)) sss_nil) (sss_cons (ss_set 3 sc.nd (se_sub (se_mul (se_ix (se_var 0) se_int) (se_ix (se_var 1) se_int)) (se_mul (se_ix (se_var 1) se_int) (se_ix (se_var 0) se_int)))) (sss_one (ss_ret (se_tup (sa_cons (se_callF o_lowest (hr.mono (by decide)) (Z.g 8 _ rfl) rfl (sa_cons (se_var 3) (sa_cons (se_var 2) sa_nil))) (sa_cons (se_callF o_lowest (hr.mono (by decide)) (Z.g 8 _ rfl) rfl (sa_cons (se_sub (se_mul (se_ix (se_var 0) se_int) (se_ix (se_var 1) se_int)) (se_mul (se_ix (se_var 1) se_int) (se_ix (se_var 0) se_int))) (sa_cons (se_var 2) sa_nil))) sa_nil))))))))
def b_lines_in : DEnv → M Out := sLines (iEnumD (aCons (eVar 0) aNil)) (gTupD 2 (gConsD (gVar 2) (gConsD (gVar 3) gNilD))) (iRng1D (aCons (eVar 2) aNil)) (gVar 4) (eCall f_line_in (aCons (eBin ixD (eVar 0) (eVar 4)) (aCons (eVar 3) aNil))) [5, 6] (gTupD 2 (gConsD (gVar 5) (gConsD (gVar 6) gNilD))) (eTup (aCons (eVar 5) (aCons (eB tupD (bCons (eVar 6) aNil)) aNil)))
def f_lines_in : List D → M D := runD 1 7 b_lines_in
theorem sc_lines_in : FnScope ["points", "found", "place", "own", "its", "line", "places"] ["points"] (defScope (top 46)) := ⟨rfl, rfl, rfl, by decide +kernel, rfl, by decide +kernel, by decide +kernel⟩
theorem ok_lines_in {w : World} {K : PySem.W.Frag} {mg : Str → Option Value} {base : Heap} (Z : FX K mg) : OkF pg w K mg base (px K) 7 35 f_lines_in := by
  obtain ⟨fd, F⟩ := Z.dd 35 _ _ rfl rfl
  have o_line_in := ok_line_in (w := w) (base := base) Z
  have sc := sc_lines_in
  refine okF_mk (K := K) (P := px K) (st := top 46) (k := 6) rfl F sc (F.bindsN (ps := ["points"]) fun _ _ _ _ _ _ us hl => match us, hl with | [_], _ => rfl) fun cdv A outer s H E hr => ?_
  exact (sss_lines (own := [("line", 5), ("places", 6)]) hr rfl sc.nd (passes_of rfl) rfl (Z.fr 14 _ rfl) rfl (Z.fr 13 _ rfl) (si_enum rfl (Z.fr 5 _ rfl) (sa_cons (se_var 0) sa_nil)) (sg_tup rfl (sgs_cons (sg_var 2 sc.nd) (sgs_cons (sg_var 3 sc.nd) sgs_nil))) (si_range1 rfl (Z.fr 12 _ rfl) (sa_cons (se_var 2) sa_nil)) (sg_var 4 sc.nd) (se_callF o_line_in (hr.mono (by decide)) (Z.g 28 _ rfl) rfl (sa_cons (se_ix (se_var 0) (se_var 4)) (sa_cons (se_var 3) sa_nil))) (by decide) (by decide) rfl rfl rfl rfl rfl rfl rfl rfl (by decide) (by decide) (by decide) (by decide) (by decide) (by decide) (by decide) (by decide) (blkOk_by (own := [("line", 5), ("places", 6)]) (by kernel_rfl)) (by decide) (fun _ _ _ _ _ => (sg_tup rfl (sgs_cons (sg_var 5 sc.nd) (sgs_cons (sg_var 6 sc.nd) sgs_nil)))) (fun _ _ _ _ _ => (se_tup (sa_cons (se_var 5) (sa_cons (se_toTup rfl (Z.fr 17 _ rfl) (sb_cons (se_var 6) sb_nil)) sa_nil)))) rfl rfl rfl (fun _ => rfl) (fun _ => rfl) rfl ⟨rfl, rfl, rfl, rfl⟩ rfl)
def b_line_through : DEnv → M Out := (sSeq (sSet 2 (eCall f_sure_point (aCons (eVar 0) aNil))) (sSeq (sSet 3 (eCall f_sure_point (aCons (eVar 1) aNil))) (sSeq (sIf (tB (eBin eqD (eVar 2) (eVar 3))) (sRaise 0) sNext) (sRet (eCall f_line_in (aCons (eVar 2) (aCons (eVar 3) aNil)))))))
def f_line_through : List D → M D := runD 2 4 b_line_through
theorem sc_line_through : FnScope ["one", "other", "near", "far"] ["one", "other"] (defScope (top 47)) := ⟨rfl, rfl, rfl, by decide +kernel, rfl, by decide +kernel, by decide +kernel⟩
theorem ok_line_through {w : World} {K : PySem.W.Frag} {mg : Str → Option Value} {base : Heap} (Z : FX K mg) : OkF pg w K mg base (px K) 17 36 f_line_through := by
  obtain ⟨fd, F⟩ := Z.dd 36 _ _ rfl rfl
  have o_sure_point := ok_sure_point (w := w) (base := base) Z
  have o_line_in := ok_line_in (w := w) (base := base) Z
  have sc := sc_line_through
  refine okF_mk (K := K) (P := px K) (st := top 47) (k := 16) rfl F sc (F.bindsN (ps := ["one", "other"]) fun _ _ _ _ _ _ us hl => match us, hl with | [_, _], _ => rfl) fun cdv A outer s H E hr => ?_
  exact (sss_cons (ss_set 2 sc.nd (se_callF o_sure_point (hr.mono (by decide)) (Z.g 20 _ rfl) rfl (sa_cons (se_var 0) sa_nil))) (sss_cons (ss_set 3 sc.nd (se_callF o_sure_point (hr.mono (by decide)) (Z.g 20 _ rfl) rfl (sa_cons (se_var 1) sa_nil))) (sss_cons (ss_if (st_eq hr (se_var 2) (se_var 3)) (sss_one (ss_raise 0 rfl (Z.ex 0 _ rfl).2 (Z.ex 0 _ rfl).1 rfl)) sss_nil) (sss_one (ss_ret (se_callF o_line_in (hr.mono (by decide)) (Z.g 28 _ rfl) rfl (sa_cons (se_var 2) (sa_cons (se_var 3) sa_nil))))))))
def b_lies_on : DEnv → M Out := (sSeq (sSet 2 (eCall f_sure_point (aCons (eVar 0) aNil))) (sRet (eCall f_is_on (aCons (eCall f_sure_line (aCons (eVar 1) aNil)) (aCons (eVar 2) aNil)))))
def f_lies_on : List D → M D := runD 2 3 b_lies_on
theorem sc_lies_on : FnScope ["point", "line", "own"] ["point", "line"] (defScope (top 48)) := ⟨rfl, rfl, rfl, by decide +kernel, rfl, by decide +kernel, by decide +kernel⟩
theorem ok_lies_on {w : World} {K : PySem.W.Frag} {mg : Str → Option Value} {base : Heap} (Z : FX K mg) : OkF pg w K mg base (px K) 17 37 f_lies_on := by
  obtain ⟨fd, F⟩ := Z.dd 37 _ _ rfl rfl
  have o_sure_point := ok_sure_point (w := w) (base := base) Z
  have o_sure_line := ok_sure_line (w := w) (base := base) Z
  have o_is_on := ok_is_on (w := w) (base := base) Z
  have sc := sc_lies_on
  refine okF_mk (K := K) (P := px K) (st := top 48) (k := 16) rfl F sc (F.bindsN (ps := ["point", "line"]) fun _ _ _ _ _ _ us hl => match us, hl with | [_, _], _ => rfl) fun cdv A outer s H E hr => ?_
  exact (sss_cons (ss_set 2 sc.nd (se_callF o_sure_point (hr.mono (by decide)) (Z.g 20 _ rfl) rfl (sa_cons (se_var 0) sa_nil))) (sss_one (ss_ret (se_callF o_is_on (hr.mono (by decide)) (Z.g 30 _ rfl) rfl (sa_cons (se_callF o_sure_line (hr.mono (by decide)) (Z.g 26 _ rfl) rfl (sa_cons (se_var 1) sa_nil)) (sa_cons (se_var 2) sa_nil))))))
def b_meet_of : DEnv → M Out := (sSeq (sSet 2 (eCall f_sure_line (aCons (eVar 0) aNil))) (sSeq (sSet 3 (eCall f_meeting (aCons (eVar 2) (aCons (eCall f_sure_line (aCons (eVar 1) aNil)) aNil)))) (sSeq (sIf (tB (eUn isNonD (eVar 3))) (sRaise 0) sNext) (sRet (eVar 3)))))
def f_meet_of : List D → M D := runD 2 4 b_meet_of
theorem sc_meet_of : FnScope ["one", "other", "near", "found"] ["one", "other"] (defScope (top 49)) := ⟨rfl, rfl, rfl, by decide +kernel, rfl, by decide +kernel, by decide +kernel⟩
theorem ok_meet_of {w : World} {K : PySem.W.Frag} {mg : Str → Option Value} {base : Heap} (Z : FX K mg) : OkF pg w K mg base (px K) 17 38 f_meet_of := by
  obtain ⟨fd, F⟩ := Z.dd 38 _ _ rfl rfl
  have o_sure_line := ok_sure_line (w := w) (base := base) Z
  have o_meeting := ok_meeting (w := w) (base := base) Z
  have sc := sc_meet_of
  refine okF_mk (K := K) (P := px K) (st := top 49) (k := 16) rfl F sc (F.bindsN (ps := ["one", "other"]) fun _ _ _ _ _ _ us hl => match us, hl with | [_, _], _ => rfl) fun cdv A outer s H E hr => ?_
  exact (sss_cons (ss_set 2 sc.nd (se_callF o_sure_line (hr.mono (by decide)) (Z.g 26 _ rfl) rfl (sa_cons (se_var 0) sa_nil))) (sss_cons (ss_set 3 sc.nd (se_callF o_meeting (hr.mono (by decide)) (Z.g 34 _ rfl) rfl (sa_cons (se_var 2) (sa_cons (se_callF o_sure_line (hr.mono (by decide)) (Z.g 26 _ rfl) rfl (sa_cons (se_var 1) sa_nil)) sa_nil)))) (sss_cons (ss_if (st_isN (se_var 3)) (sss_one (ss_raise 0 rfl (Z.ex 0 _ rfl).2 (Z.ex 0 _ rfl).1 rfl)) sss_nil) (sss_one (ss_ret (se_var 3))))))
def b_foot_of : DEnv → M Out := (sSeq (sSet 2 (eCall f_sure_point (aCons (eVar 0) aNil))) (sRet (eCall f_foot_in (aCons (eCall f_sure_line (aCons (eVar 1) aNil)) (aCons (eVar 2) aNil)))))
def f_foot_of : List D → M D := runD 2 3 b_foot_of
theorem sc_foot_of : FnScope ["point", "line", "own"] ["point", "line"] (defScope (top 50)) := ⟨rfl, rfl, rfl, by decide +kernel, rfl, by decide +kernel, by decide +kernel⟩
theorem ok_foot_of {w : World} {K : PySem.W.Frag} {mg : Str → Option Value} {base : Heap} (Z : FX K mg) : OkF pg w K mg base (px K) 17 39 f_foot_of := by
  obtain ⟨fd, F⟩ := Z.dd 39 _ _ rfl rfl
  have o_sure_point := ok_sure_point (w := w) (base := base) Z
  have o_sure_line := ok_sure_line (w := w) (base := base) Z
  have o_foot_in := ok_foot_in (w := w) (base := base) Z
  have sc := sc_foot_of
  refine okF_mk (K := K) (P := px K) (st := top 50) (k := 16) rfl F sc (F.bindsN (ps := ["point", "line"]) fun _ _ _ _ _ _ us hl => match us, hl with | [_, _], _ => rfl) fun cdv A outer s H E hr => ?_
  exact (sss_cons (ss_set 2 sc.nd (se_callF o_sure_point (hr.mono (by decide)) (Z.g 20 _ rfl) rfl (sa_cons (se_var 0) sa_nil))) (sss_one (ss_ret (se_callF o_foot_in (hr.mono (by decide)) (Z.g 32 _ rfl) rfl (sa_cons (se_callF o_sure_line (hr.mono (by decide)) (Z.g 26 _ rfl) rfl (sa_cons (se_var 1) sa_nil)) (sa_cons (se_var 2) sa_nil))))))
end Lw

set_option Elab.async false
set_option linter.all false
set_option maxRecDepth 100000
set_option maxHeartbeats 4000000
namespace Lw
open PySem PySem.Spec PyProof.Rows L2 Pu
def b_squared_to : DEnv → M Out := (sSeq (sSet 2 (eCall f_sure_point (aCons (eVar 0) aNil))) (sRet (eCall f_square_to (aCons (eCall f_sure_line (aCons (eVar 1) aNil)) (aCons (eVar 2) aNil)))))
def f_squared_to : List D → M D := runD 2 3 b_squared_to
theorem sc_squared_to : FnScope ["point", "line", "own"] ["point", "line"] (defScope (top 51)) := ⟨rfl, rfl, rfl, by decide +kernel, rfl, by decide +kernel, by decide +kernel⟩
theorem ok_squared_to {w : World} {K : PySem.W.Frag} {mg : Str → Option Value} {base : Heap} (Z : FX K mg) : OkF pg w K mg base (px K) 17 40 f_squared_to := by
  obtain ⟨fd, F⟩ := Z.dd 40 _ _ rfl rfl
  have o_sure_point := ok_sure_point (w := w) (base := base) Z
  have o_sure_line := ok_sure_line (w := w) (base := base) Z
  have o_square_to := ok_square_to (w := w) (base := base) Z
  have sc := sc_squared_to
  refine okF_mk (K := K) (P := px K) (st := top 51) (k := 16) rfl F sc (F.bindsN (ps := ["point", "line"]) fun _ _ _ _ _ _ us hl => match us, hl with | [_, _], _ => rfl) fun cdv A outer s H E hr => ?_
  exact (sss_cons (ss_set 2 sc.nd (se_callF o_sure_point (hr.mono (by decide)) (Z.g 20 _ rfl) rfl (sa_cons (se_var 0) sa_nil))) (sss_one (ss_ret (se_callF o_square_to (hr.mono (by decide)) (Z.g 33 _ rfl) rfl (sa_cons (se_callF o_sure_line (hr.mono (by decide)) (Z.g 26 _ rfl) rfl (sa_cons (se_var 1) sa_nil)) (sa_cons (se_var 2) sa_nil))))))
def b_along : DEnv → M Out := (sSeq (sSet 2 (eCall f_sure_point (aCons (eVar 0) aNil))) (sRet (eCall f_along_in (aCons (eCall f_sure_line (aCons (eVar 1) aNil)) (aCons (eVar 2) aNil)))))
def f_along : List D → M D := runD 2 3 b_along
theorem sc_along : FnScope ["point", "line", "own"] ["point", "line"] (defScope (top 52)) := ⟨rfl, rfl, rfl, by decide +kernel, rfl, by decide +kernel, by decide +kernel⟩
theorem ok_along {w : World} {K : PySem.W.Frag} {mg : Str → Option Value} {base : Heap} (Z : FX K mg) : OkF pg w K mg base (px K) 17 41 f_along := by
  obtain ⟨fd, F⟩ := Z.dd 41 _ _ rfl rfl
  have o_sure_point := ok_sure_point (w := w) (base := base) Z
  have o_sure_line := ok_sure_line (w := w) (base := base) Z
  have o_along_in := ok_along_in (w := w) (base := base) Z
  have sc := sc_along
  refine okF_mk (K := K) (P := px K) (st := top 52) (k := 16) rfl F sc (F.bindsN (ps := ["point", "line"]) fun _ _ _ _ _ _ us hl => match us, hl with | [_, _], _ => rfl) fun cdv A outer s H E hr => ?_
  exact (sss_cons (ss_set 2 sc.nd (se_callF o_sure_point (hr.mono (by decide)) (Z.g 20 _ rfl) rfl (sa_cons (se_var 0) sa_nil))) (sss_one (ss_ret (se_callF o_along_in (hr.mono (by decide)) (Z.g 31 _ rfl) rfl (sa_cons (se_callF o_sure_line (hr.mono (by decide)) (Z.g 26 _ rfl) rfl (sa_cons (se_var 1) sa_nil)) (sa_cons (se_var 2) sa_nil))))))
def b_lines_of : DEnv → M Out := (sRet (eB tupD (bCons (eCall f_lines_in (aCons (eCall f_sure_points (aCons (eVar 0) aNil)) aNil)) aNil)))
def f_lines_of : List D → M D := runD 1 1 b_lines_of
theorem sc_lines_of : FnScope ["points"] ["points"] (defScope (top 53)) := ⟨rfl, rfl, rfl, by decide +kernel, rfl, by decide +kernel, by decide +kernel⟩
theorem ok_lines_of {w : World} {K : PySem.W.Frag} {mg : Str → Option Value} {base : Heap} (Z : FX K mg) : OkF pg w K mg base (px K) 17 42 f_lines_of := by
  obtain ⟨fd, F⟩ := Z.dd 42 _ _ rfl rfl
  have o_sure_points := ok_sure_points (w := w) (base := base) Z
  have o_lines_in := ok_lines_in (w := w) (base := base) Z
  have sc := sc_lines_of
  refine okF_mk (K := K) (P := px K) (st := top 53) (k := 16) rfl F sc (F.bindsN (ps := ["points"]) fun _ _ _ _ _ _ us hl => match us, hl with | [_], _ => rfl) fun cdv A outer s H E hr => ?_
  exact (sss_one (ss_ret (se_toTup rfl (Z.fr 17 _ rfl) (sb_cons (se_callF o_lines_in (hr.mono (by decide)) (Z.g 35 _ rfl) rfl (sa_cons (se_callF o_sure_points (hr.mono (by decide)) (Z.g 21 _ rfl) rfl (sa_cons (se_var 0) sa_nil)) sa_nil)) sb_nil))))
def b_lines_with : DEnv → M Out := (sSeq (sSet 2 (eCall f_sure_points (aCons (eVar 0) aNil))) (sSeq (sSet 3 (eCall f_sure_within (aCons (eVar 1) (aCons (eC (.int 2)) (aCons (eC (.int (30))) aNil))))) (sRet (eB tupD (bCons (eF (fComp (iSeqD (eCall f_lines_in (aCons (eVar 2) aNil))) [4, 5] (gTupD 2 (gConsD (gVar 4) (gConsD (gVar 5) gNilD))) (tB (eBin eqD (eB lenD (bCons (eVar 5) aNil)) (eVar 3))) (eVar 4))) aNil)))))
def f_lines_with : List D → M D := runD 2 6 b_lines_with
theorem sc_lines_with : FnScope ["points", "many", "own", "told", "line", "places"] ["points", "many"] (defScope (top 54)) := ⟨rfl, rfl, rfl, by decide +kernel, rfl, by decide +kernel, by decide +kernel⟩
theorem ok_lines_with {w : World} {K : PySem.W.Frag} {mg : Str → Option Value} {base : Heap} (Z : FX K mg) : OkF pg w K mg base (px K) 17 43 f_lines_with := by
  obtain ⟨fd, F⟩ := Z.dd 43 _ _ rfl rfl
  have o_sure_points := ok_sure_points (w := w) (base := base) Z
  have o_sure_within := ok_sure_within (w := w) (base := base) Z
  have o_lines_in := ok_lines_in (w := w) (base := base) Z
  obtain ⟨t_MOST_POINTS, m_MOST_POINTS⟩ := Z.it 2 _ _ rfl
  have sc := sc_lines_with
  refine okF_mk (K := K) (P := px K) (st := top 54) (k := 16) rfl F sc (F.bindsN (ps := ["points", "many"]) fun _ _ _ _ _ _ us hl => match us, hl with | [_, _], _ => rfl) fun cdv A outer s H E hr => ?_
  exact (sss_cons (ss_set 2 sc.nd (se_callF o_sure_points (hr.mono (by decide)) (Z.g 21 _ rfl) rfl (sa_cons (se_var 0) sa_nil))) (sss_cons (ss_set 3 sc.nd (se_callF o_sure_within (hr.mono (by decide)) (Z.g 2 _ rfl) rfl (sa_cons (se_var 1) (sa_cons se_int (sa_cons (se_gint rfl m_MOST_POINTS) sa_nil))))) (sss_one (ss_ret (se_toTup rfl (Z.fr 17 _ rfl) (sb_cons (se_f (sf_comp (own := [("line", 4), ("places", 5)]) rfl sc.nd (si_seq (se_callF o_lines_in (hr.mono (by decide)) (Z.g 35 _ rfl) rfl (sa_cons (se_var 2) sa_nil))) (blkOk_by (own := [("line", 4), ("places", 5)]) (by kernel_rfl)) (by decide) (fun _ _ _ _ _ => (sg_tup rfl (sgs_cons (sg_var 4 sc.nd) (sgs_cons (sg_var 5 sc.nd) sgs_nil)))) (fun _ _ _ _ _ => (sts_one (st_eq hr (se_len rfl (Z.fr 8 _ rfl) (sb_cons (se_var 5) sb_nil)) (se_var 3)))) (fun _ _ _ _ _ => (se_var 4)))) sb_nil))))))
def b_places_on : DEnv → M Out := (sSeq (sSet 2 (eCall f_sure_points (aCons (eVar 0) aNil))) (sSeq (sSet 3 (eCall f_sure_line (aCons (eVar 1) aNil))) (sRet (eB tupD (bCons (eF (fComp (iEnumD (aCons (eVar 2) aNil)) [4, 5] (gTupD 2 (gConsD (gVar 4) (gConsD (gVar 5) gNilD))) (tTr (eCall f_is_on (aCons (eVar 3) (aCons (eVar 5) aNil)))) (eVar 4))) aNil)))))
def f_places_on : List D → M D := runD 2 6 b_places_on
theorem sc_places_on : FnScope ["points", "line", "own", "told", "place", "point"] ["points", "line"] (defScope (top 55)) := ⟨rfl, rfl, rfl, by decide +kernel, rfl, by decide +kernel, by decide +kernel⟩
theorem ok_places_on {w : World} {K : PySem.W.Frag} {mg : Str → Option Value} {base : Heap} (Z : FX K mg) : OkF pg w K mg base (px K) 17 44 f_places_on := by
  obtain ⟨fd, F⟩ := Z.dd 44 _ _ rfl rfl
  have o_sure_points := ok_sure_points (w := w) (base := base) Z
  have o_sure_line := ok_sure_line (w := w) (base := base) Z
  have o_is_on := ok_is_on (w := w) (base := base) Z
  have sc := sc_places_on
  refine okF_mk (K := K) (P := px K) (st := top 55) (k := 16) rfl F sc (F.bindsN (ps := ["points", "line"]) fun _ _ _ _ _ _ us hl => match us, hl with | [_, _], _ => rfl) fun cdv A outer s H E hr => ?_
  exact (sss_cons (ss_set 2 sc.nd (se_callF o_sure_points (hr.mono (by decide)) (Z.g 21 _ rfl) rfl (sa_cons (se_var 0) sa_nil))) (sss_cons (ss_set 3 sc.nd (se_callF o_sure_line (hr.mono (by decide)) (Z.g 26 _ rfl) rfl (sa_cons (se_var 1) sa_nil))) (sss_one (ss_ret (se_toTup rfl (Z.fr 17 _ rfl) (sb_cons (se_f (sf_comp (own := [("place", 4), ("point", 5)]) rfl sc.nd (si_enum rfl (Z.fr 5 _ rfl) (sa_cons (se_var 2) sa_nil)) (blkOk_by (own := [("place", 4), ("point", 5)]) (by kernel_rfl)) (by decide) (fun _ _ _ _ _ => (sg_tup rfl (sgs_cons (sg_var 4 sc.nd) (sgs_cons (sg_var 5 sc.nd) sgs_nil)))) (fun _ _ _ _ _ => (sts_one (st_tr (se_callF o_is_on (hr.mono (by decide)) (Z.g 30 _ rfl) rfl (sa_cons (se_var 3) (sa_cons (se_var 5) sa_nil)))))) (fun _ _ _ _ _ => (se_var 4)))) sb_nil))))))
def b_on_line : DEnv → M Out := (sRet (eB tupD (bCons (eF (fComp (iEnumD (aCons (eVar 0) aNil)) [2, 3] (gTupD 2 (gConsD (gVar 2) (gConsD (gVar 3) gNilD))) (tTr (eCall f_is_on (aCons (eVar 1) (aCons (eVar 3) aNil)))) (eVar 2))) aNil)))
def f_on_line : List D → M D := runD 2 4 b_on_line
theorem sc_on_line : FnScope ["points", "line", "place", "own"] ["points", "line"] (defScope (top 57)) := ⟨rfl, rfl, rfl, by decide +kernel, rfl, by decide +kernel, by decide +kernel⟩
theorem ok_on_line {w : World} {K : PySem.W.Frag} {mg : Str → Option Value} {base : Heap} (Z : FX K mg) : OkF pg w K mg base (px K) 8 45 f_on_line := by
  obtain ⟨fd, F⟩ := Z.dd 45 _ _ rfl rfl
  have o_is_on := ok_is_on (w := w) (base := base) Z
  have sc := sc_on_line
  refine okF_mk (K := K) (P := px K) (st := top 57) (k := 7) rfl F sc (F.bindsN (ps := ["points", "line"]) fun _ _ _ _ _ _ us hl => match us, hl with | [_, _], _ => rfl) fun cdv A outer s H E hr => ?_
  exact (sss_one (ss_ret (se_toTup rfl (Z.fr 17 _ rfl) (sb_cons (se_f (sf_comp (own := [("place", 2), ("own", 3)]) rfl sc.nd (si_enum rfl (Z.fr 5 _ rfl) (sa_cons (se_var 0) sa_nil)) (blkOk_by (own := [("place", 2), ("own", 3)]) (by kernel_rfl)) (by decide) (fun _ _ _ _ _ => (sg_tup rfl (sgs_cons (sg_var 2 sc.nd) (sgs_cons (sg_var 3 sc.nd) sgs_nil)))) (fun _ _ _ _ _ => (sts_one (st_tr (se_callF o_is_on (hr.mono (by decide)) (Z.g 30 _ rfl) rfl (sa_cons (se_var 1) (sa_cons (se_var 3) sa_nil)))))) (fun _ _ _ _ _ => (se_var 2)))) sb_nil))))
def b_line_at : DEnv → M Out := (sRet (eCall f_line_in (aCons (eBin ixD (eVar 0) (eBin ixD (eVar 1) (eC (.int 0)))) (aCons (eBin ixD (eVar 0) (eBin ixD (eVar 1) (eC (.int 1)))) aNil))))
def f_line_at : List D → M D := runD 2 2 b_line_at
theorem sc_line_at : FnScope ["points", "places"] ["points", "places"] (defScope (top 58)) := ⟨rfl, rfl, rfl, by decide +kernel, rfl, by decide +kernel, by decide +kernel⟩
theorem ok_line_at {w : World} {K : PySem.W.Frag} {mg : Str → Option Value} {base : Heap} (Z : FX K mg) : OkF pg w K mg base (px K) 7 46 f_line_at := by
  obtain ⟨fd, F⟩ := Z.dd 46 _ _ rfl rfl
  have o_line_in := ok_line_in (w := w) (base := base) Z
  have sc := sc_line_at
  refine okF_mk (K := K) (P := px K) (st := top 58) (k := 6) rfl F sc (F.bindsN (ps := ["points", "places"]) fun _ _ _ _ _ _ us hl => match us, hl with | [_, _], _ => rfl) fun cdv A outer s H E hr => ?_
  exact (sss_one (ss_ret (se_callF o_line_in (hr.mono (by decide)) (Z.g 28 _ rfl) rfl (sa_cons (se_ix (se_var 0) (se_ix (se_var 1) se_int)) (sa_cons (se_ix (se_var 0) (se_ix (se_var 1) se_int)) sa_nil)))))
def b_is_near_in : DEnv → M Out := (sSeq (sIf (tOrD (tNotD (tTr (eCall f_is_long (aCons (eVar 1) (aCons (eC (.int 2)) aNil))))) (tOrD (tNotD (tTr (eCall f_is_within (aCons (eBin ixD (eVar 1) (eC (.int 0))) (aCons (eC (.int 0)) (aCons (eBin subD (eB lenD (bCons (eVar 0) aNil)) (eC (.int 1))) aNil)))))) (tNotD (tTr (eCall f_is_set (aCons (eBin ixD (eVar 1) (eC (.int 1))) aNil)))))) (sRet (eC (.bl false))) sNext) (sSeq (sIf (tOrD (tB (eBin ltD (eB lenD (bCons (eBin ixD (eVar 1) (eC (.int 1))) aNil)) (eC (.int 2)))) (tNotD (tTr (eB allD (bCons (eF (fComp (iSeqD (eBin ixD (eVar 1) (eC (.int 1)))) [2] (gVar 2) tYesD (eChain leD ltD (eC (.int 0)) (eVar 2) (eB lenD (bCons (eVar 0) aNil))))) aNil))))) (sRet (eC (.bl false))) sNext) (sRet (eAnd (eBin eqD (eCall f_on_line (aCons (eVar 0) (aCons (eCall f_line_at (aCons (eVar 0) (aCons (eBin ixD (eVar 1) (eC (.int 1))) aNil))) aNil))) (eBin ixD (eVar 1) (eC (.int 1)))) (eBin notInD (eBin ixD (eVar 1) (eC (.int 0))) (eBin ixD (eVar 1) (eC (.int 1))))))))
def f_is_near_in : List D → M D := runD 2 3 b_is_near_in
theorem sc_is_near_in : FnScope ["points", "thing", "place"] ["points", "thing"] (defScope (top 59)) := ⟨rfl, rfl, rfl, by decide +kernel, rfl, by decide +kernel, by decide +kernel⟩
theorem ok_is_near_in {w : World} {K : PySem.W.Frag} {mg : Str → Option Value} {base : Heap} (Z : FX K mg) : OkF pg w K mg base (px K) 9 47 f_is_near_in := by
  obtain ⟨fd, F⟩ := Z.dd 47 _ _ rfl rfl
  have o_is_long := ok_is_long (w := w) (base := base) Z
  have o_is_within := ok_is_within (w := w) (base := base) Z
  have o_is_set := ok_is_set (w := w) (base := base) Z
  have o_line_at := ok_line_at (w := w) (base := base) Z
  have o_on_line := ok_on_line (w := w) (base := base) Z
  have sc := sc_is_near_in
  refine okF_mk (K := K) (P := px K) (st := top 59) (k := 8) rfl F sc (F.bindsN (ps := ["points", "thing"]) fun _ _ _ _ _ _ us hl => match us, hl with | [_, _], _ => rfl) fun cdv A outer s H E hr => ?_
  exact (sss_cons (ss_if (SWt.st (sw_or (st_not (st_tr (se_callF o_is_long (hr.mono (by decide)) (Z.g 3 _ rfl) rfl (sa_cons (se_var 1) (sa_cons se_int sa_nil))))) (sw_or (st_not (st_tr (se_callF o_is_within (hr.mono (by decide)) (Z.g 1 _ rfl) rfl (sa_cons (se_ix (se_var 1) se_int) (sa_cons se_int (sa_cons (se_sub (se_len rfl (Z.fr 8 _ rfl) (sb_cons (se_var 0) sb_nil)) se_int) sa_nil)))))) (sw_or1 (st_not (st_tr (se_callF o_is_set (hr.mono (by decide)) (Z.g 7 _ rfl) rfl (sa_cons (se_ix (se_var 1) se_int) sa_nil)))))))) (sss_one (ss_ret se_bl)) sss_nil) (sss_cons (ss_if (SWt.st (sw_or (st_lt (se_len rfl (Z.fr 8 _ rfl) (sb_cons (se_ix (se_var 1) se_int) sb_nil)) se_int) (sw_or1 (st_not (st_tr (se_all rfl rfl (Z.fr 2 _ rfl) (sb_cons (se_f (sf_comp (own := [("place", 2)]) rfl sc.nd (si_seq (se_ix (se_var 1) se_int)) (blkOk_by (own := [("place", 2)]) (by kernel_rfl)) (by decide) (fun _ _ _ _ _ => (sg_var 2 sc.nd)) (fun _ _ _ _ _ => sts_nil) (fun _ _ _ _ _ => (se_chain op_le op_lt se_int (se_var 2) (se_len rfl (Z.fr 8 _ rfl) (sb_cons (se_var 0) sb_nil)))))) sb_nil))))))) (sss_one (ss_ret se_bl)) sss_nil) (sss_one (ss_ret (se_and (se_eq hr (se_callF o_on_line (hr.mono (by decide)) (Z.g 45 _ rfl) rfl (sa_cons (se_var 0) (sa_cons (se_callF o_line_at (hr.mono (by decide)) (Z.g 46 _ rfl) rfl (sa_cons (se_var 0) (sa_cons (se_ix (se_var 1) se_int) sa_nil))) sa_nil))) (se_ix (se_var 1) se_int)) (se_one (se_notIn hr (se_ix (se_var 1) se_int) (se_ix (se_var 1) se_int))))))))
end Lw

set_option Elab.async false
set_option linter.all false
set_option maxRecDepth 100000
set_option maxHeartbeats 4000000
namespace Lw
open PySem PySem.Spec PyProof.Rows L2 Pu
def b_square_of : DEnv → M Out := (sRet (eCall f_square_to (aCons (eCall f_line_at (aCons (eVar 0) (aCons (eBin ixD (eVar 1) (eC (.int 1))) aNil))) (aCons (eBin ixD (eVar 0) (eBin ixD (eVar 1) (eC (.int 0)))) aNil))))
def f_square_of : List D → M D := runD 2 2 b_square_of
theorem sc_square_of : FnScope ["points", "near"] ["points", "near"] (defScope (top 60)) := ⟨rfl, rfl, rfl, by decide +kernel, rfl, by decide +kernel, by decide +kernel⟩
theorem ok_square_of {w : World} {K : PySem.W.Frag} {mg : Str → Option Value} {base : Heap} (Z : FX K mg) : OkF pg w K mg base (px K) 8 48 f_square_of := by
  obtain ⟨fd, F⟩ := Z.dd 48 _ _ rfl rfl
  have o_line_at := ok_line_at (w := w) (base := base) Z
  have o_square_to := ok_square_to (w := w) (base := base) Z
  have sc := sc_square_of
  refine okF_mk (K := K) (P := px K) (st := top 60) (k := 7) rfl F sc (F.bindsN (ps := ["points", "near"]) fun _ _ _ _ _ _ us hl => match us, hl with | [_, _], _ => rfl) fun cdv A outer s H E hr => ?_
  exact (sss_one (ss_ret (se_callF o_square_to (hr.mono (by decide)) (Z.g 33 _ rfl) rfl (sa_cons (se_callF o_line_at (hr.mono (by decide)) (Z.g 46 _ rfl) rfl (sa_cons (se_var 0) (sa_cons (se_ix (se_var 1) se_int) sa_nil))) (sa_cons (se_ix (se_var 0) (se_ix (se_var 1) se_int)) sa_nil)))))
def b_nears_in : DEnv → M Out := (sSeq (sSet 1 (eF (fComp (iSeqD (eCall f_lines_in (aCons (eVar 0) aNil))) [2, 3] (gTupD 2 (gConsD (gVar 2) (gConsD (gVar 3) gNilD))) tYesD (eVar 3)))) (sRet (eF (fSort (eF (fComp2 (iSeqD (eVar 1)) [3, 4] (gVar 3) tYesD (iRng1D (aCons (eB lenD (bCons (eVar 0) aNil)) aNil)) [4] (gVar 4) (tB (eBin notInD (eVar 4) (eVar 3))) (eTup (aCons (eVar 4) (aCons (eVar 3) aNil)))))))))
def f_nears_in : List D → M D := runD 1 5 b_nears_in
theorem sc_nears_in : FnScope ["points", "rows", "line", "places", "place"] ["points"] (defScope (top 61)) := ⟨rfl, rfl, rfl, by decide +kernel, rfl, by decide +kernel, by decide +kernel⟩
theorem ok_nears_in {w : World} {K : PySem.W.Frag} {mg : Str → Option Value} {base : Heap} (Z : FX K mg) : OkF pg w K mg base (px K) 8 49 f_nears_in := by
  obtain ⟨fd, F⟩ := Z.dd 49 _ _ rfl rfl
  have o_lines_in := ok_lines_in (w := w) (base := base) Z
  have sc := sc_nears_in
  refine okF_mk (K := K) (P := px K) (st := top 61) (k := 7) rfl F sc (F.bindsN (ps := ["points"]) fun _ _ _ _ _ _ us hl => match us, hl with | [_], _ => rfl) fun cdv A outer s H E hr => ?_
  exact (sss_cons (ss_setC (own := [("line", 2), ("places", 3)]) 1 rfl sc.nd (si_seq (se_callF o_lines_in (hr.mono (by decide)) (Z.g 35 _ rfl) rfl (sa_cons (se_var 0) sa_nil))) (blkOk_by (own := [("line", 2), ("places", 3)]) (by kernel_rfl)) (by decide) (fun _ _ _ _ _ => (sg_tup rfl (sgs_cons (sg_var 2 sc.nd) (sgs_cons (sg_var 3 sc.nd) sgs_nil)))) (fun _ _ _ _ _ => sts_nil) (fun _ _ _ _ _ => (se_var 3))) (sss_one (ss_ret (se_f (sf_sorted hr rfl (Z.fr 14 _ rfl) (se_f (sf_comp2 (own := [("places", 3), ("place", 4)]) (vs1 := [4]) rfl sc.nd (si_seq (se_var 1)) (blkOk_by (own := [("places", 3), ("place", 4)]) (by kernel_rfl)) (by decide) (by decide) (by decide) (fun _ _ _ _ _ => (sg_var 3 sc.nd)) (fun _ _ _ _ _ => sts_nil) (fun _ _ _ _ _ => (si_range1 rfl (Z.fr 12 _ rfl) (sa_cons (se_len rfl (Z.fr 8 _ rfl) (sb_cons (se_var 0) sb_nil)) sa_nil))) (fun _ _ _ _ _ => (sg_var 4 sc.nd)) (fun _ _ _ _ _ => (sts_one (st_notIn hr (se_var 4) (se_var 3)))) (fun _ _ _ _ _ => (se_tup (sa_cons (se_var 4) (sa_cons (se_var 3) sa_nil)))))))))))
def b_ordered_along : DEnv → M Out := (sSeq (sSet 3 (eF (fLst aNil))) (sSeq (sFor (iSeqD (eVar 2)) (gVar 4) (sSeq (sSet 5 (eCall f_along_in (aCons (eVar 1) (aCons (eBin ixD (eVar 0) (eVar 4)) aNil)))) (sSeq (sSet 6 (eF (fComp (iSeqD (eVar 3)) [7] (gVar 7) (tB (eBin ltD (eCall f_compared (aCons (eCall f_along_in (aCons (eVar 1) (aCons (eBin ixD (eVar 0) (eVar 7)) aNil))) (aCons (eVar 5) aNil))) (eC (.int 1)))) (eVar 7)))) (sSet 3 (eBin addD (eBin addD (eVar 6) (eF (fLst (aCons (eVar 4) aNil)))) (eSl (eVar 3) (oSome (eB lenD (bCons (eVar 6) aNil))) oNone)))))) (sRet (eVar 3))))
def f_ordered_along : List D → M D := runD 3 8 b_ordered_along
theorem sc_ordered_along : FnScope ["points", "line", "places", "found", "own", "far", "ahead", "its"] ["points", "line", "places"] (defScope (top 62)) := ⟨rfl, rfl, rfl, by decide +kernel, rfl, by decide +kernel, by decide +kernel⟩
theorem ok_ordered_along {w : World} {K : PySem.W.Frag} {mg : Str → Option Value} {base : Heap} (Z : FX K mg) : OkF pg w K mg base (px K) 7 50 f_ordered_along := by
  obtain ⟨fd, F⟩ := Z.dd 50 _ _ rfl rfl
  have o_along_in := ok_along_in (w := w) (base := base) Z
  have o_compared := ok_compared (w := w) (base := base) Z
  have sc := sc_ordered_along
  refine okF_mk (K := K) (P := px K) (st := top 62) (k := 6) rfl F sc (F.bindsN (ps := ["points", "line", "places"]) fun _ _ _ _ _ _ us hl => match us, hl with | [_, _, _], _ => rfl) fun cdv A outer s H E hr => ?_
  exact (sss_cons (ss_set 3 sc.nd (se_f (sf_lst sa_nil))) (sss_cons (ss_for (passes_of rfl) rfl (si_seq (se_var 2)) (sg_var 4 sc.nd) (sss_cons (ss_set 5 sc.nd (se_callF o_along_in (hr.mono (by decide)) (Z.g 31 _ rfl) rfl (sa_cons (se_var 1) (sa_cons (se_ix (se_var 0) (se_var 4)) sa_nil)))) (sss_cons (ss_setC (own := [("its", 7)]) 6 rfl sc.nd (si_seq (se_var 3)) (blkOk_by (own := [("its", 7)]) (by kernel_rfl)) (by decide) (fun _ _ _ _ _ => (sg_var 7 sc.nd)) (fun _ _ _ _ _ => (sts_one (st_lt (se_callF o_compared (hr.mono (by decide)) (Z.g 15 _ rfl) rfl (sa_cons (se_callF o_along_in (hr.mono (by decide)) (Z.g 31 _ rfl) rfl (sa_cons (se_var 1) (sa_cons (se_ix (se_var 0) (se_var 7)) sa_nil))) (sa_cons (se_var 5) sa_nil))) se_int))) (fun _ _ _ _ _ => (se_var 7))) (sss_one (ss_set 3 sc.nd (se_add (se_add (se_var 6) (se_f (sf_lst (sa_cons (se_var 4) sa_nil)))) (se_slice (se_var 3) (so_some (se_len rfl (Z.fr 8 _ rfl) (sb_cons (se_var 6) sb_nil))) so_none))))))) (sss_one (ss_ret (se_var 3)))))
def b_next_in : DEnv → M Out := (sSeq (sAsg (gTupD 2 (gConsD (gVar 2) (gConsD (gVar 3) gNilD))) (eVar 1)) (sSeq (sSet 4 (eCall f_line_at (aCons (eVar 0) (aCons (eVar 3) aNil)))) (sSeq (sSet 5 (eCall f_along_in (aCons (eVar 4) (aCons (eBin ixD (eVar 0) (eVar 2)) aNil)))) (sSeq (sSet 6 (eCall f_ordered_along (aCons (eVar 0) (aCons (eVar 4) (aCons (eVar 3) aNil))))) (sSeq (sSet 7 (eF (fComp (iSeqD (eVar 6)) [8] (gVar 8) (tNotD (tTr (eCall f_is_under (aCons (eCall f_along_in (aCons (eVar 4) (aCons (eBin ixD (eVar 0) (eVar 8)) aNil))) (aCons (eVar 5) aNil))))) (eVar 8)))) (sSeq (sSet 9 (eF (fComp (iSeqD (eVar 6)) [8] (gVar 8) (tNotD (tTr (eCall f_is_under (aCons (eVar 5) (aCons (eCall f_along_in (aCons (eVar 4) (aCons (eBin ixD (eVar 0) (eVar 8)) aNil))) aNil))))) (eVar 8)))) (sSeq (sAsg (gTupD 2 (gConsD (gVar 10) (gConsD (gVar 11) gNilD))) (eIf (tB (eBin gtD (eB lenD (bCons (eVar 7) aNil)) (eC (.int 1)))) (eSl (eVar 7) oNone (oSome (eC (.int 2)))) (eSl (eF (fRev (eVar 9))) oNone (oSome (eC (.int 2)))))) (sRet (eTup (aCons (eVar 10) (aCons (eCall f_on_line (aCons (eVar 0) (aCons (eCall f_line_in (aCons (eBin ixD (eVar 0) (eVar 2)) (aCons (eBin ixD (eVar 0) (eVar 11)) aNil))) aNil))) aNil)))))))))))
def f_next_in : List D → M D := runD 2 12 b_next_in
theorem sc_next_in : FnScope ["points", "near", "place", "places", "line", "here", "row", "ahead", "own", "behind", "first", "second"] ["points", "near"] (defScope (top 63)) := ⟨rfl, rfl, rfl, by decide +kernel, rfl, by decide +kernel, by decide +kernel⟩
theorem ok_next_in {w : World} {K : PySem.W.Frag} {mg : Str → Option Value} {base : Heap} (Z : FX K mg) : OkF pg w K mg base (px K) 9 51 f_next_in := by
  obtain ⟨fd, F⟩ := Z.dd 51 _ _ rfl rfl
  have o_line_at := ok_line_at (w := w) (base := base) Z
  have o_along_in := ok_along_in (w := w) (base := base) Z
  have o_ordered_along := ok_ordered_along (w := w) (base := base) Z
  have o_is_under := ok_is_under (w := w) (base := base) Z
  have o_line_in := ok_line_in (w := w) (base := base) Z
  have o_on_line := ok_on_line (w := w) (base := base) Z
  have sc := sc_next_in
  refine okF_mk (K := K) (P := px K) (st := top 63) (k := 8) rfl F sc (F.bindsN (ps := ["points", "near"]) fun _ _ _ _ _ _ us hl => match us, hl with | [_, _], _ => rfl) fun cdv A outer s H E hr => ?_
  exact (sss_cons (ss_asg (se_var 1) (sg_tup rfl (sgs_cons (sg_var 2 sc.nd) (sgs_cons (sg_var 3 sc.nd) sgs_nil)))) (sss_cons (ss_set 4 sc.nd (se_callF o_line_at (hr.mono (by decide)) (Z.g 46 _ rfl) rfl (sa_cons (se_var 0) (sa_cons (se_var 3) sa_nil)))) (sss_cons (ss_set 5 sc.nd (se_callF o_along_in (hr.mono (by decide)) (Z.g 31 _ rfl) rfl (sa_cons (se_var 4) (sa_cons (se_ix (se_var 0) (se_var 2)) sa_nil)))) (sss_cons (ss_set 6 sc.nd (se_callF o_ordered_along (hr.mono (by decide)) (Z.g 50 _ rfl) rfl (sa_cons (se_var 0) (sa_cons (se_var 4) (sa_cons (se_var 3) sa_nil))))) (sss_cons (ss_setC (own := [("own", 8)]) 7 rfl sc.nd (si_seq (se_var 6)) (blkOk_by (own := [("own", 8)]) (by kernel_rfl)) (by decide) (fun _ _ _ _ _ => (sg_var 8 sc.nd)) (fun _ _ _ _ _ => (sts_one (st_not (st_tr (se_callF o_is_under (hr.mono (by decide)) (Z.g 14 _ rfl) rfl (sa_cons (se_callF o_along_in (hr.mono (by decide)) (Z.g 31 _ rfl) rfl (sa_cons (se_var 4) (sa_cons (se_ix (se_var 0) (se_var 8)) sa_nil))) (sa_cons (se_var 5) sa_nil))))))) (fun _ _ _ _ _ => (se_var 8))) (sss_cons (ss_setC (own := [("own", 8)]) 9 rfl sc.nd (si_seq (se_var 6)) (blkOk_by (own := [("own", 8)]) (by kernel_rfl)) (by decide) (fun _ _ _ _ _ => (sg_var 8 sc.nd)) (fun _ _ _ _ _ => (sts_one (st_not (st_tr (se_callF o_is_under (hr.mono (by decide)) (Z.g 14 _ rfl) rfl (sa_cons (se_var 5) (sa_cons (se_callF o_along_in (hr.mono (by decide)) (Z.g 31 _ rfl) rfl (sa_cons (se_var 4) (sa_cons (se_ix (se_var 0) (se_var 8)) sa_nil))) sa_nil))))))) (fun _ _ _ _ _ => (se_var 8))) (sss_cons (ss_asg (se_if (st_gt (se_len rfl (Z.fr 8 _ rfl) (sb_cons (se_var 7) sb_nil)) se_int) (se_slice (se_var 7) so_none (so_some se_int)) (se_slice (se_f (sf_rev (se_var 9))) so_none (so_some se_int))) (sg_tup rfl (sgs_cons (sg_var 10 sc.nd) (sgs_cons (sg_var 11 sc.nd) sgs_nil)))) (sss_one (ss_ret (se_tup (sa_cons (se_var 10) (sa_cons (se_callF o_on_line (hr.mono (by decide)) (Z.g 45 _ rfl) rfl (sa_cons (se_var 0) (sa_cons (se_callF o_line_in (hr.mono (by decide)) (Z.g 28 _ rfl) rfl (sa_cons (se_ix (se_var 0) (se_var 2)) (sa_cons (se_ix (se_var 0) (se_var 11)) sa_nil))) sa_nil))) sa_nil))))))))))))
def b_steps_in : DEnv → M Out := (sSeq (sOwn 2 (fLst (aCons (eVar 1) aNil))) (sSeq (sWhile (fun _ => 1000) (tB (eBin gtD (eB lenD (bCons (eBin ixD (eBin ixD (eVar 2) (eUn negD (eC (.int 1)))) (eC (.int 1))) aNil)) (eC (.int 2)))) (sApp 2 (eCall f_next_in (aCons (eVar 0) (aCons (eBin ixD (eVar 2) (eUn negD (eC (.int 1)))) aNil))))) (sFrz 2 (sRet (eVar 2)))))
def f_steps_in : List D → M D := runD 2 3 b_steps_in
theorem sc_steps_in : FnScope ["points", "near", "found"] ["points", "near"] (defScope (top 64)) := ⟨rfl, rfl, rfl, by decide +kernel, rfl, by decide +kernel, by decide +kernel⟩
theorem ok_steps_in {w : World} {K : PySem.W.Frag} {mg : Str → Option Value} {base : Heap} (Z : FX K mg) : OkF pg w K mg base (px K) 10 52 f_steps_in := by
  obtain ⟨fd, F⟩ := Z.dd 52 _ _ rfl rfl
  have o_next_in := ok_next_in (w := w) (base := base) Z
  have sc := sc_steps_in
  refine okF_mk (K := K) (P := px K) (st := top 64) (k := 9) rfl F sc (F.bindsN (ps := ["points", "near"]) fun _ _ _ _ _ _ us hl => match us, hl with | [_, _], _ => rfl) fun cdv A outer s H E hr => ?_
  exact (sss_cons (ss_own 2 sc.nd (sf_lst (sa_cons (se_var 1) sa_nil))) (sss_cons (ss_while (fun _ => 1000) (passes_of rfl) (st_gt (se_len rfl (Z.fr 8 _ rfl) (sb_cons (se_ix (se_ix (se_var 2) (se_neg se_int)) se_int) sb_nil)) se_int) (sss_one (ss_app 2 rfl (se_callF o_next_in (hr.mono (by decide)) (Z.g 51 _ rfl) rfl (sa_cons (se_var 0) (sa_cons (se_ix (se_var 2) (se_neg se_int)) sa_nil)))))) (ss_frz 2 (sss_one (ss_ret (se_var 2))))))
def b_sure_spread : DEnv → M Out := (sSeq (sSet 1 (eCall f_sure_points (aCons (eVar 0) aNil))) (sSeq (sIf (tTr (eCall f_are_all_in_line (aCons (eVar 1) aNil))) (sRaise 0) sNext) (sRet (eVar 1))))
def f_sure_spread : List D → M D := runD 1 2 b_sure_spread
theorem sc_sure_spread : FnScope ["value", "own"] ["value"] (defScope (top 65)) := ⟨rfl, rfl, rfl, by decide +kernel, rfl, by decide +kernel, by decide +kernel⟩
theorem ok_sure_spread {w : World} {K : PySem.W.Frag} {mg : Str → Option Value} {base : Heap} (Z : FX K mg) : OkF pg w K mg base (px K) 17 53 f_sure_spread := by
  obtain ⟨fd, F⟩ := Z.dd 53 _ _ rfl rfl
  have o_sure_points := ok_sure_points (w := w) (base := base) Z
  have o_are_all_in_line := ok_are_all_in_line (w := w) (base := base) Z
  have sc := sc_sure_spread
  refine okF_mk (K := K) (P := px K) (st := top 65) (k := 16) rfl F sc (F.bindsN (ps := ["value"]) fun _ _ _ _ _ _ us hl => match us, hl with | [_], _ => rfl) fun cdv A outer s H E hr => ?_
  exact (sss_cons (ss_set 1 sc.nd (se_callF o_sure_points (hr.mono (by decide)) (Z.g 21 _ rfl) rfl (sa_cons (se_var 0) sa_nil))) (sss_cons (ss_if (st_tr (se_callF o_are_all_in_line (hr.mono (by decide)) (Z.g 23 _ rfl) rfl (sa_cons (se_var 1) sa_nil))) (sss_one (ss_raise 0 rfl (Z.ex 0 _ rfl).2 (Z.ex 0 _ rfl).1 rfl)) sss_nil) (sss_one (ss_ret (se_var 1)))))
def b_sure_near : DEnv → M Out := (sSeq (sSet 2 (eCall f_tupled (aCons (eVar 1) aNil))) (sSeq (sIf (tNotD (tTr (eCall f_is_near_in (aCons (eVar 0) (aCons (eVar 2) aNil))))) (sRaise 2) sNext) (sRet (eVar 2))))
def f_sure_near : List D → M D := runD 2 3 b_sure_near
theorem sc_sure_near : FnScope ["points", "value", "own"] ["points", "value"] (defScope (top 66)) := ⟨rfl, rfl, rfl, by decide +kernel, rfl, by decide +kernel, by decide +kernel⟩
theorem ok_sure_near {w : World} {K : PySem.W.Frag} {mg : Str → Option Value} {base : Heap} (Z : FX K mg) : OkF pg w K mg base (px K) 16 54 f_sure_near := by
  obtain ⟨fd, F⟩ := Z.dd 54 _ _ rfl rfl
  have o_tupled := ok_tupled (w := w) (base := base) Z
  have o_is_near_in := ok_is_near_in (w := w) (base := base) Z
  have sc := sc_sure_near
  refine okF_mk (K := K) (P := px K) (st := top 66) (k := 15) rfl F sc (F.bindsN (ps := ["points", "value"]) fun _ _ _ _ _ _ us hl => match us, hl with | [_, _], _ => rfl) fun cdv A outer s H E hr => ?_
  exact (sss_cons (ss_set 2 sc.nd (se_callF o_tupled (hr.mono (by decide)) (Z.g 5 _ rfl) rfl (sa_cons (se_var 1) sa_nil))) (sss_cons (ss_if (st_not (st_tr (se_callF o_is_near_in (hr.mono (by decide)) (Z.g 47 _ rfl) rfl (sa_cons (se_var 0) (sa_cons (se_var 2) sa_nil))))) (sss_one (ss_raise 2 rfl (Z.ex 2 _ rfl).2 (Z.ex 2 _ rfl).1 rfl)) sss_nil) (sss_one (ss_ret (se_var 2)))))
def b_is_near : DEnv → M Out := (sRet (eCall f_is_near_in (aCons (eCall f_sure_points (aCons (eVar 0) aNil)) (aCons (eVar 1) aNil))))
def f_is_near : List D → M D := runD 2 2 b_is_near
theorem sc_is_near : FnScope ["points", "thing"] ["points", "thing"] (defScope (top 67)) := ⟨rfl, rfl, rfl, by decide +kernel, rfl, by decide +kernel, by decide +kernel⟩
theorem ok_is_near {w : World} {K : PySem.W.Frag} {mg : Str → Option Value} {base : Heap} (Z : FX K mg) : OkF pg w K mg base (px K) 17 55 f_is_near := by
  obtain ⟨fd, F⟩ := Z.dd 55 _ _ rfl rfl
  have o_sure_points := ok_sure_points (w := w) (base := base) Z
  have o_is_near_in := ok_is_near_in (w := w) (base := base) Z
  have sc := sc_is_near
  refine okF_mk (K := K) (P := px K) (st := top 67) (k := 16) rfl F sc (F.bindsN (ps := ["points", "thing"]) fun _ _ _ _ _ _ us hl => match us, hl with | [_, _], _ => rfl) fun cdv A outer s H E hr => ?_
  exact (sss_one (ss_ret (se_callF o_is_near_in (hr.mono (by decide)) (Z.g 47 _ rfl) rfl (sa_cons (se_callF o_sure_points (hr.mono (by decide)) (Z.g 21 _ rfl) rfl (sa_cons (se_var 0) sa_nil)) (sa_cons (se_var 1) sa_nil)))))
end Lw

set_option Elab.async false
set_option linter.all false
set_option maxRecDepth 100000
set_option maxHeartbeats 4000000
namespace Lw
open PySem PySem.Spec PyProof.Rows L2 Pu
def b_all_nears : DEnv → M Out := (sRet (eB tupD (bCons (eCall f_nears_in (aCons (eCall f_sure_points (aCons (eVar 0) aNil)) aNil)) aNil)))
def f_all_nears : List D → M D := runD 1 1 b_all_nears
theorem sc_all_nears : FnScope ["points"] ["points"] (defScope (top 68)) := ⟨rfl, rfl, rfl, by decide +kernel, rfl, by decide +kernel, by decide +kernel⟩
theorem ok_all_nears {w : World} {K : PySem.W.Frag} {mg : Str → Option Value} {base : Heap} (Z : FX K mg) : OkF pg w K mg base (px K) 17 56 f_all_nears := by
  obtain ⟨fd, F⟩ := Z.dd 56 _ _ rfl rfl
  have o_sure_points := ok_sure_points (w := w) (base := base) Z
  have o_nears_in := ok_nears_in (w := w) (base := base) Z
  have sc := sc_all_nears
  refine okF_mk (K := K) (P := px K) (st := top 68) (k := 16) rfl F sc (F.bindsN (ps := ["points"]) fun _ _ _ _ _ _ us hl => match us, hl with | [_], _ => rfl) fun cdv A outer s H E hr => ?_
  exact (sss_one (ss_ret (se_toTup rfl (Z.fr 17 _ rfl) (sb_cons (se_callF o_nears_in (hr.mono (by decide)) (Z.g 49 _ rfl) rfl (sa_cons (se_callF o_sure_points (hr.mono (by decide)) (Z.g 21 _ rfl) rfl (sa_cons (se_var 0) sa_nil)) sa_nil)) sb_nil))))
def b_near_square : DEnv → M Out := (sSeq (sSet 2 (eCall f_sure_points (aCons (eVar 0) aNil))) (sRet (eCall f_square_of (aCons (eVar 2) (aCons (eCall f_sure_near (aCons (eVar 2) (aCons (eVar 1) aNil))) aNil)))))
def f_near_square : List D → M D := runD 2 3 b_near_square
theorem sc_near_square : FnScope ["points", "near", "own"] ["points", "near"] (defScope (top 69)) := ⟨rfl, rfl, rfl, by decide +kernel, rfl, by decide +kernel, by decide +kernel⟩
theorem ok_near_square {w : World} {K : PySem.W.Frag} {mg : Str → Option Value} {base : Heap} (Z : FX K mg) : OkF pg w K mg base (px K) 17 57 f_near_square := by
  obtain ⟨fd, F⟩ := Z.dd 57 _ _ rfl rfl
  have o_sure_points := ok_sure_points (w := w) (base := base) Z
  have o_sure_near := ok_sure_near (w := w) (base := base) Z
  have o_square_of := ok_square_of (w := w) (base := base) Z
  have sc := sc_near_square
  refine okF_mk (K := K) (P := px K) (st := top 69) (k := 16) rfl F sc (F.bindsN (ps := ["points", "near"]) fun _ _ _ _ _ _ us hl => match us, hl with | [_, _], _ => rfl) fun cdv A outer s H E hr => ?_
  exact (sss_cons (ss_set 2 sc.nd (se_callF o_sure_points (hr.mono (by decide)) (Z.g 21 _ rfl) rfl (sa_cons (se_var 0) sa_nil))) (sss_one (ss_ret (se_callF o_square_of (hr.mono (by decide)) (Z.g 48 _ rfl) rfl (sa_cons (se_var 2) (sa_cons (se_callF o_sure_near (hr.mono (by decide)) (Z.g 54 _ rfl) rfl (sa_cons (se_var 2) (sa_cons (se_var 1) sa_nil))) sa_nil))))))
def b_nearest : DEnv → M Out := (sSeq (sSet 1 (eCall f_sure_spread (aCons (eVar 0) aNil))) (sSeq (sSet 2 (eCall f_nears_in (aCons (eVar 1) aNil))) (sSeq (sSet 3 (eBin ixD (eVar 2) (eC (.int 0)))) (sSeq (sFor (iSeqD (eSl (eVar 2) (oSome (eC (.int 1))) oNone)) (gVar 4) (sSet 3 (eIf (tTr (eCall f_is_under (aCons (eCall f_square_of (aCons (eVar 1) (aCons (eVar 4) aNil))) (aCons (eCall f_square_of (aCons (eVar 1) (aCons (eVar 3) aNil))) aNil)))) (eVar 4) (eVar 3)))) (sRet (eVar 3))))))
def f_nearest : List D → M D := runD 1 5 b_nearest
theorem sc_nearest : FnScope ["points", "own", "rows", "best", "its"] ["points"] (defScope (top 70)) := ⟨rfl, rfl, rfl, by decide +kernel, rfl, by decide +kernel, by decide +kernel⟩
theorem ok_nearest {w : World} {K : PySem.W.Frag} {mg : Str → Option Value} {base : Heap} (Z : FX K mg) : OkF pg w K mg base (px K) 18 58 f_nearest := by
  obtain ⟨fd, F⟩ := Z.dd 58 _ _ rfl rfl
  have o_sure_spread := ok_sure_spread (w := w) (base := base) Z
  have o_nears_in := ok_nears_in (w := w) (base := base) Z
  have o_square_of := ok_square_of (w := w) (base := base) Z
  have o_is_under := ok_is_under (w := w) (base := base) Z
  have sc := sc_nearest
  refine okF_mk (K := K) (P := px K) (st := top 70) (k := 17) rfl F sc (F.bindsN (ps := ["points"]) fun _ _ _ _ _ _ us hl => match us, hl with | [_], _ => rfl) fun cdv A outer s H E hr => ?_
  exact (sss_cons (ss_set 1 sc.nd (se_callF o_sure_spread (hr.mono (by decide)) (Z.g 53 _ rfl) rfl (sa_cons (se_var 0) sa_nil))) (sss_cons (ss_set 2 sc.nd (se_callF o_nears_in (hr.mono (by decide)) (Z.g 49 _ rfl) rfl (sa_cons (se_var 1) sa_nil))) (sss_cons (ss_set 3 sc.nd (se_ix (se_var 2) se_int)) (sss_cons (ss_for (passes_of rfl) rfl (si_seq (se_slice (se_var 2) (so_some se_int) so_none)) (sg_var 4 sc.nd) (sss_one (ss_set 3 sc.nd (se_if (st_tr (se_callF o_is_under (hr.mono (by decide)) (Z.g 14 _ rfl) rfl (sa_cons (se_callF o_square_of (hr.mono (by decide)) (Z.g 48 _ rfl) rfl (sa_cons (se_var 1) (sa_cons (se_var 4) sa_nil))) (sa_cons (se_callF o_square_of (hr.mono (by decide)) (Z.g 48 _ rfl) rfl (sa_cons (se_var 1) (sa_cons (se_var 3) sa_nil))) sa_nil)))) (se_var 4) (se_var 3))))) (sss_one (ss_ret (se_var 3)))))))
def b_next_near : DEnv → M Out := (sSeq (sSet 2 (eCall f_sure_points (aCons (eVar 0) aNil))) (sSeq (sSet 3 (eCall f_sure_near (aCons (eVar 2) (aCons (eVar 1) aNil)))) (sSeq (sIf (tB (eBin eqD (eB lenD (bCons (eBin ixD (eVar 3) (eC (.int 1))) aNil)) (eC (.int 2)))) (sRaise 0) sNext) (sRet (eCall f_next_in (aCons (eVar 2) (aCons (eVar 3) aNil)))))))
def f_next_near : List D → M D := runD 2 4 b_next_near
theorem sc_next_near : FnScope ["points", "near", "own", "told"] ["points", "near"] (defScope (top 71)) := ⟨rfl, rfl, rfl, by decide +kernel, rfl, by decide +kernel, by decide +kernel⟩
theorem ok_next_near {w : World} {K : PySem.W.Frag} {mg : Str → Option Value} {base : Heap} (Z : FX K mg) : OkF pg w K mg base (px K) 17 59 f_next_near := by
  obtain ⟨fd, F⟩ := Z.dd 59 _ _ rfl rfl
  have o_sure_points := ok_sure_points (w := w) (base := base) Z
  have o_sure_near := ok_sure_near (w := w) (base := base) Z
  have o_next_in := ok_next_in (w := w) (base := base) Z
  have sc := sc_next_near
  refine okF_mk (K := K) (P := px K) (st := top 71) (k := 16) rfl F sc (F.bindsN (ps := ["points", "near"]) fun _ _ _ _ _ _ us hl => match us, hl with | [_, _], _ => rfl) fun cdv A outer s H E hr => ?_
  exact (sss_cons (ss_set 2 sc.nd (se_callF o_sure_points (hr.mono (by decide)) (Z.g 21 _ rfl) rfl (sa_cons (se_var 0) sa_nil))) (sss_cons (ss_set 3 sc.nd (se_callF o_sure_near (hr.mono (by decide)) (Z.g 54 _ rfl) rfl (sa_cons (se_var 2) (sa_cons (se_var 1) sa_nil)))) (sss_cons (ss_if (st_eq hr (se_len rfl (Z.fr 8 _ rfl) (sb_cons (se_ix (se_var 3) se_int) sb_nil)) se_int) (sss_one (ss_raise 0 rfl (Z.ex 0 _ rfl).2 (Z.ex 0 _ rfl).1 rfl)) sss_nil) (sss_one (ss_ret (se_callF o_next_in (hr.mono (by decide)) (Z.g 51 _ rfl) rfl (sa_cons (se_var 2) (sa_cons (se_var 3) sa_nil))))))))
def b_near_steps : DEnv → M Out := (sSeq (sSet 2 (eCall f_sure_points (aCons (eVar 0) aNil))) (sRet (eB tupD (bCons (eCall f_steps_in (aCons (eVar 2) (aCons (eCall f_sure_near (aCons (eVar 2) (aCons (eVar 1) aNil))) aNil))) aNil))))
def f_near_steps : List D → M D := runD 2 3 b_near_steps
theorem sc_near_steps : FnScope ["points", "near", "own"] ["points", "near"] (defScope (top 72)) := ⟨rfl, rfl, rfl, by decide +kernel, rfl, by decide +kernel, by decide +kernel⟩
theorem ok_near_steps {w : World} {K : PySem.W.Frag} {mg : Str → Option Value} {base : Heap} (Z : FX K mg) : OkF pg w K mg base (px K) 17 60 f_near_steps := by
  obtain ⟨fd, F⟩ := Z.dd 60 _ _ rfl rfl
  have o_sure_points := ok_sure_points (w := w) (base := base) Z
  have o_sure_near := ok_sure_near (w := w) (base := base) Z
  have o_steps_in := ok_steps_in (w := w) (base := base) Z
  have sc := sc_near_steps
  refine okF_mk (K := K) (P := px K) (st := top 72) (k := 16) rfl F sc (F.bindsN (ps := ["points", "near"]) fun _ _ _ _ _ _ us hl => match us, hl with | [_, _], _ => rfl) fun cdv A outer s H E hr => ?_
  exact (sss_cons (ss_set 2 sc.nd (se_callF o_sure_points (hr.mono (by decide)) (Z.g 21 _ rfl) rfl (sa_cons (se_var 0) sa_nil))) (sss_one (ss_ret (se_toTup rfl (Z.fr 17 _ rfl) (sb_cons (se_callF o_steps_in (hr.mono (by decide)) (Z.g 52 _ rfl) rfl (sa_cons (se_var 2) (sa_cons (se_callF o_sure_near (hr.mono (by decide)) (Z.g 54 _ rfl) rfl (sa_cons (se_var 2) (sa_cons (se_var 1) sa_nil))) sa_nil))) sb_nil)))))
def b_line_of_two : DEnv → M Out := (sSeq (sSet 1 (eCall f_sure_spread (aCons (eVar 0) aNil))) (sRet (eBin ixD (eBin ixD (eCall f_steps_in (aCons (eVar 1) (aCons (eBin ixD (eCall f_nears_in (aCons (eVar 1) aNil)) (eC (.int 0))) aNil))) (eUn negD (eC (.int 1)))) (eC (.int 1)))))
def f_line_of_two : List D → M D := runD 1 2 b_line_of_two
theorem sc_line_of_two : FnScope ["points", "own"] ["points"] (defScope (top 73)) := ⟨rfl, rfl, rfl, by decide +kernel, rfl, by decide +kernel, by decide +kernel⟩
theorem ok_line_of_two {w : World} {K : PySem.W.Frag} {mg : Str → Option Value} {base : Heap} (Z : FX K mg) : OkF pg w K mg base (px K) 18 61 f_line_of_two := by
  obtain ⟨fd, F⟩ := Z.dd 61 _ _ rfl rfl
  have o_sure_spread := ok_sure_spread (w := w) (base := base) Z
  have o_nears_in := ok_nears_in (w := w) (base := base) Z
  have o_steps_in := ok_steps_in (w := w) (base := base) Z
  have sc := sc_line_of_two
  refine okF_mk (K := K) (P := px K) (st := top 73) (k := 17) rfl F sc (F.bindsN (ps := ["points"]) fun _ _ _ _ _ _ us hl => match us, hl with | [_], _ => rfl) fun cdv A outer s H E hr => ?_
  exact (sss_cons (ss_set 1 sc.nd (se_callF o_sure_spread (hr.mono (by decide)) (Z.g 53 _ rfl) rfl (sa_cons (se_var 0) sa_nil))) (sss_one (ss_ret (se_ix (se_ix (se_callF o_steps_in (hr.mono (by decide)) (Z.g 52 _ rfl) rfl (sa_cons (se_var 1) (sa_cons (se_ix (se_callF o_nears_in (hr.mono (by decide)) (Z.g 49 _ rfl) rfl (sa_cons (se_var 1) sa_nil)) se_int) sa_nil))) (se_neg se_int)) se_int))))
def b_is_nearer : DEnv → M Out := (sSeq (sSet 3 (eCall f_sure_points (aCons (eVar 0) aNil))) (sSeq (sSet 4 (eCall f_sure_near (aCons (eVar 3) (aCons (eVar 1) aNil)))) (sSeq (sSet 5 (eCall f_sure_near (aCons (eVar 3) (aCons (eVar 2) aNil)))) (sRet (eCall f_is_under (aCons (eCall f_square_of (aCons (eVar 3) (aCons (eVar 4) aNil))) (aCons (eCall f_square_of (aCons (eVar 3) (aCons (eVar 5) aNil))) aNil)))))))
def f_is_nearer : List D → M D := runD 3 6 b_is_nearer
theorem sc_is_nearer : FnScope ["points", "one", "other", "own", "near", "far"] ["points", "one", "other"] (defScope (top 74)) := ⟨rfl, rfl, rfl, by decide +kernel, rfl, by decide +kernel, by decide +kernel⟩
theorem ok_is_nearer {w : World} {K : PySem.W.Frag} {mg : Str → Option Value} {base : Heap} (Z : FX K mg) : OkF pg w K mg base (px K) 17 62 f_is_nearer := by
  obtain ⟨fd, F⟩ := Z.dd 62 _ _ rfl rfl
  have o_sure_points := ok_sure_points (w := w) (base := base) Z
  have o_sure_near := ok_sure_near (w := w) (base := base) Z
  have o_square_of := ok_square_of (w := w) (base := base) Z
  have o_is_under := ok_is_under (w := w) (base := base) Z
  have sc := sc_is_nearer
  refine okF_mk (K := K) (P := px K) (st := top 74) (k := 16) rfl F sc (F.bindsN (ps := ["points", "one", "other"]) fun _ _ _ _ _ _ us hl => match us, hl with | [_, _, _], _ => rfl) fun cdv A outer s H E hr => ?_
  exact (sss_cons (ss_set 3 sc.nd (se_callF o_sure_points (hr.mono (by decide)) (Z.g 21 _ rfl) rfl (sa_cons (se_var 0) sa_nil))) (sss_cons (ss_set 4 sc.nd (se_callF o_sure_near (hr.mono (by decide)) (Z.g 54 _ rfl) rfl (sa_cons (se_var 3) (sa_cons (se_var 1) sa_nil)))) (sss_cons (ss_set 5 sc.nd (se_callF o_sure_near (hr.mono (by decide)) (Z.g 54 _ rfl) rfl (sa_cons (se_var 3) (sa_cons (se_var 2) sa_nil)))) (sss_one (ss_ret (se_callF o_is_under (hr.mono (by decide)) (Z.g 14 _ rfl) rfl (sa_cons (se_callF o_square_of (hr.mono (by decide)) (Z.g 48 _ rfl) rfl (sa_cons (se_var 3) (sa_cons (se_var 4) sa_nil))) (sa_cons (se_callF o_square_of (hr.mono (by decide)) (Z.g 48 _ rfl) rfl (sa_cons (se_var 3) (sa_cons (se_var 5) sa_nil))) sa_nil))))))))
def b_counts_in : DEnv → M Out := (sSeq (sSet 1 (eF (fComp (iSeqD (eCall f_lines_in (aCons (eVar 0) aNil))) [2, 3] (gTupD 2 (gConsD (gVar 2) (gConsD (gVar 3) gNilD))) tYesD (eB lenD (bCons (eVar 3) aNil))))) (sRet (eB tupD (bCons (eF (fComp (iSeqD (eF (fSortSet (eVar 1)))) [4] (gVar 4) tYesD (eTup (aCons (eVar 4) (aCons (eCount (eVar 1) (eVar 4)) aNil))))) aNil))))
def f_counts_in : List D → M D := runD 1 5 b_counts_in
theorem sc_counts_in : FnScope ["points", "row", "line", "places", "many"] ["points"] (defScope (top 76)) := ⟨rfl, rfl, rfl, by decide +kernel, rfl, by decide +kernel, by decide +kernel⟩
theorem ok_counts_in {w : World} {K : PySem.W.Frag} {mg : Str → Option Value} {base : Heap} (Z : FX K mg) : OkF pg w K mg base (px K) 8 63 f_counts_in := by
  obtain ⟨fd, F⟩ := Z.dd 63 _ _ rfl rfl
  have o_lines_in := ok_lines_in (w := w) (base := base) Z
  have sc := sc_counts_in
  refine okF_mk (K := K) (P := px K) (st := top 76) (k := 7) rfl F sc (F.bindsN (ps := ["points"]) fun _ _ _ _ _ _ us hl => match us, hl with | [_], _ => rfl) fun cdv A outer s H E hr => ?_
  exact (sss_cons (ss_set 1 sc.nd (se_f (sf_comp (own := [("line", 2), ("places", 3)]) rfl sc.nd (si_seq (se_callF o_lines_in (hr.mono (by decide)) (Z.g 35 _ rfl) rfl (sa_cons (se_var 0) sa_nil))) (blkOk_by (own := [("line", 2), ("places", 3)]) (by kernel_rfl)) (by decide) (fun _ _ _ _ _ => (sg_tup rfl (sgs_cons (sg_var 2 sc.nd) (sgs_cons (sg_var 3 sc.nd) sgs_nil)))) (fun _ _ _ _ _ => sts_nil) (fun _ _ _ _ _ => (se_len rfl (Z.fr 8 _ rfl) (sb_cons (se_var 3) sb_nil)))))) (sss_one (ss_ret (se_toTup rfl (Z.fr 17 _ rfl) (sb_cons (se_f (sf_comp (own := [("many", 4)]) rfl sc.nd (si_seq (se_f (sf_sortSet rfl rfl (Z.fr 14 _ rfl) rfl (Z.fr 13 _ rfl) (se_var 1)))) (blkOk_by (own := [("many", 4)]) (by kernel_rfl)) (by decide) (fun _ _ _ _ _ => (sg_var 4 sc.nd)) (fun _ _ _ _ _ => sts_nil) (fun _ _ _ _ _ => (se_tup (sa_cons (se_var 4) (sa_cons (se_count (se_var 1) (se_var 4)) sa_nil)))))) sb_nil)))))
end Lw

set_option Elab.async false
set_option linter.all false
set_option maxRecDepth 100000
set_option maxHeartbeats 4000000
namespace Lw
open PySem PySem.Spec PyProof.Rows L2 Pu
def b_with_two : DEnv → M Out := (sRet eStk)
def f_with_two : List D → M D := runD 1 1 b_with_two
theorem sc_with_two : FnScope ["counts"] ["counts"] (defScope (top 77)) := ⟨rfl, rfl, rfl, by decide +kernel, rfl, by decide +kernel, by decide +kernel⟩
theorem ok_with_two {w : World} {K : PySem.W.Frag} {mg : Str → Option Value} {base : Heap} (Z : FX K mg) : OkF pg w K mg base (px K) 3 64 f_with_two := by
  obtain ⟨fd, F⟩ := Z.dd 64 _ _ rfl rfl
  have sc := sc_with_two
  refine okF_mk (K := K) (P := px K) (st := top 77) (k := 2) rfl F sc (F.bindsN (ps := ["counts"]) fun _ _ _ _ _ _ us hl => match us, hl with | [_], _ => rfl) fun cdv A outer s H E hr => ?_
  exact (sss_one (ss_ret se_stk))
def b_rest_in : DEnv → M Out := (sRet (eBin subD (eBin subD (eCall f_with_two (aCons (eVar 0) aNil)) (eC (.int 3))) (eB sumD (bCons (eF (fComp (iSeqD (eVar 0)) [1, 2] (gTupD 2 (gConsD (gVar 1) (gConsD (gVar 2) gNilD))) (tB (eBin gtD (eVar 1) (eC (.int 3)))) (eBin mulD (eBin subD (eVar 1) (eC (.int 3))) (eVar 2)))) aNil))))
def f_rest_in : List D → M D := runD 1 3 b_rest_in
theorem sc_rest_in : FnScope ["counts", "many", "lines"] ["counts"] (defScope (top 78)) := ⟨rfl, rfl, rfl, by decide +kernel, rfl, by decide +kernel, by decide +kernel⟩
theorem ok_rest_in {w : World} {K : PySem.W.Frag} {mg : Str → Option Value} {base : Heap} (Z : FX K mg) : OkF pg w K mg base (px K) 4 65 f_rest_in := by
  obtain ⟨fd, F⟩ := Z.dd 65 _ _ rfl rfl
  have o_with_two := ok_with_two (w := w) (base := base) Z
  have sc := sc_rest_in
  refine okF_mk (K := K) (P := px K) (st := top 78) (k := 3) rfl F sc (F.bindsN (ps := ["counts"]) fun _ _ _ _ _ _ us hl => match us, hl with | [_], _ => rfl) fun cdv A outer s H E hr => ?_
  exact (sss_one (ss_ret (se_sub (se_sub (se_callF o_with_two (hr.mono (by decide)) (Z.g 64 _ rfl) rfl (sa_cons (se_var 0) sa_nil)) se_int) (se_sum rfl rfl (Z.fr 16 _ rfl) (sb_cons (se_f (sf_comp (own := [("many", 1), ("lines", 2)]) rfl sc.nd (si_seq (se_var 0)) (blkOk_by (own := [("many", 1), ("lines", 2)]) (by kernel_rfl)) (by decide) (fun _ _ _ _ _ => (sg_tup rfl (sgs_cons (sg_var 1 sc.nd) (sgs_cons (sg_var 2 sc.nd) sgs_nil)))) (fun _ _ _ _ _ => (sts_one (st_gt (se_var 1) se_int))) (fun _ _ _ _ _ => (se_mul (se_sub (se_var 1) se_int) (se_var 2))))) sb_nil)))))
def b_pairs_in : DEnv → M Out := (sRet (eB sumD (bCons (eF (fComp (iSeqD (eVar 0)) [1, 2] (gTupD 2 (gConsD (gVar 1) (gConsD (gVar 2) gNilD))) tYesD (eBin mulD (eVar 2) (eBin fdivD (eBin mulD (eVar 1) (eBin subD (eVar 1) (eC (.int 1)))) (eC (.int 2)))))) aNil)))
def f_pairs_in : List D → M D := runD 1 3 b_pairs_in
theorem sc_pairs_in : FnScope ["counts", "many", "lines"] ["counts"] (defScope (top 79)) := ⟨rfl, rfl, rfl, by decide +kernel, rfl, by decide +kernel, by decide +kernel⟩
theorem ok_pairs_in {w : World} {K : PySem.W.Frag} {mg : Str → Option Value} {base : Heap} (Z : FX K mg) : OkF pg w K mg base (px K) 3 66 f_pairs_in := by
  obtain ⟨fd, F⟩ := Z.dd 66 _ _ rfl rfl
  have sc := sc_pairs_in
  refine okF_mk (K := K) (P := px K) (st := top 79) (k := 2) rfl F sc (F.bindsN (ps := ["counts"]) fun _ _ _ _ _ _ us hl => match us, hl with | [_], _ => rfl) fun cdv A outer s H E hr => ?_
  exact (sss_one (ss_ret (se_sum rfl rfl (Z.fr 16 _ rfl) (sb_cons (se_f (sf_comp (own := [("many", 1), ("lines", 2)]) rfl sc.nd (si_seq (se_var 0)) (blkOk_by (own := [("many", 1), ("lines", 2)]) (by kernel_rfl)) (by decide) (fun _ _ _ _ _ => (sg_tup rfl (sgs_cons (sg_var 1 sc.nd) (sgs_cons (sg_var 2 sc.nd) sgs_nil)))) (fun _ _ _ _ _ => sts_nil) (fun _ _ _ _ _ => (se_mul (se_var 2) (se_fdiv (se_mul (se_var 1) (se_sub (se_var 1) se_int)) se_int))))) sb_nil))))
def b_at_each : DEnv → M Out := (sSeq (sSet 1 (eF (fComp (iSeqD (eCall f_lines_in (aCons (eVar 0) aNil))) [2, 3] (gTupD 2 (gConsD (gVar 2) (gConsD (gVar 3) gNilD))) tYesD (eVar 3)))) (sRet (eF (fComp (iRng1D (aCons (eB lenD (bCons (eVar 0) aNil)) aNil)) [4] (gVar 4) tYesD (eB lenD (bCons (eF (fComp (iSeqD (eVar 1)) [3] (gVar 3) (tB (eBin inD (eVar 4) (eVar 3))) (eC (.int 1)))) aNil))))))
def f_at_each : List D → M D := runD 1 5 b_at_each
theorem sc_at_each : FnScope ["points", "rows", "line", "places", "place"] ["points"] (defScope (top 80)) := ⟨rfl, rfl, rfl, by decide +kernel, rfl, by decide +kernel, by decide +kernel⟩
theorem ok_at_each {w : World} {K : PySem.W.Frag} {mg : Str → Option Value} {base : Heap} (Z : FX K mg) : OkF pg w K mg base (px K) 8 67 f_at_each := by
  obtain ⟨fd, F⟩ := Z.dd 67 _ _ rfl rfl
  have o_lines_in := ok_lines_in (w := w) (base := base) Z
  have sc := sc_at_each
  refine okF_mk (K := K) (P := px K) (st := top 80) (k := 7) rfl F sc (F.bindsN (ps := ["points"]) fun _ _ _ _ _ _ us hl => match us, hl with | [_], _ => rfl) fun cdv A outer s H E hr => ?_
  exact (sss_cons (ss_set 1 sc.nd (se_f (sf_comp (own := [("line", 2), ("places", 3)]) rfl sc.nd (si_seq (se_callF o_lines_in (hr.mono (by decide)) (Z.g 35 _ rfl) rfl (sa_cons (se_var 0) sa_nil))) (blkOk_by (own := [("line", 2), ("places", 3)]) (by kernel_rfl)) (by decide) (fun _ _ _ _ _ => (sg_tup rfl (sgs_cons (sg_var 2 sc.nd) (sgs_cons (sg_var 3 sc.nd) sgs_nil)))) (fun _ _ _ _ _ => sts_nil) (fun _ _ _ _ _ => (se_var 3))))) (sss_one (ss_ret (se_f (sf_comp (own := [("place", 4)]) rfl sc.nd (si_range1 rfl (Z.fr 12 _ rfl) (sa_cons (se_len rfl (Z.fr 8 _ rfl) (sb_cons (se_var 0) sb_nil)) sa_nil)) (blkOk_by (own := [("place", 4)]) (by kernel_rfl)) (by decide) (fun _ _ _ _ _ => (sg_var 4 sc.nd)) (fun _ _ _ _ _ => sts_nil) (fun _ _ _ _ _ => (se_len rfl (Z.fr 8 _ rfl) (sb_cons (se_f (sf_comp (own := [("places", 3)]) rfl sc.nd (si_seq (se_var 1)) (blkOk_by (own := [("places", 3)]) (by kernel_rfl)) (by decide) (fun _ _ _ _ _ => (sg_var 3 sc.nd)) (fun _ _ _ _ _ => (sts_one (st_in hr (se_var 4) (se_var 3)))) (fun _ _ _ _ _ => se_int))) sb_nil))))))))
def b_line_counts : DEnv → M Out := (sRet (eCall f_counts_in (aCons (eCall f_sure_points (aCons (eVar 0) aNil)) aNil)))
def f_line_counts : List D → M D := runD 1 1 b_line_counts
theorem sc_line_counts : FnScope ["points"] ["points"] (defScope (top 81)) := ⟨rfl, rfl, rfl, by decide +kernel, rfl, by decide +kernel, by decide +kernel⟩
theorem ok_line_counts {w : World} {K : PySem.W.Frag} {mg : Str → Option Value} {base : Heap} (Z : FX K mg) : OkF pg w K mg base (px K) 17 68 f_line_counts := by
  obtain ⟨fd, F⟩ := Z.dd 68 _ _ rfl rfl
  have o_sure_points := ok_sure_points (w := w) (base := base) Z
  have o_counts_in := ok_counts_in (w := w) (base := base) Z
  have sc := sc_line_counts
  refine okF_mk (K := K) (P := px K) (st := top 81) (k := 16) rfl F sc (F.bindsN (ps := ["points"]) fun _ _ _ _ _ _ us hl => match us, hl with | [_], _ => rfl) fun cdv A outer s H E hr => ?_
  exact (sss_one (ss_ret (se_callF o_counts_in (hr.mono (by decide)) (Z.g 63 _ rfl) rfl (sa_cons (se_callF o_sure_points (hr.mono (by decide)) (Z.g 21 _ rfl) rfl (sa_cons (se_var 0) sa_nil)) sa_nil))))
def b_how_many_lines : DEnv → M Out := (sRet (eB lenD (bCons (eCall f_lines_in (aCons (eCall f_sure_points (aCons (eVar 0) aNil)) aNil)) aNil)))
def f_how_many_lines : List D → M D := runD 1 1 b_how_many_lines
theorem sc_how_many_lines : FnScope ["points"] ["points"] (defScope (top 82)) := ⟨rfl, rfl, rfl, by decide +kernel, rfl, by decide +kernel, by decide +kernel⟩
theorem ok_how_many_lines {w : World} {K : PySem.W.Frag} {mg : Str → Option Value} {base : Heap} (Z : FX K mg) : OkF pg w K mg base (px K) 17 69 f_how_many_lines := by
  obtain ⟨fd, F⟩ := Z.dd 69 _ _ rfl rfl
  have o_sure_points := ok_sure_points (w := w) (base := base) Z
  have o_lines_in := ok_lines_in (w := w) (base := base) Z
  have sc := sc_how_many_lines
  refine okF_mk (K := K) (P := px K) (st := top 82) (k := 16) rfl F sc (F.bindsN (ps := ["points"]) fun _ _ _ _ _ _ us hl => match us, hl with | [_], _ => rfl) fun cdv A outer s H E hr => ?_
  exact (sss_one (ss_ret (se_len rfl (Z.fr 8 _ rfl) (sb_cons (se_callF o_lines_in (hr.mono (by decide)) (Z.g 35 _ rfl) rfl (sa_cons (se_callF o_sure_points (hr.mono (by decide)) (Z.g 21 _ rfl) rfl (sa_cons (se_var 0) sa_nil)) sa_nil)) sb_nil))))
def b_lines_of_two : DEnv → M Out := (sRet (eB tupD (bCons (eF (fSort (eF (fComp (iSeqD (eCall f_lines_in (aCons (eCall f_sure_points (aCons (eVar 0) aNil)) aNil))) [1, 2] (gTupD 2 (gConsD (gVar 1) (gConsD (gVar 2) gNilD))) (tB (eBin eqD (eB lenD (bCons (eVar 2) aNil)) (eC (.int 2)))) (eVar 2))))) aNil)))
def f_lines_of_two : List D → M D := runD 1 3 b_lines_of_two
theorem sc_lines_of_two : FnScope ["points", "line", "places"] ["points"] (defScope (top 83)) := ⟨rfl, rfl, rfl, by decide +kernel, rfl, by decide +kernel, by decide +kernel⟩
theorem ok_lines_of_two {w : World} {K : PySem.W.Frag} {mg : Str → Option Value} {base : Heap} (Z : FX K mg) : OkF pg w K mg base (px K) 17 70 f_lines_of_two := by
  obtain ⟨fd, F⟩ := Z.dd 70 _ _ rfl rfl
  have o_sure_points := ok_sure_points (w := w) (base := base) Z
  have o_lines_in := ok_lines_in (w := w) (base := base) Z
  have sc := sc_lines_of_two
  refine okF_mk (K := K) (P := px K) (st := top 83) (k := 16) rfl F sc (F.bindsN (ps := ["points"]) fun _ _ _ _ _ _ us hl => match us, hl with | [_], _ => rfl) fun cdv A outer s H E hr => ?_
  exact (sss_one (ss_ret (se_toTup rfl (Z.fr 17 _ rfl) (sb_cons (se_f (sf_sorted hr rfl (Z.fr 14 _ rfl) (se_f (sf_comp (own := [("line", 1), ("places", 2)]) rfl sc.nd (si_seq (se_callF o_lines_in (hr.mono (by decide)) (Z.g 35 _ rfl) rfl (sa_cons (se_callF o_sure_points (hr.mono (by decide)) (Z.g 21 _ rfl) rfl (sa_cons (se_var 0) sa_nil)) sa_nil))) (blkOk_by (own := [("line", 1), ("places", 2)]) (by kernel_rfl)) (by decide) (fun _ _ _ _ _ => (sg_tup rfl (sgs_cons (sg_var 1 sc.nd) (sgs_cons (sg_var 2 sc.nd) sgs_nil)))) (fun _ _ _ _ _ => (sts_one (st_eq hr (se_len rfl (Z.fr 8 _ rfl) (sb_cons (se_var 2) sb_nil)) se_int))) (fun _ _ _ _ _ => (se_var 2)))))) sb_nil))))
def b_lines_at : DEnv → M Out := (sRet (eB tupD (bCons (eCall f_at_each (aCons (eCall f_sure_points (aCons (eVar 0) aNil)) aNil)) aNil)))
def f_lines_at : List D → M D := runD 1 1 b_lines_at
theorem sc_lines_at : FnScope ["points"] ["points"] (defScope (top 84)) := ⟨rfl, rfl, rfl, by decide +kernel, rfl, by decide +kernel, by decide +kernel⟩
theorem ok_lines_at {w : World} {K : PySem.W.Frag} {mg : Str → Option Value} {base : Heap} (Z : FX K mg) : OkF pg w K mg base (px K) 17 71 f_lines_at := by
  obtain ⟨fd, F⟩ := Z.dd 71 _ _ rfl rfl
  have o_sure_points := ok_sure_points (w := w) (base := base) Z
  have o_at_each := ok_at_each (w := w) (base := base) Z
  have sc := sc_lines_at
  refine okF_mk (K := K) (P := px K) (st := top 84) (k := 16) rfl F sc (F.bindsN (ps := ["points"]) fun _ _ _ _ _ _ us hl => match us, hl with | [_], _ => rfl) fun cdv A outer s H E hr => ?_
  exact (sss_one (ss_ret (se_toTup rfl (Z.fr 17 _ rfl) (sb_cons (se_callF o_at_each (hr.mono (by decide)) (Z.g 67 _ rfl) rfl (sa_cons (se_callF o_sure_points (hr.mono (by decide)) (Z.g 21 _ rfl) rfl (sa_cons (se_var 0) sa_nil)) sa_nil)) sb_nil))))
end Lw

set_option Elab.async false
set_option linter.all false
set_option maxRecDepth 100000
set_option maxHeartbeats 4000000
namespace Lw
open PySem PySem.Spec PyProof.Rows L2 Pu
def b_beyond_three : DEnv → M Out := (sRet (eCall f_rest_in (aCons (eCall f_counts_in (aCons (eCall f_sure_spread (aCons (eVar 0) aNil)) aNil)) aNil)))
def f_beyond_three : List D → M D := runD 1 1 b_beyond_three
theorem sc_beyond_three : FnScope ["points"] ["points"] (defScope (top 85)) := ⟨rfl, rfl, rfl, by decide +kernel, rfl, by decide +kernel, by decide +kernel⟩
theorem ok_beyond_three {w : World} {K : PySem.W.Frag} {mg : Str → Option Value} {base : Heap} (Z : FX K mg) : OkF pg w K mg base (px K) 18 72 f_beyond_three := by
  obtain ⟨fd, F⟩ := Z.dd 72 _ _ rfl rfl
  have o_sure_spread := ok_sure_spread (w := w) (base := base) Z
  have o_counts_in := ok_counts_in (w := w) (base := base) Z
  have o_rest_in := ok_rest_in (w := w) (base := base) Z
  have sc := sc_beyond_three
  refine okF_mk (K := K) (P := px K) (st := top 85) (k := 17) rfl F sc (F.bindsN (ps := ["points"]) fun _ _ _ _ _ _ us hl => match us, hl with | [_], _ => rfl) fun cdv A outer s H E hr => ?_
  exact (sss_one (ss_ret (se_callF o_rest_in (hr.mono (by decide)) (Z.g 65 _ rfl) rfl (sa_cons (se_callF o_counts_in (hr.mono (by decide)) (Z.g 63 _ rfl) rfl (sa_cons (se_callF o_sure_spread (hr.mono (by decide)) (Z.g 53 _ rfl) rfl (sa_cons (se_var 0) sa_nil)) sa_nil)) sa_nil))))
def b_pairs_told : DEnv → M Out := (sRet (eCall f_pairs_in (aCons (eCall f_counts_in (aCons (eCall f_sure_points (aCons (eVar 0) aNil)) aNil)) aNil)))
def f_pairs_told : List D → M D := runD 1 1 b_pairs_told
theorem sc_pairs_told : FnScope ["points"] ["points"] (defScope (top 86)) := ⟨rfl, rfl, rfl, by decide +kernel, rfl, by decide +kernel, by decide +kernel⟩
theorem ok_pairs_told {w : World} {K : PySem.W.Frag} {mg : Str → Option Value} {base : Heap} (Z : FX K mg) : OkF pg w K mg base (px K) 17 73 f_pairs_told := by
  obtain ⟨fd, F⟩ := Z.dd 73 _ _ rfl rfl
  have o_sure_points := ok_sure_points (w := w) (base := base) Z
  have o_counts_in := ok_counts_in (w := w) (base := base) Z
  have o_pairs_in := ok_pairs_in (w := w) (base := base) Z
  have sc := sc_pairs_told
  refine okF_mk (K := K) (P := px K) (st := top 86) (k := 16) rfl F sc (F.bindsN (ps := ["points"]) fun _ _ _ _ _ _ us hl => match us, hl with | [_], _ => rfl) fun cdv A outer s H E hr => ?_
  exact (sss_one (ss_ret (se_callF o_pairs_in (hr.mono (by decide)) (Z.g 66 _ rfl) rfl (sa_cons (se_callF o_counts_in (hr.mono (by decide)) (Z.g 63 _ rfl) rfl (sa_cons (se_callF o_sure_points (hr.mono (by decide)) (Z.g 21 _ rfl) rfl (sa_cons (se_var 0) sa_nil)) sa_nil)) sa_nil))))
def b_busiest_line : DEnv → M Out := (sSeq (sSet 1 (eF (fComp (iSeqD (eCall f_lines_in (aCons (eCall f_sure_points (aCons (eVar 0) aNil)) aNil))) [2, 3] (gTupD 2 (gConsD (gVar 2) (gConsD (gVar 3) gNilD))) tYesD (eVar 3)))) (sSeq (sSet 4 (eB maxLD (bCons (eF (fComp (iSeqD (eVar 1)) [3] (gVar 3) tYesD (eB lenD (bCons (eVar 3) aNil)))) aNil))) (sRet (eB minLD (bCons (eF (fComp (iSeqD (eVar 1)) [3] (gVar 3) (tB (eBin eqD (eB lenD (bCons (eVar 3) aNil)) (eVar 4))) (eVar 3))) aNil)))))
def f_busiest_line : List D → M D := runD 1 5 b_busiest_line
theorem sc_busiest_line : FnScope ["points", "rows", "line", "places", "most"] ["points"] (defScope (top 87)) := ⟨rfl, rfl, rfl, by decide +kernel, rfl, by decide +kernel, by decide +kernel⟩
theorem ok_busiest_line {w : World} {K : PySem.W.Frag} {mg : Str → Option Value} {base : Heap} (Z : FX K mg) : OkF pg w K mg base (px K) 17 74 f_busiest_line := by
  obtain ⟨fd, F⟩ := Z.dd 74 _ _ rfl rfl
  have o_sure_points := ok_sure_points (w := w) (base := base) Z
  have o_lines_in := ok_lines_in (w := w) (base := base) Z
  have sc := sc_busiest_line
  refine okF_mk (K := K) (P := px K) (st := top 87) (k := 16) rfl F sc (F.bindsN (ps := ["points"]) fun _ _ _ _ _ _ us hl => match us, hl with | [_], _ => rfl) fun cdv A outer s H E hr => ?_
  exact (sss_cons (ss_setC (own := [("line", 2), ("places", 3)]) 1 rfl sc.nd (si_seq (se_callF o_lines_in (hr.mono (by decide)) (Z.g 35 _ rfl) rfl (sa_cons (se_callF o_sure_points (hr.mono (by decide)) (Z.g 21 _ rfl) rfl (sa_cons (se_var 0) sa_nil)) sa_nil))) (blkOk_by (own := [("line", 2), ("places", 3)]) (by kernel_rfl)) (by decide) (fun _ _ _ _ _ => (sg_tup rfl (sgs_cons (sg_var 2 sc.nd) (sgs_cons (sg_var 3 sc.nd) sgs_nil)))) (fun _ _ _ _ _ => sts_nil) (fun _ _ _ _ _ => (se_var 3))) (sss_cons (ss_set 4 sc.nd (se_maxL rfl rfl (Z.fr 10 _ rfl) (sb_cons (se_f (sf_comp (own := [("places", 3)]) rfl sc.nd (si_seq (se_var 1)) (blkOk_by (own := [("places", 3)]) (by kernel_rfl)) (by decide) (fun _ _ _ _ _ => (sg_var 3 sc.nd)) (fun _ _ _ _ _ => sts_nil) (fun _ _ _ _ _ => (se_len rfl (Z.fr 8 _ rfl) (sb_cons (se_var 3) sb_nil))))) sb_nil))) (sss_one (ss_ret (se_minL rfl rfl (Z.fr 11 _ rfl) (sb_cons (se_f (sf_comp (own := [("places", 3)]) rfl sc.nd (si_seq (se_var 1)) (blkOk_by (own := [("places", 3)]) (by kernel_rfl)) (by decide) (fun _ _ _ _ _ => (sg_var 3 sc.nd)) (fun _ _ _ _ _ => (sts_one (st_eq hr (se_len rfl (Z.fr 8 _ rfl) (sb_cons (se_var 3) sb_nil)) (se_var 4)))) (fun _ _ _ _ _ => (se_var 3)))) sb_nil))))))
def b_is_near_pencil : DEnv → M Out := (sSeq (sSet 1 (eCall f_sure_points (aCons (eVar 0) aNil))) (sRet (eBin eqD (eB maxLD (bCons (eF (fComp (iSeqD (eCall f_lines_in (aCons (eVar 1) aNil))) [2, 3] (gTupD 2 (gConsD (gVar 2) (gConsD (gVar 3) gNilD))) tYesD (eB lenD (bCons (eVar 3) aNil)))) aNil)) (eBin subD (eB lenD (bCons (eVar 1) aNil)) (eC (.int 1))))))
def f_is_near_pencil : List D → M D := runD 1 4 b_is_near_pencil
theorem sc_is_near_pencil : FnScope ["points", "own", "line", "places"] ["points"] (defScope (top 88)) := ⟨rfl, rfl, rfl, by decide +kernel, rfl, by decide +kernel, by decide +kernel⟩
theorem ok_is_near_pencil {w : World} {K : PySem.W.Frag} {mg : Str → Option Value} {base : Heap} (Z : FX K mg) : OkF pg w K mg base (px K) 17 75 f_is_near_pencil := by
  obtain ⟨fd, F⟩ := Z.dd 75 _ _ rfl rfl
  have o_sure_points := ok_sure_points (w := w) (base := base) Z
  have o_lines_in := ok_lines_in (w := w) (base := base) Z
  have sc := sc_is_near_pencil
  refine okF_mk (K := K) (P := px K) (st := top 88) (k := 16) rfl F sc (F.bindsN (ps := ["points"]) fun _ _ _ _ _ _ us hl => match us, hl with | [_], _ => rfl) fun cdv A outer s H E hr => ?_
  exact (sss_cons (ss_set 1 sc.nd (se_callF o_sure_points (hr.mono (by decide)) (Z.g 21 _ rfl) rfl (sa_cons (se_var 0) sa_nil))) (sss_one (ss_ret (se_eq hr (se_maxL rfl rfl (Z.fr 10 _ rfl) (sb_cons (se_f (sf_comp (own := [("line", 2), ("places", 3)]) rfl sc.nd (si_seq (se_callF o_lines_in (hr.mono (by decide)) (Z.g 35 _ rfl) rfl (sa_cons (se_var 1) sa_nil))) (blkOk_by (own := [("line", 2), ("places", 3)]) (by kernel_rfl)) (by decide) (fun _ _ _ _ _ => (sg_tup rfl (sgs_cons (sg_var 2 sc.nd) (sgs_cons (sg_var 3 sc.nd) sgs_nil)))) (fun _ _ _ _ _ => sts_nil) (fun _ _ _ _ _ => (se_len rfl (Z.fr 8 _ rfl) (sb_cons (se_var 3) sb_nil))))) sb_nil)) (se_sub (se_len rfl (Z.fr 8 _ rfl) (sb_cons (se_var 1) sb_nil)) se_int)))))
def b_lonely_place : DEnv → M Out := (sSeq (sSet 1 (eCall f_sure_points (aCons (eVar 0) aNil))) (sSeq (sSet 2 (eF (fComp (iSeqD (eCall f_lines_in (aCons (eVar 1) aNil))) [3, 4] (gTupD 2 (gConsD (gVar 3) (gConsD (gVar 4) gNilD))) (tB (eBin eqD (eB lenD (bCons (eVar 4) aNil)) (eC (.int 2)))) (eVar 4)))) (sSeq (sIf (tB (eBin eqD (eVar 2) (eF (fLst aNil)))) (sRaise 0) sNext) (sSeq (sSet 5 (eF (fComp (iRng1D (aCons (eB lenD (bCons (eVar 1) aNil)) aNil)) [6] (gVar 6) tYesD (eB lenD (bCons (eF (fComp (iSeqD (eVar 2)) [4] (gVar 4) (tB (eBin inD (eVar 6) (eVar 4))) (eC (.int 1)))) aNil))))) (sRet (eIndex (eVar 5) (eB maxLD (bCons (eVar 5) aNil))))))))
def f_lonely_place : List D → M D := runD 1 7 b_lonely_place
theorem sc_lonely_place : FnScope ["points", "own", "rows", "line", "places", "many", "place"] ["points"] (defScope (top 89)) := ⟨rfl, rfl, rfl, by decide +kernel, rfl, by decide +kernel, by decide +kernel⟩
theorem ok_lonely_place {w : World} {K : PySem.W.Frag} {mg : Str → Option Value} {base : Heap} (Z : FX K mg) : OkF pg w K mg base (px K) 17 76 f_lonely_place := by
  obtain ⟨fd, F⟩ := Z.dd 76 _ _ rfl rfl
  have o_sure_points := ok_sure_points (w := w) (base := base) Z
  have o_lines_in := ok_lines_in (w := w) (base := base) Z
  have sc := sc_lonely_place
  refine okF_mk (K := K) (P := px K) (st := top 89) (k := 16) rfl F sc (F.bindsN (ps := ["points"]) fun _ _ _ _ _ _ us hl => match us, hl with | [_], _ => rfl) fun cdv A outer s H E hr => ?_
  exact (sss_cons (ss_set 1 sc.nd (se_callF o_sure_points (hr.mono (by decide)) (Z.g 21 _ rfl) rfl (sa_cons (se_var 0) sa_nil))) (sss_cons (ss_set 2 sc.nd (se_f (sf_comp (own := [("line", 3), ("places", 4)]) rfl sc.nd (si_seq (se_callF o_lines_in (hr.mono (by decide)) (Z.g 35 _ rfl) rfl (sa_cons (se_var 1) sa_nil))) (blkOk_by (own := [("line", 3), ("places", 4)]) (by kernel_rfl)) (by decide) (fun _ _ _ _ _ => (sg_tup rfl (sgs_cons (sg_var 3 sc.nd) (sgs_cons (sg_var 4 sc.nd) sgs_nil)))) (fun _ _ _ _ _ => (sts_one (st_eq hr (se_len rfl (Z.fr 8 _ rfl) (sb_cons (se_var 4) sb_nil)) se_int))) (fun _ _ _ _ _ => (se_var 4))))) (sss_cons (ss_if (st_eq hr (se_var 2) (se_f (sf_lst sa_nil))) (sss_one (ss_raise 0 rfl (Z.ex 0 _ rfl).2 (Z.ex 0 _ rfl).1 rfl)) sss_nil) (sss_cons (ss_setC (own := [("place", 6)]) 5 rfl sc.nd (si_range1 rfl (Z.fr 12 _ rfl) (sa_cons (se_len rfl (Z.fr 8 _ rfl) (sb_cons (se_var 1) sb_nil)) sa_nil)) (blkOk_by (own := [("place", 6)]) (by kernel_rfl)) (by decide) (fun _ _ _ _ _ => (sg_var 6 sc.nd)) (fun _ _ _ _ _ => sts_nil) (fun _ _ _ _ _ => (se_len rfl (Z.fr 8 _ rfl) (sb_cons (se_f (sf_comp (own := [("places", 4)]) rfl sc.nd (si_seq (se_var 2)) (blkOk_by (own := [("places", 4)]) (by kernel_rfl)) (by decide) (fun _ _ _ _ _ => (sg_var 4 sc.nd)) (fun _ _ _ _ _ => (sts_one (st_in hr (se_var 6) (se_var 4)))) (fun _ _ _ _ _ => se_int))) sb_nil)))) (sss_one (ss_ret (se_index hr (se_var 5) (se_maxL rfl rfl (Z.fr 10 _ rfl) (sb_cons (se_var 5) sb_nil)))))))))
def b_shear_in : DEnv → M Out := (sSeq (sSet 1 (eC (.int 0))) (sSeq (sWhile (fun _ => 1000) (tB (eBin ltD (eUn lenSet1 (eF (fComp (iSeqD (eVar 0)) [2, 3] (gTupD 2 (gConsD (gVar 2) (gConsD (gVar 3) gNilD))) tYesD (eCall f_plus (aCons (eVar 2) (aCons (eCall f_times (aCons (eTup (aCons (eVar 1) (aCons (eC (.int 1)) aNil))) (aCons (eVar 3) aNil))) aNil)))))) (eB lenD (bCons (eVar 0) aNil)))) (sAug 1 (eC (.int 1)))) (sRet (eVar 1))))
def f_shear_in : List D → M D := runD 1 4 b_shear_in
theorem sc_shear_in : FnScope ["points", "by", "x", "y"] ["points"] (defScope (top 91)) := ⟨rfl, rfl, rfl, by decide +kernel, rfl, by decide +kernel, by decide +kernel⟩
theorem ok_shear_in {w : World} {K : PySem.W.Frag} {mg : Str → Option Value} {base : Heap} (Z : FX K mg) : OkF pg w K mg base (px K) 6 77 f_shear_in := by
  obtain ⟨fd, F⟩ := Z.dd 77 _ _ rfl rfl
  have o_times := ok_times (w := w) (base := base) Z
  have o_plus := ok_plus (w := w) (base := base) Z
  have sc := sc_shear_in
  refine okF_mk (K := K) (P := px K) (st := top 91) (k := 5) rfl F sc (F.bindsN (ps := ["points"]) fun _ _ _ _ _ _ us hl => match us, hl with | [_], _ => rfl) fun cdv A outer s H E hr => ?_
  exact (sss_cons (ss_set 1 sc.nd se_int) (sss_cons (ss_while (fun _ => 1000) (passes_of rfl) (st_lt (se_lenSet hr rfl rfl (Z.fr 8 _ rfl) rfl (Z.fr 13 _ rfl) (se_f (sf_comp (own := [("x", 2), ("y", 3)]) rfl sc.nd (si_seq (se_var 0)) (blkOk_by (own := [("x", 2), ("y", 3)]) (by kernel_rfl)) (by decide) (fun _ _ _ _ _ => (sg_tup rfl (sgs_cons (sg_var 2 sc.nd) (sgs_cons (sg_var 3 sc.nd) sgs_nil)))) (fun _ _ _ _ _ => sts_nil) (fun _ _ _ _ _ => (se_callF o_plus (hr.mono (by decide)) (Z.g 10 _ rfl) rfl (sa_cons (se_var 2) (sa_cons (se_callF o_times (hr.mono (by decide)) (Z.g 12 _ rfl) rfl (sa_cons (se_tup (sa_cons (se_var 1) (sa_cons se_int sa_nil))) (sa_cons (se_var 3) sa_nil))) sa_nil))))))) (se_len rfl (Z.fr 8 _ rfl) (sb_cons (se_var 0) sb_nil))) (sss_one (ss_aug 1 sc.nd se_int))) (sss_one (ss_ret (se_var 1)))))
def b_slopes_in : DEnv → M Out := (sSeq (sSet 1 (eCall f_shear_in (aCons (eVar 0) aNil))) (sRet (eF (fComp (iSeqD (eVar 0)) [2, 3] (gTupD 2 (gConsD (gVar 2) (gConsD (gVar 3) gNilD))) tYesD (eTup (aCons (eCall f_plus (aCons (eVar 2) (aCons (eCall f_times (aCons (eTup (aCons (eVar 1) (aCons (eC (.int 1)) aNil))) (aCons (eVar 3) aNil))) aNil))) (aCons (eTup (aCons (eUn negD (eBin ixD (eVar 3) (eC (.int 0)))) (aCons (eBin ixD (eVar 3) (eC (.int 1))) aNil))) aNil)))))))
def f_slopes_in : List D → M D := runD 1 4 b_slopes_in
theorem sc_slopes_in : FnScope ["points", "by", "x", "y"] ["points"] (defScope (top 92)) := ⟨rfl, rfl, rfl, by decide +kernel, rfl, by decide +kernel, by decide +kernel⟩
theorem ok_slopes_in {w : World} {K : PySem.W.Frag} {mg : Str → Option Value} {base : Heap} (Z : FX K mg) : OkF pg w K mg base (px K) 7 78 f_slopes_in := by
  obtain ⟨fd, F⟩ := Z.dd 78 _ _ rfl rfl
  have o_shear_in := ok_shear_in (w := w) (base := base) Z
  have o_times := ok_times (w := w) (base := base) Z
  have o_plus := ok_plus (w := w) (base := base) Z
  have sc := sc_slopes_in
  refine okF_mk (K := K) (P := px K) (st := top 92) (k := 6) rfl F sc (F.bindsN (ps := ["points"]) fun _ _ _ _ _ _ us hl => match us, hl with | [_], _ => rfl) fun cdv A outer s H E hr => ?_
  exact (sss_cons (ss_set 1 sc.nd (se_callF o_shear_in (hr.mono (by decide)) (Z.g 77 _ rfl) rfl (sa_cons (se_var 0) sa_nil))) (sss_one (ss_ret (se_f (sf_comp (own := [("x", 2), ("y", 3)]) rfl sc.nd (si_seq (se_var 0)) (blkOk_by (own := [("x", 2), ("y", 3)]) (by kernel_rfl)) (by decide) (fun _ _ _ _ _ => (sg_tup rfl (sgs_cons (sg_var 2 sc.nd) (sgs_cons (sg_var 3 sc.nd) sgs_nil)))) (fun _ _ _ _ _ => sts_nil) (fun _ _ _ _ _ => (se_tup (sa_cons (se_callF o_plus (hr.mono (by decide)) (Z.g 10 _ rfl) rfl (sa_cons (se_var 2) (sa_cons (se_callF o_times (hr.mono (by decide)) (Z.g 12 _ rfl) rfl (sa_cons (se_tup (sa_cons (se_var 1) (sa_cons se_int sa_nil))) (sa_cons (se_var 3) sa_nil))) sa_nil))) (sa_cons (se_tup (sa_cons (se_neg (se_ix (se_var 3) se_int)) (sa_cons (se_ix (se_var 3) se_int) sa_nil))) sa_nil)))))))))
def b_corner_of : DEnv → M Out := (sSeq (sSet 2 (eCall f_over (aCons (eCall f_less (aCons (eBin ixD (eVar 1) (eC (.int 1))) (aCons (eBin ixD (eVar 0) (eC (.int 1))) aNil))) (aCons (eCall f_less (aCons (eBin ixD (eVar 0) (eC (.int 0))) (aCons (eBin ixD (eVar 1) (eC (.int 0))) aNil))) aNil)))) (sRet (eTup (aCons (eVar 2) (aCons (eCall f_plus (aCons (eCall f_times (aCons (eBin ixD (eVar 0) (eC (.int 0))) (aCons (eVar 2) aNil))) (aCons (eBin ixD (eVar 0) (eC (.int 1))) aNil))) aNil)))))
def f_corner_of : List D → M D := runD 2 3 b_corner_of
theorem sc_corner_of : FnScope ["one", "other", "across"] ["one", "other"] (defScope (top 93)) := ⟨rfl, rfl, rfl, by decide +kernel, rfl, by decide +kernel, by decide +kernel⟩
theorem ok_corner_of {w : World} {K : PySem.W.Frag} {mg : Str → Option Value} {base : Heap} (Z : FX K mg) : OkF pg w K mg base (px K) 6 79 f_corner_of := by
  obtain ⟨fd, F⟩ := Z.dd 79 _ _ rfl rfl
  have o_less := ok_less (w := w) (base := base) Z
  have o_over := ok_over (w := w) (base := base) Z
  have o_times := ok_times (w := w) (base := base) Z
  have o_plus := ok_plus (w := w) (base := base) Z
  have sc := sc_corner_of
  refine okF_mk (K := K) (P := px K) (st := top 93) (k := 5) rfl F sc (F.bindsN (ps := ["one", "other"]) fun _ _ _ _ _ _ us hl => match us, hl with | [_, _], _ => rfl) fun cdv A outer s H E hr => ?_
  exact (sss_cons (ss_set 2 sc.nd (se_callF o_over (hr.mono (by decide)) (Z.g 13 _ rfl) rfl (sa_cons (se_callF o_less (hr.mono (by decide)) (Z.g 11 _ rfl) rfl (sa_cons (se_ix (se_var 1) se_int) (sa_cons (se_ix (se_var 0) se_int) sa_nil))) (sa_cons (se_callF o_less (hr.mono (by decide)) (Z.g 11 _ rfl) rfl (sa_cons (se_ix (se_var 0) se_int) (sa_cons (se_ix (se_var 1) se_int) sa_nil))) sa_nil)))) (sss_one (ss_ret (se_tup (sa_cons (se_var 2) (sa_cons (se_callF o_plus (hr.mono (by decide)) (Z.g 10 _ rfl) rfl (sa_cons (se_callF o_times (hr.mono (by decide)) (Z.g 12 _ rfl) rfl (sa_cons (se_ix (se_var 0) se_int) (sa_cons (se_var 2) sa_nil))) (sa_cons (se_ix (se_var 0) se_int) sa_nil))) sa_nil))))))
end Lw

set_option Elab.async false
set_option linter.all false
set_option maxRecDepth 100000
set_option maxHeartbeats 4000000
namespace Lw
open PySem PySem.Spec PyProof.Rows L2 Pu
def b_corners_in : DEnv → M Out := (sSeq (sSet 1 (eCall f_slopes_in (aCons (eVar 0) aNil))) (sRet (eF (fComp (iSeqD (eCall f_lines_in (aCons (eVar 0) aNil))) [2, 3] (gTupD 2 (gConsD (gVar 2) (gConsD (gVar 3) gNilD))) tYesD (eTup (aCons (eCall f_corner_of (aCons (eBin ixD (eVar 1) (eBin ixD (eVar 3) (eC (.int 0)))) (aCons (eBin ixD (eVar 1) (eBin ixD (eVar 3) (eC (.int 1)))) aNil))) (aCons (eVar 3) aNil)))))))
def f_corners_in : List D → M D := runD 1 4 b_corners_in
theorem sc_corners_in : FnScope ["points", "slopes", "line", "places"] ["points"] (defScope (top 94)) := ⟨rfl, rfl, rfl, by decide +kernel, rfl, by decide +kernel, by decide +kernel⟩
theorem ok_corners_in {w : World} {K : PySem.W.Frag} {mg : Str → Option Value} {base : Heap} (Z : FX K mg) : OkF pg w K mg base (px K) 8 80 f_corners_in := by
  obtain ⟨fd, F⟩ := Z.dd 80 _ _ rfl rfl
  have o_slopes_in := ok_slopes_in (w := w) (base := base) Z
  have o_lines_in := ok_lines_in (w := w) (base := base) Z
  have o_corner_of := ok_corner_of (w := w) (base := base) Z
  have sc := sc_corners_in
  refine okF_mk (K := K) (P := px K) (st := top 94) (k := 7) rfl F sc (F.bindsN (ps := ["points"]) fun _ _ _ _ _ _ us hl => match us, hl with | [_], _ => rfl) fun cdv A outer s H E hr => ?_
  exact (sss_cons (ss_set 1 sc.nd (se_callF o_slopes_in (hr.mono (by decide)) (Z.g 78 _ rfl) rfl (sa_cons (se_var 0) sa_nil))) (sss_one (ss_ret (se_f (sf_comp (own := [("line", 2), ("places", 3)]) rfl sc.nd (si_seq (se_callF o_lines_in (hr.mono (by decide)) (Z.g 35 _ rfl) rfl (sa_cons (se_var 0) sa_nil))) (blkOk_by (own := [("line", 2), ("places", 3)]) (by kernel_rfl)) (by decide) (fun _ _ _ _ _ => (sg_tup rfl (sgs_cons (sg_var 2 sc.nd) (sgs_cons (sg_var 3 sc.nd) sgs_nil)))) (fun _ _ _ _ _ => sts_nil) (fun _ _ _ _ _ => (se_tup (sa_cons (se_callF o_corner_of (hr.mono (by decide)) (Z.g 79 _ rfl) rfl (sa_cons (se_ix (se_var 1) (se_ix (se_var 3) se_int)) (sa_cons (se_ix (se_var 1) (se_ix (se_var 3) se_int)) sa_nil))) (sa_cons (se_var 3) sa_nil)))))))))
def b_by_slope : DEnv → M Out := (sSeq (sSet 2 (eF (fLst aNil))) (sSeq (sFor (iSeqD (eVar 1)) (gVar 3) (sSeq (sSet 4 (eF (fComp (iSeqD (eVar 2)) [5] (gVar 5) (tTr (eCall f_is_under (aCons (eBin ixD (eBin ixD (eVar 0) (eVar 5)) (eC (.int 0))) (aCons (eBin ixD (eBin ixD (eVar 0) (eVar 3)) (eC (.int 0))) aNil)))) (eVar 5)))) (sSet 2 (eBin addD (eBin addD (eVar 4) (eF (fLst (aCons (eVar 3) aNil)))) (eSl (eVar 2) (oSome (eB lenD (bCons (eVar 4) aNil))) oNone))))) (sRet (eVar 2))))
def f_by_slope : List D → M D := runD 2 6 b_by_slope
theorem sc_by_slope : FnScope ["slopes", "places", "found", "own", "ahead", "its"] ["slopes", "places"] (defScope (top 95)) := ⟨rfl, rfl, rfl, by decide +kernel, rfl, by decide +kernel, by decide +kernel⟩
theorem ok_by_slope {w : World} {K : PySem.W.Frag} {mg : Str → Option Value} {base : Heap} (Z : FX K mg) : OkF pg w K mg base (px K) 4 81 f_by_slope := by
  obtain ⟨fd, F⟩ := Z.dd 81 _ _ rfl rfl
  have o_is_under := ok_is_under (w := w) (base := base) Z
  have sc := sc_by_slope
  refine okF_mk (K := K) (P := px K) (st := top 95) (k := 3) rfl F sc (F.bindsN (ps := ["slopes", "places"]) fun _ _ _ _ _ _ us hl => match us, hl with | [_, _], _ => rfl) fun cdv A outer s H E hr => ?_
  exact (sss_cons (ss_set 2 sc.nd (se_f (sf_lst sa_nil))) (sss_cons (ss_for (passes_of rfl) rfl (si_seq (se_var 1)) (sg_var 3 sc.nd) (sss_cons (ss_setC (own := [("its", 5)]) 4 rfl sc.nd (si_seq (se_var 2)) (blkOk_by (own := [("its", 5)]) (by kernel_rfl)) (by decide) (fun _ _ _ _ _ => (sg_var 5 sc.nd)) (fun _ _ _ _ _ => (sts_one (st_tr (se_callF o_is_under (hr.mono (by decide)) (Z.g 14 _ rfl) rfl (sa_cons (se_ix (se_ix (se_var 0) (se_var 5)) se_int) (sa_cons (se_ix (se_ix (se_var 0) (se_var 3)) se_int) sa_nil)))))) (fun _ _ _ _ _ => (se_var 5))) (sss_one (ss_set 2 sc.nd (se_add (se_add (se_var 4) (se_f (sf_lst (sa_cons (se_var 3) sa_nil)))) (se_slice (se_var 2) (so_some (se_len rfl (Z.fr 8 _ rfl) (sb_cons (se_var 4) sb_nil))) so_none)))))) (sss_one (ss_ret (se_var 2)))))
def b_by_across : DEnv → M Out := (sSeq (sSet 2 (eF (fLst aNil))) (sSeq (sFor (iSeqD (eVar 1)) (gVar 3) (sSeq (sSet 4 (eF (fComp (iSeqD (eVar 2)) [5] (gVar 5) (tTr (eCall f_is_under (aCons (eBin ixD (eBin ixD (eBin ixD (eVar 0) (eVar 5)) (eC (.int 0))) (eC (.int 0))) (aCons (eBin ixD (eBin ixD (eBin ixD (eVar 0) (eVar 3)) (eC (.int 0))) (eC (.int 0))) aNil)))) (eVar 5)))) (sSet 2 (eBin addD (eBin addD (eVar 4) (eF (fLst (aCons (eVar 3) aNil)))) (eSl (eVar 2) (oSome (eB lenD (bCons (eVar 4) aNil))) oNone))))) (sRet (eVar 2))))
def f_by_across : List D → M D := runD 2 6 b_by_across
theorem sc_by_across : FnScope ["corners", "numbers", "found", "own", "ahead", "its"] ["corners", "numbers"] (defScope (top 96)) := ⟨rfl, rfl, rfl, by decide +kernel, rfl, by decide +kernel, by decide +kernel⟩
theorem ok_by_across {w : World} {K : PySem.W.Frag} {mg : Str → Option Value} {base : Heap} (Z : FX K mg) : OkF pg w K mg base (px K) 4 82 f_by_across := by
  obtain ⟨fd, F⟩ := Z.dd 82 _ _ rfl rfl
  have o_is_under := ok_is_under (w := w) (base := base) Z
  have sc := sc_by_across
  refine okF_mk (K := K) (P := px K) (st := top 96) (k := 3) rfl F sc (F.bindsN (ps := ["corners", "numbers"]) fun _ _ _ _ _ _ us hl => match us, hl with | [_, _], _ => rfl) fun cdv A outer s H E hr => ?_
  exact (sss_cons (ss_set 2 sc.nd (se_f (sf_lst sa_nil))) (sss_cons (ss_for (passes_of rfl) rfl (si_seq (se_var 1)) (sg_var 3 sc.nd) (sss_cons (ss_setC (own := [("its", 5)]) 4 rfl sc.nd (si_seq (se_var 2)) (blkOk_by (own := [("its", 5)]) (by kernel_rfl)) (by decide) (fun _ _ _ _ _ => (sg_var 5 sc.nd)) (fun _ _ _ _ _ => (sts_one (st_tr (se_callF o_is_under (hr.mono (by decide)) (Z.g 14 _ rfl) rfl (sa_cons (se_ix (se_ix (se_ix (se_var 0) (se_var 5)) se_int) se_int) (sa_cons (se_ix (se_ix (se_ix (se_var 0) (se_var 3)) se_int) se_int) sa_nil)))))) (fun _ _ _ _ _ => (se_var 5))) (sss_one (ss_set 2 sc.nd (se_add (se_add (se_var 4) (se_f (sf_lst (sa_cons (se_var 3) sa_nil)))) (se_slice (se_var 2) (so_some (se_len rfl (Z.fr 8 _ rfl) (sb_cons (se_var 4) sb_nil))) so_none)))))) (sss_one (ss_ret (se_var 2)))))
def b_picture_of : DEnv → M Out := (sSeq (sPar 1 2 (aCons (eCall f_slopes_in (aCons (eVar 0) aNil)) (aCons (eCall f_corners_in (aCons (eVar 0) aNil)) aNil))) (sSeq (sOwn 3 (fLst aNil)) (sSeq (sFor (iRng1D (aCons (eB lenD (bCons (eVar 0) aNil)) aNil)) (gVar 4) (sApp 3 (eCall f_by_across (aCons (eVar 2) (aCons (eF (fComp (iEnumD (aCons (eVar 2) aNil)) [5, 6] (gTupD 2 (gConsD (gVar 5) (gConsD (gVar 6) gNilD))) (tB (eBin inD (eVar 4) (eBin ixD (eVar 6) (eC (.int 1))))) (eVar 5))) aNil))))) (sFrz 3 (sSeq (sOwn 7 (fLst aNil)) (sSeq (sFor (iSeqD (eVar 2)) (gTupD 2 (gConsD (gVar 8) (gConsD (gVar 9) gNilD))) (sSeq (sSet 10 (eCall f_by_slope (aCons (eVar 1) (aCons (eVar 9) aNil)))) (sApp 7 (eBin addD (eF (fComp (iSeqD (eVar 10)) [6] (gVar 6) tYesD (eTup (aCons (eVar 6) (aCons (eC (.int 1)) aNil))))) (eF (fComp (iSeqD (eVar 10)) [6] (gVar 6) tYesD (eTup (aCons (eVar 6) (aCons (eUn negD (eC (.int 1))) aNil))))))))) (sFrz 7 (sRet (eTup (aCons (eVar 3) (aCons (eVar 7) aNil)))))))))))
def f_picture_of : List D → M D := runD 1 11 b_picture_of
theorem sc_picture_of : FnScope ["points", "slopes", "corners", "on", "place", "number", "own", "turns", "corner", "places", "row"] ["points"] (defScope (top 97)) := ⟨rfl, rfl, rfl, by decide +kernel, rfl, by decide +kernel, by decide +kernel⟩
theorem ok_picture_of {w : World} {K : PySem.W.Frag} {mg : Str → Option Value} {base : Heap} (Z : FX K mg) : OkF pg w K mg base (px K) 9 83 f_picture_of := by
  obtain ⟨fd, F⟩ := Z.dd 83 _ _ rfl rfl
  have o_slopes_in := ok_slopes_in (w := w) (base := base) Z
  have o_corners_in := ok_corners_in (w := w) (base := base) Z
  have o_by_across := ok_by_across (w := w) (base := base) Z
  have o_by_slope := ok_by_slope (w := w) (base := base) Z
  have sc := sc_picture_of
  refine okF_mk (K := K) (P := px K) (st := top 97) (k := 8) rfl F sc (F.bindsN (ps := ["points"]) fun _ _ _ _ _ _ us hl => match us, hl with | [_], _ => rfl) fun cdv A outer s H E hr => ?_
  exact (sss_cons (ss_par 1 2 rfl sc.nd (sa_cons (se_callF o_slopes_in (hr.mono (by decide)) (Z.g 78 _ rfl) rfl (sa_cons (se_var 0) sa_nil)) (sa_cons (se_callF o_corners_in (hr.mono (by decide)) (Z.g 80 _ rfl) rfl (sa_cons (se_var 0) sa_nil)) sa_nil))) (sss_cons (ss_own 3 sc.nd (sf_lst sa_nil)) (sss_cons (ss_for (passes_of rfl) rfl (si_range1 rfl (Z.fr 12 _ rfl) (sa_cons (se_len rfl (Z.fr 8 _ rfl) (sb_cons (se_var 0) sb_nil)) sa_nil)) (sg_var 4 sc.nd) (sss_one (ss_app 3 rfl (se_callF o_by_across (hr.mono (by decide)) (Z.g 82 _ rfl) rfl (sa_cons (se_var 2) (sa_cons (se_f (sf_comp (own := [("number", 5), ("own", 6)]) rfl sc.nd (si_enum rfl (Z.fr 5 _ rfl) (sa_cons (se_var 2) sa_nil)) (blkOk_by (own := [("number", 5), ("own", 6)]) (by kernel_rfl)) (by decide) (fun _ _ _ _ _ => (sg_tup rfl (sgs_cons (sg_var 5 sc.nd) (sgs_cons (sg_var 6 sc.nd) sgs_nil)))) (fun _ _ _ _ _ => (sts_one (st_in hr (se_var 4) (se_ix (se_var 6) se_int)))) (fun _ _ _ _ _ => (se_var 5)))) sa_nil)))))) (ss_frz 3 (sss_cons (ss_own 7 sc.nd (sf_lst sa_nil)) (sss_cons (ss_for (passes_of rfl) rfl (si_seq (se_var 2)) (sg_tup rfl (sgs_cons (sg_var 8 sc.nd) (sgs_cons (sg_var 9 sc.nd) sgs_nil))) (sss_cons (ss_set 10 sc.nd (se_callF o_by_slope (hr.mono (by decide)) (Z.g 81 _ rfl) rfl (sa_cons (se_var 1) (sa_cons (se_var 9) sa_nil)))) (sss_one (ss_app 7 rfl (se_add (se_f (sf_comp (own := [("own", 6)]) rfl sc.nd (si_seq (se_var 10)) (blkOk_by (own := [("own", 6)]) (by kernel_rfl)) (by decide) (fun _ _ _ _ _ => (sg_var 6 sc.nd)) (fun _ _ _ _ _ => sts_nil) (fun _ _ _ _ _ => (se_tup (sa_cons (se_var 6) (sa_cons se_int sa_nil)))))) (se_f (sf_comp (own := [("own", 6)]) rfl sc.nd (si_seq (se_var 10)) (blkOk_by (own := [("own", 6)]) (by kernel_rfl)) (by decide) (fun _ _ _ _ _ => (sg_var 6 sc.nd)) (fun _ _ _ _ _ => sts_nil) (fun _ _ _ _ _ => (se_tup (sa_cons (se_var 6) (sa_cons (se_neg se_int) sa_nil))))))))))) (ss_frz 7 (sss_one (ss_ret (se_tup (sa_cons (se_var 3) (sa_cons (se_var 7) sa_nil))))))))))))
def b_next_way : DEnv → M Out := (sSeq (sAsg (gTupD 2 (gConsD (gVar 2) (gConsD (gVar 3) gNilD))) (eVar 0)) (sSeq (sAsg (gTupD 3 (gConsD (gVar 4) (gConsD (gVar 5) (gConsD (gVar 6) gNilD)))) (eVar 1)) (sSeq (sIf (tOrD (tAndD (tB (eBin eqD (eVar 6) (eC (.int 1)))) (tB (eBin eqD (eVar 5) (eB lenD (bCons (eBin ixD (eVar 2) (eVar 4)) aNil))))) (tAndD (tB (eBin eqD (eVar 6) (eUn negD (eC (.int 1))))) (tB (eBin eqD (eVar 5) (eC (.int 0)))))) (sRet (eC .non)) sNext) (sSeq (sSet 7 (eIf (tB (eBin eqD (eVar 6) (eC (.int 1)))) (eBin ixD (eBin ixD (eVar 2) (eVar 4)) (eVar 5)) (eBin ixD (eBin ixD (eVar 2) (eVar 4)) (eBin subD (eVar 5) (eC (.int 1)))))) (sSeq (sSet 8 (eBin ixD (eVar 3) (eVar 7))) (sSeq (sAsg (gTupD 2 (gConsD (gVar 9) (gConsD (gVar 10) gNilD))) (eBin ixD (eVar 8) (eBin subD (eIndex (eVar 8) (eTup (aCons (eVar 4) (aCons (eUn negD (eVar 6)) aNil)))) (eC (.int 1))))) (sSeq (sSet 11 (eIndex (eBin ixD (eVar 2) (eVar 9)) (eVar 7))) (sRet (eIf (tB (eBin eqD (eVar 10) (eC (.int 1)))) (eTup (aCons (eVar 9) (aCons (eBin addD (eVar 11) (eC (.int 1))) (aCons (eC (.int 1)) aNil)))) (eTup (aCons (eVar 9) (aCons (eVar 11) (aCons (eUn negD (eC (.int 1))) aNil)))))))))))))
def f_next_way : List D → M D := runD 2 12 b_next_way
theorem sc_next_way : FnScope ["picture", "way", "on", "turns", "place", "bit", "side", "corner", "row", "own", "go", "at"] ["picture", "way"] (defScope (top 98)) := ⟨rfl, rfl, rfl, by decide +kernel, rfl, by decide +kernel, by decide +kernel⟩
theorem ok_next_way {w : World} {K : PySem.W.Frag} {mg : Str → Option Value} {base : Heap} (Z : FX K mg) : OkF pg w K mg base (px K) 3 84 f_next_way := by
  obtain ⟨fd, F⟩ := Z.dd 84 _ _ rfl rfl
  have sc := sc_next_way
  refine okF_mk (K := K) (P := px K) (st := top 98) (k := 2) rfl F sc (F.bindsN (ps := ["picture", "way"]) fun _ _ _ _ _ _ us hl => match us, hl with | [_, _], _ => rfl) fun cdv A outer s H E hr => ?_
  exact (sss_cons (ss_asg (se_var 0) (sg_tup rfl (sgs_cons (sg_var 2 sc.nd) (sgs_cons (sg_var 3 sc.nd) sgs_nil)))) (sss_cons (ss_asg (se_var 1) (sg_tup rfl (sgs_cons (sg_var 4 sc.nd) (sgs_cons (sg_var 5 sc.nd) (sgs_cons (sg_var 6 sc.nd) sgs_nil))))) (sss_cons (ss_if (SWt.st (sw_or (SWt.st (sw_and (st_eq hr (se_var 6) se_int) (sw_and1 (st_eq hr (se_var 5) (se_len rfl (Z.fr 8 _ rfl) (sb_cons (se_ix (se_var 2) (se_var 4)) sb_nil)))))) (sw_or1 (SWt.st (sw_and (st_eq hr (se_var 6) (se_neg se_int)) (sw_and1 (st_eq hr (se_var 5) se_int))))))) (sss_one (ss_ret se_non)) sss_nil) (sss_cons (ss_set 7 sc.nd (se_if (st_eq hr (se_var 6) se_int) (se_ix (se_ix (se_var 2) (se_var 4)) (se_var 5)) (se_ix (se_ix (se_var 2) (se_var 4)) (se_sub (se_var 5) se_int)))) (sss_cons (ss_set 8 sc.nd (se_ix (se_var 3) (se_var 7))) (sss_cons (ss_asg (se_ix (se_var 8) (se_sub (se_index hr (se_var 8) (se_tup (sa_cons (se_var 4) (sa_cons (se_neg (se_var 6)) sa_nil)))) se_int)) (sg_tup rfl (sgs_cons (sg_var 9 sc.nd) (sgs_cons (sg_var 10 sc.nd) sgs_nil)))) (sss_cons (ss_set 11 sc.nd (se_index hr (se_ix (se_var 2) (se_var 9)) (se_var 7))) (sss_one (ss_ret (se_if (st_eq hr (se_var 10) se_int) (se_tup (sa_cons (se_var 9) (sa_cons (se_add (se_var 11) se_int) (sa_cons se_int sa_nil)))) (se_tup (sa_cons (se_var 9) (sa_cons (se_var 11) (sa_cons (se_neg se_int) sa_nil))))))))))))))
def b_ways_in : DEnv → M Out := (sSeq (sOwn 1 (fLst aNil)) (sSeq (sFor (iEnumD (aCons (eVar 0) aNil)) (gTupD 2 (gConsD (gVar 2) (gConsD (gVar 3) gNilD))) (sFor (iRng1D (aCons (eBin addD (eB lenD (bCons (eVar 3) aNil)) (eC (.int 1))) aNil)) (gVar 4) (sExt 1 (eF (fLst (aCons (eTup (aCons (eVar 2) (aCons (eVar 4) (aCons (eC (.int 1)) aNil)))) (aCons (eTup (aCons (eVar 2) (aCons (eVar 4) (aCons (eUn negD (eC (.int 1))) aNil)))) aNil))))))) (sFrz 1 (sRet (eVar 1)))))
def f_ways_in : List D → M D := runD 1 5 b_ways_in
theorem sc_ways_in : FnScope ["on", "found", "place", "row", "bit"] ["on"] (defScope (top 99)) := ⟨rfl, rfl, rfl, by decide +kernel, rfl, by decide +kernel, by decide +kernel⟩
theorem ok_ways_in {w : World} {K : PySem.W.Frag} {mg : Str → Option Value} {base : Heap} (Z : FX K mg) : OkF pg w K mg base (px K) 3 85 f_ways_in := by
  obtain ⟨fd, F⟩ := Z.dd 85 _ _ rfl rfl
  have sc := sc_ways_in
  refine okF_mk (K := K) (P := px K) (st := top 99) (k := 2) rfl F sc (F.bindsN (ps := ["on"]) fun _ _ _ _ _ _ us hl => match us, hl with | [_], _ => rfl) fun cdv A outer s H E hr => ?_
  exact (sss_cons (ss_own 1 sc.nd (sf_lst sa_nil)) (sss_cons (ss_for (passes_of rfl) rfl (si_enum rfl (Z.fr 5 _ rfl) (sa_cons (se_var 0) sa_nil)) (sg_tup rfl (sgs_cons (sg_var 2 sc.nd) (sgs_cons (sg_var 3 sc.nd) sgs_nil))) (sss_one (ss_for (passes_of rfl) rfl (si_range1 rfl (Z.fr 12 _ rfl) (sa_cons (se_add (se_len rfl (Z.fr 8 _ rfl) (sb_cons (se_var 3) sb_nil)) se_int) sa_nil)) (sg_var 4 sc.nd) (sss_one (ss_ext 1 rfl (se_f (sf_lst (sa_cons (se_tup (sa_cons (se_var 2) (sa_cons (se_var 4) (sa_cons se_int sa_nil)))) (sa_cons (se_tup (sa_cons (se_var 2) (sa_cons (se_var 4) (sa_cons (se_neg se_int) sa_nil)))) sa_nil))))))))) (ss_frz 1 (sss_one (ss_ret (se_var 1))))))
def b_round_from : DEnv → M Out := (sSeq (sParFE 2 3 (fLst (aCons (eVar 1) aNil)) (eCall f_next_way (aCons (eVar 0) (aCons (eVar 1) aNil)))) (sSeq (sWhile (fun _ => 1000) (tAndD (tB (eUn notNonD (eVar 3))) (tB (eBin neD (eVar 3) (eVar 1)))) (sSeq (sApp 2 (eVar 3)) (sSet 3 (eCall f_next_way (aCons (eVar 0) (aCons (eVar 3) aNil)))))) (sFrz 2 (sRet (eVar 2)))))
def f_round_from : List D → M D := runD 2 4 b_round_from
theorem sc_round_from : FnScope ["picture", "start", "found", "here"] ["picture", "start"] (defScope (top 100)) := ⟨rfl, rfl, rfl, by decide +kernel, rfl, by decide +kernel, by decide +kernel⟩
theorem ok_round_from {w : World} {K : PySem.W.Frag} {mg : Str → Option Value} {base : Heap} (Z : FX K mg) : OkF pg w K mg base (px K) 4 86 f_round_from := by
  obtain ⟨fd, F⟩ := Z.dd 86 _ _ rfl rfl
  have o_next_way := ok_next_way (w := w) (base := base) Z
  have sc := sc_round_from
  refine okF_mk (K := K) (P := px K) (st := top 100) (k := 3) rfl F sc (F.bindsN (ps := ["picture", "start"]) fun _ _ _ _ _ _ us hl => match us, hl with | [_, _], _ => rfl) fun cdv A outer s H E hr => ?_
  exact (sss_cons (ss_parFE 2 3 rfl sc.nd (sf_lst (sa_cons (se_var 1) sa_nil)) (se_callF o_next_way (hr.mono (by decide)) (Z.g 84 _ rfl) rfl (sa_cons (se_var 0) (sa_cons (se_var 1) sa_nil)))) (sss_cons (ss_while (fun _ => 1000) (passes_of rfl) (SWt.st (sw_and (st_notN (se_var 3)) (sw_and1 (st_ne hr (se_var 3) (se_var 1))))) (sss_cons (ss_app 2 rfl (se_var 3)) (sss_one (ss_set 3 sc.nd (se_callF o_next_way (hr.mono (by decide)) (Z.g 84 _ rfl) rfl (sa_cons (se_var 0) (sa_cons (se_var 3) sa_nil))))))) (ss_frz 2 (sss_one (ss_ret (se_var 2))))))
def b_sides_in : DEnv → M Out := (sSeq (sSet 1 (eCall f_picture_of (aCons (eVar 0) aNil))) (sSeq (sSet 2 (eBin ixD (eVar 1) (eC (.int 0)))) (sSeq (sSet 3 (eBin addD (eF (fComp (iRng1D (aCons (eB lenD (bCons (eVar 2) aNil)) aNil)) [4] (gVar 4) tYesD (eTup (aCons (eVar 4) (aCons (eC (.int 0)) (aCons (eC (.int 1)) aNil)))))) (eF (fComp (iEnumD (aCons (eVar 2) aNil)) [4, 5] (gTupD 2 (gConsD (gVar 4) (gConsD (gVar 5) gNilD))) tYesD (eTup (aCons (eVar 4) (aCons (eB lenD (bCons (eVar 5) aNil)) (aCons (eUn negD (eC (.int 1))) aNil)))))))) (sSeq (sSet 6 (eF (fComp (iSeqD (eVar 3)) [7] (gVar 7) tYesD (eCall f_round_from (aCons (eVar 1) (aCons (eVar 7) aNil)))))) (sSeq (sOwn 8 fStk) (sSeq (sParFF 10 11 (fLst aNil) fStk) (sSeq (sFor (iSeqD (eVar 6)) (gVar 5) (sSeq (sSet 12 (eB tupD (bCons (eF (fSort (eF (fLst (aCons (eBin ixD (eBin ixD (eVar 5) (eC (.int 0))) (eC (.int 0))) (aCons (eBin ixD (eBin ixD (eVar 5) (eUn negD (eC (.int 1)))) (eC (.int 0))) aNil)))))) aNil))) (sPut 11 (eBin addD eStk (eB lenD (bCons (eVar 5) aNil))) (eVar 12)))) (sFrz 11 (sSeq (sFor (iSeqD (eCall f_ways_in (aCons (eVar 2) aNil))) (gVar 7) (sIf (tB (eBin notInD (eVar 7) (eVar 8))) (sSeq (sSet 5 (eCall f_round_from (aCons (eVar 1) (aCons (eVar 7) aNil)))) (sSeq (sFor (iSeqD (eVar 5)) (gVar 9) (sPut 8 (eC (.bl true)) (eVar 9))) (sApp 10 (eB lenD (bCons (eVar 5) aNil))))) sNext)) (sFrz 10 (sFrz 8 (sRet (eF (fSort (eF (fCat (eVar 10) (eF (fLstOf eStk))))))))))))))))))
def f_sides_in : List D → M D := runD 1 13 b_sides_in
theorem sc_sides_in : FnScope ["points", "picture", "on", "starts", "place", "row", "opened", "own", "done", "way", "found", "halves", "key"] ["points"] (defScope (top 101)) := ⟨rfl, rfl, rfl, by decide +kernel, rfl, by decide +kernel, by decide +kernel⟩
theorem ok_sides_in {w : World} {K : PySem.W.Frag} {mg : Str → Option Value} {base : Heap} (Z : FX K mg) : OkF pg w K mg base (px K) 10 87 f_sides_in := by
  obtain ⟨fd, F⟩ := Z.dd 87 _ _ rfl rfl
  have o_picture_of := ok_picture_of (w := w) (base := base) Z
  have o_round_from := ok_round_from (w := w) (base := base) Z
  have o_ways_in := ok_ways_in (w := w) (base := base) Z
  have sc := sc_sides_in
  refine okF_mk (K := K) (P := px K) (st := top 101) (k := 9) rfl F sc (F.bindsN (ps := ["points"]) fun _ _ _ _ _ _ us hl => match us, hl with | [_], _ => rfl) fun cdv A outer s H E hr => ?_
  exact (sss_cons (ss_set 1 sc.nd (se_callF o_picture_of (hr.mono (by decide)) (Z.g 83 _ rfl) rfl (sa_cons (se_var 0) sa_nil))) (sss_cons (ss_set 2 sc.nd (se_ix (se_var 1) se_int)) (sss_cons (ss_set 3 sc.nd (se_add (se_f (sf_comp (own := [("place", 4)]) rfl sc.nd (si_range1 rfl (Z.fr 12 _ rfl) (sa_cons (se_len rfl (Z.fr 8 _ rfl) (sb_cons (se_var 2) sb_nil)) sa_nil)) (blkOk_by (own := [("place", 4)]) (by kernel_rfl)) (by decide) (fun _ _ _ _ _ => (sg_var 4 sc.nd)) (fun _ _ _ _ _ => sts_nil) (fun _ _ _ _ _ => (se_tup (sa_cons (se_var 4) (sa_cons se_int (sa_cons se_int sa_nil))))))) (se_f (sf_comp (own := [("place", 4), ("row", 5)]) rfl sc.nd (si_enum rfl (Z.fr 5 _ rfl) (sa_cons (se_var 2) sa_nil)) (blkOk_by (own := [("place", 4), ("row", 5)]) (by kernel_rfl)) (by decide) (fun _ _ _ _ _ => (sg_tup rfl (sgs_cons (sg_var 4 sc.nd) (sgs_cons (sg_var 5 sc.nd) sgs_nil)))) (fun _ _ _ _ _ => sts_nil) (fun _ _ _ _ _ => (se_tup (sa_cons (se_var 4) (sa_cons (se_len rfl (Z.fr 8 _ rfl) (sb_cons (se_var 5) sb_nil)) (sa_cons (se_neg se_int) sa_nil))))))))) (sss_cons (ss_setC (own := [("own", 7)]) 6 rfl sc.nd (si_seq (se_var 3)) (blkOk_by (own := [("own", 7)]) (by kernel_rfl)) (by decide) (fun _ _ _ _ _ => (sg_var 7 sc.nd)) (fun _ _ _ _ _ => sts_nil) (fun _ _ _ _ _ => (se_callF o_round_from (hr.mono (by decide)) (Z.g 86 _ rfl) rfl (sa_cons (se_var 1) (sa_cons (se_var 7) sa_nil))))) (sss_cons (ss_own 8 sc.nd sf_stk) (sss_cons (ss_parFF 10 11 rfl sc.nd (sf_lst sa_nil) sf_stk) (sss_cons (ss_for (passes_of rfl) rfl (si_seq (se_var 6)) (sg_var 5 sc.nd) (sss_cons (ss_set 12 sc.nd (se_toTup rfl (Z.fr 17 _ rfl) (sb_cons (se_f (sf_sorted hr rfl (Z.fr 14 _ rfl) (se_f (sf_lst (sa_cons (se_ix (se_ix (se_var 5) se_int) se_int) (sa_cons (se_ix (se_ix (se_var 5) (se_neg se_int)) se_int) sa_nil)))))) sb_nil))) (sss_one (ss_put 11 rfl (se_add se_stk (se_len rfl (Z.fr 8 _ rfl) (sb_cons (se_var 5) sb_nil))) (se_var 12))))) (ss_frz 11 (sss_cons (ss_for (passes_of rfl) rfl (si_seq (se_callF o_ways_in (hr.mono (by decide)) (Z.g 85 _ rfl) rfl (sa_cons (se_var 2) sa_nil))) (sg_var 7 sc.nd) (sss_one (ss_if (st_notIn hr (se_var 7) (se_var 8)) (sss_cons (ss_set 5 sc.nd (se_callF o_round_from (hr.mono (by decide)) (Z.g 86 _ rfl) rfl (sa_cons (se_var 1) (sa_cons (se_var 7) sa_nil)))) (sss_cons (ss_for (passes_of rfl) rfl (si_seq (se_var 5)) (sg_var 9 sc.nd) (sss_one (ss_put 8 rfl se_bl (se_var 9)))) (sss_one (ss_app 10 rfl (se_len rfl (Z.fr 8 _ rfl) (sb_cons (se_var 5) sb_nil)))))) sss_nil))) (ss_frz 10 (ss_frz 8 (sss_one (ss_ret (se_f (sf_sorted hr rfl (Z.fr 14 _ rfl) (se_f (sf_cat (se_var 10) (se_f (sf_toLst rfl (Z.fr 9 _ rfl) se_stk)))))))))))))))))))
end Lw

set_option Elab.async false
set_option linter.all false
set_option maxRecDepth 100000
set_option maxHeartbeats 4000000
namespace Lw
open PySem PySem.Spec PyProof.Rows L2 Pu
def b_shear_of : DEnv → M Out := (sRet (eCall f_shear_in (aCons (eCall f_sure_points (aCons (eVar 0) aNil)) aNil)))
def f_shear_of : List D → M D := runD 1 1 b_shear_of
theorem sc_shear_of : FnScope ["points"] ["points"] (defScope (top 102)) := ⟨rfl, rfl, rfl, by decide +kernel, rfl, by decide +kernel, by decide +kernel⟩
theorem ok_shear_of {w : World} {K : PySem.W.Frag} {mg : Str → Option Value} {base : Heap} (Z : FX K mg) : OkF pg w K mg base (px K) 17 88 f_shear_of := by
  obtain ⟨fd, F⟩ := Z.dd 88 _ _ rfl rfl
  have o_sure_points := ok_sure_points (w := w) (base := base) Z
  have o_shear_in := ok_shear_in (w := w) (base := base) Z
  have sc := sc_shear_of
  refine okF_mk (K := K) (P := px K) (st := top 102) (k := 16) rfl F sc (F.bindsN (ps := ["points"]) fun _ _ _ _ _ _ us hl => match us, hl with | [_], _ => rfl) fun cdv A outer s H E hr => ?_
  exact (sss_one (ss_ret (se_callF o_shear_in (hr.mono (by decide)) (Z.g 77 _ rfl) rfl (sa_cons (se_callF o_sure_points (hr.mono (by decide)) (Z.g 21 _ rfl) rfl (sa_cons (se_var 0) sa_nil)) sa_nil))))
def b_dual_lines : DEnv → M Out := (sRet (eB tupD (bCons (eCall f_slopes_in (aCons (eCall f_sure_points (aCons (eVar 0) aNil)) aNil)) aNil)))
def f_dual_lines : List D → M D := runD 1 1 b_dual_lines
theorem sc_dual_lines : FnScope ["points"] ["points"] (defScope (top 103)) := ⟨rfl, rfl, rfl, by decide +kernel, rfl, by decide +kernel, by decide +kernel⟩
theorem ok_dual_lines {w : World} {K : PySem.W.Frag} {mg : Str → Option Value} {base : Heap} (Z : FX K mg) : OkF pg w K mg base (px K) 17 89 f_dual_lines := by
  obtain ⟨fd, F⟩ := Z.dd 89 _ _ rfl rfl
  have o_sure_points := ok_sure_points (w := w) (base := base) Z
  have o_slopes_in := ok_slopes_in (w := w) (base := base) Z
  have sc := sc_dual_lines
  refine okF_mk (K := K) (P := px K) (st := top 103) (k := 16) rfl F sc (F.bindsN (ps := ["points"]) fun _ _ _ _ _ _ us hl => match us, hl with | [_], _ => rfl) fun cdv A outer s H E hr => ?_
  exact (sss_one (ss_ret (se_toTup rfl (Z.fr 17 _ rfl) (sb_cons (se_callF o_slopes_in (hr.mono (by decide)) (Z.g 78 _ rfl) rfl (sa_cons (se_callF o_sure_points (hr.mono (by decide)) (Z.g 21 _ rfl) rfl (sa_cons (se_var 0) sa_nil)) sa_nil)) sb_nil))))
def b_dual_corners : DEnv → M Out := (sRet (eB tupD (bCons (eCall f_corners_in (aCons (eCall f_sure_points (aCons (eVar 0) aNil)) aNil)) aNil)))
def f_dual_corners : List D → M D := runD 1 1 b_dual_corners
theorem sc_dual_corners : FnScope ["points"] ["points"] (defScope (top 104)) := ⟨rfl, rfl, rfl, by decide +kernel, rfl, by decide +kernel, by decide +kernel⟩
theorem ok_dual_corners {w : World} {K : PySem.W.Frag} {mg : Str → Option Value} {base : Heap} (Z : FX K mg) : OkF pg w K mg base (px K) 17 90 f_dual_corners := by
  obtain ⟨fd, F⟩ := Z.dd 90 _ _ rfl rfl
  have o_sure_points := ok_sure_points (w := w) (base := base) Z
  have o_corners_in := ok_corners_in (w := w) (base := base) Z
  have sc := sc_dual_corners
  refine okF_mk (K := K) (P := px K) (st := top 104) (k := 16) rfl F sc (F.bindsN (ps := ["points"]) fun _ _ _ _ _ _ us hl => match us, hl with | [_], _ => rfl) fun cdv A outer s H E hr => ?_
  exact (sss_one (ss_ret (se_toTup rfl (Z.fr 17 _ rfl) (sb_cons (se_callF o_corners_in (hr.mono (by decide)) (Z.g 80 _ rfl) rfl (sa_cons (se_callF o_sure_points (hr.mono (by decide)) (Z.g 21 _ rfl) rfl (sa_cons (se_var 0) sa_nil)) sa_nil)) sb_nil))))
def b_regions : DEnv → M Out := (sSeq (sSet 1 (eCall f_sides_in (aCons (eCall f_sure_spread (aCons (eVar 0) aNil)) aNil))) (sRet (eB tupD (bCons (eF (fComp (iSeqD (eF (fSortSet (eVar 1)))) [2] (gVar 2) tYesD (eTup (aCons (eVar 2) (aCons (eCount (eVar 1) (eVar 2)) aNil))))) aNil))))
def f_regions : List D → M D := runD 1 3 b_regions
theorem sc_regions : FnScope ["points", "row", "many"] ["points"] (defScope (top 105)) := ⟨rfl, rfl, rfl, by decide +kernel, rfl, by decide +kernel, by decide +kernel⟩
theorem ok_regions {w : World} {K : PySem.W.Frag} {mg : Str → Option Value} {base : Heap} (Z : FX K mg) : OkF pg w K mg base (px K) 18 91 f_regions := by
  obtain ⟨fd, F⟩ := Z.dd 91 _ _ rfl rfl
  have o_sure_spread := ok_sure_spread (w := w) (base := base) Z
  have o_sides_in := ok_sides_in (w := w) (base := base) Z
  have sc := sc_regions
  refine okF_mk (K := K) (P := px K) (st := top 105) (k := 17) rfl F sc (F.bindsN (ps := ["points"]) fun _ _ _ _ _ _ us hl => match us, hl with | [_], _ => rfl) fun cdv A outer s H E hr => ?_
  exact (sss_cons (ss_set 1 sc.nd (se_callF o_sides_in (hr.mono (by decide)) (Z.g 87 _ rfl) rfl (sa_cons (se_callF o_sure_spread (hr.mono (by decide)) (Z.g 53 _ rfl) rfl (sa_cons (se_var 0) sa_nil)) sa_nil))) (sss_one (ss_ret (se_toTup rfl (Z.fr 17 _ rfl) (sb_cons (se_f (sf_comp (own := [("many", 2)]) rfl sc.nd (si_seq (se_f (sf_sortSet rfl rfl (Z.fr 14 _ rfl) rfl (Z.fr 13 _ rfl) (se_var 1)))) (blkOk_by (own := [("many", 2)]) (by kernel_rfl)) (by decide) (fun _ _ _ _ _ => (sg_var 2 sc.nd)) (fun _ _ _ _ _ => sts_nil) (fun _ _ _ _ _ => (se_tup (sa_cons (se_var 2) (sa_cons (se_count (se_var 1) (se_var 2)) sa_nil)))))) sb_nil)))))
def b_told_sum : DEnv → M Out := (sSeq (sSet 1 (eCall f_sure_spread (aCons (eVar 0) aNil))) (sSeq (sSet 2 (eCall f_lines_in (aCons (eVar 1) aNil))) (sRet (eTup (aCons (eB lenD (bCons (eVar 2) aNil)) (aCons (eB sumD (bCons (eF (fComp (iSeqD (eVar 2)) [3, 4] (gTupD 2 (gConsD (gVar 3) (gConsD (gVar 4) gNilD))) tYesD (eB lenD (bCons (eVar 4) aNil)))) aNil)) (aCons (eB lenD (bCons (eCall f_sides_in (aCons (eVar 1) aNil)) aNil)) aNil)))))))
def f_told_sum : List D → M D := runD 1 5 b_told_sum
theorem sc_told_sum : FnScope ["points", "own", "corners", "line", "places"] ["points"] (defScope (top 106)) := ⟨rfl, rfl, rfl, by decide +kernel, rfl, by decide +kernel, by decide +kernel⟩
theorem ok_told_sum {w : World} {K : PySem.W.Frag} {mg : Str → Option Value} {base : Heap} (Z : FX K mg) : OkF pg w K mg base (px K) 18 92 f_told_sum := by
  obtain ⟨fd, F⟩ := Z.dd 92 _ _ rfl rfl
  have o_sure_spread := ok_sure_spread (w := w) (base := base) Z
  have o_lines_in := ok_lines_in (w := w) (base := base) Z
  have o_sides_in := ok_sides_in (w := w) (base := base) Z
  have sc := sc_told_sum
  refine okF_mk (K := K) (P := px K) (st := top 106) (k := 17) rfl F sc (F.bindsN (ps := ["points"]) fun _ _ _ _ _ _ us hl => match us, hl with | [_], _ => rfl) fun cdv A outer s H E hr => ?_
  exact (sss_cons (ss_set 1 sc.nd (se_callF o_sure_spread (hr.mono (by decide)) (Z.g 53 _ rfl) rfl (sa_cons (se_var 0) sa_nil))) (sss_cons (ss_set 2 sc.nd (se_callF o_lines_in (hr.mono (by decide)) (Z.g 35 _ rfl) rfl (sa_cons (se_var 1) sa_nil))) (sss_one (ss_ret (se_tup (sa_cons (se_len rfl (Z.fr 8 _ rfl) (sb_cons (se_var 2) sb_nil)) (sa_cons (se_sum rfl rfl (Z.fr 16 _ rfl) (sb_cons (se_f (sf_comp (own := [("line", 3), ("places", 4)]) rfl sc.nd (si_seq (se_var 2)) (blkOk_by (own := [("line", 3), ("places", 4)]) (by kernel_rfl)) (by decide) (fun _ _ _ _ _ => (sg_tup rfl (sgs_cons (sg_var 3 sc.nd) (sgs_cons (sg_var 4 sc.nd) sgs_nil)))) (fun _ _ _ _ _ => sts_nil) (fun _ _ _ _ _ => (se_len rfl (Z.fr 8 _ rfl) (sb_cons (se_var 4) sb_nil))))) sb_nil)) (sa_cons (se_len rfl (Z.fr 8 _ rfl) (sb_cons (se_callF o_sides_in (hr.mono (by decide)) (Z.g 87 _ rfl) rfl (sa_cons (se_var 1) sa_nil)) sb_nil)) sa_nil))))))))
def b_beyond_triangles : DEnv → M Out := (sRet (eB sumD (bCons (eF (fComp (iSeqD (eCall f_sides_in (aCons (eCall f_sure_spread (aCons (eVar 0) aNil)) aNil))) [1] (gVar 1) tYesD (eBin subD (eVar 1) (eC (.int 3))))) aNil)))
def f_beyond_triangles : List D → M D := runD 1 2 b_beyond_triangles
theorem sc_beyond_triangles : FnScope ["points", "many"] ["points"] (defScope (top 107)) := ⟨rfl, rfl, rfl, by decide +kernel, rfl, by decide +kernel, by decide +kernel⟩
theorem ok_beyond_triangles {w : World} {K : PySem.W.Frag} {mg : Str → Option Value} {base : Heap} (Z : FX K mg) : OkF pg w K mg base (px K) 18 93 f_beyond_triangles := by
  obtain ⟨fd, F⟩ := Z.dd 93 _ _ rfl rfl
  have o_sure_spread := ok_sure_spread (w := w) (base := base) Z
  have o_sides_in := ok_sides_in (w := w) (base := base) Z
  have sc := sc_beyond_triangles
  refine okF_mk (K := K) (P := px K) (st := top 107) (k := 17) rfl F sc (F.bindsN (ps := ["points"]) fun _ _ _ _ _ _ us hl => match us, hl with | [_], _ => rfl) fun cdv A outer s H E hr => ?_
  exact (sss_one (ss_ret (se_sum rfl rfl (Z.fr 16 _ rfl) (sb_cons (se_f (sf_comp (own := [("many", 1)]) rfl sc.nd (si_seq (se_callF o_sides_in (hr.mono (by decide)) (Z.g 87 _ rfl) rfl (sa_cons (se_callF o_sure_spread (hr.mono (by decide)) (Z.g 53 _ rfl) rfl (sa_cons (se_var 0) sa_nil)) sa_nil))) (blkOk_by (own := [("many", 1)]) (by kernel_rfl)) (by decide) (fun _ _ _ _ _ => (sg_var 1 sc.nd)) (fun _ _ _ _ _ => sts_nil) (fun _ _ _ _ _ => (se_sub (se_var 1) se_int)))) sb_nil))))
def b_is_simple : DEnv → M Out := (sRet (eB allD (bCons (eF (fComp (iSeqD (eCall f_sides_in (aCons (eCall f_sure_spread (aCons (eVar 0) aNil)) aNil))) [1] (gVar 1) tYesD (eBin eqD (eVar 1) (eC (.int 3))))) aNil)))
def f_is_simple : List D → M D := runD 1 2 b_is_simple
theorem sc_is_simple : FnScope ["points", "many"] ["points"] (defScope (top 108)) := ⟨rfl, rfl, rfl, by decide +kernel, rfl, by decide +kernel, by decide +kernel⟩
theorem ok_is_simple {w : World} {K : PySem.W.Frag} {mg : Str → Option Value} {base : Heap} (Z : FX K mg) : OkF pg w K mg base (px K) 18 94 f_is_simple := by
  obtain ⟨fd, F⟩ := Z.dd 94 _ _ rfl rfl
  have o_sure_spread := ok_sure_spread (w := w) (base := base) Z
  have o_sides_in := ok_sides_in (w := w) (base := base) Z
  have sc := sc_is_simple
  refine okF_mk (K := K) (P := px K) (st := top 108) (k := 17) rfl F sc (F.bindsN (ps := ["points"]) fun _ _ _ _ _ _ us hl => match us, hl with | [_], _ => rfl) fun cdv A outer s H E hr => ?_
  exact (sss_one (ss_ret (se_all rfl rfl (Z.fr 2 _ rfl) (sb_cons (se_f (sf_comp (own := [("many", 1)]) rfl sc.nd (si_seq (se_callF o_sides_in (hr.mono (by decide)) (Z.g 87 _ rfl) rfl (sa_cons (se_callF o_sure_spread (hr.mono (by decide)) (Z.g 53 _ rfl) rfl (sa_cons (se_var 0) sa_nil)) sa_nil))) (blkOk_by (own := [("many", 1)]) (by kernel_rfl)) (by decide) (fun _ _ _ _ _ => (sg_var 1 sc.nd)) (fun _ _ _ _ _ => sts_nil) (fun _ _ _ _ _ => (se_eq hr (se_var 1) se_int)))) sb_nil))))
def b_corner_ways : DEnv → M Out := (sSeq (sSet 2 (eCall f_sure_points (aCons (eVar 0) aNil))) (sSeq (sIf (tNotD (tTr (eCall f_is_within (aCons (eVar 1) (aCons (eC (.int 0)) (aCons (eBin powD (eC (.int 10)) (eC (.int 6))) aNil)))))) (sRaise 2) sNext) (sSeq (sSet 3 (eCall f_corners_in (aCons (eVar 2) aNil))) (sSeq (sIf (tB (eBin geD (eVar 1) (eB lenD (bCons (eVar 3) aNil)))) (sRaise 0) sNext) (sRet (eB tupD (bCons (eCall f_by_slope (aCons (eCall f_slopes_in (aCons (eVar 2) aNil)) (aCons (eBin ixD (eBin ixD (eVar 3) (eVar 1)) (eC (.int 1))) aNil))) aNil)))))))
def f_corner_ways : List D → M D := runD 2 4 b_corner_ways
theorem sc_corner_ways : FnScope ["points", "number", "own", "rows"] ["points", "number"] (defScope (top 109)) := ⟨rfl, rfl, rfl, by decide +kernel, rfl, by decide +kernel, by decide +kernel⟩
theorem ok_corner_ways {w : World} {K : PySem.W.Frag} {mg : Str → Option Value} {base : Heap} (Z : FX K mg) : OkF pg w K mg base (px K) 17 95 f_corner_ways := by
  obtain ⟨fd, F⟩ := Z.dd 95 _ _ rfl rfl
  have o_sure_points := ok_sure_points (w := w) (base := base) Z
  have o_is_within := ok_is_within (w := w) (base := base) Z
  have o_corners_in := ok_corners_in (w := w) (base := base) Z
  have o_slopes_in := ok_slopes_in (w := w) (base := base) Z
  have o_by_slope := ok_by_slope (w := w) (base := base) Z
  have sc := sc_corner_ways
  refine okF_mk (K := K) (P := px K) (st := top 109) (k := 16) rfl F sc (F.bindsN (ps := ["points", "number"]) fun _ _ _ _ _ _ us hl => match us, hl with | [_, _], _ => rfl) fun cdv A outer s H E hr => ?_
  exact (sss_cons (ss_set 2 sc.nd (se_callF o_sure_points (hr.mono (by decide)) (Z.g 21 _ rfl) rfl (sa_cons (se_var 0) sa_nil))) (sss_cons (ss_if (st_not (st_tr (se_callF o_is_within (hr.mono (by decide)) (Z.g 1 _ rfl) rfl (sa_cons (se_var 1) (sa_cons se_int (sa_cons (se_pow se_int se_int) sa_nil)))))) (sss_one (ss_raise 2 rfl (Z.ex 2 _ rfl).2 (Z.ex 2 _ rfl).1 rfl)) sss_nil) (sss_cons (ss_set 3 sc.nd (se_callF o_corners_in (hr.mono (by decide)) (Z.g 80 _ rfl) rfl (sa_cons (se_var 2) sa_nil))) (sss_cons (ss_if (st_ge (se_var 1) (se_len rfl (Z.fr 8 _ rfl) (sb_cons (se_var 3) sb_nil))) (sss_one (ss_raise 0 rfl (Z.ex 0 _ rfl).2 (Z.ex 0 _ rfl).1 rfl)) sss_nil) (sss_one (ss_ret (se_toTup rfl (Z.fr 17 _ rfl) (sb_cons (se_callF o_by_slope (hr.mono (by decide)) (Z.g 81 _ rfl) rfl (sa_cons (se_callF o_slopes_in (hr.mono (by decide)) (Z.g 78 _ rfl) rfl (sa_cons (se_var 2) sa_nil)) (sa_cons (se_ix (se_ix (se_var 3) (se_var 1)) se_int) sa_nil))) sb_nil))))))))
end Lw

set_option Elab.async false
set_option linter.all false
set_option maxRecDepth 100000
set_option maxHeartbeats 4000000
namespace Lw
open PySem PySem.Spec PyProof.Rows L2 Pu
def b__law_box : DEnv → M Out := (sSeq (sSet 2 (eIf (tB (eBin ltD (eVar 1) (eB lenD (bCons (eVar 0) aNil)))) (eBin ixD (eVar 0) (eVar 1)) (eC (.int 0)))) (sRet (eF (fLst (aCons (eBin mulD (eB absD (bCons (eVar 2) aNil)) (eB intOfD (bCons (eBin geD (eB absD (bCons (eVar 2) aNil)) (eBin powD (eC (.int 10)) (eC (.int 18)))) aNil))) (aCons (eBin addD (eBin addD (eBin modD (eB intOfD (bCons (eVar 2) aNil)) (eC (.int 2305843009213693951))) (eBin mulD (eC (.int 39373)) (eVar 1))) (eC (.int 26302))) (aCons (eC (.int 0)) aNil)))))))
def f__law_box : List D → M D := runD 2 3 b__law_box
theorem sc__law_box : FnScope ["script", "k", "bit_so"] ["script", "k"] (defScope (top 111)) := ⟨rfl, rfl, rfl, by decide +kernel, rfl, by decide +kernel, by decide +kernel⟩
theorem ok__law_box {w : World} {K : PySem.W.Frag} {mg : Str → Option Value} {base : Heap} (Z : FX K mg) : OkF pg w K mg base (px K) 3 96 f__law_box := by
  obtain ⟨fd, F⟩ := Z.dd 96 _ _ rfl rfl
  have sc := sc__law_box
  refine okF_mk (K := K) (P := px K) (st := top 111) (k := 2) rfl F sc (F.bindsN (ps := ["script", "k"]) fun _ _ _ _ _ _ us hl => match us, hl with | [_, _], _ => rfl) fun cdv A outer s H E hr => ?_
  exact (sss_cons (ss_set 2 sc.nd (se_if (st_lt (se_var 1) (se_len rfl (Z.fr 8 _ rfl) (sb_cons (se_var 0) sb_nil))) (se_ix (se_var 0) (se_var 1)) se_int)) (sss_one (ss_ret (se_f (sf_lst (sa_cons (se_mul (se_abs rfl (Z.fr 1 _ rfl) (sb_cons (se_var 2) sb_nil)) (se_toInt rfl (Z.fr 6 _ rfl) (sb_cons (se_ge (se_abs rfl (Z.fr 1 _ rfl) (sb_cons (se_var 2) sb_nil)) (se_pow se_int se_int)) sb_nil))) (sa_cons (se_add (se_add (se_mod (se_toInt rfl (Z.fr 6 _ rfl) (sb_cons (se_var 2) sb_nil)) se_int) (se_mul se_int (se_var 1))) se_int) (sa_cons se_int sa_nil))))))))
def b__law_take : DEnv → M Out := (sSeq (sIf (tB (eBin gtD (eBin ixD (eVar 0) (eC (.int 0))) (eC (.int 0)))) (sSeq (sSet 2 (eBin modD (eB intOfD (bCons (eBin ixD (eVar 0) (eC (.int 0))) aNil)) (eVar 1))) (sSeq (sPut 0 (eBin fdivD (eBin ixD (eVar 0) (eC (.int 0))) (eVar 1)) (eC (.int 0))) (sRet (eVar 2)))) sNext) (sSeq (sPut 0 (eBin addD (eBin ixD (eVar 0) (eC (.int 2))) (eC (.int 1))) (eC (.int 2))) (sSeq (sSet 3 (eBin modD (eB intOfD (bCons (eBin mulD (eBin addD (eBin ixD (eVar 0) (eC (.int 1))) (eBin mulD (eC (.int 48271)) (eBin ixD (eVar 0) (eC (.int 2))))) (eBin addD (eC (.int 39373)) (eBin ixD (eVar 0) (eC (.int 2))))) aNil)) (eC (.int 2147483647)))) (sSeq (sSet 4 (eBin addD (eBin modD (eB intOfD (bCons (eVar 3) aNil)) (eC (.int 40009))) (eC (.int 7)))) (sSeq (sSet 5 (eBin modD (eB intOfD (bCons (eBin mulD (eBin addD (eBin addD (eVar 3) (eBin ixD (eVar 0) (eC (.int 2)))) (eBin fdivD (eBin ixD (eVar 0) (eC (.int 1))) (eC (.int 1000003)))) (eVar 4)) aNil)) (eC (.int 2147483629)))) (sRet (eBin modD (eB intOfD (bCons (eBin fdivD (eBin modD (eB intOfD (bCons (eBin addD (eBin mulD (eVar 5) (eC (.int 48271))) (eVar 3)) aNil)) (eC (.int 2147483587))) (eC (.int 64))) aNil)) (eVar 1))))))))
def f__law_take : List D → M D := runD 2 6 b__law_take
theorem sc__law_take : FnScope ["tin", "below_so", "drawn_so", "once_so", "wide_so", "twice_so"] ["tin", "below_so"] (defScope (top 112)) := ⟨rfl, rfl, rfl, by decide +kernel, rfl, by decide +kernel, by decide +kernel⟩
theorem ok__law_take {w : World} {K : PySem.W.Frag} {mg : Str → Option Value} {base : Heap} (Z : FX K mg) : OkF pg w K mg base (px K) 3 97 f__law_take := by
  obtain ⟨fd, F⟩ := Z.dd 97 _ _ rfl rfl
  have sc := sc__law_take
  refine okF_mk (K := K) (P := px K) (st := top 112) (k := 2) rfl F sc (F.bindsN (ps := ["tin", "below_so"]) fun _ _ _ _ _ _ us hl => match us, hl with | [_, _], _ => rfl) fun cdv A outer s H E hr => ?_
  exact (sss_cons (ss_if (st_gt (se_ix (se_var 0) se_int) se_int) (sss_cons (ss_set 2 sc.nd (se_mod (se_toInt rfl (Z.fr 6 _ rfl) (sb_cons (se_ix (se_var 0) se_int) sb_nil)) (se_var 1))) (sss_cons (ss_put 0 rfl (se_fdiv (se_ix (se_var 0) se_int) (se_var 1)) se_int) (sss_one (ss_ret (se_var 2))))) sss_nil) (sss_cons (ss_put 0 rfl (se_add (se_ix (se_var 0) se_int) se_int) se_int) (sss_cons (ss_set 3 sc.nd (se_mod (se_toInt rfl (Z.fr 6 _ rfl) (sb_cons (se_mul (se_add (se_ix (se_var 0) se_int) (se_mul se_int (se_ix (se_var 0) se_int))) (se_add se_int (se_ix (se_var 0) se_int))) sb_nil)) se_int)) (sss_cons (ss_set 4 sc.nd (se_add (se_mod (se_toInt rfl (Z.fr 6 _ rfl) (sb_cons (se_var 3) sb_nil)) se_int) se_int)) (sss_cons (ss_set 5 sc.nd (se_mod (se_toInt rfl (Z.fr 6 _ rfl) (sb_cons (se_mul (se_add (se_add (se_var 3) (se_ix (se_var 0) se_int)) (se_fdiv (se_ix (se_var 0) se_int) se_int)) (se_var 4)) sb_nil)) se_int)) (sss_one (ss_ret (se_mod (se_toInt rfl (Z.fr 6 _ rfl) (sb_cons (se_fdiv (se_mod (se_toInt rfl (Z.fr 6 _ rfl) (sb_cons (se_add (se_mul (se_var 5) se_int) (se_var 3)) sb_nil)) se_int) se_int) sb_nil)) (se_var 1)))))))))
def b__law_cells : DEnv → M Out := (sSeq (sOwn 2 (fOr (fLstOf (eSl (eVar 0) oNone (oSome (eVar 1)))) (fLst (aCons (eC (.int 0)) aNil)))) (sSeq (sFor (iEnumD (aCons (eSl (eVar 0) (oSome (eVar 1)) (oSome (eC (.int 63)))) aNil)) (gTupD 2 (gConsD (gVar 3) (gConsD (gVar 4) gNilD))) (sSeq (sSet 5 (eBin modD (eB intOfD (bCons (eVar 3) aNil)) (eVar 1))) (sPut 2 (eBin addD (eBin ixD (eVar 2) (eVar 5)) (eBin mulD (eVar 4) (eBin addD (eVar 3) (eC (.int 2))))) (eVar 5)))) (sFrz 2 (sRet (eVar 2)))))
def f__law_cells : List D → M D := runD 2 6 b__law_cells
theorem sc__law_cells : FnScope ["script", "most_so", "cells_so", "k", "bit_so", "at_so"] ["script", "most_so"] (defScope (top 113)) := ⟨rfl, rfl, rfl, by decide +kernel, rfl, by decide +kernel, by decide +kernel⟩
theorem ok__law_cells {w : World} {K : PySem.W.Frag} {mg : Str → Option Value} {base : Heap} (Z : FX K mg) : OkF pg w K mg base (px K) 3 98 f__law_cells := by
  obtain ⟨fd, F⟩ := Z.dd 98 _ _ rfl rfl
  have sc := sc__law_cells
  refine okF_mk (K := K) (P := px K) (st := top 113) (k := 2) rfl F sc (F.bindsN (ps := ["script", "most_so"]) fun _ _ _ _ _ _ us hl => match us, hl with | [_, _], _ => rfl) fun cdv A outer s H E hr => ?_
  exact (sss_cons (ss_own 2 sc.nd (sf_or (sf_toLst rfl (Z.fr 9 _ rfl) (se_slice (se_var 0) so_none (so_some (se_var 1)))) (sf_lst (sa_cons se_int sa_nil)))) (sss_cons (ss_for (passes_of rfl) rfl (si_enum rfl (Z.fr 5 _ rfl) (sa_cons (se_slice (se_var 0) (so_some (se_var 1)) (so_some se_int)) sa_nil)) (sg_tup rfl (sgs_cons (sg_var 3 sc.nd) (sgs_cons (sg_var 4 sc.nd) sgs_nil))) (sss_cons (ss_set 5 sc.nd (se_mod (se_toInt rfl (Z.fr 6 _ rfl) (sb_cons (se_var 3) sb_nil)) (se_var 1))) (sss_one (ss_put 2 rfl (se_add (se_ix (se_var 2) (se_var 5)) (se_mul (se_var 4) (se_add (se_var 3) se_int))) (se_var 5))))) (ss_frz 2 (sss_one (ss_ret (se_var 2))))))
def b__law_pick : DEnv → M Out := (sSeq (sParFF 3 4 (fLstOf (eVar 1)) (fLst aNil)) (sSeq (sFor (iRng1D (aCons (eB min2D (bCons (eB intOfD (bCons (eVar 2) aNil)) (bCons (eB lenD (bCons (eVar 3) aNil)) aNil))) aNil)) (gVar 5) (sPopApp 4 3 (eCall f__law_take (aCons (eVar 0) (aCons (eB lenD (bCons (eVar 3) aNil)) aNil))))) (sFrz 3 (sFrz 4 (sRet (eVar 4))))))
def f__law_pick : List D → M D := runD 3 6 b__law_pick
theorem sc__law_pick : FnScope ["tin", "goods_so", "count_so", "pool_so", "found", "lap"] ["tin", "goods_so", "count_so"] (defScope (top 114)) := ⟨rfl, rfl, rfl, by decide +kernel, rfl, by decide +kernel, by decide +kernel⟩
theorem ok__law_pick {w : World} {K : PySem.W.Frag} {mg : Str → Option Value} {base : Heap} (Z : FX K mg) : OkF pg w K mg base (px K) 4 99 f__law_pick := by
  obtain ⟨fd, F⟩ := Z.dd 99 _ _ rfl rfl
  have o__law_take := ok__law_take (w := w) (base := base) Z
  have sc := sc__law_pick
  refine okF_mk (K := K) (P := px K) (st := top 114) (k := 3) rfl F sc (F.bindsN (ps := ["tin", "goods_so", "count_so"]) fun _ _ _ _ _ _ us hl => match us, hl with | [_, _, _], _ => rfl) fun cdv A outer s H E hr => ?_
  exact (sss_cons (ss_parFF 3 4 rfl sc.nd (sf_toLst rfl (Z.fr 9 _ rfl) (se_var 1)) (sf_lst sa_nil)) (sss_cons (ss_for (passes_of rfl) rfl (si_range1 rfl (Z.fr 12 _ rfl) (sa_cons (se_min2 rfl rfl (Z.fr 11 _ rfl) (sb_cons (se_toInt rfl (Z.fr 6 _ rfl) (sb_cons (se_var 2) sb_nil)) (sb_cons (se_len rfl (Z.fr 8 _ rfl) (sb_cons (se_var 3) sb_nil)) sb_nil))) sa_nil)) (sg_var 5 sc.nd) (sss_one (ss_popApp 4 3 rfl rfl (se_callF o__law_take (hr.mono (by decide)) (Z.g 97 _ rfl) rfl (sa_cons (se_var 0) (sa_cons (se_len rfl (Z.fr 8 _ rfl) (sb_cons (se_var 3) sb_nil)) sa_nil)))))) (ss_frz 3 (ss_frz 4 (sss_one (ss_ret (se_var 4)))))))
def b__law_same (rc : List D → M D) : DEnv → M Out := (sSeq (sIf (tTr (eIsi2 "list" "tuple" (eVar 1))) (sSeq (sIf (tOrD (tB (eBin neD (eIsi "list" (eVar 0)) (eIsi "list" (eVar 1)))) (tB (eBin neD (eIsi "tuple" (eVar 0)) (eIsi "tuple" (eVar 1))))) (sRet (eC (.bl false))) sNext) (sRet (eAnd (eBin eqD (eB lenD (bCons (eVar 0) aNil)) (eB lenD (bCons (eVar 1) aNil))) (eB allD (bCons (eF (fComp (iZipD (aCons (eVar 0) (aCons (eVar 1) aNil))) [2, 3] (gTupD 2 (gConsD (gVar 2) (gConsD (gVar 3) gNilD))) tYesD (eCall rc (aCons (eVar 2) (aCons (eVar 3) aNil))))) aNil))))) sNext) (sSeq (sIf (tB (eUn isNonD (eVar 1))) (sRet (eUn isNonD (eVar 0))) sNext) (sSeq (sIf (tTr (eIsi2 "bool" "str" (eVar 1))) (sRet (eAnd (eBin eqD (eIsi "bool" (eVar 0)) (eIsi "bool" (eVar 1))) (eAnd (eBin eqD (eIsi "str" (eVar 0)) (eIsi "str" (eVar 1))) (eBin eqD (eVar 0) (eVar 1))))) sNext) (sRet (eAnd (eIsi "int" (eVar 0)) (eAnd (eNot (eIsi "bool" (eVar 0))) (eBin eqD (eVar 0) (eVar 1))))))))
def r__law_same : Nat → List D → M D
  | 0 => fun _ => stuck
  | n + 1 => runD 2 4 (b__law_same (r__law_same n))
def f__law_same : List D → M D := r__law_same 12
theorem sc__law_same : FnScope ["got", "due", "mine", "its"] ["got", "due"] (defScope (top 115)) := ⟨rfl, rfl, rfl, by decide +kernel, rfl, by decide +kernel, by decide +kernel⟩
theorem ok0__law_same {w : World} {K : PySem.W.Frag} {mg : Str → Option Value} {base : Heap} (Z : FX K mg) : OkF pg w K mg base (px K) 3 100 (fun _ => stuck) := by
  obtain ⟨fd, F⟩ := Z.dd 100 _ _ rfl rfl
  exact OkF.stk (okF_mk (K := K) (P := px K) (st := top 115) (k := 2) (u := sStk) rfl F sc__law_same (F.bindsN (ps := ["got", "due"]) fun _ _ _ _ _ _ us hl => match us, hl with | [_, _], _ => rfl) fun cdv A outer s H E hr => sss_stk)
theorem okr__law_same {w : World} {K : PySem.W.Frag} {mg : Str → Option Value} {base : Heap} (Z : FX K mg) : ∀ n, OkF pg w K mg base (px K) (n + 3) 100 (r__law_same n)
  | 0 => (ok0__law_same Z).mono (by omega)
  | n + 1 => by
    have rcOk := okr__law_same (w := w) (base := base) Z n
    obtain ⟨fd, F⟩ := Z.dd 100 _ _ rfl rfl
    have sc := sc__law_same
    refine okF_mk (K := K) (P := px K) (st := top 115) (k := n + 3) rfl F sc (F.bindsN (ps := ["got", "due"]) fun _ _ _ _ _ _ us hl => match us, hl with | [_, _], _ => rfl) fun cdv A outer s H E hr => ?_
    exact (sss_cons (ss_if (st_tr (se_isi2 rfl (Z.fr 7 _ rfl) (se_var 1) rfl (Z.fr 9 _ rfl) rfl rfl (Z.fr 17 _ rfl) rfl)) (sss_cons (ss_if (SWt.st (sw_or (st_ne hr (se_isi rfl (Z.fr 7 _ rfl) (se_var 0) rfl (Z.fr 9 _ rfl) rfl) (se_isi rfl (Z.fr 7 _ rfl) (se_var 1) rfl (Z.fr 9 _ rfl) rfl)) (sw_or1 (st_ne hr (se_isi rfl (Z.fr 7 _ rfl) (se_var 0) rfl (Z.fr 17 _ rfl) rfl) (se_isi rfl (Z.fr 7 _ rfl) (se_var 1) rfl (Z.fr 17 _ rfl) rfl))))) (sss_one (ss_ret se_bl)) sss_nil) (sss_one (ss_ret (se_and (se_eq hr (se_len rfl (Z.fr 8 _ rfl) (sb_cons (se_var 0) sb_nil)) (se_len rfl (Z.fr 8 _ rfl) (sb_cons (se_var 1) sb_nil))) (se_one (se_all rfl rfl (Z.fr 2 _ rfl) (sb_cons (se_f (sf_comp (own := [("mine", 2), ("its", 3)]) rfl sc.nd (si_zip rfl (Z.fr 18 _ rfl) (sa_cons (se_var 0) (sa_cons (se_var 1) sa_nil))) (blkOk_by (own := [("mine", 2), ("its", 3)]) (by kernel_rfl)) (by decide) (fun _ _ _ _ _ => (sg_tup rfl (sgs_cons (sg_var 2 sc.nd) (sgs_cons (sg_var 3 sc.nd) sgs_nil)))) (fun _ _ _ _ _ => sts_nil) (fun _ _ _ _ _ => (se_callF rcOk (hr.mono (by omega)) (Z.g 100 _ rfl) rfl (sa_cons (se_var 2) (sa_cons (se_var 3) sa_nil)))))) sb_nil))))))) sss_nil) (sss_cons (ss_if (st_isN (se_var 1)) (sss_one (ss_ret (se_isN (se_var 0)))) sss_nil) (sss_cons (ss_if (st_tr (se_isi2 rfl (Z.fr 7 _ rfl) (se_var 1) rfl (Z.fr 3 _ rfl) rfl rfl (Z.fr 15 _ rfl) rfl)) (sss_one (ss_ret (se_and (se_eq hr (se_isi rfl (Z.fr 7 _ rfl) (se_var 0) rfl (Z.fr 3 _ rfl) rfl) (se_isi rfl (Z.fr 7 _ rfl) (se_var 1) rfl (Z.fr 3 _ rfl) rfl)) (se_and (se_eq hr (se_isi rfl (Z.fr 7 _ rfl) (se_var 0) rfl (Z.fr 15 _ rfl) rfl) (se_isi rfl (Z.fr 7 _ rfl) (se_var 1) rfl (Z.fr 15 _ rfl) rfl)) (se_one (se_eq hr (se_var 0) (se_var 1))))))) sss_nil) (sss_one (ss_ret (se_and (se_isi rfl (Z.fr 7 _ rfl) (se_var 0) rfl (Z.fr 6 _ rfl) rfl) (se_and (se_not (se_isi rfl (Z.fr 7 _ rfl) (se_var 0) rfl (Z.fr 3 _ rfl) rfl)) (se_one (se_eq hr (se_var 0) (se_var 1))))))))))
theorem ok__law_same {w : World} {K : PySem.W.Frag} {mg : Str → Option Value} {base : Heap} (Z : FX K mg) : OkF pg w K mg base (px K) 15 100 f__law_same := (okr__law_same Z 12).mono (by omega)
def tblL : List (Nat × (List D → M D)) := ([(24, f_are_on_one_line), (42, f_lines_of), (56, f_all_nears), (58, f_nearest), (61, f_line_of_two), (68, f_line_counts), (69, f_how_many_lines), (73, f_pairs_told), (71, f_lines_at), (70, f_lines_of_two), (72, f_beyond_three), (74, f_busiest_line), (75, f_is_near_pencil), (76, f_lonely_place), (88, f_shear_of), (89, f_dual_lines), (90, f_dual_corners), (91, f_regions), (92, f_told_sum), (93, f_beyond_triangles)] : List (Nat × (List D → M D))) ++ ([(94, f_is_simple), (36, f_line_through), (38, f_meet_of), (59, f_next_near), (95, f_corner_ways), (37, f_lies_on), (39, f_foot_of), (40, f_squared_to), (41, f_along), (43, f_lines_with), (44, f_places_on), (55, f_is_near), (57, f_near_square), (60, f_near_steps), (62, f_is_nearer)] : List (Nat × (List D → M D)))
theorem ok_tbl {w : World} {K : PySem.W.Frag} {mg : Str → Option Value} {base : Heap} (Z : FX K mg) : ∀ n Fn, lookF n tblL = some Fn → OkF pg w K mg base (px K) 18 n Fn :=
  lookF_ok (Q := fun n F => OkF pg w K mg base (px K) 18 n F) (l := tblL) (⟨(ok_are_on_one_line Z).mono (by decide), ⟨(ok_lines_of Z).mono (by decide), ⟨(ok_all_nears Z).mono (by decide), ⟨(ok_nearest Z).mono (by decide), ⟨(ok_line_of_two Z).mono (by decide), ⟨(ok_line_counts Z).mono (by decide), ⟨(ok_how_many_lines Z).mono (by decide), ⟨(ok_pairs_told Z).mono (by decide), ⟨(ok_lines_at Z).mono (by decide), ⟨(ok_lines_of_two Z).mono (by decide), ⟨(ok_beyond_three Z).mono (by decide), ⟨(ok_busiest_line Z).mono (by decide), ⟨(ok_is_near_pencil Z).mono (by decide), ⟨(ok_lonely_place Z).mono (by decide), ⟨(ok_shear_of Z).mono (by decide), ⟨(ok_dual_lines Z).mono (by decide), ⟨(ok_dual_corners Z).mono (by decide), ⟨(ok_regions Z).mono (by decide), ⟨(ok_told_sum Z).mono (by decide), ⟨(ok_beyond_triangles Z).mono (by decide), ⟨(ok_is_simple Z).mono (by decide), ⟨(ok_line_through Z).mono (by decide), ⟨(ok_meet_of Z).mono (by decide), ⟨(ok_next_near Z).mono (by decide), ⟨(ok_corner_ways Z).mono (by decide), ⟨(ok_lies_on Z).mono (by decide), ⟨(ok_foot_of Z).mono (by decide), ⟨(ok_squared_to Z).mono (by decide), ⟨(ok_along Z).mono (by decide), ⟨(ok_lines_with Z).mono (by decide), ⟨(ok_places_on Z).mono (by decide), ⟨(ok_is_near Z).mono (by decide), ⟨(ok_near_square Z).mono (by decide), ⟨(ok_near_steps Z).mono (by decide), ⟨(ok_is_nearer Z).mono (by decide), trivial⟩⟩⟩⟩⟩⟩⟩⟩⟩⟩⟩⟩⟩⟩⟩⟩⟩⟩⟩⟩⟩⟩⟩⟩⟩⟩⟩⟩⟩⟩⟩⟩⟩⟩⟩)
def b__law_call : DEnv → M Out := (sSeq (sIf (tB (eBin eqD (eB lenD (bCons (eVar 1) aNil)) (eC (.int 1)))) (sRet (eCallL 0 (fun n => lookF n tblL) (aCons (eBin ixD (eVar 1) (eC (.int 0))) aNil))) sNext) (sSeq (sIf (tB (eBin eqD (eB lenD (bCons (eVar 1) aNil)) (eC (.int 2)))) (sRet (eCallL 0 (fun n => lookF n tblL) (aCons (eBin ixD (eVar 1) (eC (.int 0))) (aCons (eBin ixD (eVar 1) (eC (.int 1))) aNil)))) sNext) (sSeq (sIf (tB (eBin eqD (eB lenD (bCons (eVar 1) aNil)) (eC (.int 3)))) (sRet (eCallL 0 (fun n => lookF n tblL) (aCons (eBin ixD (eVar 1) (eC (.int 0))) (aCons (eBin ixD (eVar 1) (eC (.int 1))) (aCons (eBin ixD (eVar 1) (eC (.int 2))) aNil))))) sNext) (sSeq (sIf (tB (eBin eqD (eB lenD (bCons (eVar 1) aNil)) (eC (.int 4)))) (sRet (eCallL 0 (fun n => lookF n tblL) (aCons (eBin ixD (eVar 1) (eC (.int 0))) (aCons (eBin ixD (eVar 1) (eC (.int 1))) (aCons (eBin ixD (eVar 1) (eC (.int 2))) (aCons (eBin ixD (eVar 1) (eC (.int 3))) aNil)))))) sNext) (sRet (eCallL 0 (fun n => lookF n tblL) (aCons (eBin ixD (eVar 1) (eC (.int 0))) (aCons (eBin ixD (eVar 1) (eC (.int 1))) (aCons (eBin ixD (eVar 1) (eC (.int 2))) (aCons (eBin ixD (eVar 1) (eC (.int 3))) (aCons (eBin ixD (eVar 1) (eC (.int 4))) aNil)))))))))))
def f__law_call : List D → M D := runD 2 2 b__law_call
theorem sc__law_call : FnScope ["door_so", "goods_so"] ["door_so", "goods_so"] (defScope (top 116)) := ⟨rfl, rfl, rfl, by decide +kernel, rfl, by decide +kernel, by decide +kernel⟩
theorem ok__law_call {w : World} {K : PySem.W.Frag} {mg : Str → Option Value} {base : Heap} (Z : FX K mg) : OkF pg w K mg base (px K) 19 101 f__law_call := by
  obtain ⟨fd, F⟩ := Z.dd 101 _ _ rfl rfl
  have o_tbl := ok_tbl (w := w) (base := base) Z
  have sc := sc__law_call
  refine okF_mk (K := K) (P := px K) (st := top 116) (k := 18) rfl F sc (F.bindsN (ps := ["door_so", "goods_so"]) fun _ _ _ _ _ _ us hl => match us, hl with | [_, _], _ => rfl) fun cdv A outer s H E hr => ?_
  exact (sss_cons (ss_if (st_eq hr (se_len rfl (Z.fr 8 _ rfl) (sb_cons (se_var 1) sb_nil)) se_int) (sss_one (ss_ret (se_callL 0 o_tbl (hr.mono (by decide)) (sa_cons (se_ix (se_var 1) se_int) sa_nil)))) sss_nil) (sss_cons (ss_if (st_eq hr (se_len rfl (Z.fr 8 _ rfl) (sb_cons (se_var 1) sb_nil)) se_int) (sss_one (ss_ret (se_callL 0 o_tbl (hr.mono (by decide)) (sa_cons (se_ix (se_var 1) se_int) (sa_cons (se_ix (se_var 1) se_int) sa_nil))))) sss_nil) (sss_cons (ss_if (st_eq hr (se_len rfl (Z.fr 8 _ rfl) (sb_cons (se_var 1) sb_nil)) se_int) (sss_one (ss_ret (se_callL 0 o_tbl (hr.mono (by decide)) (sa_cons (se_ix (se_var 1) se_int) (sa_cons (se_ix (se_var 1) se_int) (sa_cons (se_ix (se_var 1) se_int) sa_nil)))))) sss_nil) (sss_cons (ss_if (st_eq hr (se_len rfl (Z.fr 8 _ rfl) (sb_cons (se_var 1) sb_nil)) se_int) (sss_one (ss_ret (se_callL 0 o_tbl (hr.mono (by decide)) (sa_cons (se_ix (se_var 1) se_int) (sa_cons (se_ix (se_var 1) se_int) (sa_cons (se_ix (se_var 1) se_int) (sa_cons (se_ix (se_var 1) se_int) sa_nil))))))) sss_nil) (sss_one (ss_ret (se_callL 0 o_tbl (hr.mono (by decide)) (sa_cons (se_ix (se_var 1) se_int) (sa_cons (se_ix (se_var 1) se_int) (sa_cons (se_ix (se_var 1) se_int) (sa_cons (se_ix (se_var 1) se_int) (sa_cons (se_ix (se_var 1) se_int) sa_nil))))))))))))
def b__law_slip : DEnv → M Out := (sSeq (sSlip [(2, 2, "unfit"), (0, 3, "can not"), (1, 4, "many")] (sDrop (eCall f__law_call (aCons (eVar 0) (aCons (eVar 1) aNil))))) (sRet (eC (.str "told"))))
def f__law_slip : List D → M D := runD 2 5 b__law_slip
theorem sc__law_slip : FnScope ["door_so", "goods_so", "slip_so", "slip_c", "slip_m"] ["door_so", "goods_so"] (defScope (top 117)) := ⟨rfl, rfl, rfl, by decide +kernel, rfl, by decide +kernel, by decide +kernel⟩
theorem ok__law_slip {w : World} {K : PySem.W.Frag} {mg : Str → Option Value} {base : Heap} (Z : FX K mg) : OkF pg w K mg base (px K) 20 102 f__law_slip := by
  obtain ⟨fd, F⟩ := Z.dd 102 _ _ rfl rfl
  have o__law_call := ok__law_call (w := w) (base := base) Z
  have sc := sc__law_slip
  refine okF_mk (K := K) (P := px K) (st := top 117) (k := 19) rfl F sc (F.bindsN (ps := ["door_so", "goods_so"]) fun _ _ _ _ _ _ us hl => match us, hl with | [_, _], _ => rfl) fun cdv A outer s H E hr => ?_
  exact (sss_cons (ss_slip (ls := [(2, 2, "unfit"), (0, 3, "can not"), (1, 4, "many")]) rfl sc.nd rfl (Z.fr 7 _ rfl) rfl (Z.fr 0 _ rfl) (fun c hc => Z.slE c (((by decide : ∀ c ∈ ([2, 0, 1] : List Nat), c < nmC.length)) c hc)) (fun c hc l hl => Z.slM c l.1 (((by decide : ∀ c ∈ ([2, 0, 1] : List Nat), c < nmC.length)) c hc) (((by decide : ∀ c ∈ ([2, 0, 1] : List Nat), c < nmC.length)) l.1 (List.mem_map_of_mem hl))) (fun _ _ _ => (sss_one (ss_drop (se_callF o__law_call (hr.mono (by decide)) (Z.g 101 _ rfl) rfl (sa_cons (se_var 0) (sa_cons (se_var 1) sa_nil)))))) (.cons rfl (by decide) (Z.ex 2 _ rfl).1 rfl (by decide) (by decide) rfl (.cons rfl (by decide) (Z.ex 0 _ rfl).1 rfl (by decide) (by decide) rfl (.cons rfl (by decide) (Z.ex 1 _ rfl).1 rfl (by decide) (by decide) rfl .nil)))) (sss_one (ss_ret se_str)))
def b__law_are_all_unfit : DEnv → M Out := (sSeq (sFor (iSeqD (eVar 0)) (gVar 4) (sFor (iSeqD (eVar 2)) (gVar 5) (sIf (tB (eBin neD (eCall f__law_slip (aCons (eVar 4) (aCons (eBin addD (eBin addD (eVar 1) (eF (fLst (aCons (eVar 5) aNil)))) (eVar 3)) aNil))) (eC (.str "unfit")))) (sRet (eC (.bl false))) sNext))) (sRet (eC (.bl true))))
def f__law_are_all_unfit : List D → M D := runD 4 6 b__law_are_all_unfit
theorem sc__law_are_all_unfit : FnScope ["doors_so", "ahead_so", "wrongs_so", "behind_so", "door_so", "own"] ["doors_so", "ahead_so", "wrongs_so", "behind_so"] (defScope (top 118)) := ⟨rfl, rfl, rfl, by decide +kernel, rfl, by decide +kernel, by decide +kernel⟩
theorem ok__law_are_all_unfit {w : World} {K : PySem.W.Frag} {mg : Str → Option Value} {base : Heap} (Z : FX K mg) : OkF pg w K mg base (px K) 21 103 f__law_are_all_unfit := by
  obtain ⟨fd, F⟩ := Z.dd 103 _ _ rfl rfl
  have o__law_slip := ok__law_slip (w := w) (base := base) Z
  have sc := sc__law_are_all_unfit
  refine okF_mk (K := K) (P := px K) (st := top 118) (k := 20) rfl F sc (F.bindsN (ps := ["doors_so", "ahead_so", "wrongs_so", "behind_so"]) fun _ _ _ _ _ _ us hl => match us, hl with | [_, _, _, _], _ => rfl) fun cdv A outer s H E hr => ?_
  exact (sss_cons (ss_for (passes_of rfl) rfl (si_seq (se_var 0)) (sg_var 4 sc.nd) (sss_one (ss_for (passes_of rfl) rfl (si_seq (se_var 2)) (sg_var 5 sc.nd) (sss_one (ss_if (st_ne hr (se_callF o__law_slip (hr.mono (by decide)) (Z.g 102 _ rfl) rfl (sa_cons (se_var 4) (sa_cons (se_add (se_add (se_var 1) (se_f (sf_lst (sa_cons (se_var 5) sa_nil)))) (se_var 3)) sa_nil))) se_str) (sss_one (ss_ret se_bl)) sss_nil))))) (sss_one (ss_ret se_bl)))
end Lw

set_option Elab.async false
set_option linter.all false
set_option maxRecDepth 100000
set_option maxHeartbeats 4000000
namespace Lw
open PySem PySem.Spec PyProof.Rows L2 Pu
def l1_law : DEnv → M Out := (sSet 1 (eCall f__law_box (aCons (eCall f__law_cells (aCons (eVar 0) (aCons (eC (.int 1)) aNil))) (aCons (eC (.int 0)) aNil))))
def q1 : DEnv → M Out := (sAsg (gTupD 4 (gConsD (gVar 2) (gConsD (gVar 3) (gConsD (gVar 4) (gConsD (gVar 5) gNilD))))) (eTup (aCons (eTup (aCons (eTup (aCons (eC (.int 0)) (aCons (eC (.int 1)) aNil))) (aCons (eTup (aCons (eC (.int 0)) (aCons (eC (.int 1)) aNil))) aNil))) (aCons (eTup (aCons (eTup (aCons (eC (.int 0)) (aCons (eC (.int 1)) aNil))) (aCons (eTup (aCons (eC (.int 1)) (aCons (eC (.int 1)) aNil))) aNil))) (aCons (eTup (aCons (eTup (aCons (eC (.int 1)) (aCons (eC (.int 2)) aNil))) (aCons (eTup (aCons (eC (.int 0)) (aCons (eC (.int 1)) aNil))) aNil))) (aCons (eTup (aCons (eTup (aCons (eC (.int 1)) (aCons (eC (.int 1)) aNil))) (aCons (eTup (aCons (eC (.int 0)) (aCons (eC (.int 1)) aNil))) aNil))) aNil))))))
def q2 : DEnv → M Out := (sAsg (gTupD 2 (gConsD (gVar 6) (gConsD (gVar 7) gNilD))) (eTup (aCons (eTup (aCons (eVar 2) (aCons (eVar 3) (aCons (eVar 4) (aCons (eVar 5) aNil))))) (aCons (eTup (aCons (eVar 2) (aCons (eVar 4) (aCons (eVar 5) aNil)))) aNil))))
def q3 : DEnv → M Out := (sOwn 8 (fLst (aCons (eC .non) (aCons (eC (.int 5)) (aCons (eTup aNil) (aCons (eC (.str "abc")) (aCons (eTup (aCons (eVar 2) (aCons (eVar 3) aNil))) (aCons (eTup (aCons (eVar 3) (aCons (eVar 2) (aCons (eVar 4) aNil)))) (aCons (eTup (aCons (eVar 2) (aCons (eVar 2) (aCons (eVar 3) aNil)))) (aCons (eTup (aCons (eVar 2) (aCons (eVar 3) (aCons (eVar 4) (aCons (eC .non) aNil))))) (aCons (eTup (aCons (eVar 2) (aCons (eVar 3) (aCons (eTup (aCons (eTup (aCons (eC (.int 2)) (aCons (eC (.int 4)) aNil))) (aCons (eTup (aCons (eC (.int 0)) (aCons (eC (.int 1)) aNil))) aNil))) aNil)))) (aCons (eTup (aCons (eVar 2) (aCons (eVar 3) (aCons (eTup (aCons (eTup (aCons (eC (.int 1)) (aCons (eC (.int 1000001)) aNil))) (aCons (eTup (aCons (eC (.int 0)) (aCons (eC (.int 1)) aNil))) aNil))) aNil)))) (aCons (eTup (aCons (eVar 2) (aCons (eVar 3) (aCons (eTup (aCons (eTup (aCons (eC (.int 1)) (aCons (eC (.int 1)) aNil))) (aCons (eTup (aCons (eC (.bl true)) (aCons (eC (.int 1)) aNil))) aNil))) aNil)))) aNil)))))))))))))
def q4 : DEnv → M Out := (sOwn 8 (fCat (eVar 8) (eF (fLst (aCons (eTup (aCons (eVar 2) (aCons (eVar 3) (aCons (eTup (aCons (eC (.int 1)) (aCons (eC (.int 1)) aNil))) aNil)))) (aCons (eTup (aCons (eVar 4) (aCons (eVar 2) (aCons (eVar 3) aNil)))) (aCons (eTup (aCons (eVar 2) (aCons (eVar 3) (aCons (eVar 4) (aCons (eVar 5) (aCons (eTup (aCons (eTup (aCons (eC (.int 1)) (aCons (eC (.int 1)) aNil))) aNil)) aNil)))))) aNil)))))))
def q5 : DEnv → M Out := (sApp 8 (eB tupD (bCons (eF (fComp (iRng1D (aCons (eC (.int 31)) aNil)) [9] (gVar 9) tYesD (eTup (aCons (eTup (aCons (eVar 9) (aCons (eC (.int 1)) aNil))) (aCons (eTup (aCons (eC (.int 0)) (aCons (eC (.int 1)) aNil))) aNil))))) aNil)))
def q6 : DEnv → M Out := (sSet 10 (eF (fLst (aCons (eC .non) (aCons (eC (.int 5)) (aCons (eTup aNil) (aCons (eTup (aCons (eC (.int 1)) (aCons (eC (.int 1)) aNil))) (aCons (eTup (aCons (eTup (aCons (eC (.int 2)) (aCons (eC (.int 4)) aNil))) (aCons (eTup (aCons (eC (.int 0)) (aCons (eC (.int 1)) aNil))) aNil))) (aCons (eTup (aCons (eTup (aCons (eC (.int 0)) (aCons (eC (.int 1)) aNil))) aNil)) (aCons (eTup (aCons (eTup (aCons (eC (.bl true)) (aCons (eC (.int 1)) aNil))) (aCons (eTup (aCons (eC (.int 0)) (aCons (eC (.int 1)) aNil))) aNil))) (aCons (eTup (aCons (eTup (aCons (eC (.int 1000001)) (aCons (eC (.int 1)) aNil))) (aCons (eTup (aCons (eC (.int 0)) (aCons (eC (.int 1)) aNil))) aNil))) (aCons (eTup (aCons (eC (.str "0")) (aCons (eTup (aCons (eC (.int 0)) (aCons (eC (.int 1)) aNil))) aNil))) aNil))))))))))))
def q7 : DEnv → M Out := (sSet 11 (eF (fLst (aCons (eC .non) (aCons (eC (.int 5)) (aCons (eTup aNil) (aCons (eTup (aCons (eC (.int 1)) (aCons (eC (.int 0)) aNil))) (aCons (eTup (aCons (eC (.int 0)) (aCons (eC (.int 0)) (aCons (eC (.int 1)) aNil)))) (aCons (eTup (aCons (eC (.int 2)) (aCons (eC (.int 0)) (aCons (eC (.int 2)) aNil)))) (aCons (eTup (aCons (eUn negD (eC (.int 1))) (aCons (eC (.int 0)) (aCons (eC (.int 0)) aNil)))) (aCons (eTup (aCons (eC (.int 0)) (aCons (eUn negD (eC (.int 1))) (aCons (eC (.int 2)) aNil)))) (aCons (eTup (aCons (eC (.bl true)) (aCons (eC (.int 0)) (aCons (eC (.int 0)) aNil)))) (aCons (eTup (aCons (eC (.int 1)) (aCons (eC (.int 0)) (aCons (eBin powD (eC (.int 10)) (eC (.int 41))) aNil)))) (aCons (eC (.str "100")) aNil))))))))))))))
def q8 : DEnv → M Out := (sSet 12 (eF (fLst (aCons (eC (.fn 24)) (aCons (eC (.fn 42)) (aCons (eC (.fn 56)) (aCons (eC (.fn 58)) (aCons (eC (.fn 61)) (aCons (eC (.fn 68)) (aCons (eC (.fn 69)) (aCons (eC (.fn 73)) (aCons (eC (.fn 71)) (aCons (eC (.fn 70)) (aCons (eC (.fn 72)) (aCons (eC (.fn 74)) aNil)))))))))))))))
def q9 : DEnv → M Out := (sSet 12 (eBin addD (eVar 12) (eF (fLst (aCons (eC (.fn 75)) (aCons (eC (.fn 76)) aNil))))))
def q10 : DEnv → M Out := (sSet 12 (eBin addD (eVar 12) (eF (fLst (aCons (eC (.fn 88)) (aCons (eC (.fn 89)) (aCons (eC (.fn 90)) (aCons (eC (.fn 91)) (aCons (eC (.fn 92)) (aCons (eC (.fn 93)) (aCons (eC (.fn 94)) aNil)))))))))))
def q11 : DEnv → M Out := (sSet 13 (eF (fLst (aCons (eC .non) (aCons (eC (.int 5)) (aCons (eTup aNil) (aCons (eTup (aCons (eC (.int 0)) aNil)) (aCons (eTup (aCons (eC (.int 0)) (aCons (eTup (aCons (eC (.int 0)) (aCons (eC (.int 1)) aNil))) aNil))) (aCons (eTup (aCons (eC (.int 1)) (aCons (eTup (aCons (eC (.int 0)) (aCons (eC (.int 2)) aNil))) aNil))) (aCons (eTup (aCons (eC (.int 1)) (aCons (eTup (aCons (eC (.int 3)) (aCons (eC (.int 2)) (aCons (eC (.int 0)) aNil)))) aNil))) (aCons (eTup (aCons (eC (.int 1)) (aCons (eTup (aCons (eC (.int 0)) (aCons (eC (.int 2)) (aCons (eC (.int 3)) aNil)))) (aCons (eC (.int 0)) aNil)))) (aCons (eTup (aCons (eC (.int 4)) (aCons (eTup (aCons (eC (.int 0)) (aCons (eC (.int 1)) aNil))) aNil))) (aCons (eTup (aCons (eUn negD (eC (.int 1))) (aCons (eTup (aCons (eC (.int 0)) (aCons (eC (.int 1)) aNil))) aNil))) (aCons (eTup (aCons (eC (.bl true)) (aCons (eTup (aCons (eC (.int 0)) (aCons (eC (.int 2)) (aCons (eC (.int 3)) aNil)))) aNil))) (aCons (eTup (aCons (eC (.int 2)) (aCons (eTup (aCons (eC (.int 0)) (aCons (eC (.int 1)) (aCons (eC (.int 4)) aNil)))) aNil))) (aCons (eTup (aCons (eC (.int 2)) (aCons (eTup (aCons (eC (.int 1)) aNil)) aNil))) aNil))))))))))))))))
def q12 : DEnv → M Out := (sSet 13 (eBin addD (eVar 13) (eF (fLst (aCons (eTup (aCons (eC (.int 2)) (aCons (eTup aNil) aNil))) (aCons (eTup (aCons (eC (.int 2)) (aCons (eTup (aCons (eC (.int 1)) (aCons (eC (.int 0)) aNil))) aNil))) aNil))))))
def q13 : DEnv → M Out := (sAsg (gTupD 2 (gConsD (gVar 14) (gConsD (gVar 15) gNilD))) (eTup (aCons (eTup (aCons (eC (.int 2)) (aCons (eTup (aCons (eC (.int 0)) (aCons (eC (.int 1)) aNil))) aNil))) (aCons (eTup (aCons (eC (.int 1)) (aCons (eTup (aCons (eC (.int 0)) (aCons (eC (.int 2)) (aCons (eC (.int 3)) aNil)))) aNil))) aNil))))
def q14 : DEnv → M Out := (sSet 16 (eF (fLst (aCons (eTup (aCons (eVar 12) (aCons (eF (fLst aNil)) (aCons (eVar 8) (aCons (eF (fLst aNil)) aNil))))) (aCons (eTup (aCons (eF (fLst (aCons (eC (.fn 36)) aNil))) (aCons (eF (fLst aNil)) (aCons (eVar 10) (aCons (eF (fLst (aCons (eVar 3) aNil))) aNil))))) (aCons (eTup (aCons (eF (fLst (aCons (eC (.fn 36)) aNil))) (aCons (eF (fLst (aCons (eVar 2) aNil))) (aCons (eVar 10) (aCons (eF (fLst aNil)) aNil))))) aNil))))))
def q15 : DEnv → M Out := (sSet 16 (eBin addD (eVar 16) (eF (fLst (aCons (eTup (aCons (eF (fLst (aCons (eC (.fn 37)) (aCons (eC (.fn 39)) (aCons (eC (.fn 40)) (aCons (eC (.fn 41)) aNil)))))) (aCons (eF (fLst aNil)) (aCons (eVar 10) (aCons (eF (fLst (aCons (eTup (aCons (eC (.int 1)) (aCons (eC (.int 0)) (aCons (eC (.int 0)) aNil)))) aNil))) aNil))))) (aCons (eTup (aCons (eF (fLst (aCons (eC (.fn 37)) (aCons (eC (.fn 39)) (aCons (eC (.fn 40)) (aCons (eC (.fn 41)) aNil)))))) (aCons (eF (fLst (aCons (eVar 2) aNil))) (aCons (eVar 11) (aCons (eF (fLst aNil)) aNil))))) aNil))))))
def q16 : DEnv → M Out := (sSet 16 (eBin addD (eVar 16) (eF (fLst (aCons (eTup (aCons (eF (fLst (aCons (eC (.fn 38)) aNil))) (aCons (eF (fLst aNil)) (aCons (eVar 11) (aCons (eF (fLst (aCons (eTup (aCons (eC (.int 0)) (aCons (eC (.int 1)) (aCons (eC (.int 0)) aNil)))) aNil))) aNil))))) (aCons (eTup (aCons (eF (fLst (aCons (eC (.fn 38)) aNil))) (aCons (eF (fLst (aCons (eTup (aCons (eC (.int 0)) (aCons (eC (.int 1)) (aCons (eC (.int 0)) aNil)))) aNil))) (aCons (eVar 11) (aCons (eF (fLst aNil)) aNil))))) (aCons (eTup (aCons (eF (fLst (aCons (eC (.fn 43)) aNil))) (aCons (eF (fLst aNil)) (aCons (eVar 8) (aCons (eF (fLst (aCons (eC (.int 2)) aNil))) aNil))))) aNil)))))))
def q17 : DEnv → M Out := (sSet 16 (eBin addD (eVar 16) (eF (fLst (aCons (eTup (aCons (eF (fLst (aCons (eC (.fn 43)) aNil))) (aCons (eF (fLst (aCons (eVar 6) aNil))) (aCons (eF (fLst (aCons (eC .non) (aCons (eC (.int 1)) (aCons (eC (.int 31)) (aCons (eC (.bl true)) (aCons (eC (.str "2")) aNil))))))) (aCons (eF (fLst aNil)) aNil))))) (aCons (eTup (aCons (eF (fLst (aCons (eC (.fn 44)) aNil))) (aCons (eF (fLst aNil)) (aCons (eVar 8) (aCons (eF (fLst (aCons (eTup (aCons (eC (.int 1)) (aCons (eC (.int 0)) (aCons (eC (.int 0)) aNil)))) aNil))) aNil))))) aNil))))))
def q18 : DEnv → M Out := (sSet 16 (eBin addD (eVar 16) (eF (fLst (aCons (eTup (aCons (eF (fLst (aCons (eC (.fn 44)) aNil))) (aCons (eF (fLst (aCons (eVar 6) aNil))) (aCons (eVar 11) (aCons (eF (fLst aNil)) aNil))))) (aCons (eTup (aCons (eF (fLst (aCons (eC (.fn 55)) aNil))) (aCons (eF (fLst aNil)) (aCons (eVar 8) (aCons (eF (fLst (aCons (eVar 14) aNil))) aNil))))) (aCons (eTup (aCons (eF (fLst (aCons (eC (.fn 57)) (aCons (eC (.fn 59)) (aCons (eC (.fn 60)) aNil))))) (aCons (eF (fLst aNil)) (aCons (eVar 8) (aCons (eF (fLst (aCons (eVar 14) aNil))) aNil))))) aNil)))))))
def q19 : DEnv → M Out := (sSet 16 (eBin addD (eVar 16) (eF (fLst (aCons (eTup (aCons (eF (fLst (aCons (eC (.fn 57)) (aCons (eC (.fn 59)) (aCons (eC (.fn 60)) aNil))))) (aCons (eF (fLst (aCons (eVar 6) aNil))) (aCons (eVar 13) (aCons (eF (fLst aNil)) aNil))))) aNil)))))
def q20 : DEnv → M Out := (sSet 16 (eBin addD (eVar 16) (eF (fLst (aCons (eTup (aCons (eF (fLst (aCons (eC (.fn 62)) aNil))) (aCons (eF (fLst aNil)) (aCons (eVar 8) (aCons (eF (fLst (aCons (eVar 14) (aCons (eVar 15) aNil)))) aNil))))) (aCons (eTup (aCons (eF (fLst (aCons (eC (.fn 62)) aNil))) (aCons (eF (fLst (aCons (eVar 6) aNil))) (aCons (eVar 13) (aCons (eF (fLst (aCons (eVar 14) aNil))) aNil))))) (aCons (eTup (aCons (eF (fLst (aCons (eC (.fn 62)) aNil))) (aCons (eF (fLst (aCons (eVar 6) (aCons (eVar 14) aNil)))) (aCons (eVar 13) (aCons (eF (fLst aNil)) aNil))))) aNil)))))))
def q21 : DEnv → M Out := (sSet 16 (eBin addD (eVar 16) (eF (fLst (aCons (eTup (aCons (eF (fLst (aCons (eC (.fn 95)) aNil))) (aCons (eF (fLst aNil)) (aCons (eVar 8) (aCons (eF (fLst (aCons (eC (.int 0)) aNil))) aNil))))) (aCons (eTup (aCons (eF (fLst (aCons (eC (.fn 95)) aNil))) (aCons (eF (fLst (aCons (eVar 6) aNil))) (aCons (eF (fLst (aCons (eC .non) (aCons (eUn negD (eC (.int 1))) (aCons (eC (.bl true)) (aCons (eBin addD (eBin powD (eC (.int 10)) (eC (.int 6))) (eC (.int 1))) (aCons (eC (.str "0")) aNil))))))) (aCons (eF (fLst aNil)) aNil))))) aNil))))))
def q22 : DEnv → M Out := (sIf (tNotD (tTr (eB allD (bCons (eF (fComp (iSeqD (eVar 16)) [17, 18, 19, 20] (gTupD 4 (gConsD (gVar 17) (gConsD (gVar 18) (gConsD (gVar 19) (gConsD (gVar 20) gNilD))))) tYesD (eCall f__law_are_all_unfit (aCons (eVar 17) (aCons (eVar 18) (aCons (eCall f__law_pick (aCons (eVar 1) (aCons (eVar 19) (aCons (eC (.int 9)) aNil)))) (aCons (eVar 20) aNil))))))) aNil)))) (sRet (eC (.bl false))) sNext)
def q23 : DEnv → M Out := (sIf (tNotD (tTr (eCall f__law_same (aCons (eBin addD (eF (fComp (iSeqD (eVar 13)) [21] (gVar 21) tYesD (eCall f_is_near (aCons (eVar 6) (aCons (eVar 21) aNil))))) (eF (fLst (aCons (eCall f_is_near (aCons (eVar 6) (aCons (eVar 14) aNil))) (aCons (eCall f_is_near (aCons (eVar 6) (aCons (eVar 15) aNil))) aNil))))) (aCons (eBin addD (eF (fRep (eF (fLst (aCons (eC (.bl false)) aNil))) (eC (.int 15)))) (eF (fLst (aCons (eC (.bl true)) (aCons (eC (.bl true)) aNil))))) aNil))))) (sRet (eC (.bl false))) sNext)
def q24 : DEnv → M Out := (sSet 22 (eF (fComp (iSeqD (eTup (aCons (eC (.fn 58)) (aCons (eC (.fn 61)) (aCons (eC (.fn 72)) (aCons (eC (.fn 91)) (aCons (eC (.fn 92)) (aCons (eC (.fn 93)) (aCons (eC (.fn 94)) (aCons (eC (.fn 76)) aNil)))))))))) [23] (gVar 23) tYesD (eCall f__law_slip (aCons (eVar 23) (aCons (eF (fLst (aCons (eVar 7) aNil))) aNil))))))
def q25 : DEnv → M Out := (sSet 22 (eBin addD (eVar 22) (eF (fLst (aCons (eCall f__law_slip (aCons (eC (.fn 36)) (aCons (eF (fLst (aCons (eVar 2) (aCons (eVar 2) aNil)))) aNil))) (aCons (eCall f__law_slip (aCons (eC (.fn 38)) (aCons (eF (fLst (aCons (eTup (aCons (eC (.int 1)) (aCons (eC (.int 0)) (aCons (eC (.int 0)) aNil)))) (aCons (eTup (aCons (eC (.int 1)) (aCons (eC (.int 0)) (aCons (eUn negD (eC (.int 1))) aNil)))) aNil)))) aNil))) (aCons (eCall f__law_slip (aCons (eC (.fn 38)) (aCons (eF (fLst (aCons (eTup (aCons (eC (.int 1)) (aCons (eC (.int 0)) (aCons (eC (.int 0)) aNil)))) (aCons (eTup (aCons (eC (.int 1)) (aCons (eC (.int 0)) (aCons (eC (.int 0)) aNil)))) aNil)))) aNil))) aNil)))))))
def q26 : DEnv → M Out := (sSet 22 (eBin addD (eVar 22) (eF (fLst (aCons (eCall f__law_slip (aCons (eC (.fn 59)) (aCons (eF (fLst (aCons (eVar 6) (aCons (eVar 14) aNil)))) aNil))) (aCons (eCall f__law_slip (aCons (eC (.fn 95)) (aCons (eF (fLst (aCons (eVar 6) (aCons (eC (.int 4)) aNil)))) aNil))) aNil))))))
def q27 : DEnv → M Out := (sRet (eBin eqD (eVar 22) (eF (fRep (eF (fLst (aCons (eC (.str "can not")) aNil))) (eC (.int 13))))))
def l2_law : DEnv → M Out := (sSeq q1 (sSeq q2 (sSeq q3 (sSeq q4 (sSeq q5 (sFrz 8 (sSeq q6 (sSeq q7 (sSeq q8 (sSeq q9 (sSeq q10 (sSeq q11 (sSeq q12 (sSeq q13 (sSeq q14 (sSeq q15 (sSeq q16 (sSeq q17 (sSeq q18 (sSeq q19 (sSeq q20 (sSeq q21 (sSeq q22 (sSeq q23 (sSeq q24 (sSeq q25 (sSeq q26 q27)))))))))))))))))))))))))))
theorem sc_law : FnScope ["script", "tin", "a", "b", "c", "d", "fine_so", "flat_so", "points_so", "k", "ones_so", "lines_so", "doors_so", "nears_so", "good_so", "wide_so", "asked_so", "doors", "ahead_so", "wrongs_so", "behind_so", "own", "cannot_so", "door_so"] ["script"] (defScope (top 119)) := ⟨rfl, rfl, rfl, by decide +kernel, rfl, by decide +kernel, by decide +kernel⟩
theorem ok_law {w : World} {K : PySem.W.Frag} {mg : Str → Option Value} {base : Heap} (Z : FX K mg) {fd : FuncData} (F : FunD K "law" "law" (defArgs (top 119)) (defBody (top 119)) (defScope (top 119)) [] [] ((px K).fa 104) fd) (good : Pu.Good 24 1 l1_law l2_law) : FnOk pg w K mg base (L2.CX pg w) 22 ((px K).fa 104) fd ["script"] (spLaw (px K)) := by
  have o__law_cells := ok__law_cells (w := w) (base := base) Z
  have o__law_box := ok__law_box (w := w) (base := base) Z
  have o__law_pick := ok__law_pick (w := w) (base := base) Z
  have o__law_are_all_unfit := ok__law_are_all_unfit (w := w) (base := base) Z
  have o_is_near := ok_is_near (w := w) (base := base) Z
  have o__law_same := ok__law_same (w := w) (base := base) Z
  have o__law_slip := ok__law_slip (w := w) (base := base) Z
  have sc := sc_law
  refine law_ok (K := K) (P := px K) (i := 1) (st := top 119) (k := 21) rfl (fun_of F) sc rfl (fun cdv A outer s H E hr => ⟨?_, ?_⟩) good
  · exact (ss_set 1 sc.nd (se_callF o__law_box (hr.mono (by decide)) (Z.g 96 _ rfl) rfl (sa_cons (se_callF o__law_cells (hr.mono (by decide)) (Z.g 98 _ rfl) rfl (sa_cons (se_var 0) (sa_cons se_int sa_nil))) (sa_cons se_int sa_nil))))
  · exact (sss_cons (ss_asg (se_tup (sa_cons (se_tup (sa_cons (se_tup (sa_cons se_int (sa_cons se_int sa_nil))) (sa_cons (se_tup (sa_cons se_int (sa_cons se_int sa_nil))) sa_nil))) (sa_cons (se_tup (sa_cons (se_tup (sa_cons se_int (sa_cons se_int sa_nil))) (sa_cons (se_tup (sa_cons se_int (sa_cons se_int sa_nil))) sa_nil))) (sa_cons (se_tup (sa_cons (se_tup (sa_cons se_int (sa_cons se_int sa_nil))) (sa_cons (se_tup (sa_cons se_int (sa_cons se_int sa_nil))) sa_nil))) (sa_cons (se_tup (sa_cons (se_tup (sa_cons se_int (sa_cons se_int sa_nil))) (sa_cons (se_tup (sa_cons se_int (sa_cons se_int sa_nil))) sa_nil))) sa_nil))))) (sg_tup rfl (sgs_cons (sg_var 2 sc.nd) (sgs_cons (sg_var 3 sc.nd) (sgs_cons (sg_var 4 sc.nd) (sgs_cons (sg_var 5 sc.nd) sgs_nil)))))) (sss_cons (ss_asg (se_tup (sa_cons (se_tup (sa_cons (se_var 2) (sa_cons (se_var 3) (sa_cons (se_var 4) (sa_cons (se_var 5) sa_nil))))) (sa_cons (se_tup (sa_cons (se_var 2) (sa_cons (se_var 4) (sa_cons (se_var 5) sa_nil)))) sa_nil))) (sg_tup rfl (sgs_cons (sg_var 6 sc.nd) (sgs_cons (sg_var 7 sc.nd) sgs_nil)))) (sss_cons (ss_own 8 sc.nd (sf_lst (sa_cons se_non (sa_cons se_int (sa_cons (se_tup sa_nil) (sa_cons se_str (sa_cons (se_tup (sa_cons (se_var 2) (sa_cons (se_var 3) sa_nil))) (sa_cons (se_tup (sa_cons (se_var 3) (sa_cons (se_var 2) (sa_cons (se_var 4) sa_nil)))) (sa_cons (se_tup (sa_cons (se_var 2) (sa_cons (se_var 2) (sa_cons (se_var 3) sa_nil)))) (sa_cons (se_tup (sa_cons (se_var 2) (sa_cons (se_var 3) (sa_cons (se_var 4) (sa_cons se_non sa_nil))))) (sa_cons (se_tup (sa_cons (se_var 2) (sa_cons (se_var 3) (sa_cons (se_tup (sa_cons (se_tup (sa_cons se_int (sa_cons se_int sa_nil))) (sa_cons (se_tup (sa_cons se_int (sa_cons se_int sa_nil))) sa_nil))) sa_nil)))) (sa_cons (se_tup (sa_cons (se_var 2) (sa_cons (se_var 3) (sa_cons (se_tup (sa_cons (se_tup (sa_cons se_int (sa_cons se_int sa_nil))) (sa_cons (se_tup (sa_cons se_int (sa_cons se_int sa_nil))) sa_nil))) sa_nil)))) (sa_cons (se_tup (sa_cons (se_var 2) (sa_cons (se_var 3) (sa_cons (se_tup (sa_cons (se_tup (sa_cons se_int (sa_cons se_int sa_nil))) (sa_cons (se_tup (sa_cons se_bl (sa_cons se_int sa_nil))) sa_nil))) sa_nil)))) sa_nil))))))))))))) (sss_cons (ss_own 8 sc.nd (sf_cat (se_var 8) (se_f (sf_lst (sa_cons (se_tup (sa_cons (se_var 2) (sa_cons (se_var 3) (sa_cons (se_tup (sa_cons se_int (sa_cons se_int sa_nil))) sa_nil)))) (sa_cons (se_tup (sa_cons (se_var 4) (sa_cons (se_var 2) (sa_cons (se_var 3) sa_nil)))) (sa_cons (se_tup (sa_cons (se_var 2) (sa_cons (se_var 3) (sa_cons (se_var 4) (sa_cons (se_var 5) (sa_cons (se_tup (sa_cons (se_tup (sa_cons se_int (sa_cons se_int sa_nil))) sa_nil)) sa_nil)))))) sa_nil))))))) (sss_cons (ss_app 8 rfl (se_toTup rfl (Z.fr 17 _ rfl) (sb_cons (se_f (sf_comp (own := [("k", 9)]) rfl sc.nd (si_range1 rfl (Z.fr 12 _ rfl) (sa_cons se_int sa_nil)) (blkOk_by (own := [("k", 9)]) (by kernel_rfl)) (by decide) (fun _ _ _ _ _ => (sg_var 9 sc.nd)) (fun _ _ _ _ _ => sts_nil) (fun _ _ _ _ _ => (se_tup (sa_cons (se_tup (sa_cons (se_var 9) (sa_cons se_int sa_nil))) (sa_cons (se_tup (sa_cons se_int (sa_cons se_int sa_nil))) sa_nil)))))) sb_nil))) (ss_frz 8 (sss_cons (ss_set 10 sc.nd (se_f (sf_lst (sa_cons se_non (sa_cons se_int (sa_cons (se_tup sa_nil) (sa_cons (se_tup (sa_cons se_int (sa_cons se_int sa_nil))) (sa_cons (se_tup (sa_cons (se_tup (sa_cons se_int (sa_cons se_int sa_nil))) (sa_cons (se_tup (sa_cons se_int (sa_cons se_int sa_nil))) sa_nil))) (sa_cons (se_tup (sa_cons (se_tup (sa_cons se_int (sa_cons se_int sa_nil))) sa_nil)) (sa_cons (se_tup (sa_cons (se_tup (sa_cons se_bl (sa_cons se_int sa_nil))) (sa_cons (se_tup (sa_cons se_int (sa_cons se_int sa_nil))) sa_nil))) (sa_cons (se_tup (sa_cons (se_tup (sa_cons se_int (sa_cons se_int sa_nil))) (sa_cons (se_tup (sa_cons se_int (sa_cons se_int sa_nil))) sa_nil))) (sa_cons (se_tup (sa_cons se_str (sa_cons (se_tup (sa_cons se_int (sa_cons se_int sa_nil))) sa_nil))) sa_nil)))))))))))) (sss_cons (ss_set 11 sc.nd (se_f (sf_lst (sa_cons se_non (sa_cons se_int (sa_cons (se_tup sa_nil) (sa_cons (se_tup (sa_cons se_int (sa_cons se_int sa_nil))) (sa_cons (se_tup (sa_cons se_int (sa_cons se_int (sa_cons se_int sa_nil)))) (sa_cons (se_tup (sa_cons se_int (sa_cons se_int (sa_cons se_int sa_nil)))) (sa_cons (se_tup (sa_cons (se_neg se_int) (sa_cons se_int (sa_cons se_int sa_nil)))) (sa_cons (se_tup (sa_cons se_int (sa_cons (se_neg se_int) (sa_cons se_int sa_nil)))) (sa_cons (se_tup (sa_cons se_bl (sa_cons se_int (sa_cons se_int sa_nil)))) (sa_cons (se_tup (sa_cons se_int (sa_cons se_int (sa_cons (se_pow se_int se_int) sa_nil)))) (sa_cons se_str sa_nil)))))))))))))) (sss_cons (ss_set 12 sc.nd (se_f (sf_lst (sa_cons (se_fn (i := 24) rfl (Z.g 24 _ rfl)) (sa_cons (se_fn (i := 42) rfl (Z.g 42 _ rfl)) (sa_cons (se_fn (i := 56) rfl (Z.g 56 _ rfl)) (sa_cons (se_fn (i := 58) rfl (Z.g 58 _ rfl)) (sa_cons (se_fn (i := 61) rfl (Z.g 61 _ rfl)) (sa_cons (se_fn (i := 68) rfl (Z.g 68 _ rfl)) (sa_cons (se_fn (i := 69) rfl (Z.g 69 _ rfl)) (sa_cons (se_fn (i := 73) rfl (Z.g 73 _ rfl)) (sa_cons (se_fn (i := 71) rfl (Z.g 71 _ rfl)) (sa_cons (se_fn (i := 70) rfl (Z.g 70 _ rfl)) (sa_cons (se_fn (i := 72) rfl (Z.g 72 _ rfl)) (sa_cons (se_fn (i := 74) rfl (Z.g 74 _ rfl)) sa_nil))))))))))))))) (sss_cons (ss_set 12 sc.nd (se_add (se_var 12) (se_f (sf_lst (sa_cons (se_fn (i := 75) rfl (Z.g 75 _ rfl)) (sa_cons (se_fn (i := 76) rfl (Z.g 76 _ rfl)) sa_nil)))))) (sss_cons (ss_set 12 sc.nd (se_add (se_var 12) (se_f (sf_lst (sa_cons (se_fn (i := 88) rfl (Z.g 88 _ rfl)) (sa_cons (se_fn (i := 89) rfl (Z.g 89 _ rfl)) (sa_cons (se_fn (i := 90) rfl (Z.g 90 _ rfl)) (sa_cons (se_fn (i := 91) rfl (Z.g 91 _ rfl)) (sa_cons (se_fn (i := 92) rfl (Z.g 92 _ rfl)) (sa_cons (se_fn (i := 93) rfl (Z.g 93 _ rfl)) (sa_cons (se_fn (i := 94) rfl (Z.g 94 _ rfl)) sa_nil))))))))))) (sss_cons (ss_set 13 sc.nd (se_f (sf_lst (sa_cons se_non (sa_cons se_int (sa_cons (se_tup sa_nil) (sa_cons (se_tup (sa_cons se_int sa_nil)) (sa_cons (se_tup (sa_cons se_int (sa_cons (se_tup (sa_cons se_int (sa_cons se_int sa_nil))) sa_nil))) (sa_cons (se_tup (sa_cons se_int (sa_cons (se_tup (sa_cons se_int (sa_cons se_int sa_nil))) sa_nil))) (sa_cons (se_tup (sa_cons se_int (sa_cons (se_tup (sa_cons se_int (sa_cons se_int (sa_cons se_int sa_nil)))) sa_nil))) (sa_cons (se_tup (sa_cons se_int (sa_cons (se_tup (sa_cons se_int (sa_cons se_int (sa_cons se_int sa_nil)))) (sa_cons se_int sa_nil)))) (sa_cons (se_tup (sa_cons se_int (sa_cons (se_tup (sa_cons se_int (sa_cons se_int sa_nil))) sa_nil))) (sa_cons (se_tup (sa_cons (se_neg se_int) (sa_cons (se_tup (sa_cons se_int (sa_cons se_int sa_nil))) sa_nil))) (sa_cons (se_tup (sa_cons se_bl (sa_cons (se_tup (sa_cons se_int (sa_cons se_int (sa_cons se_int sa_nil)))) sa_nil))) (sa_cons (se_tup (sa_cons se_int (sa_cons (se_tup (sa_cons se_int (sa_cons se_int (sa_cons se_int sa_nil)))) sa_nil))) (sa_cons (se_tup (sa_cons se_int (sa_cons (se_tup (sa_cons se_int sa_nil)) sa_nil))) sa_nil)))))))))))))))) (sss_cons (ss_set 13 sc.nd (se_add (se_var 13) (se_f (sf_lst (sa_cons (se_tup (sa_cons se_int (sa_cons (se_tup sa_nil) sa_nil))) (sa_cons (se_tup (sa_cons se_int (sa_cons (se_tup (sa_cons se_int (sa_cons se_int sa_nil))) sa_nil))) sa_nil)))))) (sss_cons (ss_asg (se_tup (sa_cons (se_tup (sa_cons se_int (sa_cons (se_tup (sa_cons se_int (sa_cons se_int sa_nil))) sa_nil))) (sa_cons (se_tup (sa_cons se_int (sa_cons (se_tup (sa_cons se_int (sa_cons se_int (sa_cons se_int sa_nil)))) sa_nil))) sa_nil))) (sg_tup rfl (sgs_cons (sg_var 14 sc.nd) (sgs_cons (sg_var 15 sc.nd) sgs_nil)))) (sss_cons (ss_set 16 sc.nd (se_f (sf_lst (sa_cons (se_tup (sa_cons (se_var 12) (sa_cons (se_f (sf_lst sa_nil)) (sa_cons (se_var 8) (sa_cons (se_f (sf_lst sa_nil)) sa_nil))))) (sa_cons (se_tup (sa_cons (se_f (sf_lst (sa_cons (se_fn (i := 36) rfl (Z.g 36 _ rfl)) sa_nil))) (sa_cons (se_f (sf_lst sa_nil)) (sa_cons (se_var 10) (sa_cons (se_f (sf_lst (sa_cons (se_var 3) sa_nil))) sa_nil))))) (sa_cons (se_tup (sa_cons (se_f (sf_lst (sa_cons (se_fn (i := 36) rfl (Z.g 36 _ rfl)) sa_nil))) (sa_cons (se_f (sf_lst (sa_cons (se_var 2) sa_nil))) (sa_cons (se_var 10) (sa_cons (se_f (sf_lst sa_nil)) sa_nil))))) sa_nil)))))) (sss_cons (ss_set 16 sc.nd (se_add (se_var 16) (se_f (sf_lst (sa_cons (se_tup (sa_cons (se_f (sf_lst (sa_cons (se_fn (i := 37) rfl (Z.g 37 _ rfl)) (sa_cons (se_fn (i := 39) rfl (Z.g 39 _ rfl)) (sa_cons (se_fn (i := 40) rfl (Z.g 40 _ rfl)) (sa_cons (se_fn (i := 41) rfl (Z.g 41 _ rfl)) sa_nil)))))) (sa_cons (se_f (sf_lst sa_nil)) (sa_cons (se_var 10) (sa_cons (se_f (sf_lst (sa_cons (se_tup (sa_cons se_int (sa_cons se_int (sa_cons se_int sa_nil)))) sa_nil))) sa_nil))))) (sa_cons (se_tup (sa_cons (se_f (sf_lst (sa_cons (se_fn (i := 37) rfl (Z.g 37 _ rfl)) (sa_cons (se_fn (i := 39) rfl (Z.g 39 _ rfl)) (sa_cons (se_fn (i := 40) rfl (Z.g 40 _ rfl)) (sa_cons (se_fn (i := 41) rfl (Z.g 41 _ rfl)) sa_nil)))))) (sa_cons (se_f (sf_lst (sa_cons (se_var 2) sa_nil))) (sa_cons (se_var 11) (sa_cons (se_f (sf_lst sa_nil)) sa_nil))))) sa_nil)))))) (sss_cons (ss_set 16 sc.nd (se_add (se_var 16) (se_f (sf_lst (sa_cons (se_tup (sa_cons (se_f (sf_lst (sa_cons (se_fn (i := 38) rfl (Z.g 38 _ rfl)) sa_nil))) (sa_cons (se_f (sf_lst sa_nil)) (sa_cons (se_var 11) (sa_cons (se_f (sf_lst (sa_cons (se_tup (sa_cons se_int (sa_cons se_int (sa_cons se_int sa_nil)))) sa_nil))) sa_nil))))) (sa_cons (se_tup (sa_cons (se_f (sf_lst (sa_cons (se_fn (i := 38) rfl (Z.g 38 _ rfl)) sa_nil))) (sa_cons (se_f (sf_lst (sa_cons (se_tup (sa_cons se_int (sa_cons se_int (sa_cons se_int sa_nil)))) sa_nil))) (sa_cons (se_var 11) (sa_cons (se_f (sf_lst sa_nil)) sa_nil))))) (sa_cons (se_tup (sa_cons (se_f (sf_lst (sa_cons (se_fn (i := 43) rfl (Z.g 43 _ rfl)) sa_nil))) (sa_cons (se_f (sf_lst sa_nil)) (sa_cons (se_var 8) (sa_cons (se_f (sf_lst (sa_cons se_int sa_nil))) sa_nil))))) sa_nil))))))) (sss_cons (ss_set 16 sc.nd (se_add (se_var 16) (se_f (sf_lst (sa_cons (se_tup (sa_cons (se_f (sf_lst (sa_cons (se_fn (i := 43) rfl (Z.g 43 _ rfl)) sa_nil))) (sa_cons (se_f (sf_lst (sa_cons (se_var 6) sa_nil))) (sa_cons (se_f (sf_lst (sa_cons se_non (sa_cons se_int (sa_cons se_int (sa_cons se_bl (sa_cons se_str sa_nil))))))) (sa_cons (se_f (sf_lst sa_nil)) sa_nil))))) (sa_cons (se_tup (sa_cons (se_f (sf_lst (sa_cons (se_fn (i := 44) rfl (Z.g 44 _ rfl)) sa_nil))) (sa_cons (se_f (sf_lst sa_nil)) (sa_cons (se_var 8) (sa_cons (se_f (sf_lst (sa_cons (se_tup (sa_cons se_int (sa_cons se_int (sa_cons se_int sa_nil)))) sa_nil))) sa_nil))))) sa_nil)))))) (sss_cons (ss_set 16 sc.nd (se_add (se_var 16) (se_f (sf_lst (sa_cons (se_tup (sa_cons (se_f (sf_lst (sa_cons (se_fn (i := 44) rfl (Z.g 44 _ rfl)) sa_nil))) (sa_cons (se_f (sf_lst (sa_cons (se_var 6) sa_nil))) (sa_cons (se_var 11) (sa_cons (se_f (sf_lst sa_nil)) sa_nil))))) (sa_cons (se_tup (sa_cons (se_f (sf_lst (sa_cons (se_fn (i := 55) rfl (Z.g 55 _ rfl)) sa_nil))) (sa_cons (se_f (sf_lst sa_nil)) (sa_cons (se_var 8) (sa_cons (se_f (sf_lst (sa_cons (se_var 14) sa_nil))) sa_nil))))) (sa_cons (se_tup (sa_cons (se_f (sf_lst (sa_cons (se_fn (i := 57) rfl (Z.g 57 _ rfl)) (sa_cons (se_fn (i := 59) rfl (Z.g 59 _ rfl)) (sa_cons (se_fn (i := 60) rfl (Z.g 60 _ rfl)) sa_nil))))) (sa_cons (se_f (sf_lst sa_nil)) (sa_cons (se_var 8) (sa_cons (se_f (sf_lst (sa_cons (se_var 14) sa_nil))) sa_nil))))) sa_nil))))))) (sss_cons (ss_set 16 sc.nd (se_add (se_var 16) (se_f (sf_lst (sa_cons (se_tup (sa_cons (se_f (sf_lst (sa_cons (se_fn (i := 57) rfl (Z.g 57 _ rfl)) (sa_cons (se_fn (i := 59) rfl (Z.g 59 _ rfl)) (sa_cons (se_fn (i := 60) rfl (Z.g 60 _ rfl)) sa_nil))))) (sa_cons (se_f (sf_lst (sa_cons (se_var 6) sa_nil))) (sa_cons (se_var 13) (sa_cons (se_f (sf_lst sa_nil)) sa_nil))))) sa_nil))))) (sss_cons (ss_set 16 sc.nd (se_add (se_var 16) (se_f (sf_lst (sa_cons (se_tup (sa_cons (se_f (sf_lst (sa_cons (se_fn (i := 62) rfl (Z.g 62 _ rfl)) sa_nil))) (sa_cons (se_f (sf_lst sa_nil)) (sa_cons (se_var 8) (sa_cons (se_f (sf_lst (sa_cons (se_var 14) (sa_cons (se_var 15) sa_nil)))) sa_nil))))) (sa_cons (se_tup (sa_cons (se_f (sf_lst (sa_cons (se_fn (i := 62) rfl (Z.g 62 _ rfl)) sa_nil))) (sa_cons (se_f (sf_lst (sa_cons (se_var 6) sa_nil))) (sa_cons (se_var 13) (sa_cons (se_f (sf_lst (sa_cons (se_var 14) sa_nil))) sa_nil))))) (sa_cons (se_tup (sa_cons (se_f (sf_lst (sa_cons (se_fn (i := 62) rfl (Z.g 62 _ rfl)) sa_nil))) (sa_cons (se_f (sf_lst (sa_cons (se_var 6) (sa_cons (se_var 14) sa_nil)))) (sa_cons (se_var 13) (sa_cons (se_f (sf_lst sa_nil)) sa_nil))))) sa_nil))))))) (sss_cons (ss_set 16 sc.nd (se_add (se_var 16) (se_f (sf_lst (sa_cons (se_tup (sa_cons (se_f (sf_lst (sa_cons (se_fn (i := 95) rfl (Z.g 95 _ rfl)) sa_nil))) (sa_cons (se_f (sf_lst sa_nil)) (sa_cons (se_var 8) (sa_cons (se_f (sf_lst (sa_cons se_int sa_nil))) sa_nil))))) (sa_cons (se_tup (sa_cons (se_f (sf_lst (sa_cons (se_fn (i := 95) rfl (Z.g 95 _ rfl)) sa_nil))) (sa_cons (se_f (sf_lst (sa_cons (se_var 6) sa_nil))) (sa_cons (se_f (sf_lst (sa_cons se_non (sa_cons (se_neg se_int) (sa_cons se_bl (sa_cons (se_add (se_pow se_int se_int) se_int) (sa_cons se_str sa_nil))))))) (sa_cons (se_f (sf_lst sa_nil)) sa_nil))))) sa_nil)))))) (sss_cons (ss_if (st_not (st_tr (se_all rfl rfl (Z.fr 2 _ rfl) (sb_cons (se_f (sf_comp (own := [("doors", 17), ("ahead_so", 18), ("wrongs_so", 19), ("behind_so", 20)]) rfl sc.nd (si_seq (se_var 16)) (blkOk_by (own := [("doors", 17), ("ahead_so", 18), ("wrongs_so", 19), ("behind_so", 20)]) (by kernel_rfl)) (by decide) (fun _ _ _ _ _ => (sg_tup rfl (sgs_cons (sg_var 17 sc.nd) (sgs_cons (sg_var 18 sc.nd) (sgs_cons (sg_var 19 sc.nd) (sgs_cons (sg_var 20 sc.nd) sgs_nil)))))) (fun _ _ _ _ _ => sts_nil) (fun _ _ _ _ _ => (se_callF o__law_are_all_unfit (hr.mono (by decide)) (Z.g 103 _ rfl) rfl (sa_cons (se_var 17) (sa_cons (se_var 18) (sa_cons (se_callF o__law_pick (hr.mono (by decide)) (Z.g 99 _ rfl) rfl (sa_cons (se_var 1) (sa_cons (se_var 19) (sa_cons se_int sa_nil)))) (sa_cons (se_var 20) sa_nil)))))))) sb_nil)))) (sss_one (ss_ret se_bl)) sss_nil) (sss_cons (ss_if (st_not (st_tr (se_callF o__law_same (hr.mono (by decide)) (Z.g 100 _ rfl) rfl (sa_cons (se_add (se_f (sf_comp (own := [("own", 21)]) rfl sc.nd (si_seq (se_var 13)) (blkOk_by (own := [("own", 21)]) (by kernel_rfl)) (by decide) (fun _ _ _ _ _ => (sg_var 21 sc.nd)) (fun _ _ _ _ _ => sts_nil) (fun _ _ _ _ _ => (se_callF o_is_near (hr.mono (by decide)) (Z.g 55 _ rfl) rfl (sa_cons (se_var 6) (sa_cons (se_var 21) sa_nil)))))) (se_f (sf_lst (sa_cons (se_callF o_is_near (hr.mono (by decide)) (Z.g 55 _ rfl) rfl (sa_cons (se_var 6) (sa_cons (se_var 14) sa_nil))) (sa_cons (se_callF o_is_near (hr.mono (by decide)) (Z.g 55 _ rfl) rfl (sa_cons (se_var 6) (sa_cons (se_var 15) sa_nil))) sa_nil))))) (sa_cons (se_add (se_f (sf_rep (se_f (sf_lst (sa_cons se_bl sa_nil))) se_int)) (se_f (sf_lst (sa_cons se_bl (sa_cons se_bl sa_nil))))) sa_nil))))) (sss_one (ss_ret se_bl)) sss_nil) (sss_cons (ss_setC (own := [("door_so", 23)]) 22 rfl sc.nd (si_seq (se_tup (sa_cons (se_fn (i := 58) rfl (Z.g 58 _ rfl)) (sa_cons (se_fn (i := 61) rfl (Z.g 61 _ rfl)) (sa_cons (se_fn (i := 72) rfl (Z.g 72 _ rfl)) (sa_cons (se_fn (i := 91) rfl (Z.g 91 _ rfl)) (sa_cons (se_fn (i := 92) rfl (Z.g 92 _ rfl)) (sa_cons (se_fn (i := 93) rfl (Z.g 93 _ rfl)) (sa_cons (se_fn (i := 94) rfl (Z.g 94 _ rfl)) (sa_cons (se_fn (i := 76) rfl (Z.g 76 _ rfl)) sa_nil)))))))))) (blkOk_by (own := [("door_so", 23)]) (by kernel_rfl)) (by decide) (fun _ _ _ _ _ => (sg_var 23 sc.nd)) (fun _ _ _ _ _ => sts_nil) (fun _ _ _ _ _ => (se_callF o__law_slip (hr.mono (by decide)) (Z.g 102 _ rfl) rfl (sa_cons (se_var 23) (sa_cons (se_f (sf_lst (sa_cons (se_var 7) sa_nil))) sa_nil))))) (sss_cons (ss_set 22 sc.nd (se_add (se_var 22) (se_f (sf_lst (sa_cons (se_callF o__law_slip (hr.mono (by decide)) (Z.g 102 _ rfl) rfl (sa_cons (se_fn (i := 36) rfl (Z.g 36 _ rfl)) (sa_cons (se_f (sf_lst (sa_cons (se_var 2) (sa_cons (se_var 2) sa_nil)))) sa_nil))) (sa_cons (se_callF o__law_slip (hr.mono (by decide)) (Z.g 102 _ rfl) rfl (sa_cons (se_fn (i := 38) rfl (Z.g 38 _ rfl)) (sa_cons (se_f (sf_lst (sa_cons (se_tup (sa_cons se_int (sa_cons se_int (sa_cons se_int sa_nil)))) (sa_cons (se_tup (sa_cons se_int (sa_cons se_int (sa_cons (se_neg se_int) sa_nil)))) sa_nil)))) sa_nil))) (sa_cons (se_callF o__law_slip (hr.mono (by decide)) (Z.g 102 _ rfl) rfl (sa_cons (se_fn (i := 38) rfl (Z.g 38 _ rfl)) (sa_cons (se_f (sf_lst (sa_cons (se_tup (sa_cons se_int (sa_cons se_int (sa_cons se_int sa_nil)))) (sa_cons (se_tup (sa_cons se_int (sa_cons se_int (sa_cons se_int sa_nil)))) sa_nil)))) sa_nil))) sa_nil))))))) (sss_cons (ss_set 22 sc.nd (se_add (se_var 22) (se_f (sf_lst (sa_cons (se_callF o__law_slip (hr.mono (by decide)) (Z.g 102 _ rfl) rfl (sa_cons (se_fn (i := 59) rfl (Z.g 59 _ rfl)) (sa_cons (se_f (sf_lst (sa_cons (se_var 6) (sa_cons (se_var 14) sa_nil)))) sa_nil))) (sa_cons (se_callF o__law_slip (hr.mono (by decide)) (Z.g 102 _ rfl) rfl (sa_cons (se_fn (i := 95) rfl (Z.g 95 _ rfl)) (sa_cons (se_f (sf_lst (sa_cons (se_var 6) (sa_cons se_int sa_nil)))) sa_nil))) sa_nil)))))) (sss_one (ss_ret (se_eq hr (se_var 22) (se_f (sf_rep (se_f (sf_lst (sa_cons se_str sa_nil))) se_int))))))))))))))))))))))))))))))))
end Lw

set_option Elab.async false
set_option linter.all false
set_option maxRecDepth 100000
set_option maxHeartbeats 0
namespace Lw
open PySem PySem.Spec PyProof.Rows L2 Pu
theorem getD_of {l : List Str} {i : Nat} {x : Str} (h : l[i]? = some x) : l.getD i "" = x := by
  rw [List.getD_eq_getElem?_getD, h]
  rfl
theorem fx_of {K : PySem.W.Frag} {h : Heap} {mg : Str → Option Value} (X : K.In h) (G : h.Ns mainGlobals mg) (c : He.SaysD fa fn K) (cx : xb K = true) : FX K mg := by
  have fact : ∀ {f : He.Fa}, f ∈ fa → f.ok K = true := fun {f} hf => by
    obtain ⟨i, hi⟩ := List.mem_iff_getElem?.mp hf
    exact c.fact i hi
  obtain ⟨x1, x2⟩ := He.ba cx
  have ca : ∀ (i : Nat) (x : Str), nmC[i]? = some x → (px K).ca i = He.ga K x := fun i x h => congrArg (He.ga K) (getD_of h)
  refine ⟨fun i x hi => ?_, fun i x hi => ?_, fun i x n hi => ?_, fun i x hi => ?_, fun c hc => ?_, fun c d hc hd => ?_, fun i x j hi hj => ?_⟩
  · have e : (px K).fa i = He.ga K x := congrArg (He.ga K) (getD_of hi)
    rw [e]
    exact He.glo_ok X G (fact (List.mem_append_left _ (List.mem_map_of_mem (List.mem_of_getElem? hi))))
  · exact He.free_ok X G (fact (List.mem_append_right _ (List.mem_append_left _ (List.mem_map_of_mem (List.mem_of_getElem? hi)))))
  · exact He.int_ok X G (fact (List.mem_append_right _ (List.mem_append_right _ (List.mem_append_left _ (List.mem_map.mpr ⟨(x, n), List.mem_of_getElem? hi, rfl⟩)))))
  · have m := List.mem_of_getElem? hi
    have f1 := fact (List.mem_append_right _ (List.mem_append_right _ (List.mem_append_right _ (List.mem_append_left _ (List.mem_map_of_mem m)))))
    have f2 := fact (List.mem_append_right _ (List.mem_append_right _ (List.mem_append_right _ (List.mem_append_right _ (List.mem_map_of_mem m)))))
    obtain ⟨e1, e2, e3, e4⟩ := He.exc_ok f2
    rw [ca i x hi]
    exact ⟨He.glo_ok X G f1, e1, e2, e3, e4⟩
  · exact excCB_ok (List.all_eq_true.mp x1 c (List.mem_range.mpr hc))
  · exact of_decide_eq_true (List.all_eq_true.mp (List.all_eq_true.mp x2 c (List.mem_range.mpr hc)) d (List.mem_range.mpr hd))
  · have hz : fn[i]? = some (mkD x j) := by
      unfold fn
      rw [List.getElem?_map, (List.getElem?_zip_eq_some (z := (x, j))).mpr ⟨hi, hj⟩]
      rfl
    obtain ⟨fd, F⟩ := c.def_ i hz
    have e : (px K).fa i = He.ga K x := congrArg (He.ga K) (getD_of hi)
    rw [e]
    exact ⟨fd, F⟩
end Lw

set_option Elab.async false
set_option linter.all false
set_option maxRecDepth 100000
set_option maxHeartbeats 4000000
namespace Lw
open PySem PySem.Spec PyProof.Rows L2 Pu
def chain (K : DEnv → M Out) : DEnv → M Out := sSeq q1 (sSeq q2 (sSeq q3 (sSeq q4 (sSeq q5 (sFrz 8 (sSeq q6 (sSeq q7 (sSeq q8 (sSeq q9 (sSeq q10 (sSeq q11 (sSeq q12 (sSeq q13 (sSeq q14 (sSeq q15 (sSeq q16 (sSeq q17 (sSeq q18 (sSeq q19 (sSeq q20 (sSeq q21 K)))))))))))))))))))))
def tl2 : DEnv → M Out := sSeq q23 (sSeq q24 (sSeq q25 (sSeq q26 q27)))
theorem l2_chain : l2_law = chain (sSeq q22 tl2) := rfl
def r0 : DEnv := (List.replicate 24 none).set 1 (some .box)
def r1 : DEnv := match chain sNext r0 [] with
  | .ok (.nx ρ) _ => ρ
  | _ => []
theorem chain_eq (K : DEnv → M Out) (b : Bx) : chain K r0 b = K r1 b := by kernel_rfl
def rows : List D := match (r1[16]? : Option (Option D)) with
  | some (some (.lst r)) => r
  | _ => []
theorem r1_16 : r1[16]? = some (some (.lst rows)) := by kernel_rfl
theorem r1_1 : r1[1]? = some (some .box) := by kernel_rfl
theorem r1_len : r1.length = 24 := by kernel_rfl
def chkB : D → Bool
  | .own _ => false
  | .mdc _ => false
  | _ => true
theorem chk_of {d : D} (h : chkB d = true) : chk d = pure d := by
  cases d <;> first | rfl | cases h
def shapeB (r : D) : Bool := match r with
  | .tup [.lst ds, .lst ah, ws, .lst be] => match ws.seq with
    | some wl => decide (wl.length ≤ 1000) && decide (ds.length ≤ 1000) && decide (ah.length ≤ 1000) && decide (be.length ≤ 1000) && chkB ws && wl.all chkB && ds.all chkB
    | none => false
  | _ => false
theorem rows_shape : rows.all shapeB = true := by kernel_rfl
def resR (b : Bx) (r : D) : List (List (Res D)) := match r with
  | .tup [.lst ds, .lst ah, ws, .lst be] => match ws.seq with
    | some wl => ds.map fun d => wl.map fun w => f__law_slip [d, .lst (ah ++ [w] ++ be)] b
    | none => []
  | _ => []
def dueR (b : Bx) (r : D) : List (List (Res D)) := match r with
  | .tup [.lst ds, .lst ah, ws, .lst be] => match ws.seq with
    | some wl => ds.map fun d => wl.map fun w => .ok (.str "unfit") b
    | none => []
  | _ => []
theorem tl2_eq (b : Bx) : tl2 r1 b = .ok (.rt (.bl true)) b := by kernel_rfl
end Lw

set_option Elab.async false
set_option linter.all false
set_option maxRecDepth 100000
set_option maxHeartbeats 4000000
namespace Lw
open PySem PySem.Spec PyProof.Rows L2 Pu
theorem rows_res (b : Bx) : rows.map (resR b) = rows.map (dueR b) := by kernel_rfl
end Lw

set_option Elab.async false
set_option linter.all false
set_option maxRecDepth 100000
set_option maxHeartbeats 4000000
namespace Lw
open PySem PySem.Spec PyProof.Rows L2 Pu
theorem add_lst {xs ys : List D} {b : Bx} (h : xs.length + ys.length ≤ 100000) : addD (.lst xs) (.lst ys) b = .ok (.lst (xs ++ ys)) b := by
  show (if xs.length + ys.length ≤ 100000 then _ else _ : M D) b = _
  rw [if_pos h]
  rfl
theorem unfit_inner (ds ah ws be : List D) (d : D) (hd : chk d = pure d) (la : ah.length ≤ 1000) (lb : be.length ≤ 1000) (b : Bx) : ∀ (us : List D), (∀ u ∈ us, chk u = pure u ∧ ∀ b, f__law_slip [d, .lst (ah ++ [u] ++ be)] b = .ok (.str "unfit") b) → ∀ e5 : Option D, ∃ e5', forL (gVar 5) (sIf (tB (eBin neD (eCall f__law_slip (aCons (eVar 4) (aCons (eBin addD (eBin addD (eVar 1) (eF (fLst (aCons (eVar 5) aNil)))) (eVar 3)) aNil))) (eC (.str "unfit")))) (sRet (eC (.bl false))) sNext) us [some (.lst ds), some (.lst ah), some (.lst ws), some (.lst be), some d, e5] b = .ok (.nx [some (.lst ds), some (.lst ah), some (.lst ws), some (.lst be), some d, e5']) b
  | [], _, e5 => ⟨e5, rfl⟩
  | u :: us, h, e5 => by
    obtain ⟨e5', ih⟩ := unfit_inner ds ah ws be d hd la lb b us (fun v hv => h v (List.mem_cons_of_mem _ hv)) (some u)
    obtain ⟨hu, hs⟩ := h u List.mem_cons_self
    let R : DEnv := [some (.lst ds), some (.lst ah), some (.lst ws), some (.lst be), some d, some u]
    have e1 : eBin addD (eVar 1) (eF (fLst (aCons (eVar 5) aNil))) R b = .ok (.lst (ah ++ [u])) b :=
      v_bin (x := .lst ah) (y := .lst [u]) (b1 := b) (b2 := b) (v_var rfl) (v_f (v_lst (v_acons (v_var rfl) hu v_nil) (Nat.le_of_ble_eq_true rfl))) (add_lst (by show ah.length + 1 ≤ _; omega))
    have e2 : eBin addD (eBin addD (eVar 1) (eF (fLst (aCons (eVar 5) aNil)))) (eVar 3) R b = .ok (.lst (ah ++ [u] ++ be)) b :=
      v_bin e1 (v_var (d := .lst be) rfl) (add_lst (by rw [List.length_append]; show ah.length + 1 + be.length ≤ _; omega))
    have e3 : eCall f__law_slip (aCons (eVar 4) (aCons (eBin addD (eBin addD (eVar 1) (eF (fLst (aCons (eVar 5) aNil)))) (eVar 3)) aNil)) R b = .ok (.str "unfit") b :=
      v_call (v_acons (v_var (d := d) rfl) hd (v_acons e2 rfl v_nil)) (hs b)
    have e4 : neD (.str "unfit") (.str "unfit") b = .ok (.bl false) b := by kernel_rfl
    exact ⟨e5', v_forC (ρ2 := R) rfl (v_ifnF (v_bin e3 v_c e4)) ih⟩
theorem unfit_outer (ds0 ah ws be : List D) (la : ah.length ≤ 1000) (lb : be.length ≤ 1000) (b : Bx) : ∀ (ds : List D), (∀ d ∈ ds, chk d = pure d ∧ ∀ u ∈ ws, chk u = pure u ∧ ∀ b, f__law_slip [d, .lst (ah ++ [u] ++ be)] b = .ok (.str "unfit") b) → ∀ e4 e5 : Option D, ∃ e4' e5', forL (gVar 4) (sFor (iSeqD (eVar 2)) (gVar 5) (sIf (tB (eBin neD (eCall f__law_slip (aCons (eVar 4) (aCons (eBin addD (eBin addD (eVar 1) (eF (fLst (aCons (eVar 5) aNil)))) (eVar 3)) aNil))) (eC (.str "unfit")))) (sRet (eC (.bl false))) sNext)) ds [some (.lst ds0), some (.lst ah), some (.lst ws), some (.lst be), e4, e5] b = .ok (.nx [some (.lst ds0), some (.lst ah), some (.lst ws), some (.lst be), e4', e5']) b
  | [], _, e4, e5 => ⟨e4, e5, rfl⟩
  | d :: ds, h, e4, e5 => by
    obtain ⟨hd, hs⟩ := h d List.mem_cons_self
    obtain ⟨e6, h1⟩ := unfit_inner ds0 ah ws be d hd la lb b ws hs e5
    obtain ⟨e4', e5', ih⟩ := unfit_outer ds0 ah ws be la lb b ds (fun v hv => h v (List.mem_cons_of_mem _ hv)) (some d) e6
    exact ⟨e4', e5', v_forC (ρ2 := [some (.lst ds0), some (.lst ah), some (.lst ws), some (.lst be), some d, e6]) rfl h1 ih⟩
theorem unfit_all (ds ah ws be : List D) (la : ah.length ≤ 1000) (lb : be.length ≤ 1000) (b : Bx) (h : ∀ d ∈ ds, chk d = pure d ∧ ∀ u ∈ ws, chk u = pure u ∧ ∀ b, f__law_slip [d, .lst (ah ++ [u] ++ be)] b = .ok (.str "unfit") b) : f__law_are_all_unfit [.lst ds, .lst ah, .lst ws, .lst be] b = .ok (.bl true) b := by
  obtain ⟨e4', e5', e⟩ := unfit_outer ds ah ws be la lb b ds h none none
  exact v_run (u := b__law_are_all_unfit) rfl (v_seq (ρ' := [some (.lst ds), some (.lst ah), some (.lst ws), some (.lst be), e4', e5']) (b1 := b) e rfl)
def rowFit (r : D) : Prop := ∃ ds ah ws be wl, r = .tup [.lst ds, .lst ah, ws, .lst be] ∧ ws.seq = some wl ∧ chk ws = pure ws ∧ wl.length ≤ 1000 ∧ ah.length ≤ 1000 ∧ be.length ≤ 1000 ∧ ∀ d ∈ ds, chk d = pure d ∧ ∀ u ∈ wl, chk u = pure u ∧ ∀ b, f__law_slip [d, .lst (ah ++ [u] ++ be)] b = .ok (.str "unfit") b
theorem map_eq {α β : Type} {f g : α → β} : ∀ {l : List α}, l.map f = l.map g → ∀ x ∈ l, f x = g x
  | y :: l, h, x, hx => by
    rw [List.map_cons, List.map_cons] at h
    injection h with h1 h2
    rcases List.mem_cons.mp hx with rfl | hx
    · exact h1
    · exact map_eq h2 x hx
theorem rows_fit (r : D) (hr : r ∈ rows) : rowFit r := by
  have hs := List.all_eq_true.mp rows_shape r hr
  have hq : ∀ b, resR b r = dueR b r := fun b => map_eq (rows_res b) r hr
  unfold shapeB at hs
  split at hs
  · next ds ah ws be =>
    unfold resR dueR at hq
    cases hw : ws.seq with
    | none => rw [hw] at hs; cases hs
    | some wl =>
      rw [hw] at hs
      simp only [Bool.and_eq_true, decide_eq_true_eq] at hs
      obtain ⟨⟨⟨⟨⟨⟨h1, h2⟩, h3⟩, h4⟩, h5⟩, h6⟩, h7⟩ := hs
      refine ⟨ds, ah, ws, be, wl, rfl, hw, chk_of h5, h1, h3, h4, fun d hd => ⟨chk_of (List.all_eq_true.mp h7 d hd), fun u hu => ⟨chk_of (List.all_eq_true.mp h6 u hu), fun b => ?_⟩⟩⟩
      have q := hq b
      simp only [hw] at q
      exact map_eq (map_eq q d hd) u hu
  · cases hs
theorem set_get {ρ : DEnv} {i j : Nat} {x : Option D} (h : i ≠ j) : (ρ.set i x)[j]? = ρ[j]? := List.getElem?_set_ne h
theorem comp_rows {ρ : DEnv} (hl : ρ.length = 24) (h1 : ρ[1]? = some (some .box)) : ∀ (rs : List D) (c : Nat) (b : Bx), (∀ r ∈ rs, rowFit r) → Vb c b → c + 1000 * rs.length + 100000 < 2 ^ 60 → ∃ b', compL [17, 18, 19, 20] (gTupD 4 (gConsD (gVar 17) (gConsD (gVar 18) (gConsD (gVar 19) (gConsD (gVar 20) gNilD))))) tYesD (eCall f__law_are_all_unfit (aCons (eVar 17) (aCons (eVar 18) (aCons (eCall f__law_pick (aCons (eVar 1) (aCons (eVar 19) (aCons (eC (.int 9)) aNil)))) (aCons (eVar 20) aNil))))) ρ rs b = .ok (List.replicate rs.length (.bl true)) b'
  | [], c, b, _, _, _ => ⟨b, rfl⟩
  | r :: rs, c, b, h, V, hc => by
    obtain ⟨ds, ah, ws, be, wl, rfl, hw, cw, l1, l2, l3, hf⟩ := h r List.mem_cons_self
    have hc : c + 1000 * (rs.length + 1) + 100000 < 2 ^ 60 := hc
    obtain ⟨us, rest, b1, e1, p1, lu, V1⟩ := pick_ev (k := 9) V hw (by omega) (by decide) (by omega)
    obtain ⟨b2, e2⟩ := comp_rows hl h1 rs (c + min 9 wl.length) b1 (fun r hr => h r (List.mem_cons_of_mem _ hr)) V1 (by omega)
    let R : DEnv := (((wipeD ρ [17, 18, 19, 20]).set 17 (some (.lst ds))).set 18 (some (.lst ah))).set 19 (some ws) |>.set 20 (some (.lst be))
    have wl0 : (wipeD ρ [17, 18, 19, 20]).length = 24 := by rw [wipe_len, hl]
    have g1 : R[1]? = some (some .box) := by
      show ((((((((ρ.set 20 none).set 19 none).set 18 none).set 17 none).set 17 _).set 18 _).set 19 _).set 20 _)[1]? = _
      rw [set_get (by decide), set_get (by decide), set_get (by decide), set_get (by decide), set_get (by decide), set_get (by decide), set_get (by decide), set_get (by decide), h1]
    have g17 : R[17]? = some (some (.lst ds)) := by
      show ((((wipeD ρ [17, 18, 19, 20]).set 17 _).set 18 _).set 19 _ |>.set 20 _)[17]? = _
      rw [set_get (by decide), set_get (by decide), set_get (by decide), List.getElem?_set_self (by rw [wl0]; decide)]
    have g18 : R[18]? = some (some (.lst ah)) := by
      show ((((wipeD ρ [17, 18, 19, 20]).set 17 _).set 18 _).set 19 _ |>.set 20 _)[18]? = _
      rw [set_get (by decide), set_get (by decide), List.getElem?_set_self (by rw [List.length_set, wl0]; decide)]
    have g19 : R[19]? = some (some ws) := by
      show ((((wipeD ρ [17, 18, 19, 20]).set 17 _).set 18 _).set 19 _ |>.set 20 _)[19]? = _
      rw [set_get (by decide), List.getElem?_set_self (by rw [List.length_set, List.length_set, wl0]; decide)]
    have g20 : R[20]? = some (some (.lst be)) := by
      show ((((wipeD ρ [17, 18, 19, 20]).set 17 _).set 18 _).set 19 _ |>.set 20 _)[20]? = _
      rw [List.getElem?_set_self (by rw [List.length_set, List.length_set, List.length_set, wl0]; decide)]
    have e3 : eCall f__law_are_all_unfit (aCons (eVar 17) (aCons (eVar 18) (aCons (eCall f__law_pick (aCons (eVar 1) (aCons (eVar 19) (aCons (eC (.int 9)) aNil)))) (aCons (eVar 20) aNil)))) R b = .ok (.bl true) b1 :=
      v_call (v_acons (v_var g17) rfl (v_acons (v_var g18) rfl (v_acons (v_call (v_acons (v_var g1) rfl (v_acons (v_var g19) cw (v_acons v_c rfl v_nil))) e1) rfl (v_acons (v_var g20) rfl v_nil)))) (unfit_all ds ah us be l2 l3 b1 fun d hd => ⟨(hf d hd).1, fun u hu => (hf d hd).2 u (p1.subset (List.mem_append_right _ hu))⟩)
    refine ⟨b2, ?_⟩
    rw [compL]
    show (noX (tYesD R) >>= fun c => if c = true then noX (eCall f__law_are_all_unfit (aCons (eVar 17) (aCons (eVar 18) (aCons (eCall f__law_pick (aCons (eVar 1) (aCons (eVar 19) (aCons (eC (.int 9)) aNil)))) (aCons (eVar 20) aNil)))) R) >>= fun y => chk y >>= fun y => compL _ _ _ _ ρ rs >>= fun ys => pure (y :: ys) else compL _ _ _ _ ρ rs) b = _
    rw [bindA, show noX (tYesD R) b = .ok true b from rfl, okB, if_pos rfl, bindA]
    rw [show noX (eCall f__law_are_all_unfit (aCons (eVar 17) (aCons (eVar 18) (aCons (eCall f__law_pick (aCons (eVar 1) (aCons (eVar 19) (aCons (eC (.int 9)) aNil)))) (aCons (eVar 20) aNil)))) R) b = .ok (.bl true) b1 by unfold noX; rw [e3]]
    rw [okB, show chk (.bl true) = pure (.bl true) from rfl, bindA, pureA, okB, bindA, e2]
    rfl
theorem bools_rep : ∀ n, boolsOf (List.replicate n (.bl true)) = some (List.replicate n true)
  | 0 => rfl
  | n + 1 => by
    rw [List.replicate_succ, boolsOf, bools_rep n]
    rfl
theorem bools_ok (n : Nat) (b : Bx) : onBools (fun bs => .bl (bs.all id)) (.lst (List.replicate n (.bl true))) b = .ok (.bl true) b := by
  unfold onBools D.lseq
  simp only [bools_rep, List.all_replicate]
  split <;> rfl
theorem rows_len : rows.length ≤ 1000 := by
  have h : (decide (rows.length ≤ 1000)) = true := by kernel_rfl
  exact of_decide_eq_true h
theorem q22_ok {c : Nat} {b : Bx} (V : Vb c b) (hc : c ≤ 1000) : ∃ b', q22 r1 b = .ok (.nx r1) b' := by
  have l := rows_len
  obtain ⟨b', e⟩ := comp_rows r1_len r1_1 rows c b rows_fit V (by omega)
  refine ⟨b', v_ifF (c := false) ?_ rfl rfl⟩
  have e2 : fComp (iSeqD (eVar 16)) [17, 18, 19, 20] (gTupD 4 (gConsD (gVar 17) (gConsD (gVar 18) (gConsD (gVar 19) (gConsD (gVar 20) gNilD))))) tYesD (eCall f__law_are_all_unfit (aCons (eVar 17) (aCons (eVar 18) (aCons (eCall f__law_pick (aCons (eVar 1) (aCons (eVar 19) (aCons (eC (.int 9)) aNil)))) (aCons (eVar 20) aNil))))) r1 b = .ok (List.replicate rows.length (.bl true)) b' := by
    have e0 : iSeqD (eVar 16) r1 b = .ok rows b := by
      unfold iSeqD
      rw [bindA, v_var (b := b) r1_16]
      rfl
    unfold fComp
    rw [bindA, e0, okB, if_pos (by omega)]
    exact e
  have e3 : tTr (eB allD (bCons (eF (fComp (iSeqD (eVar 16)) [17, 18, 19, 20] (gTupD 4 (gConsD (gVar 17) (gConsD (gVar 18) (gConsD (gVar 19) (gConsD (gVar 20) gNilD))))) tYesD (eCall f__law_are_all_unfit (aCons (eVar 17) (aCons (eVar 18) (aCons (eCall f__law_pick (aCons (eVar 1) (aCons (eVar 19) (aCons (eC (.int 9)) aNil)))) (aCons (eVar 20) aNil))))))) aNil)) r1 b = .ok true b' := by
    refine v_tTr (v_b (v_bcons (v_f e2) v_nil) (r := .ok (.bl true) b') ?_) rfl
    exact bools_ok rows.length b'
  unfold tNotD
  rw [bindA, e3]
  rfl
theorem good : Pu.Good 24 1 l1_law l2_law := good_of (by decide) (by decide) fun iz V => by
  obtain ⟨b', e⟩ := q22_ok V (Nat.zero_le _)
  refine ⟨b', ?_⟩
  rw [l2_chain]
  show chain (sSeq q22 tl2) r0 iz = _
  rw [chain_eq]
  exact v_seq e (tl2_eq b')
end Lw

set_option Elab.async false
set_option linter.all false
set_option maxRecDepth 100000
set_option maxHeartbeats 0
namespace Lw
open PySem PySem.Spec PyProof.Rows L2 Pu
theorem law_sp {K : PySem.W.Frag} {H : Hp} {a : Addr} {ns : List Int} (hl : ns.length ≤ 63) (hO : Only H) (hS : SqL K H a (ns.map V.int)) : spLaw (px K) [.ref a] H (fun v _ => v = .bl true) fun _ _ _ => False := by
  refine ⟨a, ns, rfl, hl, ?_, fun _ => rfl⟩
  rcases hS with h | h
  · rcases h with h | ⟨o, h⟩
    · rcases hO a with z | ⟨o, xs, z⟩
      · rw [z] at h; cases h
      · rw [z] at h; cases h
    · exact .inl ⟨o, h⟩
  · exact .inr fun H' => .inr h
theorem no_cx {P : Program} {w : World} (H : Hp) (s : Shared) (e : Value) (s' : Shared) (h : L2.CX P w [] H s (fun _ _ _ => False) e s') : False := by
  obtain ⟨_, _, _, _, _, _, _, _, _, _, _, _, z⟩ := h
  exact z
/-- the end: a law whose def keeps its promise in every world, by facts at the head -/
theorem end_walk {l : PySem.W.OpenLaw} {k : Nat} {q : Program} {loose : List Str} {XP : (Str → Option Value) → Heap → Prop} {YP : World → Heap → Prop} {d : DefRec}
    (h63 : l.most = some 63) (nodef : d.params.defaults = []) (room : Room k callerA)
    (keeps : ∀ {w : World} {mg : Str → Option Value} {f : Addr} {h : Heap}, YP w h → h.Ns mainGlobals mg → mg d.name = some (.ref f) →
      ∃ (K : PySem.W.Frag) (fd : FuncData), K.In h ∧ (∀ (s : Shared) (u : Value), BindsTo s fd ⟨[u], []⟩ [("script", u)]) ∧ ∀ base : Heap, FnOk l.prog w K mg base (L2.CX l.prog w) k f fd ["script"] (spLaw (px K))) :
    PySem.W.WalkO q loose XP YP l.row.toRowW d [] (fun f us => PySem.call f us) := by
  refine Att.attach_call h63 nodef fun w s0 s1 mg mb f o pm cd doc a us ns G Y i1 i2 i3 named obj nums few gens => ?_
  obtain ⟨K, fd, inK, binds, ok⟩ := keeps Y G.T.g named
  exact law_call inK G.T.g G.T.b G.T.builtins G.T.nolimit gens obj nums (Nat.le_trans few (by decide)) room (fun base _ _ => ok base) binds (fun H only seq => law_sp few only seq) fun H e s' => no_cx H s1 e s'
end Lw
open PySem PySem.W PySem.Calls PyProof.Rows
theorem PySem.Challenge.cw_linesoftwo_k10_whole_what_is_refused_holds : PySem.Challenge.rw_linesoftwo_k10_whole_what_is_refused.Holds := by
  w_on; o_law
  refine HandSHeadRun.head_any (r := OpenLaw.row PySem.Challenge.rw_linesoftwo_k10_whole_what_is_refused) (q := view (OpenLaw.row PySem.Challenge.rw_linesoftwo_k10_whole_what_is_refused).prog [119]) (H := Lw.hk) (ob := Lw.ob) (M := 6000) (loose := Lw.loose) (d := HandSHeadRun.topDef (OpenLaw.row PySem.Challenge.rw_linesoftwo_k10_whole_what_is_refused).prog 119) (kwd := []) Lw.ob_eq
    (by kernel_rfl) (fun s => by kernel_rfl) Lw.run (by kernel_rfl) (by kernel_rfl) (by kernel_rfl) (by rfl) (by first | assumption | decide +kernel) (by decide +kernel) ⟨rfl, rfl, rfl, rfl, rfl, by decide +kernel⟩ ?hw ?hc
  case hw => w_witness2
  case hc =>
    refine Lw.end_walk (l := PySem.Challenge.rw_linesoftwo_k10_whole_what_is_refused) (k := 22) rfl (by kernel_rfl) ⟨rfl, by decide, by decide⟩ ?F
    intro w mg f h Y G named
    obtain ⟨K, inK, c, cx⟩ := Y
    have Z := Lw.fx_of inK G c cx
    obtain ⟨fd, F⟩ := Z.dd 104 "law" 119 rfl rfl
    have e1 : (HandSHeadRun.topDef (OpenLaw.row PySem.Challenge.rw_linesoftwo_k10_whole_what_is_refused).prog 119).name = ("law" : PySem.Str) := by kernel_rfl
    rw [e1] at named
    have e2 := named.symm.trans (Z.g 104 "law" rfl)
    cases e2
    exact ⟨K, fd, inK, fun s v => L2.FunD.bindsA (ps := ["script"]) F (fun _ _ _ _ _ _ us hl => match us, hl with | [_], _ => rfl) s [v] rfl, fun base => Lw.ok_law Z F Lw.good⟩
