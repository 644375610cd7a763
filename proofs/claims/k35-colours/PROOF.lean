import PyProof.Rows.All
import Wide.All
import OpenK.AllK
import Wide.FinOn
import HandS.HeadHook2
import HandS.Words
import KE.KStateDown
import HandS.Ends
import HandS.HeadEnd
import HandS.Head0
import HandS.Head1
import HandS.Head2
import HandS.ForMost
import HandS.Exc
import HandS.CallSlots
import HandS.TryMany
import HandS.TupAny
import HandS.TupMul
import HandS.Wide
import HandS.Flow
import HandS.Style
import HandS.Deep
import HandS.IsInst
import KE.DataMinMax
import KE.SortData
import HandS.ExcOwn
import HandS.Zip
import HandS.WordsExc
import HandS.Defaults
import HandS.CallLocal
import KE.GoesEnum
import HandS.TupSets
import HandS.SetFor
import HandS.ExcIs
import HandS.DictTup
import HandS.Small
import HandS.Conv
import PySem.Challenge.RW_linesoftwo_k35_main_lines_of_one_colour
set_option Elab.async false
set_option linter.all false
set_option maxRecDepth 100000
set_option maxHeartbeats 4000000
namespace Pu
open PySem L2
/-! ### the Hook -/
def excCB (K : PySem.W.Frag) (D : Addr) : Bool := He.eqO (PySem.W.findIn K (.ref D) "__getattribute__") (some (some (.builtin "BaseException.__getattribute__"))) && (He.eqO (PySem.W.findIn K (.ref D) "__getattr__") (some none) && (decide (PySem.W.subIn K (.ref D) (.type "BaseException") = some true) &&
  (PySem.W.hasDictIn K D && (He.eqO (PySem.W.findIn K (.ref D) "__class__") (some (some (.builtin "object.__class__"))) && (He.eqO (PySem.W.specialIn K (.builtin "object.__class__") "__get__") (some (some (.builtin "getset_descriptor.__get__"))) && (decide (PySem.W.takesIn K (.builtin "object.__class__") = some true) &&
  (decide (PySem.W.mroIn K D (.type "object") = some true) && decide (PySem.W.kitOne K (.ref D) (.type "ValueError") = some true))))))))
abbrev AlX : Type := He.AlD × Bool
def obXG (n : Nat) (fa : List He.Fa) (fn : List He.DefD) (xb : PySem.W.Frag → Bool) (g : Addr → Option Obj) : AlX := (He.obsD fa fn (He.frG g (He.asD g n)), xb (He.frG g (He.asD g n)))
def hookX (n : Nat) (fa : List He.Fa) (fn : List He.DefD) (xb : PySem.W.Frag → Bool) : PySem.W.Hook where
  α := AlX
  obs := fun s => obXG n fa fn xb s.heap.get?
  val := fun _ => (He.valD fn, true)
  says := fun _ h => ∃ K : PySem.W.Frag, K.In h ∧ He.SaysD fa fn K ∧ xb K = true
  of := fun _ _ e => ⟨_, He.frG_in, congrArg (fun z : AlX => z.1) e, congrArg (fun z : AlX => z.2) e⟩
  keeps := fun _ _ _ ⟨K, hK, c⟩ k => ⟨K, PySem.W.Frag.In.keeps hK k, c⟩
theorem obXG_eq {n : Nat} {fa : List He.Fa} {fn : List He.DefD} {xb : PySem.W.Frag → Bool} {g : Addr → Option Obj} {s : Shared} (h : ∀ a, g a = s.heap.get? a) : obXG n fa fn xb g = (hookX n fa fn xb).obs s := by
  have e : g = s.heap.get? := funext h
  rw [e]
  rfl
end Pu

set_option Elab.async false
set_option linter.all false
set_option maxRecDepth 100000
set_option maxHeartbeats 4000000
namespace Lw
open PySem PySem.Spec PyProof.Rows L2
def top (i : Nat) : Stmt := PySem.Challenge.pw_linesoftwo_k35_main_lines_of_one_colour.main.body.getD i (.Pass ⟨0, 0, 0, 0⟩)
def nmF : List Str := (["is_number", "is_within", "is_long", "are_numbers", "tupled", "common", "is_set", "lowest", "is_fraction_in", "plus", "less", "times", "is_under", "compared", "is_near_fraction", "is_point_in", "is_ahead", "are_points_in", "sure_points", "line_by", "line_in", "height_at", "is_on", "lines_in", "on_line", "are_colours_in", "sure_coloured", "one_colour_in", "is_one_colour_in", "one_colour_lines"] : List Str) ++ (["first_one_colour", "is_one_colour", "colour_counts", "fewest_alone", "_law_box", "_law_take", "_law_cells", "_law_of", "_law_mixed", "_law_same", "_law_unmarked", "_law_call", "_law_slip", "_law_gcd", "_law_heard", "_law_cut", "_law_under", "_law_in_order", "_law_spread_out", "_law_lines", "_law_points", "_law_parts", "_law_right", "law"] : List Str)
def ixF : List Nat := [5, 6, 7, 8, 9, 10, 11, 16, 17, 18, 19, 20, 21, 22, 23, 24, 25, 26, 27, 29, 30, 31, 32, 33, 35, 38, 39, 40, 41, 42] ++ [43, 44, 45, 46, 48, 49, 50, 51, 52, 53, 54, 55, 56, 57, 58, 59, 60, 61, 62, 63, 64, 65, 66, 67]
def nmC : List Str := ["CanNot", "TooMany", "Unfit"]
def frL : List Str := ["ValueError", "abs", "all", "bool", "enumerate", "int", "isinstance", "len", "list", "max", "min", "range", "set", "sorted", "str", "tuple", "zip"]
def itL : List (Str × Int) := [("MOST_SIZE", 1000000), ("LEAST_POINTS", 3), ("MOST_POINTS", 30), ("MOST_COLOURED", 10)]
end Lw

set_option Elab.async false
set_option linter.all false
set_option maxRecDepth 100000
set_option maxHeartbeats 0
namespace Lw
open PySem PySem.Spec PyProof.Rows L2 Pu
def loose : List Str := (["CanNot", "TooMany", "Unfit", "MOST_SIZE", "LEAST_POINTS", "MOST_POINTS", "MOST_COLOURED", "is_number", "is_within", "is_long", "are_numbers", "tupled", "common", "is_set", "lowest", "is_fraction_in", "plus", "less", "times", "is_under", "compared", "is_near_fraction", "is_point_in", "is_ahead", "are_points_in", "sure_points", "line_by", "line_in", "height_at", "is_on"] : List Str) ++ (["lines_in", "on_line", "are_colours_in", "sure_coloured", "one_colour_in", "is_one_colour_in", "one_colour_lines", "first_one_colour", "is_one_colour", "colour_counts", "fewest_alone", "_law_box", "_law_take", "_law_cells", "_law_of", "_law_mixed", "_law_same", "_law_unmarked", "_law_call", "_law_slip", "_law_gcd", "_law_heard", "_law_cut", "_law_under", "_law_in_order", "_law_spread_out", "_law_lines", "_law_points", "_law_parts", "_law_right"] : List Str)
def mkD (x : Str) (j : Nat) : He.DefD := ⟨(x, none), x, x, defArgs (top j), defBody (top j), defScope (top j), [], []⟩
def fn : List He.DefD := (nmF.zip ixF).map fun p => mkD p.1 p.2
def fa : List He.Fa := nmF.map He.Fa.glo ++ (frL.map He.Fa.free ++ (itL.map (fun p => He.Fa.int p.1 p.2) ++ (nmC.map He.Fa.glo ++ nmC.map He.Fa.exc)))
def gc (K : PySem.W.Frag) (c : Nat) : Addr := He.ga K (nmC.getD c "")
def xb (K : PySem.W.Frag) : Bool := ((List.range nmC.length).all fun c => excCB K (gc K c)) && (List.range nmC.length).all fun c => (List.range nmC.length).all fun d => decide (PySem.W.exmOne K (.ref (gc K c)) (.ref (gc K d)) = some (decide (c = d)))
abbrev R : PySem.W.OpenRow := PySem.W.OpenLaw.row PySem.Challenge.rw_linesoftwo_k35_main_lines_of_one_colour
abbrev hk : PySem.W.Hook := hookX 3 fa fn xb
def ob (s : PySem.W.SharedT) : AlX := obXG 3 fa fn xb (HandSHeadRun.getT s)
theorem ob_eq (s : PySem.W.SharedT) : ob s = hk.obs s.abs := obXG_eq (HandSHeadRun.getT_eq s)
def fg (s : PySem.W.SharedT) : PySem.W.Frag := He.frG (HandSHeadRun.getT s) (He.asD (HandSHeadRun.getT s) 3)
noncomputable def endR (w : World) (os : OsState) : Option PySem.W.SharedT := HandSHeadRun.endF (HandSHeadRun.stepQ (HandSHeadRun.denQ HandSHeadRun.tabQ) R.prog w) 6000 R.prog w os
theorem run1 (w : World) (os : OsState) : (endR w os).map (fun s => HandSHeadRun.looksF R.prog (PySem.W.boot_heap w.params) s.abs) = some true := by kernel_rfl
theorem run2 (w : World) (os : OsState) : (endR w os).map (fun s => HandSHeadRun.seenQ (PySem.W.view R.prog [67]) loose (importedModules R.prog.main.body) (fun s => PySem.W.xlAt (PySem.W.view R.prog [67]) [] s && PySem.W.recOk R.toRowW.records s) s.abs) = some (PySem.W.openGood (PySem.W.view R.prog [67]) loose) := by kernel_rfl
theorem run3 (w : World) (os : OsState) : (endR w os).map (fun s => fa.all fun f => f.ok (fg s)) = some true := by kernel_rfl
theorem run4 (w : World) (os : OsState) : (endR w os).map (fun s => fn.all fun d => d.ok (fg s)) = some true := by kernel_rfl
theorem run5 (w : World) (os : OsState) : (endR w os).map (fun s => fn.map fun d => He.fnW (fg s) d.at_) = some (fn.map He.DefD.val) := by kernel_rfl
theorem run6 (w : World) (os : OsState) : (endR w os).map (fun s => xb (fg s)) = some true := by kernel_rfl
theorem run (w : World) : HandSHeadRun.RunEq R (PySem.W.view R.prog [67]) hk ob 6000 loose w := fun os => by
  obtain ⟨s, hs, e1⟩ := Option.map_eq_some_iff.mp (run1 w os)
  have at_ : ∀ {α : Type} {f : PySem.W.SharedT → α} {v : α}, (endR w os).map f = some v → f s = v := fun {α f v} h => by
    rw [hs] at h
    exact Option.some.inj h
  have e2 := at_ (run2 w os)
  have e3 := at_ (run3 w os)
  have e4 := at_ (run4 w os)
  have e5 := at_ (run5 w os)
  have e6 := at_ (run6 w os)
  have eo : ob s = (He.valD fn, true) := Prod.ext (Prod.ext (by show ((fa.all fun f => f.ok (fg s)) && fn.all fun d => d.ok (fg s)) = true; rw [e3, e4]; rfl) e5) e6
  have hs' : HandSHeadRun.endF (HandSHeadRun.stepQ (HandSHeadRun.denQ HandSHeadRun.tabQ) R.prog w) 6000 R.prog w os = some s := hs
  rw [hs']
  exact congrArg some (Prod.ext e1 (Prod.ext e2 eo))
end Lw

set_option Elab.async false
set_option linter.all false
set_option maxRecDepth 100000
set_option maxHeartbeats 4000000
/-! The pure layer, part A: plain data D, the answers M, how data lie in the heap (Rep), the readings of expressions (SE) -/
namespace Pu
open PySem L2

/-! ### data -/
inductive D where
  | non | bl (b : Bool) | int (i : Int) | str (x : Str) | tup (xs : List D) | lst (xs : List D)
  | box | fn (i : Nat) | ty (n : String)
  | fro (xs : List D)
  | own (xs : List D)
  | mdc (kvs : List (D × D))
abbrev DEnv := List (Option D)
/-- an exception: which class, and its field -/
structure Xc where
  c : Nat
  arg : Option Int := none
  deriving DecidableEq
abbrev Bx := List Int
inductive Res (α : Type) where
  | ok (a : α) (b : Bx)
  | exc (x : Xc) (b : Bx)
  | stk
def M (α : Type) := Bx → Res α
@[reducible] def M.pure {α : Type} (a : α) : M α := fun b => .ok a b
def Res.bind {α β : Type} (r : Res α) (k : α → M β) : Res β := match r with
  | .ok a b => k a b
  | .exc x b => .exc x b
  | .stk => .stk
@[reducible] def M.bind {α β : Type} (m : M α) (k : α → M β) : M β := fun b => (m b).bind k
instance : Monad M where
  pure := M.pure
  bind := M.bind
def stuck {α : Type} : M α := fun _ => .stk
def raise {α : Type} (x : Xc) : M α := fun b => .exc x b
theorem pure_bind' {α β : Type} (a : α) (k : α → M β) : (pure a >>= k) = k a := rfl
theorem bind_pure' {α : Type} (m : M α) : (m >>= pure) = m := by
  funext b
  show (m b).bind _ = m b
  cases m b <;> rfl
theorem bind_assoc' {α β γ : Type} (m : M α) (k : α → M β) (l : β → M γ) : ((m >>= k) >>= l) = (m >>= fun a => k a >>= l) := by
  funext b
  show ((m b).bind k).bind l = (m b).bind _
  cases m b <;> rfl
theorem stuck_bind {α β : Type} (k : α → M β) : ((stuck : M α) >>= k) = stuck := rfl
theorem raise_bind {α β : Type} (x : Xc) (k : α → M β) : ((raise x : M α) >>= k) = raise x := rfl
instance : LawfulMonad M := LawfulMonad.mk' M (fun m => bind_pure' m) (fun a k => rfl) (fun m k l => bind_assoc' m k l)

/-! ### how data lie -/
/-- what all of a proof shares: the written part, where the defs and the classes stand -/
structure Px where
  K : PySem.W.Frag
  fa : Nat → Addr
  ca : Nat → Addr
/-- the ghosts of a call: O0, what no one but the callers touches; O, that and what this call owns; bx, the box -/
structure Gh where
  P : Px
  O0 : Addr → Prop
  O : Addr → Prop
  bx : Option Addr

mutual
inductive Rep (P : Px) (O : Addr → Prop) (bx : Option Addr) (H : Hp) : D → V → Prop
  | non : Rep P O bx H .non .non
  | bl (b : Bool) : Rep P O bx H (.bl b) (.bl b)
  | int (i : Int) : Rep P O bx H (.int i) (.int i)
  | str (x : Str) : Rep P O bx H (.str x) (.str x)
  | ty (n : String) : Rep P O bx H (.ty n) (.ty n)
  | fn (i : Nat) : Rep P O bx H (.fn i) (.ref (P.fa i))
  | box {a : Addr} (h : bx = some a) : Rep P O bx H .box (.ref a)
  | tup {a : Addr} {ds : List D} {vs : List V} (h : H a = some (.tup vs)) (r : Reps P O bx H ds vs) : Rep P O bx H (.tup ds) (.ref a)
  | lst {a : Addr} {ds : List D} {vs : List V} (h : H a = some (.lst vs)) (n : ¬ O a) (r : Reps P O bx H ds vs) : Rep P O bx H (.lst ds) (.ref a)
  | fro {a : Addr} {ds : List D} {vs : List V} (h : (∃ o, H a = some (.frz o (.lst vs))) ∨ ((∀ H', SqL P.K H' a vs))) (r : Reps P O bx H ds vs) : Rep P O bx H (.fro ds) (.ref a)
inductive Reps (P : Px) (O : Addr → Prop) (bx : Option Addr) (H : Hp) : List D → List V → Prop
  | nil : Reps P O bx H [] []
  | cons {d : D} {v : V} {ds : List D} {vs : List V} (h : Rep P O bx H d v) (t : Reps P O bx H ds vs) : Reps P O bx H (d :: ds) (v :: vs)
end

/-- nothing tracked changes but the box -/
def Ex1 (bx : Option Addr) (H H' : Hp) : Prop := ∀ a o, bx ≠ some a → H a = some o → H' a = some o
theorem Ex1.refl {bx : Option Addr} {H : Hp} : Ex1 bx H H := fun _ _ _ h => h
theorem Ex1.trans {bx : Option Addr} {H H1 H2 : Hp} (a : Ex1 bx H H1) (b : Ex1 bx H1 H2) : Ex1 bx H H2 := fun x o n h => b x o n (a x o n h)
theorem Ex1.new {bx : Option Addr} {H : Hp} {p : Addr} {o : HO} (h : H p = none) : Ex1 bx H (upd H p o) := fun a u _ e => by
  rw [upd_ne (ne_of_none e h)]
  exact e
/-- the box stands as a list -/
def BxL (O : Addr → Prop) (bx : Option Addr) (H : Hp) : Prop := ∀ a, bx = some a → O a ∧ ∃ vs, H a = some (.lst vs)

theorem rd_ex {bx : Option Addr} {O : Addr → Prop} {H H' : Hp} {a : Addr} {u : HO} (B : BxL O bx H) (e : Ex1 bx H H') (hu : ∀ vs, u ≠ .lst vs) (h : Rd H a u) : Rd H' a u := by
  rcases h with h | ⟨o, h⟩
  · refine .inl (e a _ (fun z => ?_) h)
    obtain ⟨_, vs, q⟩ := B a z
    rw [h] at q
    exact hu vs (Option.some.inj q)
  · refine .inr ⟨o, e a _ (fun z => ?_) h⟩
    obtain ⟨_, vs, q⟩ := B a z
    rw [h] at q
    cases q
theorem sqt_ex {K : PySem.W.Frag} {bx : Option Addr} {O : Addr → Prop} {H H' : Hp} {a : Addr} {vs : List V} (B : BxL O bx H) (e : Ex1 bx H H') (h : SqT K H a vs) : SqT K H' a vs := by
  rcases h with h | h
  · exact .inl (rd_ex B e (fun vs z => by cases z) h)
  · exact .inr h
theorem sqt {K : PySem.W.Frag} {H : Hp} {a : Addr} {vs : List V} (h : H a = some (.tup vs)) : SqT K H a vs := .inl (.inl h)
section
variable {P : Px} {O O' : Addr → Prop} {bx : Option Addr} {H H' : Hp}
mutual
theorem Rep.mono (B : BxL O bx H) (e : Ex1 bx H H') : ∀ {d : D} {v : V}, Rep P O bx H d v → Rep P O bx H' d v
  | _, _, .non => .non
  | _, _, .bl b => .bl b
  | _, _, .int i => .int i
  | _, _, .str x => .str x
  | _, _, .ty n => .ty n
  | _, _, .fn i => .fn i
  | _, _, .box h => .box h
  | _, _, .tup (a := a) h r => .tup (e a _ (fun z => by
      obtain ⟨_, vs, q⟩ := B a z
      rw [h] at q
      cases q) h) (Reps.mono B e r)
  | _, _, .lst (a := a) h n r => .lst (e a _ (fun z => n (B a z).1) h) n (Reps.mono B e r)
  | _, _, .fro (a := a) h r => .fro (h.elim (fun ⟨ob, q⟩ => .inl ⟨ob, e a _ (fun z => by
      obtain ⟨_, vs, q'⟩ := B a z
      rw [q] at q'
      cases q') q⟩) .inr) (Reps.mono B e r)
theorem Reps.mono (B : BxL O bx H) (e : Ex1 bx H H') : ∀ {ds : List D} {vs : List V}, Reps P O bx H ds vs → Reps P O bx H' ds vs
  | _, _, .nil => .nil
  | _, _, .cons h t => .cons (Rep.mono B e h) (Reps.mono B e t)
end
mutual
/-- other owned ones: those that were not tracked -/
theorem Rep.own (w : ∀ a, O' a → O a ∨ H a = none) : ∀ {d : D} {v : V}, Rep P O bx H d v → Rep P O' bx H d v
  | _, _, .non => .non
  | _, _, .bl b => .bl b
  | _, _, .int i => .int i
  | _, _, .str x => .str x
  | _, _, .ty n => .ty n
  | _, _, .fn i => .fn i
  | _, _, .box h => .box h
  | _, _, .tup h r => .tup h (Reps.own w r)
  | _, _, .lst (a := a) h n r => .lst h (fun z => (w a z).elim n fun q => by rw [h] at q; cases q) (Reps.own w r)
  | _, _, .fro h r => .fro h (Reps.own w r)
theorem Reps.own (w : ∀ a, O' a → O a ∨ H a = none) : ∀ {ds : List D} {vs : List V}, Reps P O bx H ds vs → Reps P O' bx H ds vs
  | _, _, .nil => .nil
  | _, _, .cons h t => .cons (Rep.own w h) (Reps.own w t)
end
mutual
/-- a change at an address that is owned (and no box: its content isn't told) -/
theorem Rep.write {p : Addr} {u : List V} {vs0 : List V} (hp : O p) (h0 : H p = some (.lst vs0)) : ∀ {d : D} {v : V}, Rep P O bx H d v → Rep P O bx (upd H p (.lst u)) d v
  | _, _, .non => .non
  | _, _, .bl b => .bl b
  | _, _, .int i => .int i
  | _, _, .str x => .str x
  | _, _, .ty n => .ty n
  | _, _, .fn i => .fn i
  | _, _, .box h => .box h
  | _, _, .tup (a := a) h r => .tup (by rw [upd_ne (ne_of h h0 (by intro z; cases z))]; exact h) (Reps.write hp h0 r)
  | _, _, .lst (a := a) h n r => .lst (by rw [upd_ne (fun z => n (by rw [z]; exact hp))]; exact h) n (Reps.write hp h0 r)
  | _, _, .fro (a := a) h r => .fro (h.elim (fun ⟨ob, q⟩ => .inl ⟨ob, by rw [upd_ne (ne_of q h0 (by intro z; cases z))]; exact q⟩) .inr) (Reps.write hp h0 r)
theorem Reps.write {p : Addr} {u : List V} {vs0 : List V} (hp : O p) (h0 : H p = some (.lst vs0)) : ∀ {ds : List D} {vs : List V}, Reps P O bx H ds vs → Reps P O bx (upd H p (.lst u)) ds vs
  | _, _, .nil => .nil
  | _, _, .cons h t => .cons (Rep.write hp h0 h) (Reps.write hp h0 t)
end
theorem Reps.length : ∀ {ds : List D} {vs : List V}, Reps P O bx H ds vs → ds.length = vs.length
  | _, _, .nil => rfl
  | _, _, .cons _ t => congrArg (· + 1) (Reps.length t)
theorem Reps.get : ∀ {ds : List D} {vs : List V} {i : Nat} {d : D}, Reps P O bx H ds vs → ds[i]? = some d → ∃ v, vs[i]? = some v ∧ Rep P O bx H d v
  | _, _, 0, _, .cons h _, e => by
    have e' := Option.some.inj e
    subst e'
    exact ⟨_, rfl, h⟩
  | _, _, i + 1, _, .cons _ t, e => by
    obtain ⟨v, h1, h2⟩ := Reps.get (i := i) t (by simpa using e)
    exact ⟨v, by simpa using h1, h2⟩
theorem Reps.append : ∀ {ds es : List D} {vs us : List V}, Reps P O bx H ds vs → Reps P O bx H es us → Reps P O bx H (ds ++ es) (vs ++ us)
  | _, _, _, _, .nil, s => s
  | _, _, _, _, .cons h t, s => .cons h (Reps.append t s)
theorem Reps.drop : ∀ {ds : List D} {vs : List V} (n : Nat), Reps P O bx H ds vs → Reps P O bx H (ds.drop n) (vs.drop n)
  | _, _, 0, h => h
  | _, _, _ + 1, .nil => .nil
  | _, _, n + 1, .cons _ t => Reps.drop n t
theorem Reps.take : ∀ {ds : List D} {vs : List V} (n : Nat), Reps P O bx H ds vs → Reps P O bx H (ds.take n) (vs.take n)
  | _, _, 0, _ => .nil
  | _, _, _ + 1, .nil => .nil
  | _, _, n + 1, .cons h t => .cons h (Reps.take n t)
theorem Reps.set {d : D} {v : V} (r : Rep P O bx H d v) : ∀ {ds : List D} {vs : List V} (i : Nat), Reps P O bx H ds vs → Reps P O bx H (ds.set i d) (vs.set i v)
  | _, _, _, .nil => .nil
  | _, _, 0, .cons _ t => .cons r t
  | _, _, i + 1, .cons h t => .cons h (Reps.set r i t)
theorem Reps.erase : ∀ {ds : List D} {vs : List V} (i : Nat), Reps P O bx H ds vs → Reps P O bx H (ds.eraseIdx i) (vs.eraseIdx i)
  | _, _, _, .nil => .nil
  | _, _, 0, .cons _ t => t
  | _, _, i + 1, .cons h t => .cons h (Reps.erase i t)
theorem Reps.reverse {ds : List D} {vs : List V} (r : Reps P O bx H ds vs) : Reps P O bx H ds.reverse vs.reverse := by
  induction ds generalizing vs with
  | nil => cases r; exact .nil
  | cons d ds ih =>
    cases r with
    | cons h t =>
      rw [List.reverse_cons, List.reverse_cons]
      exact (ih t).append (.cons h .nil)
end

/-- what an expression's value may be besides: what the call owns itself -/
inductive RepT (g : Gh) (H : Hp) : D → V → Prop
  | rep {d : D} {v : V} (h : Rep g.P g.O g.bx H d v) : RepT g H d v
  | own {ds : List D} {vs : List V} {a : Addr} (h : H a = some (.lst vs)) (o : g.O a) (n : ¬ g.O0 a) (nb : g.bx ≠ some a) (r : Reps g.P g.O g.bx H ds vs) : RepT g H (.own ds) (.ref a)
def BoxOk (g : Gh) (b : Bx) (H : Hp) : Prop := match g.bx with
  | none => b = []
  | some a => (g.O0 a ∧ g.O a) ∧ H a = some (.lst (b.map V.int))
theorem BoxOk.bxl {g : Gh} {b : Bx} {H : Hp} (h : BoxOk g b H) : BxL g.O g.bx H := fun a e => by
  unfold BoxOk at h
  rw [e] at h
  obtain ⟨⟨_, o⟩, q⟩ := h
  exact ⟨o, _, q⟩
theorem RepT.mono {g : Gh} {H H' : Hp} (B : BxL g.O g.bx H) (e : Ex1 g.bx H H') {d : D} {v : V} (h : RepT g H d v) : RepT g H' d v := by
  cases h with
  | rep h => exact .rep (h.mono B e)
  | own h o n nb r => exact .own (e _ _ nb h) o n nb (r.mono B e)

/-- the state of a call, in an expression's eyes -/
structure StE (g : Gh) (ρ : DEnv) (b : Bx) (σ : St) (H : Hp) : Prop where
  len : σ.length = ρ.length
  val : ∀ (i : Nat) (d : D), ρ[i]? = some (some d) → ∃ v, σ[i]? = some (some v) ∧ RepT g H d v
  sep : ∀ (i j : Nat) (ds es : List D) (a : Addr), ρ[i]? = some (some (.own ds)) → ρ[j]? = some (some (.own es)) → σ[i]? = some (some (.ref a)) → σ[j]? = some (some (.ref a)) → i = j
  box : BoxOk g b H
  mt : ∀ a, g.O a → Mut (H a)
theorem mut_some {o : Option HO} (h : Mut o) : o ≠ none := fun e => by
  rw [e] at h
  exact h
theorem StE.trk {g : Gh} {ρ : DEnv} {b : Bx} {σ : St} {H : Hp} (s : StE g ρ b σ H) : ∀ a, g.O a → H a ≠ none := fun a h => mut_some (s.mt a h)
theorem StE.mono {g : Gh} {ρ : DEnv} {b b' : Bx} {σ : St} {H H' : Hp} (s : StE g ρ b σ H) (e : Ex1 g.bx H H') (B : BoxOk g b' H') : StE g ρ b' σ H' :=
  ⟨s.len, fun i d h => by
    obtain ⟨v, h1, h2⟩ := s.val i d h
    exact ⟨v, h1, h2.mono s.box.bxl e⟩, s.sep, B, fun a o => by
    by_cases z : g.bx = some a
    · obtain ⟨_, vs, q⟩ := B.bxl a z
      rw [q]
      trivial
    · have m := s.mt a o
      cases q : H a with
      | none => rw [q] at m; exact m.elim
      | some u =>
        rw [q] at m
        rw [e a u z q]
        exact m⟩
/-- how an exception lies -/
def XRep (P : Px) (x : Xc) (cls : Value) (dd : Option Addr) (H : Hp) : Prop :=
  cls = .ref (P.ca x.c) ∧ match x.arg with
    | none => dd = none
    | some i => ∃ d f, dd = some d ∧ H d = some (.xd [(f, .int i)])

def wpG {α β : Type} (g : Gh) (W : WX) (σ : St) (R : Hp → α → β → Prop) (H : Hp) (m : Res α) (Q : β → Hp → Prop) : Prop := match m with
  | .ok a b => ∀ v H', Ex1 g.bx H H' → BoxOk g b H' → R H' a v → Q v H'
  | .exc x b => ∀ cls dd H', Ex1 g.bx H H' → BoxOk g b H' → XRep g.P x cls dd H' → W cls dd σ H'
  | .stk => False
section
variable {α β γ δ : Type} {g : Gh} {W : WX} {σ : St} {H H1 : Hp}
theorem wpG.at {R : Hp → α → β → Prop} {m : Res α} {Q : β → Hp → Prop} (e : Ex1 g.bx H H1) (h : wpG g W σ R H m Q) : wpG g W σ R H1 m Q := by
  cases m with
  | ok a b => exact fun v H' e' => h v H' (e.trans e')
  | exc x b => exact fun c d H' e' => h c d H' (e.trans e')
  | stk => exact h
theorem wpG.imp {R : Hp → α → β → Prop} {m : Res α} {Q Q' : β → Hp → Prop} (h : wpG g W σ R H m Q) (k : ∀ v H', Q v H' → Q' v H') : wpG g W σ R H m Q' := by
  cases m with
  | ok a b => exact fun v H' e B r => k _ _ (h v H' e B r)
  | exc x b => exact h
  | stk => exact h
theorem wpG.bind {R1 : Hp → α → β → Prop} {R2 : Hp → γ → δ → Prop} {m : Res α} {k : α → M γ} {Q : δ → Hp → Prop} (h : wpG g W σ R2 H (m.bind k) Q) :
    wpG g W σ R1 H m fun v H1 => ∃ a b, Ex1 g.bx H H1 ∧ BoxOk g b H1 ∧ R1 H1 a v ∧ wpG g W σ R2 H1 (k a b) Q := by
  cases m with
  | ok a b => exact fun v H' e B r => ⟨a, b, e, B, r, wpG.at e h⟩
  | exc x b => exact h
  | stk => exact h
theorem wpG.one {R : Hp → α → β → Prop} {a : α} {b : Bx} {Q : β → Hp → Prop} {v : β} {H' : Hp} (h : wpG g W σ R H (.ok a b) Q) (e : Ex1 g.bx H H') (B : BoxOk g b H') (r : R H' a v) : Q v H' := h v H' e B r
end

/-! ### the readings -/
section
variable {α β : Type}
/-- what an expression of the meaning f is read as -/
def rG (P : Px) (W : WX) (R : Gh → Hp → α → β → Prop) (f : DEnv → M α) : St → Hp → (β → Hp → Prop) → Prop := fun σ H Q =>
  ∃ g ρ b, g.P = P ∧ StE g ρ b σ H ∧ wpG g W σ (R g) H (f ρ b) Q
end
abbrev rE (P : Px) (W : WX) (f : DEnv → M D) : TE := rG P W RepT f
abbrev rT (P : Px) (W : WX) (f : DEnv → M Bool) : TT := rG P W (fun _ _ a v => v = a) f
abbrev RA (g : Gh) : Hp → List D → List V → Prop := fun H ds vs => Reps g.P g.O g.bx H ds vs
abbrev rA (P : Px) (W : WX) (f : DEnv → M (List D)) : TA := rG P W RA f
/-- a new list, from what it holds -/
def RF (g : Gh) (H0 : Hp) : Hp → List D → V → Prop := fun H ds v => ∃ p vs, v = .ref p ∧ H0 p = none ∧ H p = some (.lst vs) ∧ Reps g.P (fun a => g.O a ∨ a = p) g.bx H ds vs
def rF (P : Px) (W : WX) (f : DEnv → M (List D)) : TE := fun σ H Q => ∃ g ρ b, g.P = P ∧ StE g ρ b σ H ∧ wpG g W σ (RF g H) H (f ρ b) Q

structure SE (X : Cx) (P : Px) (e : Expr) (f : DEnv → M D) : Prop where
  pe : ∀ W, Takes X W → PE X e (rE P W f)
structure SF (X : Cx) (P : Px) (e : Expr) (f : DEnv → M (List D)) : Prop where
  pe : ∀ W, Takes X W → PE X e (rF P W f)
structure STt (X : Cx) (P : Px) (e : Expr) (f : DEnv → M Bool) : Prop where
  pt : ∀ W, Takes X W → PT X e (rT P W f)
structure SA (X : Cx) (P : Px) (es : List Expr) (f : DEnv → M (List D)) : Prop where
  pa : ∀ W, Takes X W → PA X es (rA P W f)

section
variable {X : Cx} {P : Px} {e a b : Expr} {es : List Expr}
theorem pe_imp {t t' : TE} (h : PE X e t) (k : ∀ σ H Q, t' σ H Q → t σ H Q) : PE X e t' := ⟨fun pins s σ H Q I q => h.run pins s σ H Q I (k σ H Q q)⟩
theorem pt_imp {t t' : TT} (h : PT X e t) (k : ∀ σ H Q, t' σ H Q → t σ H Q) : PT X e t' := ⟨fun pins s σ H Q I q => h.run pins s σ H Q I (k σ H Q q)⟩
theorem pa_imp {t t' : TA} (h : PA X es t) (k : ∀ σ H Q, t' σ H Q → t σ H Q) : PA X es t' := ⟨fun pos pins s σ H Q I q => h.run pos pins s σ H Q I (k σ H Q q)⟩

/-- one thing, then what follows from it -/
theorem rG_bind {α β γ δ : Type} {W : WX} {R1 : Gh → Hp → α → β → Prop} {R2 : Gh → Hp → γ → δ → Prop} {f : DEnv → M α} {k : DEnv → α → M γ} {σ : St} {H : Hp} {Q : δ → Hp → Prop}
    (h : rG P W R2 (fun ρ => f ρ >>= k ρ) σ H Q) :
    rG P W R1 f σ H fun v H1 => ∃ g ρ a b, g.P = P ∧ StE g ρ b σ H1 ∧ R1 g H1 a v ∧ wpG g W σ (R2 g) H1 (k ρ a b) Q := by
  obtain ⟨g, ρ, b, hP, S, w⟩ := h
  exact ⟨g, ρ, b, hP, S, (wpG.bind (R1 := R1 g) w).imp fun v H1 ⟨a, b1, e1, B1, r1, w1⟩ => ⟨g, ρ, a, b1, hP, S.mono e1 B1, r1, w1⟩⟩

def chk (d : D) : M D := match d with
  | .own _ => stuck
  | .mdc _ => stuck
  | d => pure d
/-- what may stand in a tuple, a list, or be handed on -/
theorem chk_rep {g : Gh} {W : WX} {σ : St} {H : Hp} {d : D} {v : V} {b : Bx} {γ δ : Type} {R : Hp → γ → δ → Prop} {k : D → M γ} {Q : δ → Hp → Prop} (r : RepT g H d v) (w : wpG g W σ R H ((chk d >>= k) b) Q) :
    Rep g.P g.O g.bx H d v ∧ wpG g W σ R H (k d b) Q := by
  cases r with
  | rep h => cases h <;> first | exact ⟨.non, w⟩ | exact ⟨.bl _, w⟩ | exact ⟨.int _, w⟩ | exact ⟨.str _, w⟩ | exact ⟨.ty _, w⟩ | exact ⟨.fn _, w⟩ | exact ⟨.box (by assumption), w⟩ | exact ⟨.tup (by assumption) (by assumption), w⟩ | exact ⟨.lst (by assumption) (by assumption) (by assumption), w⟩ | exact ⟨.fro (by assumption) (by assumption), w⟩
  | own _ _ _ _ _ => exact w.elim
end
end Pu

set_option Elab.async false
set_option linter.all false
set_option maxRecDepth 100000
set_option maxHeartbeats 4000000
/-! The pure layer, part B: names, numbers, operators, tests, displays -/
namespace Pu
open PySem L2

/-! ### the meanings -/
def gtE (ρ : DEnv) (i : Nat) : M D := match ρ[i]? with
  | some (some d) => pure d
  | _ => stuck
def eVar (i : Nat) : DEnv → M D := fun ρ => gtE ρ i
def eC (d : D) : DEnv → M D := fun _ => pure d
def eBin (o : D → D → M D) (fa fb : DEnv → M D) : DEnv → M D := fun ρ => fa ρ >>= fun x => fb ρ >>= fun y => o x y
def eUn (o : D → M D) (fa : DEnv → M D) : DEnv → M D := fun ρ => fa ρ >>= o
/-- what * may take: one small factor, or both of moderate size -/
def mulOk (i j : Int) : Bool := decide (i.natAbs < 2 ^ 64) || decide (j.natAbs < 2 ^ 64) || (decide (i.natAbs < 2 ^ 400000) && decide (j.natAbs < 2 ^ 400000))
def addD : D → D → M D
  | .int i, .int j => pure (.int (i + j))
  | .tup xs, .tup ys => if xs.length + ys.length ≤ 100000 then pure (.tup (xs ++ ys)) else stuck
  | .lst xs, .lst ys => if xs.length + ys.length ≤ 100000 then pure (.lst (xs ++ ys)) else stuck
  | .str x, .str y => if x.length + y.length ≤ 100000 then pure (.str (x ++ y)) else stuck
  | _, _ => stuck
def subD : D → D → M D
  | .int i, .int j => pure (.int (i - j))
  | _, _ => stuck
def mulD : D → D → M D
  | .int i, .int j => if mulOk i j then pure (.int (i * j)) else stuck
  | _, _ => stuck
/-- // : a small divisor of any sign, or a positive one below 2 ^ 9000 -/
def fdivD : D → D → M D
  | .int i, .int j => if decide (j ≠ 0) && decide (j.natAbs < 2 ^ 9000) then pure (.int (i.fdiv j)) else stuck
  | _, _ => stuck
def modD : D → D → M D
  | .int i, .int j => if j ≠ 0 then pure (.int (i.fmod j)) else stuck
  | _, _ => stuck
def powD : D → D → M D
  | .int i, .int j => if 0 ≤ j ∧ j ≤ 1000 ∧ i.natAbs < 2 ^ 64 then pure (.int (i ^ j.toNat)) else stuck
  | _, _ => stuck
def negD : D → M D
  | .int i => pure (.int (-i))
  | _ => stuck
def cmpI (p : Int → Int → Bool) : D → D → M D
  | .int i, .int j => pure (.bl (p i j))
  | _, _ => stuck
abbrev ltD := cmpI fun i j => decide (i < j)
abbrev leD := cmpI fun i j => decide (i ≤ j)
abbrev gtD := cmpI fun i j => decide (j < i)
abbrev geD := cmpI fun i j => decide (j ≤ i)
def isNon : D → Bool
  | .non => true
  | _ => false
def isNonD : D → M D := fun d => pure (.bl (isNon d))
def notNonD : D → M D := fun d => pure (.bl (!isNon d))
def truthD : D → M Bool
  | .non => pure false
  | .bl c => pure c
  | .int i => pure (i != 0)
  | .tup xs => pure (!xs.isEmpty)
  | .lst xs => pure (!xs.isEmpty)
  | .own xs => pure (!xs.isEmpty)
  | _ => stuck
def boolD : D → M Bool
  | .bl c => pure c
  | _ => stuck
def tB (f : DEnv → M D) : DEnv → M Bool := fun ρ => f ρ >>= boolD
def tTr (f : DEnv → M D) : DEnv → M Bool := fun ρ => f ρ >>= truthD
def tAndD (f g : DEnv → M Bool) : DEnv → M Bool := fun ρ => f ρ >>= fun c => if c = true then g ρ else pure false
def tOrD (f g : DEnv → M Bool) : DEnv → M Bool := fun ρ => f ρ >>= fun c => if c = true then pure true else g ρ
def tNotD (f : DEnv → M Bool) : DEnv → M Bool := fun ρ => f ρ >>= fun c => pure (!c)
def eAnd (f g : DEnv → M D) : DEnv → M D := fun ρ => f ρ >>= fun d => boolD d >>= fun c => if c = true then g ρ else pure (.bl false)
def eOr (f g : DEnv → M D) : DEnv → M D := fun ρ => f ρ >>= fun d => boolD d >>= fun c => if c = true then pure (.bl true) else g ρ
def eNot (f : DEnv → M D) : DEnv → M D := fun ρ => f ρ >>= fun d => boolD d >>= fun c => pure (.bl (!c))
def eIf (t : DEnv → M Bool) (f g : DEnv → M D) : DEnv → M D := fun ρ => t ρ >>= fun c => if c = true then f ρ else g ρ
def aNil : DEnv → M (List D) := fun _ => pure []
def aCons (f : DEnv → M D) (g : DEnv → M (List D)) : DEnv → M (List D) := fun ρ => f ρ >>= fun d => chk d >>= fun d => g ρ >>= fun ds => pure (d :: ds)
def eTup (f : DEnv → M (List D)) : DEnv → M D := fun ρ => f ρ >>= fun ds => if ds.length ≤ 100000 then pure (.tup ds) else stuck
def fLst (f : DEnv → M (List D)) : DEnv → M (List D) := fun ρ => f ρ >>= fun ds => if ds.length ≤ 100000 then pure ds else stuck
def eF (f : DEnv → M (List D)) : DEnv → M D := fun ρ => f ρ >>= fun ds => pure (.lst ds)

theorem szl {n : Nat} (h : n ≤ 100000) : n ≤ sizeLine := Nat.le_trans h (by decide)
theorem upd_ex {bx : Option Addr} {H H1 : Hp} {p : Addr} {o : HO} (e : Ex1 bx H H1) (h : H1 p = none) : Ex1 bx H (upd H1 p o) := e.trans (Ex1.new h)
theorem BoxOk.ex {g : Gh} {b : Bx} {H H' : Hp} (h : BoxOk g b H) (k : ∀ a o, H a = some o → H' a = some o) : BoxOk g b H' := by
  have B := h.bxl
  unfold BoxOk at h ⊢
  cases e : g.bx with
  | none => rw [e] at h; exact h
  | some a =>
    rw [e] at h B
    obtain ⟨o, q⟩ := h
    exact ⟨o, k a _ q⟩
theorem new_keep {H : Hp} {p : Addr} {o : HO} (h : H p = none) : ∀ a u, H a = some u → upd H p o a = some u := fun a u e => by
  rw [upd_ne (ne_of_none e h)]
  exact e
theorem BoxOk.new {g : Gh} {b : Bx} {H : Hp} {p : Addr} {o : HO} (h : BoxOk g b H) (hp : H p = none) : BoxOk g b (upd H p o) := h.ex (new_keep hp)

theorem wp_ite {α β : Type} {c : Prop} [Decidable c] {g : Gh} {W : WX} {σ : St} {R : Hp → α → β → Prop} {H : Hp} {m : M α} {b : Bx} {Q : β → Hp → Prop} (w : wpG g W σ R H ((if c then m else stuck) b) Q) : c ∧ wpG g W σ R H (m b) Q := by
  by_cases h : c
  · rw [if_pos h] at w
    exact ⟨h, w⟩
  · rw [if_neg h] at w
    exact w.elim
section
variable {X : Cx} {P : Px} {e a b c : Expr} {es rest : List Expr} {pos : Pos} {f fa fb : DEnv → M D} {t u : DEnv → M Bool} {fs : DEnv → M (List D)}

/-! ### names, constants -/
theorem se_var (i : Nat) {x : Str} (hN : X.N[i]? = some x := by rfl) (hv : Vis X.env.scope x := by first | exact Or.inl rfl | exact Or.inr (Or.inl rfl) | exact Or.inr (Or.inr rfl)) (hd : (x == ("__debug__" : Str)) = false := by decide)
    (hcd : (x == ("__classdict__" : Str)) = false := by decide) : SE X P (.Name x pos) (eVar i) := ⟨fun W _ => pe_imp (pe_var hN hv hd hcd) fun σ H Q h => by
  obtain ⟨g, ρ, b, hP, S, w⟩ := h
  unfold eVar gtE at w
  cases e : ρ[i]? with
  | none => rw [e] at w; exact w.elim
  | some o =>
    cases o with
    | none => rw [e] at w; exact w.elim
    | some d =>
      rw [e] at w
      obtain ⟨v, h1, h2⟩ := S.val i d e
      exact ⟨v, h1, w v H Ex1.refl S.box h2⟩⟩
theorem se_c {v : V} {d : D} (h : PE X e (tC v)) (r : ∀ (g : Gh) (H : Hp), g.P = P → Rep g.P g.O g.bx H d v) : SE X P e (eC d) := ⟨fun W _ => pe_imp h fun σ H Q hh => by
  obtain ⟨g, ρ, b, hP, S, w⟩ := hh
  exact w v H Ex1.refl S.box (.rep (r g H hP))⟩
theorem se_int {i : Int} {j} : SE X P (.Constant (.int i) j pos) (eC (.int i)) := se_c pe_int fun _ _ _ => .int i
theorem se_bl {i : Bool} {j} : SE X P (.Constant (.bool i) j pos) (eC (.bl i)) := se_c pe_bl fun _ _ _ => .bl i
theorem se_non {j} : SE X P (.Constant .none j pos) (eC .non) := se_c pe_non fun _ _ _ => .non
theorem se_str {i : Str} {j} : SE X P (.Constant (.str i) j pos) (eC (.str i)) := se_c pe_str fun _ _ _ => .str i
/-- a module's whole number -/
theorem se_gint {x : Str} {i : Int} {w : Tok} (hg : Gl X x) (hm : X.mg x = some (.int i w)) (hd : (x == ("__debug__" : Str)) = false := by decide) : SE X P (.Name x pos) (eC (.int i)) := se_c (pe_glob (v := .int i) hg hm ⟨w, rfl⟩ hd) fun _ _ _ => .int i
/-- a def as a value -/
theorem se_fn {x : Str} {i : Nat} (hg : Gl X x) (hm : X.mg x = some (.ref (P.fa i))) (hd : (x == ("__debug__" : Str)) = false := by decide) : SE X P (.Name x pos) (eC (.fn i)) := se_c (pe_glob (v := .ref (P.fa i)) hg hm rfl hd) fun g _ hP => by
  rw [← hP]
  exact .fn i

/-! ### operators -/
/-- the value's operation r means o -/
def OpS (P : Px) (r : R2) (o : D → D → M D) : Prop := ∀ (g : Gh) (W : WX) (σ : St) (H : Hp) (Q : VK) (x y : V) (d d' : D) (b : Bx), g.P = P → BoxOk g b H → (∀ a, g.O a → H a ≠ none) → RepT g H d x → RepT g H d' y → wpG g W σ (RepT g) H (o d d' b) Q → r x y H Q
theorem rE_two {W : WX} {o : D → D → M D} {σ : St} {H : Hp} {Q : VK} (h : rE P W (eBin o fa fb) σ H Q) : rE P W fa σ H fun x H1 => rE P W fb σ H1 fun y H2 => ∃ g b d d', g.P = P ∧ BoxOk g b H2 ∧ (∀ a, g.O a → H2 a ≠ none) ∧ RepT g H2 d x ∧ RepT g H2 d' y ∧ wpG g W σ (RepT g) H2 (o d d' b) Q := by
  obtain ⟨g, ρ, b, hP, S, w⟩ := h
  refine ⟨g, ρ, b, hP, S, (wpG.bind (R1 := RepT g) w).imp fun x H1 ⟨d, b1, e1, B1, r1, w1⟩ => ?_⟩
  have S1 := S.mono e1 B1
  refine ⟨g, ρ, b1, hP, S1, (wpG.bind (R1 := RepT g) w1).imp fun y H2 ⟨d', b2, e2, B2, r2, w2⟩ => ?_⟩
  exact ⟨g, b2, d, d', hP, B2, (S1.mono e2 B2).trk, r1.mono S1.box.bxl e2, r2, w2⟩
theorem se_bin {op : Operator} {r : R2} {o : D → D → M D} (ho : OpR X (binaryOp op) r) (os : OpS P r o) (ha : SE X P a fa) (hb : SE X P b fb) : SE X P (.BinOp a op b pos) (eBin o fa fb) := ⟨fun W tk =>
  pe_imp (pe_op ho (ha.pe W tk) (hb.pe W tk)) fun σ H Q h => by
    obtain ⟨g, ρ, b, hP, S, w⟩ := rE_two h
    exact ⟨g, ρ, b, hP, S, w.imp fun x H1 ⟨g1, ρ1, b1, hP1, S1, w1⟩ => ⟨g1, ρ1, b1, hP1, S1, w1.imp fun y H2 ⟨g2, b2, d, d', hP2, B2, T2, r1, r2, w2⟩ => os g2 W σ H2 Q x y d d' b2 hP2 B2 T2 r1 r2 w2⟩⟩⟩
theorem se_cmp {op : CmpOp} {r : R2} {o : D → D → M D} (ho : OpR X (compareOp op) r) (os : OpS P r o) (ha : SE X P a fa) (hb : SE X P b fb) (hm : behindInMarks op b = false) : SE X P (.Compare a [op] [b] pos) (eBin o fa fb) := ⟨fun W tk =>
  pe_imp (pe_cmpR ho (ha.pe W tk) (hb.pe W tk) hm) fun σ H Q h => by
    obtain ⟨g, ρ, b, hP, S, w⟩ := rE_two h
    exact ⟨g, ρ, b, hP, S, w.imp fun x H1 ⟨g1, ρ1, b1, hP1, S1, w1⟩ => ⟨g1, ρ1, b1, hP1, S1, w1.imp fun y H2 ⟨g2, b2, d, d', hP2, B2, T2, r1, r2, w2⟩ => os g2 W σ H2 Q x y d d' b2 hP2 B2 T2 r1 r2 w2⟩⟩⟩
theorem rT_of {W : WX} {o : D → D → M D} {σ : St} {H : Hp} {Q : Bool → Hp → Prop} (h : rT P W (tB (eBin o fa fb)) σ H Q) : rE P W (eBin o fa fb) σ H fun v H1 => ∃ k, v = .bl k ∧ Q k H1 := by
  obtain ⟨g, ρ, b, hP, S, w⟩ := h
  refine ⟨g, ρ, b, hP, S, (wpG.bind (R1 := RepT g) w).imp fun x H1 ⟨d, b1, e1, B1, r1, w1⟩ => ?_⟩
  cases r1 with
  | rep h =>
    cases h with
    | bl c => exact ⟨c, rfl, w1 c H1 Ex1.refl B1 rfl⟩
    | _ => exact w1.elim
  | own => exact w1.elim
theorem st_cmp {op : CmpOp} {r : R2} {o : D → D → M D} (ho : OpR X (compareOp op) r) (os : OpS P r o) (ha : SE X P a fa) (hb : SE X P b fb) (hm : behindInMarks op b = false) : STt X P (.Compare a [op] [b] pos) (tB (eBin o fa fb)) := ⟨fun W tk =>
  pt_imp (pt_cmpR ho (ha.pe W tk) (hb.pe W tk) hm) fun σ H Q h => by
    obtain ⟨g, ρ, b, hP, S, w⟩ := rE_two (rT_of h)
    exact ⟨g, ρ, b, hP, S, w.imp fun x H1 ⟨g1, ρ1, b1, hP1, S1, w1⟩ => ⟨g1, ρ1, b1, hP1, S1, w1.imp fun y H2 ⟨g2, b2, d, d', hP2, B2, T2, r1, r2, w2⟩ => os g2 W σ H2 _ x y d d' b2 hP2 B2 T2 r1 r2 w2⟩⟩⟩
theorem wpG_ok {α β : Type} {g : Gh} {W : WX} {σ : St} {R : Hp → α → β → Prop} {H : Hp} {x : α} {b : Bx} {Q : β → Hp → Prop} {v : β} (w : wpG g W σ R H ((pure x : M α) b) Q) (B : BoxOk g b H) (r : R H x v) : Q v H := w v H Ex1.refl B r
/-- two ints -/
theorem os_int {C : Int → Int → Prop} {k : Int → Int → V} {o : D → D → M D} (h : ∀ (g : Gh) (W : WX) (σ : St) (H : Hp) (Q : VK) (d d' : D) (b : Bx), g.P = P → BoxOk g b H → wpG g W σ (RepT g) H (o d d' b) Q → ∃ i j, d = .int i ∧ d' = .int j ∧ C i j ∧ Q (k i j) H) : OpS P (rI C k) o :=
  fun g W σ H Q x y d d' b hP B T r1 r2 w => by
    obtain ⟨i, j, rfl, rfl, c, q⟩ := h g W σ H Q d d' b hP B w
    cases r1 with
    | rep r1 =>
      cases r1
      cases r2 with
      | rep r2 =>
        cases r2
        exact ⟨i, j, rfl, rfl, c, q⟩
theorem os_int0 {k : Int → Int → V} {o : D → D → M D} (h : ∀ (g : Gh) (W : WX) (σ : St) (H : Hp) (Q : VK) (d d' : D) (b : Bx), g.P = P → BoxOk g b H → wpG g W σ (RepT g) H (o d d' b) Q → ∃ i j, d = .int i ∧ d' = .int j ∧ Q (k i j) H) : OpS P (rI0 k) o :=
  fun g W σ H Q x y d d' b hP B T r1 r2 w => by
    obtain ⟨i, j, rfl, rfl, q⟩ := h g W σ H Q d d' b hP B w
    cases r1 with
    | rep r1 =>
      cases r1
      cases r2 with
      | rep r2 =>
        cases r2
        exact ⟨i, j, rfl, rfl, q⟩
theorem os_sub : OpS P (rI0 fun i j => .int (i - j)) subD := os_int0 fun g W σ H Q d d' b hP B w => by
  cases d <;> cases d' <;> first | exact w.elim | skip
  exact ⟨_, _, rfl, rfl, wpG_ok w B (.rep (.int _))⟩
theorem os_cmpI {p : Int → Int → Bool} : OpS P (rI0 fun i j => .bl (p i j)) (cmpI p) := os_int0 fun g W σ H Q d d' b hP B w => by
  cases d <;> cases d' <;> first | exact w.elim | skip
  exact ⟨_, _, rfl, rfl, wpG_ok w B (.rep (.bl _))⟩
def CMulA (i j : Int) : Prop := CMul i j ∨ CMulW i j
theorem op_mulA : OpR X (binaryOp .Mult) (rI CMulA fun i j => .int (i * j)) := opI fun _ _ _ _ _ _ _ hc q => PyProof.Rows.mul_int q (hc.elim (fun h => h.ok) fun h => h.ok)
theorem mulOk_ok {i j : Int} (h : mulOk i j = true) : CMulA i j := by
  unfold mulOk at h
  rw [Bool.or_eq_true, Bool.or_eq_true, Bool.and_eq_true, decide_eq_true_iff, decide_eq_true_iff, decide_eq_true_iff, decide_eq_true_iff] at h
  rcases h with (h | h) | ⟨h1, h2⟩
  · exact .inl (.inl (by omega))
  · exact .inl (.inr (by omega))
  · exact .inr (wide_mul h1 h2 (by decide) (by decide) (by decide))
theorem os_mul : OpS P (rI CMulA fun i j => .int (i * j)) mulD := os_int fun g W σ H Q d d' b hP B w => by
  cases d <;> cases d' <;> first | exact w.elim | skip
  rename_i i j
  obtain ⟨h, w⟩ := wp_ite (c := mulOk i j = true) (m := pure (D.int (i * j))) w
  exact ⟨_, _, rfl, rfl, mulOk_ok h, wpG_ok w B (.rep (.int _))⟩
theorem op_fdivA : OpR X (binaryOp .FloorDiv) (rI (fun _ j => j ≠ 0 ∧ j.natAbs < 2 ^ 9000) fun i j => .int (i.fdiv j)) := opI fun i j _ _ _ _ _ hc q => PyProof.Rows.floordiv_int hc.1 q (.inl (PyProof.noPylong_of_log2 (PySem.Flt.log2_lt_of (by decide) hc.2)))
theorem os_fdiv : OpS P (rI (fun _ j => j ≠ 0 ∧ j.natAbs < 2 ^ 9000) fun i j => .int (i.fdiv j)) fdivD := os_int fun g W σ H Q d d' b hP B w => by
  cases d <;> cases d' <;> first | exact w.elim | skip
  rename_i i j
  obtain ⟨h, w⟩ := wp_ite (c := (decide (j ≠ 0) && decide (j.natAbs < 2 ^ 9000)) = true) (m := pure (D.int (i.fdiv j))) w
  rw [Bool.and_eq_true, decide_eq_true_iff, decide_eq_true_iff] at h
  exact ⟨_, _, rfl, rfl, h, wpG_ok w B (.rep (.int _))⟩
theorem os_mod : OpS P (rI (fun _ j => j ≠ 0) fun i j => .int (i.fmod j)) modD := os_int fun g W σ H Q d d' b hP B w => by
  cases d <;> cases d' <;> first | exact w.elim | skip
  rename_i i j
  obtain ⟨h, w⟩ := wp_ite (c := j ≠ 0) (m := pure (D.int (i.fmod j))) w
  exact ⟨_, _, rfl, rfl, h, wpG_ok w B (.rep (.int _))⟩
theorem os_pow : OpS P (rI CPow fun i j => .int (i ^ j.toNat)) powD := os_int fun g W σ H Q d d' b hP B w => by
  cases d <;> cases d' <;> first | exact w.elim | skip
  rename_i i j
  obtain ⟨h, w⟩ := wp_ite (c := 0 ≤ j ∧ j ≤ 1000 ∧ i.natAbs < 2 ^ 64) (m := pure (D.int (i ^ j.toNat))) w
  exact ⟨_, _, rfl, rfl, ⟨h.1, by omega, h.2.2⟩, wpG_ok w B (.rep (.int _))⟩
/-- x + y, of ints, tuples, lists, texts -/
def rAddA (K : PySem.W.Frag) : R2 := fun x y H Q => (((rI0 fun i j => .int (i + j)) x y H Q ∨ rCatA K x y H Q) ∨ rCat x y H Q) ∨ (∃ i j, x = .str i ∧ y = .str j ∧ i.length + j.length ≤ sizeLine ∧ Q (.str (i ++ j)) H)
theorem op_addA : OpR X (binaryOp .Add) (rAddA X.K) := ((op_add.or op_catA).or op_cat).or op_add_str
theorem os_add : OpS P (rAddA P.K) addD := fun g W σ H Q x y d d' b hP B T r1 r2 w => by
  have dead : ∀ {C : Prop} {d1 d2 : D}, wpG g W σ (RepT g) H ((stuck : M D) b) Q → C := fun w => w.elim
  cases r1 with
  | own => cases r2 <;> exact w.elim
  | rep r1 =>
    cases r2 with
    | own => cases d <;> exact w.elim
    | rep r2 =>
      subst hP
      cases r1 with
      | int i =>
        cases r2 with
        | int j => exact .inl (.inl (.inl ⟨i, j, rfl, rfl, wpG_ok w B (.rep (.int _))⟩))
        | _ => exact w.elim
      | str i =>
        cases r2 with
        | str j =>
          obtain ⟨h, w⟩ := wp_ite (c := i.length + j.length ≤ 100000) (m := pure (D.str (i ++ j))) w
          exact .inr ⟨i, j, rfl, rfl, szl h, wpG_ok w B (.rep (.str _))⟩
        | _ => exact w.elim
      | @tup a xs vs h1 q1 =>
        cases r2 with
        | @tup a2 ys us h2 q2 =>
          obtain ⟨h, w⟩ := wp_ite (c := xs.length + ys.length ≤ 100000) (m := pure (D.tup (xs ++ ys))) w
          · have e1 := q1.length
            have e2 := q2.length
            refine .inl (.inl (.inr ⟨a, a2, vs, us, rfl, rfl, sqt h1, sqt h2, szl (by omega), fun z => ?_, fun _ z => ?_, fun _ _ p hp => ?_⟩))
            · subst z
              have ex : xs = [] := List.eq_nil_of_length_eq_zero e1
              subst ex
              exact wpG_ok w B (.rep (.tup h2 q2))
            · subst z
              have ex : ys = [] := List.eq_nil_of_length_eq_zero e2
              subst ex
              rw [List.append_nil] at w
              exact wpG_ok w B (.rep (.tup h1 q1))
            · exact w (.ref p) _ (Ex1.new hp) (B.new hp) (.rep (.tup upd_same ((q1.mono B.bxl (Ex1.new hp)).append (q2.mono B.bxl (Ex1.new hp)))))
        | _ => exact w.elim
      | @lst a xs vs h1 n1 q1 =>
        cases r2 with
        | @lst a2 ys us h2 n2 q2 =>
          obtain ⟨h, w⟩ := wp_ite (c := xs.length + ys.length ≤ 100000) (m := pure (D.lst (xs ++ ys))) w
          · have e1 := q1.length
            have e2 := q2.length
            refine .inl (.inr ⟨a, a2, vs, us, rfl, rfl, h1, h2, szl (by omega), fun p hp => ?_⟩)
            exact w (.ref p) _ (Ex1.new hp) (B.new hp) (.rep (.lst upd_same (fun z => T p z hp) ((q1.mono B.bxl (Ex1.new hp)).append (q2.mono B.bxl (Ex1.new hp)))))
        | _ => exact w.elim
      | _ => cases r2 <;> exact w.elim
theorem se_add (ha : SE X P a fa) (hb : SE X P b fb) (hK : X.K = P.K := by rfl) : SE X P (.BinOp a .Add b pos) (eBin addD fa fb) := se_bin (r := rAddA P.K) (by rw [← hK]; exact op_addA) os_add ha hb
theorem se_sub (ha : SE X P a fa) (hb : SE X P b fb) : SE X P (.BinOp a .Sub b pos) (eBin subD fa fb) := se_bin op_sub os_sub ha hb
theorem se_mul (ha : SE X P a fa) (hb : SE X P b fb) : SE X P (.BinOp a .Mult b pos) (eBin mulD fa fb) := se_bin op_mulA os_mul ha hb
theorem se_fdiv (ha : SE X P a fa) (hb : SE X P b fb) : SE X P (.BinOp a .FloorDiv b pos) (eBin fdivD fa fb) := se_bin op_fdivA os_fdiv ha hb
theorem se_mod (ha : SE X P a fa) (hb : SE X P b fb) : SE X P (.BinOp a .Mod b pos) (eBin modD fa fb) := se_bin op_modN os_mod ha hb
theorem se_pow (ha : SE X P a fa) (hb : SE X P b fb) : SE X P (.BinOp a .Pow b pos) (eBin powD fa fb) := se_bin op_pow os_pow ha hb
theorem se_lt (ha : SE X P a fa) (hb : SE X P b fb) : SE X P (.Compare a [.Lt] [b] pos) (eBin ltD fa fb) := se_cmp op_lt os_cmpI ha hb (nomark _)
theorem se_le (ha : SE X P a fa) (hb : SE X P b fb) : SE X P (.Compare a [.LtE] [b] pos) (eBin leD fa fb) := se_cmp op_le os_cmpI ha hb (nomark _)
theorem se_gt (ha : SE X P a fa) (hb : SE X P b fb) : SE X P (.Compare a [.Gt] [b] pos) (eBin gtD fa fb) := se_cmp op_gt os_cmpI ha hb (nomark _)
theorem se_ge (ha : SE X P a fa) (hb : SE X P b fb) : SE X P (.Compare a [.GtE] [b] pos) (eBin geD fa fb) := se_cmp op_ge os_cmpI ha hb (nomark _)
theorem st_lt (ha : SE X P a fa) (hb : SE X P b fb) : STt X P (.Compare a [.Lt] [b] pos) (tB (eBin ltD fa fb)) := st_cmp op_lt os_cmpI ha hb (nomark _)
theorem st_le (ha : SE X P a fa) (hb : SE X P b fb) : STt X P (.Compare a [.LtE] [b] pos) (tB (eBin leD fa fb)) := st_cmp op_le os_cmpI ha hb (nomark _)
theorem st_gt (ha : SE X P a fa) (hb : SE X P b fb) : STt X P (.Compare a [.Gt] [b] pos) (tB (eBin gtD fa fb)) := st_cmp op_gt os_cmpI ha hb (nomark _)
theorem st_ge (ha : SE X P a fa) (hb : SE X P b fb) : STt X P (.Compare a [.GtE] [b] pos) (tB (eBin geD fa fb)) := st_cmp op_ge os_cmpI ha hb (nomark _)
/-- one operand -/
theorem rE_one {W : WX} {o : D → M D} {σ : St} {H : Hp} {Q : VK} (h : rE P W (eUn o fa) σ H Q) : rE P W fa σ H fun x H1 => ∃ g b d, g.P = P ∧ BoxOk g b H1 ∧ (∀ a, g.O a → H1 a ≠ none) ∧ RepT g H1 d x ∧ wpG g W σ (RepT g) H1 (o d b) Q := by
  obtain ⟨g, ρ, b, hP, S, w⟩ := h
  exact ⟨g, ρ, b, hP, S, (wpG.bind (R1 := RepT g) w).imp fun x H1 ⟨d, b1, e1, B1, r1, w1⟩ => ⟨g, b1, d, hP, B1, (S.mono e1 B1).trk, r1, w1⟩⟩
theorem se_neg (ha : SE X P a fa) : SE X P (.UnaryOp .USub a pos) (eUn negD fa) := ⟨fun W tk => pe_imp (pe_un un_neg (ha.pe W tk)) fun σ H Q h => by
  obtain ⟨g, ρ, b, hP, S, w⟩ := rE_one h
  refine ⟨g, ρ, b, hP, S, w.imp fun x H1 ⟨g1, b1, d, hP1, B1, T1, r1, w1⟩ => ?_⟩
  cases r1 with
  | rep r1 =>
    cases r1 with
    | int i => exact ⟨i, rfl, wpG_ok w1 B1 (.rep (.int _))⟩
    | _ => exact w1.elim
  | own => exact w1.elim⟩
theorem isNon_rep {g : Gh} {H : Hp} {d : D} {v : V} (r : RepT g H d v) : decide (v = .non) = isNon d := by
  cases r with
  | rep r => cases r <;> rfl
  | own => rfl
theorem se_isN {j pos'} (ha : SE X P a fa) : SE X P (.Compare a [.Is] [.Constant .none j pos'] pos) (eUn isNonD fa) := ⟨fun W tk => pe_imp (pe_cmp (pc_isN (ha.pe W tk))) fun σ H Q h => by
  obtain ⟨g, ρ, b, hP, S, w⟩ := rE_one h
  refine ⟨g, ρ, b, hP, S, w.imp fun x H1 ⟨g1, b1, d, hP1, B1, T1, r1, w1⟩ => ?_⟩
  rw [isNon_rep r1]
  exact wpG_ok w1 B1 (.rep (.bl _))⟩
theorem se_notN {j pos'} (ha : SE X P a fa) : SE X P (.Compare a [.IsNot] [.Constant .none j pos'] pos) (eUn notNonD fa) := ⟨fun W tk => pe_imp (pe_cmp (pc_notN (ha.pe W tk))) fun σ H Q h => by
  obtain ⟨g, ρ, b, hP, S, w⟩ := rE_one h
  refine ⟨g, ρ, b, hP, S, w.imp fun x H1 ⟨g1, b1, d, hP1, B1, T1, r1, w1⟩ => ?_⟩
  rw [isNon_rep r1]
  exact wpG_ok w1 B1 (.rep (.bl _))⟩
theorem rE_bool {W : WX} {σ : St} {H : Hp} {Q : Bool → Hp → Prop} (h : rT P W (tB f) σ H Q) : rE P W f σ H fun v H1 => ∃ k, v = .bl k ∧ Q k H1 := by
  obtain ⟨g, ρ, b, hP, S, w⟩ := h
  refine ⟨g, ρ, b, hP, S, (wpG.bind (R1 := RepT g) w).imp fun x H1 ⟨d, b1, e1, B1, r1, w1⟩ => ?_⟩
  cases r1 with
  | rep h =>
    cases h with
    | bl c => exact ⟨c, rfl, w1 c H1 Ex1.refl B1 rfl⟩
    | _ => exact w1.elim
  | own => exact w1.elim
theorem st_isN {j pos'} (ha : SE X P a fa) : STt X P (.Compare a [.Is] [.Constant .none j pos'] pos) (tB (eUn isNonD fa)) := ⟨fun W tk => pt_imp (pt_cmp (pc_isN (ha.pe W tk))) fun σ H Q h => by
  obtain ⟨g, ρ, b, hP, S, w⟩ := rE_one (rE_bool h)
  refine ⟨g, ρ, b, hP, S, w.imp fun x H1 ⟨g1, b1, d, hP1, B1, T1, r1, w1⟩ => ?_⟩
  rw [isNon_rep r1]
  exact wpG_ok w1 B1 (.rep (.bl _))⟩
theorem st_notN {j pos'} (ha : SE X P a fa) : STt X P (.Compare a [.IsNot] [.Constant .none j pos'] pos) (tB (eUn notNonD fa)) := ⟨fun W tk => pt_imp (pt_cmp (pc_notN (ha.pe W tk))) fun σ H Q h => by
  obtain ⟨g, ρ, b, hP, S, w⟩ := rE_one (rE_bool h)
  refine ⟨g, ρ, b, hP, S, w.imp fun x H1 ⟨g1, b1, d, hP1, B1, T1, r1, w1⟩ => ?_⟩
  rw [isNon_rep r1]
  exact wpG_ok w1 B1 (.rep (.bl _))⟩

/-! ### tests -/
/-- an expression whose value is True or False, as a test -/
theorem st_val (ha : SE X P a fa) (he : ∀ whole, isTrue a X.env whole = (do let v ← whole; standAt a.pos; holding [v] (truthy v)) := by intro _; rfl) : STt X P a (tB fa) := ⟨fun W tk => pt_imp (pt_val (ha.pe W tk) he) fun σ H Q h => rE_bool h⟩
/-- .. by its truth -/
theorem st_tr (ha : SE X P a fa) (hK : X.K = P.K := by rfl) (he : ∀ whole, isTrue a X.env whole = (do let v ← whole; standAt a.pos; holding [v] (truthy v)) := by intro _; rfl) : STt X P a (tTr fa) := ⟨fun W tk => pt_imp (pt_truth (ha.pe W tk) he) fun σ H Q h => by
  obtain ⟨g, ρ, b, hP, S, w⟩ := h
  refine ⟨g, ρ, b, hP, S, (wpG.bind (R1 := RepT g) w).imp fun x H1 ⟨d, b1, e1, B1, r1, w1⟩ => ?_⟩
  rw [hK]
  subst hP
  have emp : ∀ {O : Addr → Prop} {ds : List D} {vs : List V}, Reps g.P O g.bx H1 ds vs → (!ds.isEmpty) = !vs.isEmpty := fun r => by cases r <;> rfl
  cases r1 with
  | rep h =>
    cases h with
    | non => exact ⟨false, rfl, wpG_ok w1 B1 rfl⟩
    | bl c => exact ⟨c, rfl, wpG_ok w1 B1 rfl⟩
    | int i => exact ⟨i != 0, rfl, wpG_ok w1 B1 rfl⟩
    | @tup a xs vs h1 q1 => exact ⟨!vs.isEmpty, .inr (.inl ⟨vs, sqt h1, rfl⟩), by rw [← emp q1]; exact wpG_ok w1 B1 rfl⟩
    | @lst a xs vs h1 n1 q1 => exact ⟨!vs.isEmpty, .inl ⟨vs, .inl (.inl h1), rfl⟩, by rw [← emp q1]; exact wpG_ok w1 B1 rfl⟩
    | _ => exact w1.elim
  | @own xs vs a h o n nb r => exact ⟨!vs.isEmpty, .inl ⟨vs, .inl (.inl h), rfl⟩, by rw [← emp r]; exact wpG_ok w1 B1 rfl⟩⟩
end
end Pu

set_option Elab.async false
set_option linter.all false
set_option maxRecDepth 100000
set_option maxHeartbeats 4000000
/-! The pure layer, part C: and, or, displays, items, slices, len, equality -/
namespace Pu
open PySem L2
section
variable {X : Cx} {P : Px} {e a b c : Expr} {es rest : List Expr} {pos : Pos} {f fa fb fc : DEnv → M D} {t u : DEnv → M Bool} {fs : DEnv → M (List D)}

/-! ### and, or, not, if -/
theorem bool_rep {g : Gh} {W : WX} {σ : St} {H : Hp} {d : D} {v : V} {bb : Bx} {γ δ : Type} {R : Hp → γ → δ → Prop} {k : Bool → M γ} {Q : δ → Hp → Prop} (r : RepT g H d v) (w : wpG g W σ R H ((boolD d >>= k) bb) Q) :
    ∃ c, d = .bl c ∧ v = .bl c ∧ wpG g W σ R H (k c bb) Q := by
  cases r with
  | rep h =>
    cases h with
    | bl c => exact ⟨c, rfl, rfl, w⟩
    | _ => exact w.elim
  | own => exact w.elim
theorem se_one {op} (h : SE X P a f) : SE X P (.BoolOp op [a] pos) f := ⟨fun W tk => pe_one (h.pe W tk)⟩
theorem se_and (ha : SE X P a fa) (hb : SE X P (.BoolOp .And (b :: rest) pos) fb) : SE X P (.BoolOp .And (a :: b :: rest) pos) (eAnd fa fb) := ⟨fun W tk => pe_imp (pe_and (ha.pe W tk) (hb.pe W tk)) fun σ H Q h => by
  obtain ⟨g, ρ, b, hP, S, w⟩ := h
  refine ⟨g, ρ, b, hP, S, (wpG.bind (R1 := RepT g) w).imp fun x H1 ⟨d, b1, e1, B1, r1, w1⟩ => ?_⟩
  obtain ⟨c, rfl, rfl, w2⟩ := bool_rep r1 w1
  refine ⟨c, rfl, ?_⟩
  cases c with
  | true => exact iteT ⟨g, ρ, b1, hP, S.mono e1 B1, w2⟩
  | false => exact iteF (wpG_ok w2 B1 (.rep (.bl _)))⟩
theorem se_or (ha : SE X P a fa) (hb : SE X P (.BoolOp .Or (b :: rest) pos) fb) : SE X P (.BoolOp .Or (a :: b :: rest) pos) (eOr fa fb) := ⟨fun W tk => pe_imp (pe_or (ha.pe W tk) (hb.pe W tk)) fun σ H Q h => by
  obtain ⟨g, ρ, b, hP, S, w⟩ := h
  refine ⟨g, ρ, b, hP, S, (wpG.bind (R1 := RepT g) w).imp fun x H1 ⟨d, b1, e1, B1, r1, w1⟩ => ?_⟩
  obtain ⟨c, rfl, rfl, w2⟩ := bool_rep r1 w1
  refine ⟨c, rfl, ?_⟩
  cases c with
  | true => exact iteT (wpG_ok w2 B1 (.rep (.bl _)))
  | false => exact iteF ⟨g, ρ, b1, hP, S.mono e1 B1, w2⟩⟩
theorem se_not (ha : SE X P a fa) : SE X P (.UnaryOp .Not a pos) (eNot fa) := ⟨fun W tk => pe_imp (pe_not (ha.pe W tk)) fun σ H Q h => by
  obtain ⟨g, ρ, b, hP, S, w⟩ := h
  refine ⟨g, ρ, b, hP, S, (wpG.bind (R1 := RepT g) w).imp fun x H1 ⟨d, b1, e1, B1, r1, w1⟩ => ?_⟩
  obtain ⟨c, rfl, rfl, w2⟩ := bool_rep r1 w1
  exact ⟨c, rfl, wpG_ok w2 B1 (.rep (.bl _))⟩⟩
/-- a test that is an and, an or (whatever its 'whole' is) -/
structure SWt (X : Cx) (P : Px) (e : Expr) (f : DEnv → M Bool) : Prop where
  pw : ∀ W, Takes X W → PW X e (rT P W f)
theorem pw_imp {t t' : TT} (h : PW X e t) (k : ∀ σ H Q, t' σ H Q → t σ H Q) : PW X e t' := ⟨fun wh pins s σ H Q I q => h.run wh pins s σ H Q I (k σ H Q q)⟩
theorem SWt.st (h : SWt X P e t) : STt X P e t := ⟨fun W tk => (h.pw W tk).pt⟩
theorem sw_and1 (h : STt X P a t) : SWt X P (.BoolOp .And [a] pos) t := ⟨fun W tk => pw_and1 (h.pt W tk)⟩
theorem sw_or1 (h : STt X P a t) : SWt X P (.BoolOp .Or [a] pos) t := ⟨fun W tk => pw_or1 (h.pt W tk)⟩
theorem sw_and (ha : STt X P a t) (hb : SWt X P (.BoolOp .And (b :: rest) pos) u) : SWt X P (.BoolOp .And (a :: b :: rest) pos) (tAndD t u) := ⟨fun W tk => pw_imp (pw_and (ha.pt W tk) (hb.pw W tk)) fun σ H Q h => by
  obtain ⟨g, ρ, b, hP, S, w⟩ := h
  refine ⟨g, ρ, b, hP, S, (wpG.bind (R1 := fun _ a v => v = a) w).imp fun x H1 ⟨d, b1, e1, B1, r1, w1⟩ => ?_⟩
  subst r1
  cases x with
  | true => exact iteT ⟨g, ρ, b1, hP, S.mono e1 B1, w1⟩
  | false => exact iteF (wpG_ok w1 B1 rfl)⟩
theorem sw_or (ha : STt X P a t) (hb : SWt X P (.BoolOp .Or (b :: rest) pos) u) : SWt X P (.BoolOp .Or (a :: b :: rest) pos) (tOrD t u) := ⟨fun W tk => pw_imp (pw_or (ha.pt W tk) (hb.pw W tk)) fun σ H Q h => by
  obtain ⟨g, ρ, b, hP, S, w⟩ := h
  refine ⟨g, ρ, b, hP, S, (wpG.bind (R1 := fun _ a v => v = a) w).imp fun x H1 ⟨d, b1, e1, B1, r1, w1⟩ => ?_⟩
  subst r1
  cases x with
  | true => exact iteT (wpG_ok w1 B1 rfl)
  | false => exact iteF ⟨g, ρ, b1, hP, S.mono e1 B1, w1⟩⟩
theorem st_not (ha : STt X P a t) : STt X P (.UnaryOp .Not a pos) (tNotD t) := ⟨fun W tk => pt_imp (pt_not (ha.pt W tk)) fun σ H Q h => by
  obtain ⟨g, ρ, b, hP, S, w⟩ := h
  refine ⟨g, ρ, b, hP, S, (wpG.bind (R1 := fun _ a v => v = a) w).imp fun x H1 ⟨d, b1, e1, B1, r1, w1⟩ => ?_⟩
  subst r1
  exact wpG_ok w1 B1 rfl⟩
theorem se_if (hc : STt X P c t) (ha : SE X P a fa) (hb : SE X P b fb) : SE X P (.IfExp c a b pos) (eIf t fa fb) := ⟨fun W tk => pe_imp (pe_ifExp (hc.pt W tk) (ha.pe W tk) (hb.pe W tk)) fun σ H Q h => by
  obtain ⟨g, ρ, b, hP, S, w⟩ := h
  refine ⟨g, ρ, b, hP, S, (wpG.bind (R1 := fun _ a v => v = a) w).imp fun x H1 ⟨d, b1, e1, B1, r1, w1⟩ => ?_⟩
  subst r1
  cases x with
  | true => exact iteT ⟨g, ρ, b1, hP, S.mono e1 B1, w1⟩
  | false => exact iteF ⟨g, ρ, b1, hP, S.mono e1 B1, w1⟩⟩
/-- a or b, by truth -/
def eOrT (f g : DEnv → M D) : DEnv → M D := fun ρ => f ρ >>= fun d => truthD d >>= fun c => if c = true then pure d else g ρ
theorem truth_rep {g : Gh} {W : WX} {σ : St} {H : Hp} {d : D} {v : V} {bb : Bx} {γ δ : Type} {R : Hp → γ → δ → Prop} {k : Bool → M γ} {Q : δ → Hp → Prop} (r : RepT g H d v) (w : wpG g W σ R H ((truthD d >>= k) bb) Q) :
    ∃ c, TruV g.P.K v H c ∧ wpG g W σ R H (k c bb) Q := by
  have emp : ∀ {O : Addr → Prop} {ds : List D} {vs : List V}, Reps g.P O g.bx H ds vs → (!ds.isEmpty) = !vs.isEmpty := fun r => by cases r <;> rfl
  cases r with
  | rep h =>
    cases h with
    | non => exact ⟨false, rfl, w⟩
    | bl c => exact ⟨c, rfl, w⟩
    | int i => exact ⟨i != 0, rfl, w⟩
    | @tup a xs vs h1 q1 => exact ⟨!vs.isEmpty, .inr (.inl ⟨vs, sqt h1, rfl⟩), by rw [← emp q1]; exact w⟩
    | @lst a xs vs h1 n1 q1 => exact ⟨!vs.isEmpty, .inl ⟨vs, .inl (.inl h1), rfl⟩, by rw [← emp q1]; exact w⟩
    | _ => exact w.elim
  | @own xs vs a h o n nb r => exact ⟨!vs.isEmpty, .inl ⟨vs, .inl (.inl h), rfl⟩, by rw [← emp r]; exact w⟩
theorem se_orT (ha : SE X P a fa) (hb : SE X P (.BoolOp .Or (b :: rest) pos) fb) (hK : X.K = P.K := by rfl) : SE X P (.BoolOp .Or (a :: b :: rest) pos) (eOrT fa fb) := ⟨fun W tk => pe_imp (pe_orT (ha.pe W tk) (hb.pe W tk)) fun σ H Q h => by
  obtain ⟨g, ρ, b, hP, S, w⟩ := h
  refine ⟨g, ρ, b, hP, S, (wpG.bind (R1 := RepT g) w).imp fun x H1 ⟨d, b1, e1, B1, r1, w1⟩ => ?_⟩
  obtain ⟨c, ht, w2⟩ := truth_rep r1 w1
  rw [hP, ← hK] at ht
  refine ⟨c, ht, ?_⟩
  cases c with
  | true => exact iteT (wpG_ok w2 B1 r1)
  | false => exact iteF ⟨g, ρ, b1, hP, S.mono e1 B1, w2⟩⟩

/-! ### displays -/
theorem sa_nil : SA X P [] aNil := ⟨fun W _ => pa_imp pa_nil fun σ H Q h => by
  obtain ⟨g, ρ, b, hP, S, w⟩ := h
  exact wpG_ok w S.box .nil⟩
theorem sa_cons (ha : SE X P e f) (hr : SA X P es fs) (hs : starEach (e :: es) X.env = (false, eval e X.env) :: starEach es X.env := by rfl) : SA X P (e :: es) (aCons f fs) := ⟨fun W tk => pa_imp (pa_cons (ha.pe W tk) (hr.pa W tk) hs) fun σ H Q h => by
  obtain ⟨g, ρ, b, hP, S, w⟩ := h
  refine ⟨g, ρ, b, hP, S, (wpG.bind (R1 := RepT g) w).imp fun x H1 ⟨d, b1, e1, B1, r1, w1⟩ => ?_⟩
  obtain ⟨r1', w1⟩ := chk_rep r1 w1
  have S1 := S.mono e1 B1
  refine ⟨g, ρ, b1, hP, S1, (wpG.bind (R1 := RA g) w1).imp fun xs H2 ⟨ds, b2, e2, B2, r2, w2⟩ => ?_⟩
  exact wpG_ok w2 B2 (.cons (r1'.mono S1.box.bxl e2) r2)⟩
theorem se_tup {k} (h : SA X P es fs) : SE X P (.Tuple es k pos) (eTup fs) := ⟨fun W tk => pe_imp (pe_tup (h.pa W tk)) fun σ H Q h => by
  obtain ⟨g, ρ, b, hP, S, w⟩ := h
  refine ⟨g, ρ, b, hP, S, (wpG.bind (R1 := RA g) w).imp fun xs H1 ⟨ds, b1, e1, B1, r1, w1⟩ => ?_⟩
  obtain ⟨hl, w1⟩ := wp_ite (c := ds.length ≤ 100000) (m := pure (D.tup ds)) w1
  exact ⟨by rw [← r1.length]; exact szl hl, fun p hp => w1 (.ref p) _ (Ex1.new hp) (B1.new hp) (.rep (.tup upd_same (r1.mono B1.bxl (Ex1.new hp))))⟩⟩
theorem sf_lst (h : SA X P es fs) : SF X P (.List es pos) (fLst fs) := ⟨fun W tk => pe_imp (pe_lst (h.pa W tk)) fun σ H Q h => by
  obtain ⟨g, ρ, b, hP, S, w⟩ := h
  refine ⟨g, ρ, b, hP, S, (wpG.bind (R1 := RA g) w).imp fun xs H1 ⟨ds, b1, e1, B1, r1, w1⟩ => ?_⟩
  obtain ⟨hl, w1⟩ := wp_ite (c := ds.length ≤ 100000) (m := pure ds) w1
  refine ⟨by rw [← r1.length]; exact szl hl, fun p hp => ?_⟩
  have h0 : H p = none := by
    cases q : H p with
    | none => rfl
    | some o =>
      by_cases z : g.bx = some p
      · obtain ⟨_, vs, q2⟩ := B1.bxl p z
        rw [hp] at q2; cases q2
      · have q2 := e1 p o z q
        rw [hp] at q2; cases q2
  exact w1 (.ref p) _ (Ex1.new hp) (B1.new hp) ⟨p, xs, rfl, h0, upd_same, (r1.own (O' := fun a => g.O a ∨ a = p) fun a ha => ha.elim .inl fun z => .inr (by rw [z]; exact hp)).mono (fun a ha => ⟨.inl (B1.bxl a ha).1, (B1.bxl a ha).2⟩) (Ex1.new hp)⟩⟩
theorem f_read {W : WX} {σ : St} {H : Hp} {Q : VK} (h : rE P W (eF fs) σ H Q) : rF P W fs σ H Q := by
  obtain ⟨g, ρ, b, hP, S, w⟩ := h
  refine ⟨g, ρ, b, hP, S, (wpG.bind (R1 := RF g H) w).imp fun v H1 ⟨ds, b1, e1, B1, r1, w1⟩ => ?_⟩
  obtain ⟨p, vs, rfl, h0, h1, r⟩ := r1
  exact wpG_ok w1 B1 (.rep (.lst h1 (fun z => S.trk p z h0) (r.own fun a ha => .inl (.inl ha))))
/-- a new list as a value -/
theorem se_f (h : SF X P e fs) : SE X P e (eF fs) := ⟨fun W tk => pe_imp (h.pe W tk) fun σ H Q h => f_read h⟩

/-! ### items -/
def ixD : D → D → M D
  | .tup xs, .int i => match atI xs i with
    | some d => pure d
    | none => stuck
  | .lst xs, .int i => match atI xs i with
    | some d => pure d
    | none => stuck
  | .fro xs, .int i => match atI xs i with
    | some d => pure d
    | none => stuck
  | .own xs, .int i => match atI xs i with
    | some d => pure d
    | none => stuck
  | .box, .int i => fun b => match atI b i with
    | some d => .ok (.int d) b
    | none => .stk
  | _, _ => stuck
theorem atI_rep {P : Px} {O : Addr → Prop} {bx : Option Addr} {H : Hp} {ds : List D} {vs : List V} (r : Reps P O bx H ds vs) {i : Int} {d : D} (h : atI ds i = some d) : ∃ v, atI vs i = some v ∧ Rep P O bx H d v := by
  have hl := r.length
  unfold atI at h ⊢
  rw [← hl]
  cases e : ixN ds.length i with
  | none => rw [e] at h; cases h
  | some j =>
    rw [e] at h
    exact r.get h
def rIxA (K : PySem.W.Frag) : R2 := fun x y H Q => rIxL K x y H Q ∨ rIxT K x y H Q
theorem os_ix : OpS P (rIxA P.K) ixD := fun g W σ H Q x y d d' b hP B T r1 r2 w => by
  subst hP
  have key : ∀ {xs : List D} {vs : List V} {i : Int}, Reps g.P g.O g.bx H xs vs → wpG g W σ (RepT g) H ((match atI xs i with
    | some d => pure d
    | none => stuck : M D) b) Q → ∃ v, atI vs i = some v ∧ Q v H := fun {xs vs i} r w => by
    cases e : atI xs i with
    | none => rw [e] at w; exact w.elim
    | some d =>
      rw [e] at w
      obtain ⟨v, h1, h2⟩ := atI_rep r e
      exact ⟨v, h1, wpG_ok w B (.rep h2)⟩
  cases r2 with
  | own => cases d <;> exact w.elim
  | rep r2 =>
    cases r2 with
    | int i =>
      cases r1 with
      | rep r1 =>
        cases r1 with
        | @tup a xs vs h1 q1 =>
          obtain ⟨v, hv, q⟩ := key q1 w
          exact .inr ⟨a, vs, i, v, rfl, rfl, sqt h1, hv, q⟩
        | @lst a xs vs h1 n1 q1 =>
          obtain ⟨v, hv, q⟩ := key q1 w
          exact .inl ⟨a, vs, i, v, rfl, rfl, .inl (.inl h1), hv, q⟩
        | @fro a xs vs h1 q1 =>
          obtain ⟨v, hv, q⟩ := key q1 w
          exact .inl ⟨a, vs, i, v, rfl, rfl, h1.elim (fun h => .inl (.inr h)) (fun h => h H), hv, q⟩
        | @box a h =>
          have B' := B
          unfold BoxOk at B'
          rw [h] at B'
          obtain ⟨o, hv⟩ := B'
          have w' : wpG g W σ (RepT g) H (match atI b i with
            | some d => .ok (.int d) b
            | none => .stk) Q := w
          cases e : atI b i with
          | none => rw [e] at w'; exact w'.elim
          | some d =>
            rw [e] at w'
            have h1 : atI (b.map V.int) i = some (.int d) := by
              unfold atI at e ⊢
              rw [List.length_map]
              cases e2 : ixN b.length i with
              | none => rw [e2] at e; cases e
              | some j =>
                rw [e2] at e
                have e : b[j]? = some d := e
                show (b.map V.int)[j]? = some (.int d)
                rw [List.getElem?_map, e]
                rfl
            exact .inl ⟨a, _, i, _, rfl, rfl, .inl (.inl hv), h1, w' _ H Ex1.refl B (.rep (.int d))⟩
        | _ => exact w.elim
      | @own xs vs a h o n nb r =>
        obtain ⟨v, hv, q⟩ := key r w
        exact .inl ⟨a, vs, i, v, rfl, rfl, .inl (.inl h), hv, q⟩
    | _ => cases d <;> exact w.elim
theorem se_ix (ha : SE X P a fa) (hb : SE X P b fb) (hs : PlainIx b := by exact fun _ _ => rfl) (hK : X.K = P.K := by rfl) : SE X P (.Subscript a b pos) (eBin ixD fa fb) := ⟨fun W tk =>
  pe_imp (pe_ix (ix_list.or ix_tup) (ha.pe W tk) (hb.pe W tk) hs) fun σ H Q h => by
    obtain ⟨g, ρ, b, hP, S, w⟩ := rE_two h
    exact ⟨g, ρ, b, hP, S, w.imp fun x H1 ⟨g1, ρ1, b1, hP1, S1, w1⟩ => ⟨g1, ρ1, b1, hP1, S1, w1.imp fun y H2 ⟨g2, b2, d, d', hP2, B2, T2, r1, r2, w2⟩ => by
      have z := os_ix g2 W σ H2 Q x y d d' b2 hP2 B2 T2 r1 r2 w2
      rw [← hK] at z
      exact z⟩⟩⟩

/-! ### slices -/
def cutD (xs : List D) (lo hi : Option Int) : List D := (xs.drop (HT.sIx xs.length 0 lo)).take (HT.sIx xs.length xs.length hi - HT.sIx xs.length 0 lo)
theorem cut_rep {P : Px} {O : Addr → Prop} {bx : Option Addr} {H : Hp} {ds : List D} {vs : List V} (r : Reps P O bx H ds vs) (lo hi : Option Int) : Reps P O bx H (cutD ds lo hi) (cutV vs lo hi) := by
  unfold cutD cutV
  rw [← r.length]
  exact (r.drop _).take _
/-- a part of a slice -/
structure SO (X : Cx) (P : Px) (e : Option Expr) (f : DEnv → M (Option Int)) : Prop where
  po : ∀ W, Takes X W → PO X e (rG P W (fun _ _ a v => v = a) f)
def intD : D → M (Option Int)
  | .int i => pure (some i)
  | _ => stuck
def oNone : DEnv → M (Option Int) := fun _ => pure none
def oSome (f : DEnv → M D) : DEnv → M (Option Int) := fun ρ => f ρ >>= intD
theorem po_imp {e : Option Expr} {t t' : TO} (h : PO X e t) (k : ∀ σ H Q, t' σ H Q → t σ H Q) : PO X e t' := ⟨fun pins s σ H Q I q => h.run pins s σ H Q I (k σ H Q q)⟩
theorem so_none : SO X P none oNone := ⟨fun W _ => po_imp po_none fun σ H Q h => by
  obtain ⟨g, ρ, b, hP, S, w⟩ := h
  exact wpG_ok w S.box rfl⟩
theorem so_some (h : SE X P e f) : SO X P (some e) (oSome f) := ⟨fun W tk => po_imp (po_some (h.pe W tk)) fun σ H Q h => by
  obtain ⟨g, ρ, b, hP, S, w⟩ := h
  refine ⟨g, ρ, b, hP, S, (wpG.bind (R1 := RepT g) w).imp fun x H1 ⟨d, b1, e1, B1, r1, w1⟩ => ?_⟩
  cases r1 with
  | rep h =>
    cases h with
    | int i => exact ⟨i, rfl, wpG_ok w1 B1 rfl⟩
    | _ => exact w1.elim
  | own => exact w1.elim⟩
def slD : D → Option Int → Option Int → M D
  | .tup xs, lo, hi => pure (.tup (cutD xs lo hi))
  | .lst xs, lo, hi => pure (.lst (cutD xs lo hi))
  | .fro xs, lo, hi => pure (.lst (cutD xs lo hi))
  | .own xs, lo, hi => pure (.lst (cutD xs lo hi))
  | _, _, _ => stuck
def eSl (f : DEnv → M D) (l h : DEnv → M (Option Int)) : DEnv → M D := fun ρ => f ρ >>= fun d => l ρ >>= fun lo => h ρ >>= fun hi => slD d lo hi
theorem se_slice {lo hi : Option Expr} {p2 : Pos} {l h : DEnv → M (Option Int)} (he : SE X P e f) (hl : SO X P lo l) (hh : SO X P hi h) (hK : X.K = P.K := by rfl) : SE X P (.Subscript e (.Slice lo hi none p2) pos) (eSl f l h) := ⟨fun W tk =>
  pe_imp (pe_slice (sl_list.or sl_tupA) (he.pe W tk) (hl.po W tk) (hh.po W tk)) fun σ H Q h => by
    obtain ⟨g, ρ, b, hP, S, w⟩ := h
    refine ⟨g, ρ, b, hP, S, (wpG.bind (R1 := RepT g) w).imp fun x H1 ⟨d, b1, e1, B1, r1, w1⟩ => ?_⟩
    have S1 := S.mono e1 B1
    refine ⟨g, ρ, b1, hP, S1, (wpG.bind (R1 := fun _ a v => v = a) w1).imp fun i H2 ⟨i', b2, e2, B2, z2, w2⟩ => ?_⟩
    subst z2
    have S2 := S1.mono e2 B2
    have r2 := r1.mono S1.box.bxl e2
    refine ⟨g, ρ, b2, hP, S2, (wpG.bind (R1 := fun _ a v => v = a) w2).imp fun j H3 ⟨j', b3, e3, B3, z3, w3⟩ => ?_⟩
    subst z3
    have r3 := r2.mono S2.box.bxl e3
    have T3 := (S2.mono e3 B3).trk
    subst hP
    rw [hK]
    cases r3 with
    | rep r3 =>
      cases r3 with
      | @tup a xs vs h1 q1 =>
        refine .inr ⟨a, vs, rfl, sqt h1, fun z => ?_, fun z p hp => ?_⟩
        · have ec : cutD xs i j = xs := by
            unfold cutD
            rw [q1.length, z.1, z.2, List.drop_zero, Nat.sub_zero, ← q1.length, List.take_length]
          have w4 : wpG g W σ (RepT g) H3 ((pure (.tup (cutD xs i j)) : M D) b3) Q := w3
          rw [ec] at w4
          exact wpG_ok w4 B3 (.rep (.tup h1 q1))
        · exact w3 (.ref p) _ (Ex1.new hp) (B3.new hp) (.rep (.tup upd_same ((cut_rep q1 i j).mono B3.bxl (Ex1.new hp))))
      | @lst a xs vs h1 n1 q1 => exact .inl ⟨a, vs, rfl, .inl (.inl h1), fun p hp => w3 (.ref p) _ (Ex1.new hp) (B3.new hp) (.rep (.lst upd_same (fun z => T3 p z hp) ((cut_rep q1 i j).mono B3.bxl (Ex1.new hp))))⟩
      | @fro a xs vs h1 q1 => exact .inl ⟨a, vs, rfl, h1.elim (fun h => .inl (.inr h)) (fun h => h H3), fun p hp => w3 (.ref p) _ (Ex1.new hp) (B3.new hp) (.rep (.lst upd_same (fun z => T3 p z hp) ((cut_rep q1 i j).mono B3.bxl (Ex1.new hp))))⟩
      | _ => exact w3.elim
    | @own xs vs a h1 o n nb q1 => exact .inl ⟨a, vs, rfl, .inl (.inl h1), fun p hp => w3 (.ref p) _ (Ex1.new hp) (B3.new hp) (.rep (.lst upd_same (fun z => T3 p z hp) ((cut_rep q1 i j).mono B3.bxl (Ex1.new hp))))⟩⟩
end
end Pu

set_option Elab.async false
set_option linter.all false
set_option maxRecDepth 100000
set_option maxHeartbeats 4000000
/-! The pure layer, part D: equality, membership, calls of built-in functions -/
namespace Pu
open PySem L2
/-! ### data of the library -/
mutual
def D.py : D → PyData
  | .bl b => .bool b
  | .int i => .int i
  | .str x => .str x
  | .tup xs => .tuple (D.pys xs)
  | .lst xs => .list (D.pys xs)
  | .own xs => .list (D.pys xs)
  | _ => .none
def D.pys : List D → List PyData
  | [] => []
  | d :: ds => D.py d :: D.pys ds
end
mutual
/-- plain data, at most so deep -/
def D.ok : Nat → D → Bool
  | _, .non => true
  | _, .bl _ => true
  | _, .int _ => true
  | _, .str x => PyData.strOk x
  | n + 1, .tup xs => D.oks n xs
  | n + 1, .lst xs => D.oks n xs
  | n + 1, .own xs => D.oks n xs
  | _, _ => false
def D.oks : Nat → List D → Bool
  | _, [] => true
  | n, d :: ds => D.ok n d && D.oks n ds
end
mutual
/-- Python's == of plain data -/
def D.eqv : D → D → Bool
  | .non, .non => true
  | .bl a, .bl b => a == b
  | .bl a, .int j => (if a then 1 else 0) == j
  | .int i, .bl b => i == (if b then 1 else 0)
  | .int i, .int j => i == j
  | .str x, .str y => x == y
  | .tup xs, .tup ys => D.eqvs xs ys
  | .lst xs, .lst ys => D.eqvs xs ys
  | .lst xs, .own ys => D.eqvs xs ys
  | .own xs, .lst ys => D.eqvs xs ys
  | .own xs, .own ys => D.eqvs xs ys
  | _, _ => false
def D.eqvs : List D → List D → Bool
  | [], [] => true
  | x :: xs, y :: ys => D.eqv x y && D.eqvs xs ys
  | _, _ => false
end
mutual
theorem ok_lay : ∀ (n : Nat) (d : D), d.ok n = true → d.py.canLay0 = true ∧ d.py.depth ≤ n
  | n, .non, _ => by simp [D.py, PyData.canLay0, PyData.depth]
  | n, .bl b, _ => by simp [D.py, PyData.canLay0, PyData.depth]
  | n, .int i, _ => by simp [D.py, PyData.canLay0, PyData.depth]
  | n, .str x, h => by
    have h' : PyData.strOk x = true := by cases n <;> simpa [D.ok] using h
    simp [D.py, PyData.canLay0, PyData.depth, h']
  | 0, .tup xs, h => by simp [D.ok] at h
  | 0, .lst xs, h => by simp [D.ok] at h
  | 0, .own xs, h => by simp [D.ok] at h
  | n + 1, .tup xs, h => by
    have q := oks_lay n xs (by simpa [D.ok] using h)
    simp only [D.py, PyData.canLay0, PyData.depth]
    exact ⟨q.1, by omega⟩
  | n + 1, .lst xs, h => by
    have q := oks_lay n xs (by simpa [D.ok] using h)
    simp only [D.py, PyData.canLay0, PyData.depth]
    exact ⟨q.1, by omega⟩
  | n + 1, .own xs, h => by
    have q := oks_lay n xs (by simpa [D.ok] using h)
    simp only [D.py, PyData.canLay0, PyData.depth]
    exact ⟨q.1, by omega⟩
  | n, .box, h => by cases n <;> simp [D.ok] at h
  | n, .fn i, h => by cases n <;> simp [D.ok] at h
  | n, .ty i, h => by cases n <;> simp [D.ok] at h
  | n, .fro i, h => by cases n <;> simp [D.ok] at h
  | n, .mdc i, h => by cases n <;> simp [D.ok] at h
theorem oks_lay : ∀ (n : Nat) (ds : List D), D.oks n ds = true → PyData.canLayAll0 (D.pys ds) = true ∧ PyData.depthAll (D.pys ds) ≤ n
  | n, [], _ => by simp [D.pys, PyData.canLayAll0, PyData.depthAll]
  | n, d :: ds, h => by
    have h' : d.ok n = true ∧ D.oks n ds = true := by simpa [D.oks] using h
    have q1 := ok_lay n d h'.1
    have q2 := oks_lay n ds h'.2
    simp only [D.pys, PyData.canLayAll0, PyData.depthAll]
    exact ⟨by rw [q1.1, q2.1]; rfl, by omega⟩
end
theorem ok_shaped {n : Nat} {d : D} (h : d.ok n = true) (hn : n ≤ 64) : SeqAt.shaped d.py = true := by
  obtain ⟨q1, q2⟩ := ok_lay n d h
  unfold SeqAt.shaped
  rw [q1, decide_eq_true (by omega : d.py.depth ≤ 64)]
  rfl
mutual
theorem py_eqv : ∀ (n : Nat) (d e : D), d.ok n = true → e.ok n = true → PyData.eqv d.py e.py = D.eqv d e
  | n, .non, e, _, h => by cases e <;> first | (simp [D.py, PyData.eqv, D.eqv]; done) | (cases n <;> simp [D.ok] at h)
  | n, .bl b, e, _, h => by cases e <;> first | (simp [D.py, PyData.eqv, D.eqv]; done) | (cases n <;> simp [D.ok] at h)
  | n, .int b, e, _, h => by cases e <;> first | (simp [D.py, PyData.eqv, D.eqv]; done) | (cases n <;> simp [D.ok] at h)
  | n, .str b, e, _, h => by cases e <;> first | (simp [D.py, PyData.eqv, D.eqv]; done) | (cases n <;> simp [D.ok] at h)
  | 0, .tup b, e, h, _ => by simp [D.ok] at h
  | 0, .lst b, e, h, _ => by simp [D.ok] at h
  | 0, .own b, e, h, _ => by simp [D.ok] at h
  | n + 1, .tup xs, e, h0, h => by
    cases e with
    | tup ys => rw [D.py, D.py, PyData.eqv, D.eqv]; exact pys_eqv n xs ys (by simpa [D.ok] using h0) (by simpa [D.ok] using h)
    | _ => first | (simp [D.py, PyData.eqv, D.eqv]; done) | (simp [D.ok] at h)
  | n + 1, .lst xs, e, h0, h => by
    cases e with
    | lst ys => rw [D.py, D.py, PyData.eqv, D.eqv]; exact pys_eqv n xs ys (by simpa [D.ok] using h0) (by simpa [D.ok] using h)
    | own ys => rw [D.py, D.py, PyData.eqv, D.eqv]; exact pys_eqv n xs ys (by simpa [D.ok] using h0) (by simpa [D.ok] using h)
    | _ => first | (simp [D.py, PyData.eqv, D.eqv]; done) | (simp [D.ok] at h)
  | n + 1, .own xs, e, h0, h => by
    cases e with
    | lst ys => rw [D.py, D.py, PyData.eqv, D.eqv]; exact pys_eqv n xs ys (by simpa [D.ok] using h0) (by simpa [D.ok] using h)
    | own ys => rw [D.py, D.py, PyData.eqv, D.eqv]; exact pys_eqv n xs ys (by simpa [D.ok] using h0) (by simpa [D.ok] using h)
    | _ => first | (simp [D.py, PyData.eqv, D.eqv]; done) | (simp [D.ok] at h)
  | n, .box, e, h, _ => by cases n <;> simp [D.ok] at h
  | n, .fn i, e, h, _ => by cases n <;> simp [D.ok] at h
  | n, .ty i, e, h, _ => by cases n <;> simp [D.ok] at h
  | n, .fro i, e, h, _ => by cases n <;> simp [D.ok] at h
  | n, .mdc i, e, h, _ => by cases n <;> simp [D.ok] at h
theorem pys_eqv : ∀ (n : Nat) (ds es : List D), D.oks n ds = true → D.oks n es = true → PyData.eqvAll (D.pys ds) (D.pys es) = D.eqvs ds es
  | n, [], [], _, _ => by simp [D.pys, PyData.eqvAll, D.eqvs]
  | n, [], e :: es, _, _ => by simp [D.pys, PyData.eqvAll, D.eqvs]
  | n, d :: ds, [], _, _ => by simp [D.pys, PyData.eqvAll, D.eqvs]
  | n, d :: ds, e :: es, h, h' => by
    have q : d.ok n = true ∧ D.oks n ds = true := by simpa [D.oks] using h
    have q' : e.ok n = true ∧ D.oks n es = true := by simpa [D.oks] using h'
    rw [D.pys, D.pys, PyData.eqvAll, D.eqvs, py_eqv n d e q.1 q'.1, pys_eqv n ds es q.2 q'.2]
end
section
variable {P : Px} {O : Addr → Prop} {bx : Option Addr} {H : Hp}
mutual
theorem Rep.dp : ∀ {n : Nat} {d : D} {v : V}, Rep P O bx H d v → d.ok n = true → Dp P.K H v d.py
  | _, _, _, .non, _ => .non
  | _, _, _, .bl b, _ => .bl b
  | _, _, _, .int i, _ => .int i
  | _, _, _, .str x, _ => .str x
  | n, _, _, .ty _, h => by cases n <;> simp [D.ok] at h
  | n, _, _, .fn _, h => by cases n <;> simp [D.ok] at h
  | n, _, _, .box _, h => by cases n <;> simp [D.ok] at h
  | 0, _, _, .tup _ _, h => by simp [D.ok] at h
  | 0, _, _, .lst _ _ _, h => by simp [D.ok] at h
  | n, _, _, .fro _ _, h => by cases n <;> simp [D.ok] at h
  | n + 1, .tup xs, _, .tup q r, h => by
    rw [D.py]
    exact .tup (sqt q) (Reps.dp (n := n) r (by simpa [D.ok] using h))
  | n + 1, .lst xs, _, .lst q _ r, h => by
    rw [D.py]
    exact .lst (.inl (.inl q)) (Reps.dp (n := n) r (by simpa [D.ok] using h))
theorem Reps.dp : ∀ {n : Nat} {ds : List D} {vs : List V}, Reps P O bx H ds vs → D.oks n ds = true → DpAll P.K H vs (D.pys ds)
  | _, _, _, .nil, _ => by rw [D.pys]; exact .nil
  | n, _, _, .cons r t, h => by
    rename_i d v ds vs
    have q : d.ok n = true ∧ D.oks n ds = true := by simpa [D.oks] using h
    rw [D.pys]
    exact .cons (Rep.dp r q.1) (Reps.dp t q.2)
end
end
theorem RepT.dp {g : Gh} {H : Hp} {n : Nat} {d : D} {v : V} (r : RepT g H d v) (h : d.ok n = true) : Dp g.P.K H v d.py := by
  cases r with
  | rep r => exact r.dp h
  | @own xs vs a q o nn nb r =>
    cases n with
    | zero => simp [D.ok] at h
    | succ n =>
      rw [D.py]
      exact .lst (.inl (.inl q)) (Reps.dp (n := n) r (by simpa [D.ok] using h))

/-! ### ==, !=, in, not in -/
abbrev deep : Nat := 60
def eqD (a b : D) : M D := if (a.ok deep && b.ok deep) = true then pure (.bl (D.eqv a b)) else stuck
def neD (a b : D) : M D := if (a.ok deep && b.ok deep) = true then pure (.bl (!D.eqv a b)) else stuck
/-- the items of a list or a tuple -/
def D.seq : D → Option (List D)
  | .tup xs => some xs
  | .lst xs => some xs
  | .own xs => some xs
  | .fro xs => some xs
  | _ => none
/-- .. of plain data -/
def D.seqP : D → Option (List D)
  | .tup xs => some xs
  | .lst xs => some xs
  | .own xs => some xs
  | _ => none
def inD (a b : D) : M D := match b.seqP with
  | some ys => if (a.ok deep && D.oks deep ys) = true then pure (.bl (ys.any fun y => D.eqv y a)) else stuck
  | none => stuck
def notInD (a b : D) : M D := match b.seqP with
  | some ys => if (a.ok deep && D.oks deep ys) = true then pure (.bl (!ys.any fun y => D.eqv y a)) else stuck
  | none => stuck
section
variable {X : Cx} {P : Px} {e a b c : Expr} {es rest : List Expr} {pos : Pos} {f fa fb fc : DEnv → M D} {t u : DEnv → M Bool} {fs : DEnv → M (List D)}
theorem and2 {p q : Bool} (h : (p && q) = true) : p = true ∧ q = true := by
  cases p <;> cases q <;> simp_all
theorem os_eq : OpS P (rEqD P.K) eqD := fun g W σ H Q x y d d' b hP B T r1 r2 w => by
  subst hP
  obtain ⟨h, w⟩ := wp_ite (c := (d.ok deep && d'.ok deep) = true) (m := pure (D.bl (D.eqv d d'))) w
  obtain ⟨h1, h2⟩ := and2 h
  exact ⟨_, _, r1.dp h1, r2.dp h2, ok_shaped h1 (by decide), ok_shaped h2 (by decide), by rw [py_eqv _ _ _ h1 h2]; exact wpG_ok w B (.rep (.bl _))⟩
theorem os_ne : OpS P (rNeD P.K) neD := fun g W σ H Q x y d d' b hP B T r1 r2 w => by
  subst hP
  obtain ⟨h, w⟩ := wp_ite (c := (d.ok deep && d'.ok deep) = true) (m := pure (D.bl (!D.eqv d d'))) w
  obtain ⟨h1, h2⟩ := and2 h
  exact ⟨_, _, r1.dp h1, r2.dp h2, ok_shaped h1 (by decide), ok_shaped h2 (by decide), by rw [py_eqv _ _ _ h1 h2]; exact wpG_ok w B (.rep (.bl _))⟩
theorem se_eq {k : Nat} (hr : Room k X.A) (ha : SE X P a fa) (hb : SE X P b fb) (hK : X.K = P.K := by rfl) : SE X P (.Compare a [.Eq] [b] pos) (eBin eqD fa fb) := se_cmp (r := rEqD P.K) (by rw [← hK]; exact op_eqD hr.units) os_eq ha hb (nomark _)
theorem se_ne {k : Nat} (hr : Room k X.A) (ha : SE X P a fa) (hb : SE X P b fb) (hK : X.K = P.K := by rfl) : SE X P (.Compare a [.NotEq] [b] pos) (eBin neD fa fb) := se_cmp (r := rNeD P.K) (by rw [← hK]; exact op_neD hr.units) os_ne ha hb (nomark _)
theorem st_eq {k : Nat} (hr : Room k X.A) (ha : SE X P a fa) (hb : SE X P b fb) (hK : X.K = P.K := by rfl) : STt X P (.Compare a [.Eq] [b] pos) (tB (eBin eqD fa fb)) := st_cmp (r := rEqD P.K) (by rw [← hK]; exact op_eqD hr.units) os_eq ha hb (nomark _)
theorem st_ne {k : Nat} (hr : Room k X.A) (ha : SE X P a fa) (hb : SE X P b fb) (hK : X.K = P.K := by rfl) : STt X P (.Compare a [.NotEq] [b] pos) (tB (eBin neD fa fb)) := st_cmp (r := rNeD P.K) (by rw [← hK]; exact op_neD hr.units) os_ne ha hb (nomark _)

/-- x in ys, ys a list or a tuple of plain data -/
def rInA (K : PySem.W.Frag) (neg : Bool) : R2 := fun x y H Q => ∃ d ds, Dp K H x d ∧ (Dp K H y (.list ds) ∨ Dp K H y (.tuple ds)) ∧ SeqAt.shaped d = true ∧ PyData.canLayAll0 ds = true ∧ Q (.bl (if neg then !ds.any fun z => PyData.eqv z d else ds.any fun z => PyData.eqv z d)) H
theorem op_inA (hu : X.A.units + 65 < cLine) : OpR X (compareOp .In) (rInA X.K false) := by
  intro pins s σ H x y v u Q I rx ry h
  obtain ⟨d, ds, hd, he, sd, se, q⟩ := h
  obtain ⟨as, r1⟩ := Dp.reads I d x v hd rx
  rcases he with he | he
  · obtain ⟨bs, r2⟩ := Dp.reads I (.list ds) y u he ry
    exact SeqAt.in_list_reads r2 r1 se (SeqAt.canLay_of_shaped sd) (PyProof.Rows.room_in_shaped sd hu) ⟨.bl _, H, I, rfl, q⟩
  · obtain ⟨bs, r2⟩ := Dp.reads I (.tuple ds) y u he ry
    exact SeqAt.in_tuple_reads r2 r1 se (SeqAt.canLay_of_shaped sd) (PyProof.Rows.room_in_shaped sd hu) ⟨.bl _, H, I, rfl, q⟩
theorem op_notInA (hu : X.A.units + 65 < cLine) : OpR X (compareOp .NotIn) (rInA X.K true) := by
  intro pins s σ H x y v u Q I rx ry h
  obtain ⟨d, ds, hd, he, sd, se, q⟩ := h
  obtain ⟨as, r1⟩ := Dp.reads I d x v hd rx
  rcases he with he | he
  · obtain ⟨bs, r2⟩ := Dp.reads I (.list ds) y u he ry
    exact SeqAt.notIn_list_reads r2 r1 se (SeqAt.canLay_of_shaped sd) (PyProof.Rows.room_in_shaped sd hu) ⟨.bl _, H, I, rfl, q⟩
  · obtain ⟨bs, r2⟩ := Dp.reads I (.tuple ds) y u he ry
    exact SeqAt.notIn_tuple_reads r2 r1 se (SeqAt.canLay_of_shaped sd) (PyProof.Rows.room_in_shaped sd hu) ⟨.bl _, H, I, rfl, q⟩
theorem seqP_dp {g : Gh} {H : Hp} {n : Nat} {d : D} {v : V} {ys : List D} (r : RepT g H d v) (e : d.seqP = some ys) (h : D.oks n ys = true) : Dp g.P.K H v (.list (D.pys ys)) ∨ Dp g.P.K H v (.tuple (D.pys ys)) := by
  cases r with
  | rep r =>
    cases r with
    | tup q r => cases e; exact .inr (.tup (sqt q) (r.dp h))
    | lst q _ r => cases e; exact .inl (.lst (.inl (.inl q)) (r.dp h))
    | _ => cases e
  | own q _ _ _ r => cases e; exact .inl (.lst (.inl (.inl q)) (r.dp h))
theorem any_py {n : Nat} {a : D} (ha : a.ok n = true) : ∀ {ys : List D}, D.oks n ys = true → ((D.pys ys).any fun z => PyData.eqv z a.py) = ys.any fun y => D.eqv y a
  | [], _ => by rw [D.pys]; rfl
  | y :: ys, h => by
    have q : y.ok n = true ∧ D.oks n ys = true := by simpa [D.oks] using h
    rw [D.pys, List.any_cons, List.any_cons, py_eqv _ _ _ q.1 ha, any_py ha q.2]
theorem os_in : OpS P (rInA P.K false) inD := fun g W σ H Q x y d d' b hP B T r1 r2 w => by
  subst hP
  unfold inD at w
  cases e : d'.seqP with
  | none => rw [e] at w; exact w.elim
  | some ys =>
    rw [e] at w
    obtain ⟨h, w⟩ := wp_ite (c := (d.ok deep && D.oks deep ys) = true) (m := pure (D.bl (ys.any fun y => D.eqv y d))) w
    obtain ⟨h1, h2⟩ := and2 h
    exact ⟨_, _, r1.dp h1, seqP_dp r2 e h2, ok_shaped h1 (by decide), (oks_lay _ _ h2).1, by
      show Q (.bl ((D.pys ys).any fun z => PyData.eqv z d.py)) H
      rw [any_py h1 h2]
      exact wpG_ok w B (.rep (.bl _))⟩
theorem os_notIn : OpS P (rInA P.K true) notInD := fun g W σ H Q x y d d' b hP B T r1 r2 w => by
  subst hP
  unfold notInD at w
  cases e : d'.seqP with
  | none => rw [e] at w; exact w.elim
  | some ys =>
    rw [e] at w
    obtain ⟨h, w⟩ := wp_ite (c := (d.ok deep && D.oks deep ys) = true) (m := pure (D.bl (!ys.any fun y => D.eqv y d))) w
    obtain ⟨h1, h2⟩ := and2 h
    exact ⟨_, _, r1.dp h1, seqP_dp r2 e h2, ok_shaped h1 (by decide), (oks_lay _ _ h2).1, by
      show Q (.bl (!(D.pys ys).any fun z => PyData.eqv z d.py)) H
      rw [any_py h1 h2]
      exact wpG_ok w B (.rep (.bl _))⟩
theorem room65 {k : Nat} {A : Around} (r : Room (k + 1) A) : A.units + 65 < cLine := by
  have := r.un
  omega
theorem se_in {k : Nat} (hr : Room (k + 1) X.A) (ha : SE X P a fa) (hb : SE X P b fb) (hm : behindInMarks .In b = false := by rfl) (hK : X.K = P.K := by rfl) : SE X P (.Compare a [.In] [b] pos) (eBin inD fa fb) := se_cmp (r := rInA P.K false) (by rw [← hK]; exact op_inA (room65 hr)) os_in ha hb hm
theorem se_notIn {k : Nat} (hr : Room (k + 1) X.A) (ha : SE X P a fa) (hb : SE X P b fb) (hm : behindInMarks .NotIn b = false := by rfl) (hK : X.K = P.K := by rfl) : SE X P (.Compare a [.NotIn] [b] pos) (eBin notInD fa fb) := se_cmp (r := rInA P.K true) (by rw [← hK]; exact op_notInA (room65 hr)) os_notIn ha hb hm
theorem st_in {k : Nat} (hr : Room (k + 1) X.A) (ha : SE X P a fa) (hb : SE X P b fb) (hm : behindInMarks .In b = false := by rfl) (hK : X.K = P.K := by rfl) : STt X P (.Compare a [.In] [b] pos) (tB (eBin inD fa fb)) := st_cmp (r := rInA P.K false) (by rw [← hK]; exact op_inA (room65 hr)) os_in ha hb hm
theorem st_notIn {k : Nat} (hr : Room (k + 1) X.A) (ha : SE X P a fa) (hb : SE X P b fb) (hm : behindInMarks .NotIn b = false := by rfl) (hK : X.K = P.K := by rfl) : STt X P (.Compare a [.NotIn] [b] pos) (tB (eBin notInD fa fb)) := st_cmp (r := rInA P.K true) (by rw [← hK]; exact op_notInA (room65 hr)) os_notIn ha hb hm

/-! ### built-in functions: the arguments are read, not kept -/
inductive RTs (g : Gh) (H : Hp) : List D → List V → Prop
  | nil : RTs g H [] []
  | cons {d : D} {v : V} {ds : List D} {vs : List V} (h : RepT g H d v) (t : RTs g H ds vs) : RTs g H (d :: ds) (v :: vs)
theorem RTs.mono {g : Gh} {H H' : Hp} (B : BxL g.O g.bx H) (e : Ex1 g.bx H H') {ds : List D} {vs : List V} (h : RTs g H ds vs) : RTs g H' ds vs := by
  induction h with
  | nil => exact .nil
  | cons h t ih => exact .cons (h.mono B e) ih
structure SB (X : Cx) (P : Px) (es : List Expr) (f : DEnv → M (List D)) : Prop where
  pa : ∀ W, Takes X W → PA X es (rG P W (fun g H ds vs => RTs g H ds vs) f)
def bCons (f : DEnv → M D) (g : DEnv → M (List D)) : DEnv → M (List D) := fun ρ => f ρ >>= fun d => g ρ >>= fun ds => pure (d :: ds)
theorem sb_nil : SB X P [] aNil := ⟨fun W _ => pa_imp pa_nil fun σ H Q h => by
  obtain ⟨g, ρ, b, hP, S, w⟩ := h
  exact wpG_ok w S.box .nil⟩
theorem sb_cons (ha : SE X P e f) (hr : SB X P es fs) (hs : starEach (e :: es) X.env = (false, eval e X.env) :: starEach es X.env := by rfl) : SB X P (e :: es) (bCons f fs) := ⟨fun W tk => pa_imp (pa_cons (ha.pe W tk) (hr.pa W tk) hs) fun σ H Q h => by
  obtain ⟨g, ρ, b, hP, S, w⟩ := h
  refine ⟨g, ρ, b, hP, S, (wpG.bind (R1 := RepT g) w).imp fun x H1 ⟨d, b1, e1, B1, r1, w1⟩ => ?_⟩
  have S1 := S.mono e1 B1
  refine ⟨g, ρ, b1, hP, S1, (wpG.bind (R1 := RTs g) w1).imp fun xs H2 ⟨ds, b2, e2, B2, r2, w2⟩ => ?_⟩
  exact wpG_ok w2 B2 (.cons (r1.mono S1.box.bxl e2) r2)⟩
def eB (o : List D → M D) (f : DEnv → M (List D)) : DEnv → M D := fun ρ => f ρ >>= o
/-- the call's r means o -/
def CallS (P : Px) (r : List V → Hp → VK → Prop) (o : List D → M D) : Prop := ∀ (g : Gh) (W : WX) (σ : St) (H : Hp) (Q : VK) (vs : List V) (ds : List D) (b : Bx), g.P = P → BoxOk g b H → (∀ a, g.O a → H a ≠ none) → RTs g H ds vs → wpG g W σ (RepT g) H (o ds b) Q → r vs H Q
theorem eB_imp {W : WX} {r : List V → Hp → VK → Prop} {o : List D → M D} (os : CallS P r o) {σ : St} {H : Hp} {Q : VK} (h : rE P W (eB o fs) σ H Q) : tCB r (rG P W (fun g H ds vs => RTs g H ds vs) fs) σ H Q := by
  obtain ⟨g, ρ, b, hP, S, w⟩ := h
  exact ⟨g, ρ, b, hP, S, (wpG.bind (R1 := RTs g) w).imp fun vs H1 ⟨ds, b1, e1, B1, r1, w1⟩ => os g W σ H1 Q vs ds b1 hP B1 (S.mono e1 B1).trk r1 w1⟩
theorem se_callB {x : Str} {p : Pos} {id : String} {r : List V → Hp → VK → Prop} {o : List D → M D} (hc : CallR X (.builtin id) r) (os : CallS P r o) (hg : Gl X x) (hm : X.mg x = none) (hv : bootBuiltins x = some (.builtin id)) (ha : SB X P (e :: es) fs) (hn : x ≠ "__name__" := by decide) (hdb : (x == ("__debug__" : Str)) = false := by decide)
    (he : starEach (e :: es) X.env = (false, eval e X.env) :: starEach es X.env := by rfl) (hpl : (backTo pos (starEach es X.env)).any (·.1) = false := by rfl) : SE X P (.Call (.Name x p) (e :: es) [] pos) (eB o fs) :=
  ⟨fun W tk => pe_imp (pe_callB hc hg hm hv (ha.pa W tk) hn hdb he hpl) fun σ H Q h => eB_imp os h⟩
theorem se_callTy {x : Str} {p : Pos} {T : String} {r : List V → Hp → VK → Prop} {o : List D → M D} (hc : CallR X (.type T) r) (os : CallS P r o) (hg : Gl X x) (hm : X.mg x = none) (hv : bootBuiltins x = some (.type T)) (ha : SB X P (e :: es) fs) (hn : x ≠ "__name__" := by decide) (hdb : (x == ("__debug__" : Str)) = false := by decide)
    (he : starEach (e :: es) X.env = (false, eval e X.env) :: starEach es X.env := by rfl) (hpl : (backTo pos (starEach es X.env)).any (·.1) = false := by rfl) : SE X P (.Call (.Name x p) (e :: es) [] pos) (eB o fs) :=
  ⟨fun W tk => pe_imp (pe_callTy hc hg hm hv (ha.pa W tk) hn hdb he hpl) fun σ H Q h => eB_imp os h⟩
theorem one_rt {g : Gh} {H : Hp} {d : D} {vs : List V} (r : RTs g H [d] vs) : ∃ v, vs = [v] ∧ RepT g H d v := by
  cases r with
  | cons h t => cases t; exact ⟨_, rfl, h⟩
theorem two_rt {g : Gh} {H : Hp} {d d' : D} {vs : List V} (r : RTs g H [d, d'] vs) : ∃ v w, vs = [v, w] ∧ RepT g H d v ∧ RepT g H d' w := by
  cases r with
  | cons h t =>
    cases t with
    | cons h' t' => cases t'; exact ⟨_, _, rfl, h, h'⟩
/-- a list, a tuple -/
theorem seq_rep {g : Gh} {H : Hp} {d : D} {v : V} {ys : List D} (r : RepT g H d v) (e : d.seq = some ys) : ∃ a vs, v = .ref a ∧ (SqL g.P.K H a vs ∨ SqT g.P.K H a vs) ∧ Reps g.P g.O g.bx H ys vs := by
  cases r with
  | rep r =>
    cases r with
    | @tup a ds vs q r => cases e; exact ⟨a, vs, rfl, .inr (sqt q), r⟩
    | @lst a ds vs q _ r => cases e; exact ⟨a, vs, rfl, .inl (.inl (.inl q)), r⟩
    | @fro a ds vs q r => cases e; exact ⟨a, vs, rfl, .inl (q.elim (fun h => .inl (.inr h)) (fun h => h H)), r⟩
    | _ => cases e
  | @own ds vs a q _ _ _ r => cases e; exact ⟨a, vs, rfl, .inl (.inl (.inl q)), r⟩
/-- of one argument, of two -/
def un1 (o : D → M D) : List D → M D
  | [d] => o d
  | _ => stuck
def un2 (o : D → D → M D) : List D → M D
  | [d, e] => o d e
  | _ => stuck
theorem cs_un1 {r : List V → Hp → VK → Prop} {o : D → M D} (h : ∀ (g : Gh) (W : WX) (σ : St) (H : Hp) (Q : VK) (v : V) (d : D) (b : Bx), g.P = P → BoxOk g b H → (∀ a, g.O a → H a ≠ none) → RepT g H d v → wpG g W σ (RepT g) H (o d b) Q → r [v] H Q) : CallS P r (un1 o) :=
  fun g W σ H Q vs ds b hP B T r w => by
    cases r with
    | nil => exact w.elim
    | cons h1 t =>
      cases t with
      | nil => exact h g W σ H Q _ _ b hP B T h1 w
      | cons h2 t => exact w.elim
theorem cs_un2 {r : List V → Hp → VK → Prop} {o : D → D → M D} (h : ∀ (g : Gh) (W : WX) (σ : St) (H : Hp) (Q : VK) (v v' : V) (d d' : D) (b : Bx), g.P = P → BoxOk g b H → (∀ a, g.O a → H a ≠ none) → RepT g H d v → RepT g H d' v' → wpG g W σ (RepT g) H (o d d' b) Q → r [v, v'] H Q) : CallS P r (un2 o) :=
  fun g W σ H Q vs ds b hP B T r w => by
    cases r with
    | nil => exact w.elim
    | cons h1 t =>
      cases t with
      | nil => exact w.elim
      | cons h2 t =>
        cases t with
        | nil => exact h g W σ H Q _ _ _ _ b hP B T h1 h2 w
        | cons h3 t => exact w.elim
def lenD1 : D → M D
  | .str x => if x.length ≤ 100000 then pure (.int x.length) else stuck
  | .tup ys => pure (.int ys.length)
  | .lst ys => pure (.int ys.length)
  | .own ys => pure (.int ys.length)
  | .fro ys => pure (.int ys.length)
  | _ => stuck
abbrev lenD := un1 lenD1
def rLenA (K : PySem.W.Frag) : List V → Hp → VK → Prop := fun xs H Q => (∃ p ys, xs = [.ref p] ∧ (SqL K H p ys ∨ SqT K H p ys) ∧ Q (.int ys.length) H) ∨ (∃ z, xs = [.str z] ∧ z.length ≤ sizeLine ∧ Q (.int z.length) H)
theorem cs_len : CallS P (rLenA P.K) lenD := cs_un1 fun g W σ H Q v d b hP B T r1 w => by
  subst hP
  have go : ∀ {ys : List D}, d.seq = some ys → wpG g W σ (RepT g) H ((pure (D.int ys.length) : M D) b) Q → rLenA g.P.K [v] H Q := fun {ys} e w => by
    obtain ⟨a, vs, rfl, h1, q1⟩ := seq_rep r1 e
    exact .inl ⟨a, vs, rfl, h1, by rw [← q1.length]; exact wpG_ok w B (.rep (.int _))⟩
  cases d with
  | tup ys => exact go rfl w
  | lst ys => exact go rfl w
  | own ys => exact go rfl w
  | fro ys => exact go rfl w
  | str x =>
    obtain ⟨h, w⟩ := wp_ite (c := x.length ≤ 100000) (m := pure (D.int x.length)) w
    cases r1 with
    | rep r1 =>
      cases r1
      exact .inr ⟨x, rfl, szl h, wpG_ok w B (.rep (.int _))⟩
  | _ => exact w.elim
theorem se_len {x : Expr} {p : Pos} (hg : Gl X "len") (hm : X.mg "len" = none) (ha : SB X P [x] fs) (hK : X.K = P.K := by rfl) (he : starEach [x] X.env = (false, eval x X.env) :: starEach [] X.env := by rfl) : SE X P (.Call (.Name "len" p) [x] [] pos) (eB lenD fs) :=
  se_callB (r := rLenA P.K) (by rw [← hK]; exact call_len_seq.or call_len_str) cs_len hg hm boot_len ha (by decide) (by decide) he
def absD1 : D → M D
  | .int i => pure (.int (if i < 0 then -i else i))
  | _ => stuck
abbrev absD := un1 absD1
theorem int_rt {g : Gh} {H : Hp} {i : Int} {v : V} (r : RepT g H (.int i) v) : v = .int i := by
  cases r with
  | rep r => cases r; rfl
theorem bl_rt {g : Gh} {H : Hp} {i : Bool} {v : V} (r : RepT g H (.bl i) v) : v = .bl i := by
  cases r with
  | rep r => cases r; rfl
theorem str_rt {g : Gh} {H : Hp} {i : Str} {v : V} (r : RepT g H (.str i) v) : v = .str i := by
  cases r with
  | rep r => cases r; rfl
theorem cs_abs : CallS P (fun xs H Q => ∃ i, xs = [.int i] ∧ Q (.int (if i < 0 then -i else i)) H) absD := cs_un1 fun g W σ H Q v d b hP B T r1 w => by
  cases d with
  | int i =>
    cases int_rt r1
    exact ⟨i, rfl, wpG_ok w B (.rep (.int _))⟩
  | _ => exact w.elim
theorem se_abs {x : Expr} {p : Pos} (hg : Gl X "abs") (hm : X.mg "abs" = none) (ha : SB X P [x] fs) (he : starEach [x] X.env = (false, eval x X.env) :: starEach [] X.env := by rfl) : SE X P (.Call (.Name "abs" p) [x] [] pos) (eB absD fs) :=
  se_callB call_abs cs_abs hg hm (by decide +kernel) ha (by decide) (by decide) he
def intOfD1 : D → M D
  | .int i => pure (.int i)
  | .bl k => pure (.int (if k then 1 else 0))
  | _ => stuck
abbrev intOfD := un1 intOfD1
theorem cs_int : CallS P (fun xs H Q => (∃ i, xs = [.int i] ∧ Q (.int i) H) ∨ ∃ k, xs = [.bl k] ∧ Q (.int (if k then 1 else 0)) H) intOfD := cs_un1 fun g W σ H Q v d b hP B T r1 w => by
  cases d with
  | int i =>
    cases int_rt r1
    exact .inl ⟨i, rfl, wpG_ok w B (.rep (.int _))⟩
  | bl i =>
    cases bl_rt r1
    exact .inr ⟨i, rfl, wpG_ok w B (.rep (.int _))⟩
  | _ => exact w.elim
theorem se_toInt {x : Expr} {p : Pos} (hg : Gl X "int") (hm : X.mg "int" = none) (ha : SB X P [x] fs) (he : starEach [x] X.env = (false, eval x X.env) :: starEach [] X.env := by rfl) : SE X P (.Call (.Name "int" p) [x] [] pos) (eB intOfD fs) :=
  se_callTy call_int1 cs_int hg hm (by decide +kernel) ha (by decide) (by decide) he

/-! ### isinstance -/
/-- the built-in class of a value -/
def clsD : D → Option String
  | .non => some "NoneType"
  | .bl _ => some "bool"
  | .int _ => some "int"
  | .str _ => some "str"
  | .tup _ => some "tuple"
  | .lst _ => some "list"
  | .own _ => some "list"
  | .fro _ => some "list"
  | .box => some "list"
  | _ => none
theorem tyx_rep {g : Gh} {b : Bx} {H : Hp} {d : D} {v : V} {n : String} (r : RepT g H d v) (B : BoxOk g b H) (e : clsD d = some n) : TyX g.P.K H v (.type n) := by
  have lst : ∀ {a : Addr} {vs : List V}, SqL g.P.K H a vs → TyX g.P.K H (.ref a) (.type "list") := fun h => by
    rcases h with (h | ⟨o, h⟩) | ⟨o, its, n, hk, hc, _⟩
    · exact .base (.lst h)
    · exact .base (.frz h)
    · exact .kList hk hc
  cases r with
  | own q _ _ _ _ => cases e; exact lst (.inl (.inl q))
  | rep r =>
    cases r with
    | non => cases e; exact .base .non
    | bl => cases e; exact .base (.bl _)
    | int => cases e; exact .base (.int _)
    | str => cases e; exact .base (.str _)
    | tup h _ =>
      cases e
      exact .base (.tup h)
    | lst h _ _ => cases e; exact lst (.inl (.inl h))
    | fro h _ => cases e; exact lst (h.elim (fun h => .inl (.inr h)) (fun h => h H))
    | box h =>
      cases e
      obtain ⟨_, vs, q⟩ := B.bxl _ h
      exact lst (.inl (.inl q))
    | _ => cases e
def isiD1 (T : String) (d : D) : M D := match clsD d with
  | some n => match kitB n T with
    | some r => pure (.bl r)
    | none => stuck
  | none => stuck
/-- isinstance(e, T) -/
def eIsi (T : String) (f : DEnv → M D) : DEnv → M D := fun ρ => f ρ >>= isiD1 T
theorem se_isi {x : Expr} {p p2 : Pos} {T : Str} {n : String} (hg : Gl X "isinstance") (hm : X.mg "isinstance" = none) (ha : SE X P x f) (hgT : Gl X T) (hmT : X.mg T = none) (hvT : bootBuiltins T = some (.type n)) (hK : X.K = P.K := by rfl) (hnT : T ≠ "__name__" := by decide) (hdT : (T == ("__debug__" : Str)) = false := by decide)
    (he : starEach [x, .Name T p2] X.env = (false, eval x X.env) :: starEach [.Name T p2] X.env := by rfl) (he2 : starEach [.Name T p2] X.env = (false, eval (.Name T p2) X.env) :: starEach [] X.env := by rfl) (hpl : (backTo pos (starEach [.Name T p2] X.env)).any (·.1) = false := by rfl) :
    SE X P (.Call (.Name "isinstance" p) [x, .Name T p2] [] pos) (eIsi n f) := ⟨fun W tk => pe_imp (pe_callB call_isi hg hm (by decide +kernel) (pa_cons (ha.pe W tk) (pa_cons (pe_bltn (v := .ty n) hgT hmT hvT rfl hnT hdT) pa_nil he2) he) (by decide) (by decide) he hpl) fun σ H Q h => by
  obtain ⟨g, ρ, b, hP, S, w⟩ := h
  refine ⟨g, ρ, b, hP, S, (wpG.bind (R1 := RepT g) w).imp fun v H1 ⟨d, b1, e1, B1, r1, w1⟩ => ?_⟩
  unfold isiD1 at w1
  cases ec : clsD d with
  | none => rw [ec] at w1; exact w1.elim
  | some m =>
    rw [ec] at w1
    cases ek : kitB m n with
    | none => simp only [ek] at w1; exact w1.elim
    | some r =>
      simp only [ek] at w1
      subst hP
      rw [hK]
      exact ⟨v, .ty n, .type m, .type n, r, rfl, .ty n, tyx_rep r1 B1 ec, kit_ty ek, wpG_ok w1 B1 (.rep (.bl _))⟩⟩
/-- isinstance(e, (T, U)) -/
def isiD2 (T U : String) (d : D) : M D := match clsD d with
  | some n => match kitB n T, kitB n U with
    | some r, some q => pure (.bl (r || q))
    | _, _ => stuck
  | none => stuck
def eIsi2 (T U : String) (f : DEnv → M D) : DEnv → M D := fun ρ => f ρ >>= isiD2 T U
theorem se_isi2 {x : Expr} {p p2 p3 p4 : Pos} {k : Nat} {T U : Str} {n m : String} (hg : Gl X "isinstance") (hm : X.mg "isinstance" = none) (ha : SE X P x f) (hgT : Gl X T) (hmT : X.mg T = none) (hvT : bootBuiltins T = some (.type n)) (hgU : Gl X U) (hmU : X.mg U = none) (hvU : bootBuiltins U = some (.type m)) (hK : X.K = P.K := by rfl)
    (hnT : T ≠ "__name__" := by decide) (hdT : (T == ("__debug__" : Str)) = false := by decide) (hnU : U ≠ "__name__" := by decide) (hdU : (U == ("__debug__" : Str)) = false := by decide)
    (he : starEach [x, .Tuple [.Name T p2, .Name U p3] k p4] X.env = (false, eval x X.env) :: starEach [.Tuple [.Name T p2, .Name U p3] k p4] X.env := by rfl) (he2 : starEach [.Tuple [.Name T p2, .Name U p3] k p4] X.env = (false, eval (.Tuple [.Name T p2, .Name U p3] k p4) X.env) :: starEach [] X.env := by rfl)
    (he3 : starEach [.Name T p2, .Name U p3] X.env = (false, eval (.Name T p2) X.env) :: starEach [.Name U p3] X.env := by rfl) (he4 : starEach [.Name U p3] X.env = (false, eval (.Name U p3) X.env) :: starEach [] X.env := by rfl)
    (hpl : (backTo pos (starEach [.Tuple [.Name T p2, .Name U p3] k p4] X.env)).any (·.1) = false := by rfl) :
    SE X P (.Call (.Name "isinstance" p) [x, .Tuple [.Name T p2, .Name U p3] k p4] [] pos) (eIsi2 n m f) := ⟨fun W tk => pe_imp (pe_callB call_isiT hg hm (by decide +kernel) (pa_cons (ha.pe W tk) (pa_cons (pe_tup (pa_cons (pe_bltn (v := .ty n) hgT hmT hvT rfl hnT hdT) (pa_cons (pe_bltn (v := .ty m) hgU hmU hvU rfl hnU hdU) pa_nil he4) he3)) pa_nil he2) he) (by decide) (by decide) he hpl) fun σ H Q h => by
  obtain ⟨g, ρ, b, hP, S, w⟩ := h
  refine ⟨g, ρ, b, hP, S, (wpG.bind (R1 := RepT g) w).imp fun v H1 ⟨d, b1, e1, B1, r1, w1⟩ => ?_⟩
  refine ⟨by show 2 ≤ sizeLine; decide, fun q hq => ?_⟩
  have r2 := r1.mono B1.bxl (Ex1.new (bx := g.bx) (o := .tup [.ty n, .ty m]) hq)
  have B2 := B1.new (o := .tup [.ty n, .ty m]) hq
  unfold isiD2 at w1
  cases ec : clsD d with
  | none => rw [ec] at w1; exact w1.elim
  | some c =>
    rw [ec] at w1
    cases ek : kitB c n with
    | none => simp only [ek] at w1; exact w1.elim
    | some r =>
      cases ek2 : kitB c m with
      | none => simp only [ek, ek2] at w1; exact w1.elim
      | some s =>
        simp only [ek, ek2] at w1
        subst hP
        rw [hK]
        refine ⟨v, q, [.ty n, .ty m], .type c, [.type n, .type m], r || s, rfl, upd_same, .cons (.ty n) (.cons (.ty m) .nil), tyx_rep r2 B2 ec, ?_, w1 _ _ (Ex1.new hq) B2 (.rep (.bl _))⟩
        exact kitAny_cons (kit_ty ek) (fun hr => kitAny_cons (kit_ty ek2) (fun hs => by rw [hr, hs]; exact kitAny_nil) fun hs => by rw [hs, Bool.or_true]) fun hr => by rw [hr, Bool.true_or]⟩

/-! ### all, any, sum, max, min, tuple, list -/
def boolsOf : List D → Option (List Bool)
  | [] => some []
  | .bl c :: ds => (boolsOf ds).map (c :: ·)
  | _ :: _ => none
def intsOf : List D → Option (List Int)
  | [] => some []
  | .int c :: ds => (intsOf ds).map (c :: ·)
  | _ :: _ => none
theorem bools_rep {P : Px} {O : Addr → Prop} {bx : Option Addr} {H : Hp} : ∀ {ds : List D} {vs : List V} {bs : List Bool}, Reps P O bx H ds vs → boolsOf ds = some bs → vs = bs.map V.bl
  | _, _, _, .nil, e => by cases e; rfl
  | d :: ds, _, bs, .cons h t, e => by
    cases d with
    | bl c =>
      cases h
      cases e2 : boolsOf ds with
      | none => rw [boolsOf, e2] at e; cases e
      | some r =>
        rw [boolsOf, e2] at e
        cases e
        rw [bools_rep t e2]
        rfl
    | _ => cases e
theorem ints_rep {P : Px} {O : Addr → Prop} {bx : Option Addr} {H : Hp} : ∀ {ds : List D} {vs : List V} {bs : List Int}, Reps P O bx H ds vs → intsOf ds = some bs → vs = bs.map V.int
  | _, _, _, .nil, e => by cases e; rfl
  | d :: ds, _, bs, .cons h t, e => by
    cases d with
    | int c =>
      cases h
      cases e2 : intsOf ds with
      | none => rw [intsOf, e2] at e; cases e
      | some r =>
        rw [intsOf, e2] at e
        cases e
        rw [ints_rep t e2]
        rfl
    | _ => cases e
/-- a list -/
def D.lseq : D → Option (List D)
  | .lst xs => some xs
  | .own xs => some xs
  | _ => none
theorem lseq_rep {g : Gh} {H : Hp} {d : D} {v : V} {ys : List D} (r : RepT g H d v) (e : d.lseq = some ys) : ∃ a vs, v = .ref a ∧ H a = some (.lst vs) ∧ Reps g.P g.O g.bx H ys vs := by
  cases r with
  | rep r =>
    cases r with
    | @lst a ds vs q _ r => cases e; exact ⟨a, vs, rfl, q, r⟩
    | _ => cases e
  | @own ds vs a q _ _ _ r => cases e; exact ⟨a, vs, rfl, q, r⟩
def onBools (k : List Bool → D) (d : D) : M D := match d.lseq with
  | some ys => match boolsOf ys with
    | some bs => pure (k bs)
    | none => stuck
  | none => stuck
theorem cs_bools {k : List Bool → D} {kv : List Bool → V} (hk : ∀ (g : Gh) (H : Hp) bs, Rep g.P g.O g.bx H (k bs) (kv bs)) : CallS P (fun vs H Q => ∃ (a : Addr) (bs : List Bool), vs = [V.ref a] ∧ SqL P.K H a (bs.map V.bl) ∧ Q (kv bs) H) (un1 (onBools k)) := cs_un1 fun g W σ H Q v d b hP B T r1 w => by
  unfold onBools at w
  cases e : d.lseq with
  | none => rw [e] at w; exact w.elim
  | some ys =>
    rw [e] at w
    obtain ⟨a, vs, rfl, h, r⟩ := lseq_rep r1 e
    cases e2 : boolsOf ys with
    | none => simp only [e2] at w; exact w.elim
    | some bs =>
      simp only [e2] at w
      have ev := bools_rep r e2
      subst ev
      exact ⟨a, bs, rfl, .inl (.inl h), wpG_ok w B (.rep (hk g H bs))⟩
abbrev allD := un1 (onBools fun bs => .bl (bs.all id))
abbrev anyD := un1 (onBools fun bs => .bl (bs.any id))
theorem se_all {x : Expr} {p : Pos} (hc : X.calm = true) (hg : Gl X "all") (hm : X.mg "all" = none) (ha : SB X P [x] fs) (hK : X.K = P.K := by rfl) (he : starEach [x] X.env = (false, eval x X.env) :: starEach [] X.env := by rfl) : SE X P (.Call (.Name "all" p) [x] [] pos) (eB allD fs) :=
  se_callB (r := rAll P.K) (by rw [← hK]; exact cr_all hc) (cs_bools fun _ _ _ => .bl _) hg hm (by decide +kernel) ha (by decide) (by decide) he
theorem se_any {x : Expr} {p : Pos} (hc : X.calm = true) (hg : Gl X "any") (hm : X.mg "any" = none) (ha : SB X P [x] fs) (hK : X.K = P.K := by rfl) (he : starEach [x] X.env = (false, eval x X.env) :: starEach [] X.env := by rfl) : SE X P (.Call (.Name "any" p) [x] [] pos) (eB anyD fs) :=
  se_callB (r := rAny P.K) (by rw [← hK]; exact cr_any hc) (cs_bools fun _ _ _ => .bl _) hg hm (by decide +kernel) ha (by decide) (by decide) he
def onInts (k : List Int → M D) (d : D) : M D := match d.lseq with
  | some ys => match intsOf ys with
    | some bs => k bs
    | none => stuck
  | none => stuck
theorem cs_ints {k : List Int → M D} {r : List V → Hp → VK → Prop} (hk : ∀ (g : Gh) (W : WX) (σ : St) (H : Hp) (Q : VK) (a : Addr) (ns : List Int) (b : Bx), g.P = P → BoxOk g b H → SqL P.K H a (ns.map V.int) → wpG g W σ (RepT g) H (k ns b) Q → r [.ref a] H Q) : CallS P r (un1 (onInts k)) := cs_un1 fun g W σ H Q v d b hP B T r1 w => by
  unfold onInts at w
  cases e : d.lseq with
  | none => rw [e] at w; exact w.elim
  | some ys =>
    rw [e] at w
    obtain ⟨a, vs, rfl, h, r⟩ := lseq_rep r1 e
    cases e2 : intsOf ys with
    | none => simp only [e2] at w; exact w.elim
    | some bs =>
      simp only [e2] at w
      have ev := ints_rep r e2
      subst ev
      exact hk g W σ H Q a bs b hP B (.inl (.inl h)) w
abbrev sumD := un1 (onInts fun ns => pure (.int ns.sum))
theorem se_sum {x : Expr} {p : Pos} (hc : X.calm = true) (hg : Gl X "sum") (hm : X.mg "sum" = none) (ha : SB X P [x] fs) (hK : X.K = P.K := by rfl) (he : starEach [x] X.env = (false, eval x X.env) :: starEach [] X.env := by rfl) : SE X P (.Call (.Name "sum" p) [x] [] pos) (eB sumD fs) :=
  se_callB (r := rSum P.K) (by rw [← hK]; exact cr_sum hc) (cs_ints fun g W σ H Q a ns b hP B h w => ⟨a, ns, rfl, h, wpG_ok w B (.rep (.int _))⟩) hg hm (by decide +kernel) ha (by decide) (by decide) he
/-- tuple(x) -/
def tupD1 : D → M D
  | .tup xs => pure (.tup xs)
  | .lst xs => pure (.tup xs)
  | .own xs => pure (.tup xs)
  | _ => stuck
abbrev tupD := un1 tupD1
def rTupA (K : PySem.W.Frag) : List V → Hp → VK → Prop := fun xs H Q => ∃ p ys, xs = [.ref p] ∧ ((SqL K H p ys ∧ ∀ l, H l = none → Q (.ref l) (upd H l (.tup ys))) ∨ (SqT K H p ys ∧ Q (.ref p) H))
theorem cs_tup : CallS P (rTupA P.K) tupD := cs_un1 fun g W σ H Q v d b hP B T r1 w => by
  subst hP
  have go : ∀ {xs : List D}, d.lseq = some xs → wpG g W σ (RepT g) H ((pure (.tup xs) : M D) b) Q → rTupA g.P.K [v] H Q := fun {xs} e w => by
    obtain ⟨a, vs, ev, h, r⟩ := lseq_rep r1 e
    exact ⟨a, vs, by rw [ev], .inl ⟨.inl (.inl h), fun l hl => w (.ref l) _ (Ex1.new hl) (B.new hl) (.rep (.tup upd_same (r.mono B.bxl (Ex1.new hl))))⟩⟩
  cases d with
  | tup xs =>
    cases r1 with
    | rep r1 =>
      cases r1 with
      | @tup a _ vs h q => exact ⟨a, vs, rfl, .inr ⟨sqt h, wpG_ok w B (.rep (.tup h q))⟩⟩
  | lst xs => exact go rfl w
  | own xs => exact go rfl w
  | _ => exact w.elim
theorem se_toTup {x : Expr} {p : Pos} (hg : Gl X "tuple") (hm : X.mg "tuple" = none) (ha : SB X P [x] fs) (hK : X.K = P.K := by rfl) (he : starEach [x] X.env = (false, eval x X.env) :: starEach [] X.env := by rfl) : SE X P (.Call (.Name "tuple" p) [x] [] pos) (eB tupD fs) :=
  se_callTy (r := rTupA P.K) (by rw [← hK]; exact call_tuple_of) cs_tup hg hm (by decide +kernel) ha (by decide) (by decide) he
/-- list(x): a new list -/
def lstF1 (d : D) : M (List D) := match d.seq with
  | some xs => pure xs
  | none => stuck
def fLstOf (f : DEnv → M D) : DEnv → M (List D) := fun ρ => f ρ >>= lstF1
theorem fresh_back {bx : Option Addr} {O : Addr → Prop} {H H1 : Hp} {p : Addr} (B : BxL O bx H1) (e : Ex1 bx H H1) (h : H1 p = none) : H p = none := by
  cases q : H p with
  | none => rfl
  | some o =>
    by_cases z : bx = some p
    · obtain ⟨_, vs, q2⟩ := B p z
      rw [h] at q2; cases q2
    · have q2 := e p o z q
      rw [h] at q2; cases q2
/-- the new list at p -/
theorem rf_new {g : Gh} {b : Bx} {H0 H : Hp} {p : Addr} {ds : List D} {vs : List V} (B : BoxOk g b H) (e : Ex1 g.bx H0 H) (hp : H p = none) (r : Reps g.P g.O g.bx H ds vs) : RF g H0 (upd H p (.lst vs)) ds (.ref p) :=
  ⟨p, vs, rfl, fresh_back B.bxl e hp, upd_same, (r.own (O' := fun a => g.O a ∨ a = p) fun a ha => ha.elim .inl fun z => .inr (by rw [z]; exact hp)).mono (fun a ha => ⟨.inl (B.bxl a ha).1, (B.bxl a ha).2⟩) (Ex1.new hp)⟩
theorem sf_toLst {x : Expr} {p : Pos} (hg : Gl X "list") (hm : X.mg "list" = none) (ha : SE X P x f) (hK : X.K = P.K := by rfl) (he : starEach [x] X.env = (false, eval x X.env) :: starEach [] X.env := by rfl) : SF X P (.Call (.Name "list" p) [x] [] pos) (fLstOf f) :=
  ⟨fun W tk => pe_imp (pe_callTy call_list_of hg hm (by decide +kernel) (pa_cons (ha.pe W tk) pa_nil he) (by decide) (by decide) he rfl) fun σ H Q h => by
    obtain ⟨g, ρ, b, hP, S, w⟩ := h
    refine ⟨g, ρ, b, hP, S, (wpG.bind (R1 := RepT g) w).imp fun v H1 ⟨d, b1, e1, B1, r1, w1⟩ => ?_⟩
    unfold lstF1 at w1
    cases e : d.seq with
    | none => rw [e] at w1; exact w1.elim
    | some xs =>
      rw [e] at w1
      obtain ⟨a, vs, rfl, h, r⟩ := seq_rep r1 e
      subst hP
      rw [hK]
      exact ⟨a, vs, rfl, h, fun l hl => w1 (.ref l) _ (Ex1.new hl) (B1.new hl) (rf_new B1 e1 hl r)⟩⟩
end
end Pu

set_option Elab.async false
set_option linter.all false
set_option maxRecDepth 100000
set_option maxHeartbeats 4000000
/-! The pure layer, part E: targets, what is walked, statements, loops, comprehensions, defs and their calls -/
namespace Pu
open PySem L2

/-! ### the state as it goes on -/
/-- owned ones may change; what is owned then was owned, or is new -/
structure Tr (O : Addr → Prop) (H : Hp) (O' : Addr → Prop) (H' : Hp) : Prop where
  keep : ∀ a o, ¬ O a → H a = some o → H' a = some o
  own : ∀ a, O' a → O a ∨ H a = none
theorem Tr.refl {O : Addr → Prop} {H : Hp} : Tr O H O H := ⟨fun _ _ _ h => h, fun _ h => .inl h⟩
theorem Tr.trans {O O1 O2 : Addr → Prop} {H H1 H2 : Hp} (a : Tr O H O1 H1) (b : Tr O1 H1 O2 H2) : Tr O H O2 H2 :=
  ⟨fun x o n h => b.keep x o (fun z => (a.own x z).elim n fun q => by rw [h] at q; cases q) (a.keep x o n h), fun x h => by
    rcases b.own x h with z | z
    · exact a.own x z
    · by_cases n : O x
      · exact .inl n
      · refine .inr ?_
        cases q : H x with
        | none => rfl
        | some o =>
          rw [a.keep x o n q] at z
          cases z⟩
theorem Tr.ex {O : Addr → Prop} {bx : Option Addr} {H H' : Hp} (e : Ex1 bx H H') (h : ∀ a, bx = some a → O a) : Tr O H O H' := ⟨fun a o n q => e a o (fun z => n (h a z)) q, fun _ h => .inl h⟩
/-- the ghosts with other owned ones -/
abbrev Gh.at (g : Gh) (O : Addr → Prop) : Gh := { g with O := O }
section
variable {P : Px} {O O' : Addr → Prop} {bx : Option Addr} {H H' : Hp}
theorem sqt_tr {K : PySem.W.Frag} {a : Addr} {vs : List V} (m : ∀ a, O a → Mut (H a)) (t : Tr O H O' H') (h : SqT K H a vs) : SqT K H' a vs := by
  rcases h with (h | ⟨o, h⟩) | h
  · exact .inl (.inl (t.keep a _ (fun z => by have := m a z; rw [h] at this; exact this) h))
  · exact .inl (.inr ⟨o, t.keep a _ (fun z => by have := m a z; rw [h] at this; exact this) h⟩)
  · exact .inr h
mutual
theorem Rep.tr (m : ∀ a, O a → Mut (H a)) (t : Tr O H O' H') : ∀ {d : D} {v : V}, Rep P O bx H d v → Rep P O' bx H' d v
  | _, _, .non => .non
  | _, _, .bl b => .bl b
  | _, _, .int i => .int i
  | _, _, .str x => .str x
  | _, _, .ty n => .ty n
  | _, _, .fn i => .fn i
  | _, _, .box h => .box h
  | _, _, .tup (a := a) h r => .tup (by
      refine t.keep a _ (fun z => ?_) h
      have q := m a z
      rw [h] at q
      exact q.elim) (Reps.tr m t r)
  | _, _, .lst (a := a) h n r => .lst (t.keep a _ n h) (fun z => (t.own a z).elim n fun q => by rw [h] at q; cases q) (Reps.tr m t r)
  | _, _, .fro (a := a) h r => .fro (h.elim (fun ⟨ob, q⟩ => .inl ⟨ob, t.keep a _ (fun z => by have := m a z; rw [q] at this; exact this) q⟩) .inr) (Reps.tr m t r)
theorem Reps.tr (m : ∀ a, O a → Mut (H a)) (t : Tr O H O' H') : ∀ {ds : List D} {vs : List V}, Reps P O bx H ds vs → Reps P O' bx H' ds vs
  | _, _, .nil => .nil
  | _, _, .cons h r => .cons (Rep.tr m t h) (Reps.tr m t r)
end
end
/-- where the call began -/
structure Base (g : Gh) (H0 H : Hp) : Prop where
  sub : ∀ a, g.O0 a → g.O a
  new : ∀ a, g.O a → g.O0 a ∨ H0 a = none
  ex : Ex1 g.bx H0 H
  trk : ∀ a, g.O0 a → H0 a ≠ none
theorem Base.at {g : Gh} {H0 H H' : Hp} (B : Base g H0 H) (e : Ex1 g.bx H H') : Base g H0 H' := ⟨B.sub, B.new, B.ex.trans e, B.trk⟩

inductive Out where
  | nx (ρ : DEnv)
  | rt (d : D)
  | bk (ρ : DEnv)
  | ct (ρ : DEnv)
def wpS (g : Gh) (H0 : Hp) (W : WX) (H : Hp) (m : Res Out) (E : Ends) : Prop := match m with
  | .ok (.nx ρ) b => ∀ O' σ' H', Tr g.O H O' H' → StE (g.at O') ρ b σ' H' → Base (g.at O') H0 H' → E.nx σ' H'
  | .ok (.bk ρ) b => ∀ O' σ' H', Tr g.O H O' H' → StE (g.at O') ρ b σ' H' → Base (g.at O') H0 H' → E.bk σ' H'
  | .ok (.ct ρ) b => ∀ O' σ' H', Tr g.O H O' H' → StE (g.at O') ρ b σ' H' → Base (g.at O') H0 H' → E.ct σ' H'
  | .ok (.rt d) b => ∀ v H', Ex1 g.bx H0 H' → BoxOk (g.at g.O0) b H' → Rep g.P g.O0 g.bx H' d v → E.rt v H'
  | .exc x b => ∀ cls dd σ' H', Ex1 g.bx H0 H' → BoxOk (g.at g.O0) b H' → XRep g.P x cls dd H' → W cls dd σ' H'
  | .stk => False
theorem wpS.at {g : Gh} {H0 H H1 : Hp} {O1 : Addr → Prop} {W : WX} {m : Res Out} {E : Ends} (t : Tr g.O H O1 H1) (h : wpS g H0 W H m E) : wpS (g.at O1) H0 W H1 m E := by
  match m, h with
  | .ok (.nx ρ) b, h => exact fun O' σ' H' t' => h O' σ' H' (t.trans t')
  | .ok (.bk ρ) b, h => exact fun O' σ' H' t' => h O' σ' H' (t.trans t')
  | .ok (.ct ρ) b, h => exact fun O' σ' H' t' => h O' σ' H' (t.trans t')
  | .ok (.rt d) b, h => exact h
  | .exc x b, h => exact h
theorem wpS.ends {g : Gh} {H0 H : Hp} {W : WX} {m : Res Out} {E E' : Ends} (h : wpS g H0 W H m E) (e1 : ∀ σ H, E.nx σ H → E'.nx σ H) (e2 : ∀ v H, E.rt v H → E'.rt v H) (e3 : ∀ σ H, E.bk σ H → E'.bk σ H) (e4 : ∀ σ H, E.ct σ H → E'.ct σ H) : wpS g H0 W H m E' := by
  match m, h with
  | .ok (.nx ρ) b, h => exact fun O' σ' H' t s B => e1 _ _ (h O' σ' H' t s B)
  | .ok (.bk ρ) b, h => exact fun O' σ' H' t s B => e3 _ _ (h O' σ' H' t s B)
  | .ok (.ct ρ) b, h => exact fun O' σ' H' t s B => e4 _ _ (h O' σ' H' t s B)
  | .ok (.rt d) b, h => exact fun v H' a B r => e2 _ _ (h v H' a B r)
  | .exc x b, h => exact h
theorem BoxOk.base {g : Gh} {b : Bx} {H0 H : Hp} (h : BoxOk g b H) (B : Base g H0 H) : BoxOk (g.at g.O0) b H := by
  unfold BoxOk at h ⊢
  cases e : g.bx with
  | none => rw [e] at h; exact h
  | some a =>
    rw [e] at h
    obtain ⟨⟨o, _⟩, q⟩ := h
    exact ⟨⟨o, o⟩, q⟩
/-- an expression ahead of a statement -/
theorem wpS_bind {α β : Type} {g : Gh} {H0 H : Hp} {W : WX} {σ : St} {R1 : Hp → α → β → Prop} {m : Res α} {k : α → M Out} {E : Ends} (h : wpS g H0 W H (m.bind k) E) (B : Base g H0 H) :
    wpG g W σ R1 H m fun v H1 => ∃ a b, Ex1 g.bx H H1 ∧ BoxOk g b H1 ∧ R1 H1 a v ∧ wpS g H0 W H (k a b) E := by
  match m, h with
  | .ok a b, h => exact fun v H' e Bx r => ⟨a, b, e, Bx, r, h⟩
  | .exc x b, h => exact fun cls dd H' e Bx r => h cls dd σ H' (B.ex.trans e) (Bx.base (B.at e)) r

/-! ### statements -/
def rS (P : Px) (W : WX) (f : DEnv → M Out) : TS := fun E σ H => ∃ g H0 ρ b, g.P = P ∧ StE g ρ b σ H ∧ Base g H0 H ∧ wpS g H0 W H (f ρ b) E
structure SS (X : Cx) (P : Px) (s : Stmt) (f : DEnv → M Out) : Prop where
  ps : ∀ W, Takes X W → PS X s (rS P W f)
structure SSs (X : Cx) (P : Px) (s : List Stmt) (f : DEnv → M Out) : Prop where
  ps : ∀ W, Takes X W → PSs X s (rS P W f)
theorem ps_imp {X : Cx} {s : Stmt} {t t' : TS} (h : PS X s t) (k : ∀ E σ H, t' E σ H → t E σ H) : PS X s t' := ⟨fun pins s σ H E I q => h.run pins s σ H E I (k E σ H q)⟩
theorem pss_imp {X : Cx} {s : List Stmt} {t t' : TS} (h : PSs X s t) (k : ∀ E σ H, t' E σ H → t E σ H) : PSs X s t' := ⟨fun pins s σ H E I q => h.run pins s σ H E I (k E σ H q)⟩
def sNext : DEnv → M Out := fun ρ => pure (.nx ρ)
def sSeq (f k : DEnv → M Out) : DEnv → M Out := fun ρ => f ρ >>= fun o => match o with
  | .nx ρ' => k ρ'
  | o => pure o
def sSet (i : Nat) (f : DEnv → M D) : DEnv → M Out := fun ρ => f ρ >>= fun d => chk d >>= fun d => pure (.nx (ρ.set i (some d)))
def sOwn (i : Nat) (f : DEnv → M (List D)) : DEnv → M Out := fun ρ => f ρ >>= fun ds => pure (.nx (ρ.set i (some (.own ds))))
def strip : D → D
  | .own xs => .lst xs
  | d => d
def sRet (f : DEnv → M D) : DEnv → M Out := fun ρ => f ρ >>= fun d => pure (.rt (strip d))
def sRetN : DEnv → M Out := fun _ => pure (.rt .non)
def sIf (t : DEnv → M Bool) (f k : DEnv → M Out) : DEnv → M Out := fun ρ => t ρ >>= fun c => if c = true then f ρ else k ρ
def sDrop (f : DEnv → M D) : DEnv → M Out := fun ρ => f ρ >>= fun _ => pure (.nx ρ)
def sBreak : DEnv → M Out := fun ρ => pure (.bk ρ)
def sCont : DEnv → M Out := fun ρ => pure (.ct ρ)
/-- ghost: what x owns is shared from here on -/
def sFrz (i : Nat) (k : DEnv → M Out) : DEnv → M Out := fun ρ => match ρ[i]? with
  | some (some (.own xs)) => k (ρ.set i (some (.lst xs)))
  | _ => stuck
section
variable {X : Cx} {P : Px} {s : Stmt} {rest : List Stmt} {e a b c : Expr} {es : List Expr} {pos pos' : Pos} {f fa fb : DEnv → M D} {t : DEnv → M Bool} {fs : DEnv → M (List D)} {u k : DEnv → M Out}
theorem sss_nil : SSs X P [] sNext := ⟨fun W _ => pss_imp pss_nil fun E σ H h => by
  obtain ⟨g, H0, ρ, b, hP, S, B, w⟩ := h
  exact w g.O σ H Tr.refl S B⟩
theorem sss_cons (h1 : SS X P s u) (h2 : SSs X P rest k) : SSs X P (s :: rest) (sSeq u k) := ⟨fun W tk => pss_imp (pss_cons (h1.ps W tk) (h2.ps W tk)) fun E σ H h => by
  obtain ⟨g, H0, ρ, b, hP, S, B, w⟩ := h
  refine ⟨g, H0, ρ, b, hP, S, B, ?_⟩
  have w' : wpS g H0 W H ((u ρ b).bind fun o => match o with
    | .nx ρ' => k ρ'
    | o => pure o) E := w
  match u ρ b, w' with
  | .ok (.nx ρ') b', w' => exact fun O' σ' H' t S' B' => ⟨g.at O', H0, ρ', b', hP, S', B', wpS.at t w'⟩
  | .ok (.rt d) b', w' => exact w'
  | .ok (.bk ρ') b', w' => exact w'
  | .ok (.ct ρ') b', w' => exact w'
  | .exc x b', w' => exact w'⟩
theorem sss_one (h1 : SS X P s u) : SSs X P [s] u := ⟨fun W tk => pss_one (h1.ps W tk)⟩
theorem ss_pass : SS X P (.Pass pos) sNext := ⟨fun W _ => ps_imp ps_pass fun E σ H h => by
  obtain ⟨g, H0, ρ, b, hP, S, B, w⟩ := h
  exact w g.O σ H Tr.refl S B⟩
theorem ss_break : SS X P (.Break pos) sBreak := ⟨fun W _ => ps_imp ps_break fun E σ H h => by
  obtain ⟨g, H0, ρ, b, hP, S, B, w⟩ := h
  exact w g.O σ H Tr.refl S B⟩
theorem ss_cont : SS X P (.Continue pos) sCont := ⟨fun W _ => ps_imp ps_continue fun E σ H h => by
  obtain ⟨g, H0, ρ, b, hP, S, B, w⟩ := h
  exact w g.O σ H Tr.refl S B⟩
theorem StE.bo {g : Gh} {ρ : DEnv} {b : Bx} {σ : St} {H : Hp} (S : StE g ρ b σ H) : ∀ a, g.bx = some a → g.O a := fun a z => (S.box.bxl a z).1
theorem get_set {α : Type} {l : List α} {i j : Nat} {x y : α} (h : (l.set i x)[j]? = some y) : (i = j ∧ x = y ∧ i < l.length) ∨ (i ≠ j ∧ l[j]? = some y) := by
  by_cases e : i = j
  · subst e
    by_cases hi : i < l.length
    · rw [List.getElem?_set_self hi] at h
      exact .inl ⟨rfl, Option.some.inj h, hi⟩
    · rw [List.getElem?_eq_none (by rw [List.length_set]; omega)] at h
      cases h
  · rw [List.getElem?_set_ne e] at h
    exact .inr ⟨e, h⟩
/-- a name takes a value that is no one's own -/
theorem StE.set {g : Gh} {ρ : DEnv} {b : Bx} {σ : St} {H : Hp} (S : StE g ρ b σ H) {d : D} {v : V} (r : Rep g.P g.O g.bx H d v) (i : Nat) : StE g (ρ.set i (some d)) b (σ.set i (some v)) H := by
  have nown : ∀ ds, d ≠ .own ds := fun ds e => by rw [e] at r; cases r
  have back : ∀ (j : Nat) (es : List D), (ρ.set i (some d))[j]? = some (some (.own es)) → i ≠ j ∧ ρ[j]? = some (some (.own es)) := fun j es h => by
    rcases get_set h with ⟨_, q, _⟩ | q
    · exact absurd (Option.some.inj q) (nown es)
    · exact q
  refine ⟨by rw [List.length_set, List.length_set]; exact S.len, fun j d' h => ?_, fun j l ds es a h1 h2 h3 h4 => ?_, S.box, S.mt⟩
  · rcases get_set h with ⟨q1, q2, q3⟩ | ⟨q1, q2⟩
    · cases q2
      subst q1
      exact ⟨v, List.getElem?_set_self (by rw [S.len]; exact q3), .rep r⟩
    · obtain ⟨w, h1, h2⟩ := S.val j d' q2
      exact ⟨w, by rw [List.getElem?_set_ne q1]; exact h1, h2⟩
  · obtain ⟨n1, e1⟩ := back j ds h1
    obtain ⟨n2, e2⟩ := back l es h2
    rw [List.getElem?_set_ne n1] at h3
    rw [List.getElem?_set_ne n2] at h4
    exact S.sep j l ds es a e1 e2 h3 h4
/-- a name takes a new list as its own -/
theorem StE.setOwn {g : Gh} {ρ : DEnv} {b : Bx} {σ : St} {H : Hp} {p : Addr} {ds : List D} {vs : List V} (S : StE g ρ b σ H) (h0 : ∀ (j : Nat) (es : List D), ρ[j]? = some (some (.own es)) → σ[j]? ≠ some (some (.ref p))) (np : g.bx ≠ some p) (n0 : ¬ g.O0 p)
    (w : ∀ (j : Nat) (d : D) (v : V), ρ[j]? = some (some d) → σ[j]? = some (some v) → RepT g H d v → RepT (g.at fun a => g.O a ∨ a = p) H d v) (bw : BoxOk (g.at fun a => g.O a ∨ a = p) b H)
    (hp : H p = some (.lst vs)) (r : Reps g.P (fun a => g.O a ∨ a = p) g.bx H ds vs) (i : Nat) : StE (g.at fun a => g.O a ∨ a = p) (ρ.set i (some (.own ds))) b (σ.set i (some (.ref p))) H := by
  refine ⟨by rw [List.length_set, List.length_set]; exact S.len, fun j d' h => ?_, fun j l ds' es a h1 h2 h3 h4 => ?_, bw, fun a h => ?_⟩
  · rcases get_set h with ⟨q1, q2, q3⟩ | ⟨q1, q2⟩
    · cases q2
      subst q1
      exact ⟨.ref p, List.getElem?_set_self (by rw [S.len]; exact q3), .own hp (.inr rfl) n0 np r⟩
    · obtain ⟨v, h1, h2⟩ := S.val j d' q2
      exact ⟨v, by rw [List.getElem?_set_ne q1]; exact h1, w j d' v q2 h1 h2⟩
  · rcases get_set h1 with ⟨q1, _, k1⟩ | ⟨q1, q2⟩
    · rcases get_set h2 with ⟨q3, _, _⟩ | ⟨q3, q4⟩
      · exact q1.symm.trans q3
      · subst q1
        rw [List.getElem?_set_self (by rw [S.len]; exact k1)] at h3
        cases h3
        rw [List.getElem?_set_ne q3] at h4
        exact absurd h4 (h0 l es q4)
    · rcases get_set h2 with ⟨q3, _, k3⟩ | ⟨q3, q4⟩
      · subst q3
        rw [List.getElem?_set_self (by rw [S.len]; exact k3)] at h4
        cases h4
        rw [List.getElem?_set_ne q1] at h3
        exact absurd h3 (h0 j ds' q2)
      · rw [List.getElem?_set_ne q1] at h3
        rw [List.getElem?_set_ne q3] at h4
        exact S.sep j l ds' es a q2 q4 h3 h4
  · rcases h with h | h
    · exact S.mt a h
    · rw [h, hp]
      trivial
theorem set_read {i : Nat} {W : WX} {E : Ends} {σ : St} {H : Hp} (h : rS P W (sSet i f) E σ H) : rE P W f σ H fun v H1 => E.nx (σ.set i (some v)) H1 := by
  obtain ⟨g, H0, ρ, b, hP, S, B, w⟩ := h
  refine ⟨g, ρ, b, hP, S, (wpS_bind (R1 := RepT g) w B).imp fun v H1 ⟨d, b1, e1, B1, r1, w1⟩ => ?_⟩
  have B1' := B.at e1
  have S1 := S.mono e1 B1
  cases r1 with
  | own => exact w1.elim
  | rep r =>
    have w2 : wpS g H0 W H (.ok (.nx (ρ.set i (some d))) b1) E := by cases r <;> exact w1
    exact w2 g.O _ H1 (Tr.ex e1 S.bo) (S1.set r i) B1'
theorem ss_set (i : Nat) {x : Str} {xp : Pos} (hN : X.N.Nodup) (he : SE X P e f) (hi : X.N[i]? = some x := by rfl) (hx : Loc X.env.scope x := by first | exact .inl rfl | exact .inr rfl) (hs : swapsWith e (some (.Name x xp)) pos.line X.env = pure false := by rfl) (hf : X.fn x = true ∨ X.env.scope.names.lookup x = some .local := by first | exact .inl rfl | exact .inr rfl) :
    SS X P (.Assign [.Name x xp] e pos) (sSet i f) := ⟨fun W tk => ps_imp (ps_set hN hi hx (he.pe W tk) hs hf) fun E σ H h => set_read h⟩
theorem own_read {i : Nat} {W : WX} {E : Ends} {σ : St} {H : Hp} (h : rS P W (sOwn i fs) E σ H) : rF P W fs σ H fun v H1 => E.nx (σ.set i (some v)) H1 := by
  obtain ⟨g, H0, ρ, b, hP, S, B, w⟩ := h
  refine ⟨g, ρ, b, hP, S, (wpS_bind (R1 := RF g H) w B).imp fun v H1 ⟨ds, b1, e1, B1, r1, w1⟩ => ?_⟩
  obtain ⟨p, vs, rfl, h0, hp, r⟩ := r1
  have S1 := S.mono e1 B1
  have B1' := B.at e1
  have n0 : ¬ g.O0 p := fun z => S.trk p (B.sub p z) h0
  have np : g.bx ≠ some p := fun z => by
    obtain ⟨_, vs, q⟩ := S.box.bxl p z
    rw [h0] at q; cases q
  have wd : ∀ a, (g.O a ∨ a = p) → g.O a ∨ H a = none := fun a h => h.elim .inl fun z => .inr (by rw [z]; exact h0)
  have bl : BxL (fun a => g.O a ∨ a = p) g.bx H := fun a z => ⟨.inl (S.bo a z), (S.box.bxl a z).2⟩
  refine w1 (fun a => g.O a ∨ a = p) _ H1 ⟨fun a o n q => e1 a o (fun z => n (S.bo a z)) q, wd⟩ (S1.setOwn (p := p) (vs := vs) (ds := ds) ?_ np n0 ?_ ?_ hp r i) ⟨fun a h => .inl (B1'.sub a h), fun a h => ?_, B1'.ex, B1'.trk⟩
  · intro j es h1 h2
    obtain ⟨v, h3, h4⟩ := S.val j _ h1
    rw [h2] at h3
    cases h3
    cases h4 with
    | own q => rw [h0] at q; cases q
    | rep q => cases q
  · intro j d v h1 h2 _
    obtain ⟨v', h3, h4⟩ := S.val j _ h1
    rw [h2] at h3
    cases h3
    cases h4 with
    | rep q => exact .rep ((q.own wd).mono bl e1)
    | own q o n nb rr => exact .own (e1 _ _ nb q) (.inl o) n nb ((rr.own wd).mono bl e1)
  · have z := B1
    unfold BoxOk at z ⊢
    cases eb : g.bx with
    | none => rw [eb] at z; exact z
    | some a =>
      rw [eb] at z
      exact ⟨⟨z.1.1, .inl z.1.2⟩, z.2⟩
  · rcases h with h | h
    · exact B1'.new a h
    · rw [h]
      exact .inr (fresh_back S.box.bxl B.ex h0)
theorem ss_own (i : Nat) {x : Str} {xp : Pos} (hN : X.N.Nodup) (he : SF X P e fs) (hi : X.N[i]? = some x := by rfl) (hx : Loc X.env.scope x := by first | exact .inl rfl | exact .inr rfl) (hs : swapsWith e (some (.Name x xp)) pos.line X.env = pure false := by rfl) (hf : X.fn x = true ∨ X.env.scope.names.lookup x = some .local := by first | exact .inl rfl | exact .inr rfl) :
    SS X P (.Assign [.Name x xp] e pos) (sOwn i fs) := ⟨fun W tk => ps_imp (ps_set hN hi hx (he.pe W tk) hs hf) fun E σ H h => own_read h⟩
theorem strip_rep {g : Gh} {H0 H : Hp} {d : D} {v : V} (r : RepT g H d v) (B : Base g H0 H) : Rep g.P g.O0 g.bx H (strip d) v := by
  have w : ∀ a, g.O0 a → g.O a ∨ H a = none := fun a h => .inl (B.sub a h)
  cases r with
  | own q o n nb r => exact .lst q n (r.own w)
  | rep r =>
    have q := r.own w
    cases r <;> exact q
theorem ss_ret (he : SE X P e f) : SS X P (.Return (some e) pos) (sRet f) := ⟨fun W tk => ps_imp (ps_ret (he.pe W tk)) fun E σ H h => by
  obtain ⟨g, H0, ρ, b, hP, S, B, w⟩ := h
  refine ⟨g, ρ, b, hP, S, (wpS_bind (R1 := RepT g) w B).imp fun v H1 ⟨d, b1, e1, B1, r1, w1⟩ => ?_⟩
  exact w1 v H1 (B.at e1).ex (B1.base (B.at e1)) (strip_rep r1 (B.at e1))⟩
theorem ss_retN : SS X P (.Return none pos) sRetN := ⟨fun W _ => ps_imp ps_retN fun E σ H h => by
  obtain ⟨g, H0, ρ, b, hP, S, B, w⟩ := h
  exact w .non H B.ex (S.box.base B) .non⟩
theorem ss_if {th el : List Stmt} (hc : STt X P c t) (h1 : SSs X P th u) (h2 : SSs X P el k) : SS X P (.If c th el pos) (sIf t u k) := ⟨fun W tk => ps_imp (ps_if (hc.pt W tk) (h1.ps W tk) (h2.ps W tk)) fun E σ H h => by
  obtain ⟨g, H0, ρ, b, hP, S, B, w⟩ := h
  refine ⟨g, ρ, b, hP, S, (wpS_bind (R1 := fun _ a v => v = a) w B).imp fun v H1 ⟨d, b1, e1, B1, r1, w1⟩ => ?_⟩
  subst r1
  have t1 : Tr g.O H g.O H1 := Tr.ex e1 S.bo
  cases v with
  | true => exact iteT ⟨g, H0, ρ, b1, hP, S.mono e1 B1, B.at e1, wpS.at t1 w1⟩
  | false => exact iteF ⟨g, H0, ρ, b1, hP, S.mono e1 B1, B.at e1, wpS.at t1 w1⟩⟩
theorem ss_drop (he : SE X P e f) (hs : swapsWith e none pos.line X.env = pure false := by rfl) : SS X P (.Expr e pos) (sDrop f) := ⟨fun W tk => ps_imp (ps_expr (he.pe W tk) hs) fun E σ H h => by
  obtain ⟨g, H0, ρ, b, hP, S, B, w⟩ := h
  refine ⟨g, ρ, b, hP, S, (wpS_bind (R1 := RepT g) w B).imp fun v H1 ⟨d, b1, e1, B1, r1, w1⟩ => ?_⟩
  exact w1 g.O σ H1 (Tr.ex e1 S.bo) (S.mono e1 B1) (B.at e1)⟩
/-- what a name owns is shared from here on -/
theorem StE.frz {g : Gh} {H0 : Hp} {ρ : DEnv} {b : Bx} {σ : St} {H : Hp} (S : StE g ρ b σ H) (B : Base g H0 H) {i : Nat} {xs : List D} (h : ρ[i]? = some (some (.own xs))) :
    ∃ O', Tr g.O H O' H ∧ StE (g.at O') (ρ.set i (some (.lst xs))) b σ H ∧ Base (g.at O') H0 H := by
  obtain ⟨v, hv, r⟩ := S.val i _ h
  cases r with
  | rep r => cases r
  | @own _ vs a q o n nb r =>
    have sub : ∀ x, (g.O x ∧ x ≠ a) → g.O x ∨ H x = none := fun x h => .inl h.1
    refine ⟨fun x => g.O x ∧ x ≠ a, ⟨fun _ _ _ q => q, sub⟩, ⟨by rw [List.length_set]; exact S.len, fun j d hj => ?_, fun j l ds es c h1 h2 h3 h4 => ?_, ?_, fun x h => S.mt x h.1⟩, ⟨fun x h => ⟨B.sub x h, fun z => n (by rw [← z]; exact h)⟩, fun x h => B.new x h.1, B.ex, B.trk⟩⟩
    · rcases get_set hj with ⟨q1, q2, q3⟩ | ⟨q1, q2⟩
      · cases q2
        subst q1
        exact ⟨_, hv, .rep (.lst q (fun z => z.2 rfl) (r.own sub))⟩
      · obtain ⟨w, h1, h2⟩ := S.val j d q2
        refine ⟨w, h1, ?_⟩
        cases h2 with
        | rep h2 => exact .rep (h2.own sub)
        | @own _ vs2 a2 q5 o2 n2 nb2 r2 => exact .own q5 ⟨o2, fun z => q1 (S.sep i j _ _ a h q2 hv (by rw [← z]; exact h1))⟩ n2 nb2 (r2.own sub)
    · have bk : ∀ (m : Nat) (fs : List D), (ρ.set i (some (.lst xs)))[m]? = some (some (.own fs)) → ρ[m]? = some (some (.own fs)) := fun m fs hm => by
        rcases get_set hm with ⟨_, q2, _⟩ | ⟨_, q2⟩
        · cases q2
        · exact q2
      exact S.sep j l ds es c (bk j ds h1) (bk l es h2) h3 h4
    · have z := S.box
      unfold BoxOk at z ⊢
      cases eb : g.bx with
      | none => rw [eb] at z; exact z
      | some c =>
        rw [eb] at z nb
        exact ⟨⟨z.1.1, z.1.2, fun y => nb (by rw [y])⟩, z.2⟩
theorem ss_frz (i : Nat) (h : SSs X P rest k) : SSs X P rest (sFrz i k) := ⟨fun W tk => pss_imp (h.ps W tk) fun E σ H h => by
  obtain ⟨g, H0, ρ, b, hP, S, B, w⟩ := h
  unfold sFrz at w
  cases e : ρ[i]? with
  | none => rw [e] at w; exact w.elim
  | some o =>
    rw [e] at w
    cases o with
    | none => exact w.elim
    | some d =>
      cases d with
      | own xs =>
        obtain ⟨O', t, S', B'⟩ := S.frz B e
        exact ⟨g.at O', H0, _, b, hP, S', B', wpS.at t w⟩
      | _ => exact w.elim⟩

/-! ### what is owned changes -/
theorem Ex1.write {bx : Option Addr} {H0 H : Hp} {p : Addr} {o : HO} (e : Ex1 bx H0 H) (h0 : H0 p = none) : Ex1 bx H0 (upd H p o) := fun a u n q => by
  rw [upd_ne (ne_of_none q h0)]
  exact e a u n q
/-- the list that slot i owns is written -/
theorem StE.write {g : Gh} {H0 : Hp} {ρ : DEnv} {b : Bx} {σ : St} {H : Hp} (S : StE g ρ b σ H) (B : Base g H0 H) {i : Nat} {a : Addr} {xs ys : List D} {vs us : List V} (h : ρ[i]? = some (some (.own xs))) (hv : σ[i]? = some (some (.ref a)))
    (q : H a = some (.lst vs)) (o : g.O a) (n : ¬ g.O0 a) (nb : g.bx ≠ some a) (r : Reps g.P g.O g.bx H ys us) :
    Tr g.O H g.O (upd H a (.lst us)) ∧ StE g (ρ.set i (some (.own ys))) b σ (upd H a (.lst us)) ∧ Base g H0 (upd H a (.lst us)) := by
  have hi : i < ρ.length := (List.getElem?_eq_some_iff.mp h).1
  have old : ∀ (m : Nat) (fs : List D), (ρ.set i (some (.own ys)))[m]? = some (some (.own fs)) → ∃ fs', ρ[m]? = some (some (.own fs')) := fun m fs hm => by
    rcases get_set hm with ⟨q1, q2, _⟩ | ⟨_, q2⟩
    · exact ⟨xs, by rw [← q1]; exact h⟩
    · exact ⟨fs, q2⟩
  refine ⟨⟨fun c u m e => by rw [upd_ne (fun z => m (by rw [z]; exact o))]; exact e, fun _ h => .inl h⟩, ⟨by rw [List.length_set]; exact S.len, fun j d hj => ?_, fun j l ds es c h1 h2 h3 h4 => ?_, ?_, fun c h => ?_⟩, ⟨B.sub, B.new, B.ex.write ((B.new a o).resolve_left n), B.trk⟩⟩
  · rcases get_set hj with ⟨q1, q2, q3⟩ | ⟨q1, q2⟩
    · cases q2
      subst q1
      exact ⟨_, hv, .own upd_same o n nb (r.write o q)⟩
    · obtain ⟨w, h1, h2⟩ := S.val j d q2
      refine ⟨w, h1, ?_⟩
      cases h2 with
      | rep h2 => exact .rep (h2.write o q)
      | @own _ vs2 a2 q5 o2 n2 nb2 r2 =>
        have ne : a2 ≠ a := fun z => q1 (S.sep i j _ _ a h q2 hv (by rw [← z]; exact h1))
        exact .own (by rw [upd_ne ne]; exact q5) o2 n2 nb2 (r2.write o q)
  · obtain ⟨ds', e1⟩ := old j ds h1
    obtain ⟨es', e2⟩ := old l es h2
    exact S.sep j l ds' es' c e1 e2 h3 h4
  · have z := S.box
    unfold BoxOk at z ⊢
    cases eb : g.bx with
    | none => rw [eb] at z; exact z
    | some c =>
      rw [eb] at z nb
      exact ⟨z.1, by rw [upd_ne (fun y => nb (by rw [y]))]; exact z.2⟩
  · by_cases z : c = a
    · rw [z, upd_same]
      trivial
    · rw [upd_ne z]
      exact S.mt c h
def ownAt (ρ : DEnv) (i : Nat) : Option (List D) := match ρ[i]? with
  | some (some (.own xs)) => some xs
  | _ => none
theorem ownAt_eq {ρ : DEnv} {i : Nat} {xs : List D} (h : ownAt ρ i = some xs) : ρ[i]? = some (some (.own xs)) := by
  unfold ownAt at h
  cases e : ρ[i]? with
  | none => rw [e] at h; cases h
  | some o =>
    rw [e] at h
    cases o with
    | none => cases h
    | some d => cases d <;> cases h; rfl
/-- x.append(e) -/
def sApp (i : Nat) (f : DEnv → M D) : DEnv → M Out := fun ρ => match ownAt ρ i with
  | some xs => f ρ >>= fun d => chk d >>= fun d => if xs.length < 100000 then pure (.nx (ρ.set i (some (.own (xs ++ [d]))))) else stuck
  | none => stuck
theorem szlt {n : Nat} (h : n < 100000) : n < sizeLine := Nat.lt_of_lt_of_le h (by decide)
theorem wp_iteS {c : Prop} [Decidable c] {g : Gh} {H0 : Hp} {W : WX} {H : Hp} {m : M Out} {b : Bx} {E : Ends} (w : wpS g H0 W H ((if c then m else stuck) b) E) : c ∧ wpS g H0 W H (m b) E := by
  by_cases h : c
  · rw [if_pos h] at w
    exact ⟨h, w⟩
  · rw [if_neg h] at w
    exact w.elim
theorem chk_repS {g : Gh} {H0 : Hp} {W : WX} {H H1 : Hp} {d : D} {v : V} {b : Bx} {k : D → M Out} {E : Ends} (r : RepT g H1 d v) (w : wpS g H0 W H ((chk d >>= k) b) E) : Rep g.P g.O g.bx H1 d v ∧ wpS g H0 W H (k d b) E := by
  cases r with
  | own => exact w.elim
  | rep r =>
    refine ⟨r, ?_⟩
    cases r <;> exact w
theorem ss_app (i : Nat) {x : Str} {p1 p2 p3 : Pos} (hN : X.N[i]? = some x) (he : SE X P e f) (hK : X.K = P.K := by rfl) (hv : Vis X.env.scope x := by first | exact Or.inl rfl | exact Or.inr (Or.inl rfl) | exact Or.inr (Or.inr rfl)) (hd : (x == ("__debug__" : Str)) = false := by decide) (hcd : (x == ("__classdict__" : Str)) = false := by decide)
    (hs : swapsWith (.Call (.Attribute (.Name x p1) "append" p2) [e] [] p3) none pos.line X.env = pure false := by rfl) (he1 : starEach [e] X.env = (false, eval e X.env) :: starEach [] X.env := by rfl)
    (hpe : ∀ {te : TE}, PE X e te → PE X (.Call (.Attribute (.Name x p1) "append" p2) [e] [] p3) (tBM X.K "list" rAppend (tVar i) (tCons te tNil)) := by
      intro te h
      exact pe_bm PySem.F.plainAttrs_list PySem.F.slot_list_append PySem.F.type_list_append mt_append (pv _) (pa_cons h pa_nil)) :
    SS X P (.Expr (.Call (.Attribute (.Name x p1) "append" p2) [e] [] p3) pos) (sApp i f) := ⟨fun W tk => ps_imp (ps_expr (hpe (he.pe W tk)) hs) fun E σ H h => by
  obtain ⟨g, H0, ρ, b, hP, S, B, w⟩ := h
  have w : wpS g H0 W H ((match ownAt ρ i with
    | some xs => f ρ >>= fun d => chk d >>= fun d => if xs.length < 100000 then pure (.nx (ρ.set i (some (.own (xs ++ [d]))))) else stuck
    | none => stuck : M Out) b) E := w
  cases eo : ownAt ρ i with
  | none => rw [eo] at w; exact w.elim
  | some xs =>
    rw [eo] at w
    have ho := ownAt_eq eo
    obtain ⟨v, hvi, r⟩ := S.val i _ ho
    cases r with
    | rep r => cases r
    | @own _ vs a q o n nb r =>
      refine ⟨_, hvi, .inl ⟨rfl, _, .inl (.inl q)⟩, g, ρ, b, hP, S, (wpS_bind (R1 := RepT g) w B).imp fun v H1 ⟨d, b1, e1, B1, r1, w1⟩ => ?_⟩
      obtain ⟨rd, w2⟩ := chk_repS r1 w1
      obtain ⟨hl, w3⟩ := wp_iteS (c := xs.length < 100000) (m := pure (.nx (ρ.set i (some (.own (xs ++ [d])))))) w2
      have q1 := e1 a _ nb q
      have S1 := S.mono e1 B1
      have r' := r.mono S.box.bxl e1
      obtain ⟨t, S2, B2⟩ := S1.write (B.at e1) ho hvi q1 o n nb (r'.append (.cons rd .nil))
      refine ⟨a, vs, v, rfl, rfl, q1, by rw [← r.length]; exact szlt hl, ?_⟩
      exact w3 g.O σ _ ((Tr.ex e1 S.bo).trans t) S2 B2⟩
end
end Pu

set_option Elab.async false
set_option linter.all false
set_option maxRecDepth 100000
set_option maxHeartbeats 4000000
/-! The pure layer, part F: items stored, targets, what is walked, loops -/
namespace Pu
open PySem L2
section
variable {X : Cx} {P : Px} {s : Stmt} {rest : List Stmt} {e a b c : Expr} {es : List Expr} {pos pos' : Pos} {f fa fb : DEnv → M D} {t : DEnv → M Bool} {fs : DEnv → M (List D)} {u k : DEnv → M Out}

/-! ### x[i] = e -/
def putBx (i : Int) (v : Int) : M Unit := fun b => match ixN b.length i with
  | some j => .ok () (b.set j v)
  | none => .stk
/-- x[j] = d: of a list that x owns, or of the box -/
def putD (x : Nat) (ρ : DEnv) (dx d : D) (j : D) : M Out := match j with
  | .int k => match dx with
    | .own xs => match ixN xs.length k with
      | some m => pure (.nx (ρ.set x (some (.own (xs.set m d)))))
      | none => stuck
    | .box => match d with
      | .int v => putBx k v >>= fun _ => pure (.nx ρ)
      | _ => stuck
    | _ => stuck
  | _ => stuck
def sPut (x : Nat) (f g : DEnv → M D) : DEnv → M Out := fun ρ => match ρ[x]? with
  | some (some dx) => f ρ >>= fun d => chk d >>= fun d => g ρ >>= fun j => putD x ρ dx d j
  | _ => stuck
theorem ss_put (i : Nat) {x : Str} {p1 p2 : Pos} (hN : X.N[i]? = some x) (he : SE X P e fa) (hj : SE X P b fb) (hv : Vis X.env.scope x := by first | exact Or.inl rfl | exact Or.inr (Or.inl rfl) | exact Or.inr (Or.inr rfl)) (hd : (x == ("__debug__" : Str)) = false := by decide) (hcd : (x == ("__classdict__" : Str)) = false := by decide)
    (hps : ∀ {t1 t2 : TE}, PE X e t1 → PE X b t2 → PS X (.Assign [.Subscript (.Name x p1) b p2] e pos) (tAsg t1 (gSub (tVar i) t2 rSetL)) := by
      intro t1 t2 h1 h2
      exact ps_asg h1 (pg_sub (pv _) h2 set_list)) :
    SS X P (.Assign [.Subscript (.Name x p1) b p2] e pos) (sPut i fa fb) := ⟨fun W tk => ps_imp (hps (he.pe W tk) (hj.pe W tk)) fun E σ H h => by
  obtain ⟨g, H0, ρ, b, hP, S, B, w⟩ := h
  have w : wpS g H0 W H ((match ρ[i]? with
    | some (some dx) => fa ρ >>= fun d => chk d >>= fun d => fb ρ >>= fun j => putD i ρ dx d j
    | _ => stuck : M Out) b) E := w
  cases ei : ρ[i]? with
  | none => rw [ei] at w; exact w.elim
  | some od =>
    cases od with
    | none => rw [ei] at w; exact w.elim
    | some dx =>
      rw [ei] at w
      refine ⟨g, ρ, b, hP, S, (wpS_bind (R1 := RepT g) w B).imp fun v H1 ⟨d, b1, e1, B1, r1, w1⟩ => ?_⟩
      obtain ⟨rd, w2⟩ := chk_repS r1 w1
      have S1 := S.mono e1 B1
      obtain ⟨xv, hx, rx⟩ := S1.val i dx ei
      refine ⟨xv, hx, g, ρ, b1, hP, S1, (wpS_bind (R1 := RepT g) (wpS.at (O1 := g.O) (Tr.ex e1 S.bo) w2) (B.at e1)).imp fun j H2 ⟨dj, b2, e2, B2, r2, w3⟩ => ?_⟩
      have w3 : wpS g H0 W H1 (putD i ρ dx d dj b2) E := w3
      have S2 := S1.mono e2 B2
      have rx2 := rx.mono S1.box.bxl e2
      have rd2 := rd.mono S1.box.bxl e2
      cases dj with
      | int k =>
        have ej := int_rt r2
        subst ej
        cases dx with
        | own xs =>
          have w3 : wpS g H0 W H1 ((match ixN xs.length k with
            | some m => pure (.nx (ρ.set i (some (.own (xs.set m d)))))
            | none => stuck : M Out) b2) E := w3
          cases ek : ixN xs.length k with
          | none => rw [ek] at w3; exact w3.elim
          | some m =>
            rw [ek] at w3
            cases rx2 with
            | rep rx2 => cases rx2
            | @own _ vs a q o n nb r =>
              obtain ⟨t, S3, B3⟩ := S2.write (B.at (e1.trans e2)) ei hx q o n nb (r.set rd2 m)
              exact ⟨a, vs, k, m, rfl, rfl, q, by rw [← r.length]; exact ek, w3 g.O σ _ ((Tr.ex e2 S.bo).trans t) S3 B3⟩
        | box =>
          cases d with
          | int z =>
            have ez : v = .int z := by cases rd; rfl
            subst ez
            have w3 : wpS g H0 W H1 ((putBx k z b2).bind fun _ => pure (.nx ρ)) E := w3
            cases ek : ixN b2.length k with
            | none =>
              have e0 : putBx k z b2 = .stk := by unfold putBx; rw [ek]
              rw [e0] at w3
              exact w3.elim
            | some m =>
              have e0 : putBx k z b2 = .ok () (b2.set m z) := by unfold putBx; rw [ek]
              rw [e0] at w3
              cases rx2 with
              | rep rx2 =>
                cases rx2 with
                | @box a hb =>
                  have Bb := B2
                  unfold BoxOk at Bb
                  rw [hb] at Bb
                  obtain ⟨⟨o0, o⟩, q⟩ := Bb
                  refine ⟨a, _, k, m, rfl, rfl, q, by rw [List.length_map]; exact ek, ?_⟩
                  have el : (b2.map V.int).set m (.int z) = (b2.set m z).map V.int := by rw [List.map_set]
                  rw [el]
                  have ex : Ex1 g.bx H2 (upd H2 a (.lst ((b2.set m z).map V.int))) := fun c u nc qc => by
                    rw [upd_ne (fun y => nc (by rw [hb, y]))]
                    exact qc
                  have B3 : BoxOk g (b2.set m z) (upd H2 a (.lst ((b2.set m z).map V.int))) := by
                    unfold BoxOk
                    rw [hb]
                    exact ⟨⟨o0, o⟩, upd_same⟩
                  exact w3 g.O σ _ (Tr.ex (e2.trans ex) S.bo) (S2.mono ex B3) (B.at ((e1.trans e2).trans ex))
          | _ => exact w3.elim
        | _ => exact w3.elim
      | _ => exact w3.elim⟩

/-! ### x.extend(e), x.append(y.pop(e)) -/
def sExt (i : Nat) (f : DEnv → M D) : DEnv → M Out := fun ρ => match ownAt ρ i with
  | some xs => f ρ >>= fun d => match d with
    | .lst ys => if xs.length + ys.length < 100000 then pure (.nx (ρ.set i (some (.own (xs ++ ys))))) else stuck
    | _ => stuck
  | none => stuck
theorem ss_ext (i : Nat) {x : Str} {p1 p2 p3 : Pos} (hN : X.N[i]? = some x) (he : SE X P e f) (hK : X.K = P.K := by rfl) (hv : Vis X.env.scope x := by first | exact Or.inl rfl | exact Or.inr (Or.inl rfl) | exact Or.inr (Or.inr rfl)) (hd : (x == ("__debug__" : Str)) = false := by decide) (hcd : (x == ("__classdict__" : Str)) = false := by decide)
    (hs : swapsWith (.Call (.Attribute (.Name x p1) "extend" p2) [e] [] p3) none pos.line X.env = pure false := by rfl) (he1 : starEach [e] X.env = (false, eval e X.env) :: starEach [] X.env := by rfl)
    (hpe : ∀ {te : TE}, PE X e te → PE X (.Call (.Attribute (.Name x p1) "extend" p2) [e] [] p3) (tBM X.K "list" rExtend (tVar i) (tCons te tNil)) := by
      intro te h
      exact pe_bm PySem.F.plainAttrs_list PySem.F.slot_list_extend PySem.F.type_list_extend mt_extend (pv _) (pa_cons h pa_nil)) :
    SS X P (.Expr (.Call (.Attribute (.Name x p1) "extend" p2) [e] [] p3) pos) (sExt i f) := ⟨fun W tk => ps_imp (ps_expr (hpe (he.pe W tk)) hs) fun E σ H h => by
  obtain ⟨g, H0, ρ, b, hP, S, B, w⟩ := h
  have w : wpS g H0 W H ((match ownAt ρ i with
    | some xs => f ρ >>= fun d => match d with
      | .lst ys => if xs.length + ys.length < 100000 then pure (.nx (ρ.set i (some (.own (xs ++ ys))))) else stuck
      | _ => stuck
    | none => stuck : M Out) b) E := w
  cases eo : ownAt ρ i with
  | none => rw [eo] at w; exact w.elim
  | some xs =>
    rw [eo] at w
    have ho := ownAt_eq eo
    obtain ⟨v, hvi, r⟩ := S.val i _ ho
    cases r with
    | rep r => cases r
    | @own _ vs a q o n nb r =>
      refine ⟨_, hvi, .inl ⟨rfl, _, .inl (.inl q)⟩, g, ρ, b, hP, S, (wpS_bind (R1 := RepT g) w B).imp fun v H1 ⟨d, b1, e1, B1, r1, w1⟩ => ?_⟩
      cases d with
      | lst ys =>
        obtain ⟨hl, w3⟩ := wp_iteS (c := xs.length + ys.length < 100000) (m := pure (.nx (ρ.set i (some (.own (xs ++ ys)))))) w1
        cases r1 with
        | rep r1 =>
          cases r1 with
          | @lst c _ us qc nc rc =>
            have q1 := e1 a _ nb q
            have S1 := S.mono e1 B1
            have r' := r.mono S.box.bxl e1
            obtain ⟨t, S2, B2⟩ := S1.write (B.at e1) ho hvi q1 o n nb (r'.append rc)
            refine ⟨a, c, vs, us, rfl, rfl, q1, qc, by rw [← r.length, ← rc.length]; exact szl (Nat.le_of_lt hl), ?_⟩
            exact w3 g.O σ _ ((Tr.ex e1 S.bo).trans t) S2 B2
      | _ => exact w1.elim⟩
/-- x.append(y.pop(e)) -/
def popApp (i j : Nat) (ρ : DEnv) (xs ys : List D) (d : D) : M Out := match d with
  | .int k => if -(2 ^ 63) ≤ k ∧ k < 2 ^ 63 ∧ xs.length < 100000 then match seqIndex? k ys.length with
      | some m => match ys[m]? with
        | some z => pure (.nx ((ρ.set j (some (.own (ys.eraseIdx m)))).set i (some (.own (xs ++ [z])))))
        | none => stuck
      | none => stuck
    else stuck
  | _ => stuck
def sPopApp (i j : Nat) (f : DEnv → M D) : DEnv → M Out := fun ρ => match ownAt ρ i, ownAt ρ j with
  | some xs, some ys => if i = j then stuck else f ρ >>= fun d => popApp i j ρ xs ys d
  | _, _ => stuck
theorem ss_popApp (i j : Nat) {x y : Str} {p1 p2 p3 p4 p5 p6 : Pos} (hN : X.N[i]? = some x) (hM : X.N[j]? = some y) (he : SE X P e f) (hK : X.K = P.K := by rfl) (hs : swapsWith (.Call (.Attribute (.Name x p1) "append" p2) [.Call (.Attribute (.Name y p4) "pop" p5) [e] [] p6] [] p3) none pos.line X.env = pure false := by rfl)
    (hpe : ∀ {te : TE}, PE X e te → PE X (.Call (.Attribute (.Name x p1) "append" p2) [.Call (.Attribute (.Name y p4) "pop" p5) [e] [] p6] [] p3) (tBM X.K "list" rAppend (tVar i) (tCons (tBM X.K "list" rPopAt (tVar j) (tCons te tNil)) tNil)) := by
      intro te h
      exact pe_bm PySem.F.plainAttrs_list PySem.F.slot_list_append PySem.F.type_list_append mt_append (pv _) (pa_cons (pe_bm PySem.F.plainAttrs_list PySem.F.slot_list_pop PySem.F.type_list_pop mt_popAt (pv _) (pa_cons h pa_nil)) pa_nil)) :
    SS X P (.Expr (.Call (.Attribute (.Name x p1) "append" p2) [.Call (.Attribute (.Name y p4) "pop" p5) [e] [] p6] [] p3) pos) (sPopApp i j f) := ⟨fun W tk => ps_imp (ps_expr (hpe (he.pe W tk)) hs) fun E σ H h => by
  obtain ⟨g, H0, ρ, b, hP, S, B, w⟩ := h
  unfold sPopApp at w
  cases eo : ownAt ρ i with
  | none => simp only [eo] at w; exact w.elim
  | some xs =>
    cases eo2 : ownAt ρ j with
    | none => simp only [eo, eo2] at w; exact w.elim
    | some ys =>
      simp only [eo, eo2] at w
      by_cases hij : i = j
      · rw [if_pos hij] at w; exact w.elim
      · rw [if_neg hij] at w
        have ho := ownAt_eq eo
        have ho2 := ownAt_eq eo2
        obtain ⟨v, hvi, r⟩ := S.val i _ ho
        obtain ⟨v2, hvj, r2⟩ := S.val j _ ho2
        cases r with
        | rep r => cases r
        | @own _ vs a q o n nb r =>
          cases r2 with
          | rep r2 => cases r2
          | @own _ us c q2 o2 n2 nb2 r2 =>
            have ne : a ≠ c := fun z => hij (S.sep i j _ _ a ho ho2 hvi (by rw [z]; exact hvj))
            refine ⟨_, hvi, .inl ⟨rfl, _, .inl (.inl q)⟩, _, hvj, .inl ⟨rfl, _, .inl (.inl q2)⟩, g, ρ, b, hP, S, (wpS_bind (R1 := RepT g) w B).imp fun v H1 ⟨d, b1, e1, B1, r1, w1⟩ => ?_⟩
            cases d with
            | int k =>
              have ev := int_rt r1
              subst ev
              have w1 : wpS g H0 W H ((if -(2 ^ 63) ≤ k ∧ k < 2 ^ 63 ∧ xs.length < 100000 then match seqIndex? k ys.length with
                | some m => match ys[m]? with
                  | some z => pure (.nx ((ρ.set j (some (.own (ys.eraseIdx m)))).set i (some (.own (xs ++ [z])))))
                  | none => stuck
                | none => stuck
                else stuck : M Out) b1) E := w1
              obtain ⟨⟨k1, k2, hl⟩, w2⟩ := wp_iteS w1
              cases em : seqIndex? k ys.length with
              | none => rw [em] at w2; exact w2.elim
              | some m =>
                rw [em] at w2
                cases ez : ys[m]? with
                | none => simp only [ez] at w2; exact w2.elim
                | some z =>
                  simp only [ez] at w2
                  have q2' := e1 c _ nb2 q2
                  have S1 := S.mono e1 B1
                  have r2' := r2.mono S.box.bxl e1
                  obtain ⟨zv, hz, rz⟩ := r2'.get ez
                  obtain ⟨t, S2, B2⟩ := S1.write (B.at e1) ho2 hvj q2' o2 n2 nb2 (r2'.erase m)
                  refine ⟨c, us, k, m, zv, rfl, rfl, q2', k1, k2, by rw [← r2.length]; exact em, hz, ?_⟩
                  have q1' : upd H1 c (.lst (us.eraseIdx m)) a = some (.lst vs) := by
                    rw [upd_ne ne]
                    exact e1 a _ nb q
                  have rz' := rz.write (u := us.eraseIdx m) o2 q2'
                  have ho' : (ρ.set j (some (.own (ys.eraseIdx m))))[i]? = some (some (.own xs)) := by
                    rw [List.getElem?_set_ne (Ne.symm hij)]
                    exact ho
                  have r' := (r.mono S.box.bxl e1).write (u := us.eraseIdx m) o2 q2'
                  obtain ⟨t2, S3, B3⟩ := S2.write B2 ho' hvi q1' o n nb (r'.append (.cons rz' .nil))
                  refine ⟨a, vs, zv, rfl, rfl, q1', by rw [← r.length]; exact szlt hl, ?_⟩
                  exact w2 g.O σ _ (((Tr.ex e1 S.bo).trans t).trans t2) S3 B3
            | _ => exact w1.elim⟩
end
end Pu

set_option Elab.async false
set_option linter.all false
set_option maxRecDepth 100000
set_option maxHeartbeats 4000000
/-! The pure layer, part G: targets, what is walked, loops -/
namespace Pu
open PySem L2
section
variable {X : Cx} {P : Px} {s : Stmt} {rest : List Stmt} {e a b c tg : Expr} {es : List Expr} {pos pos' : Pos} {f fa fb : DEnv → M D} {t : DEnv → M Bool} {fs : DEnv → M (List D)} {u k : DEnv → M Out}

/-! ### targets -/
/-- but for these slots the same -/
def Agr (js : List Nat) (σ σ' : St) : Prop := σ'.length = σ.length ∧ ∀ i : Nat, i ∉ js → σ'[i]? = σ[i]?
theorem Agr.refl {js : List Nat} {σ : St} : Agr js σ σ := ⟨rfl, fun _ _ => rfl⟩
theorem Agr.trans {js ks : List Nat} {σ σ1 σ2 : St} (a : Agr js σ σ1) (b : Agr ks σ1 σ2) : Agr (js ++ ks) σ σ2 :=
  ⟨b.1.trans a.1, fun i h => (b.2 i fun z => h (List.mem_append_right _ z)).trans (a.2 i fun z => h (List.mem_append_left _ z))⟩
def rP (P : Px) (js : List Nat) (k : D → DEnv → Option DEnv) : TG := fun v σ H Q => ∃ g ρ b d, g.P = P ∧ StE g ρ b σ H ∧ Rep g.P g.O g.bx H d v ∧ ∃ ρ', k d ρ = some ρ' ∧ ∀ σ', StE g ρ' b σ' H → Agr js σ σ' → Q σ' H
structure SG (X : Cx) (P : Px) (tg : Expr) (js : List Nat) (k : D → DEnv → Option DEnv) : Prop where
  pg : PG X tg (rP P js k)
def rPs (P : Px) (js : List Nat) (k : List D → DEnv → Option DEnv) : TGs := fun vs σ H Q => ∃ g ρ b ds, g.P = P ∧ StE g ρ b σ H ∧ Reps g.P g.O g.bx H ds vs ∧ ∃ ρ', k ds ρ = some ρ' ∧ ∀ σ', StE g ρ' b σ' H → Agr js σ σ' → Q σ' H
structure SGs (X : Cx) (P : Px) (ts : List Expr) (js : List Nat) (k : List D → DEnv → Option DEnv) : Prop where
  pg : PGs X ts (rPs P js k)
theorem pg_imp {t t' : TG} (h : PG X tg t) (k : ∀ v σ H Q, t' v σ H Q → t v σ H Q) : PG X tg t' := ⟨fun pins s σ H v u Q I r q => h.run pins s σ H v u Q I r (k v σ H Q q)⟩
theorem pgs_imp {ts : List Expr} {t t' : TGs} (h : PGs X ts t) (k : ∀ v σ H Q, t' v σ H Q → t v σ H Q) : PGs X ts t' := ⟨fun pins s σ H v u Q I r q => h.run pins s σ H v u Q I r (k v σ H Q q)⟩
def gVar (i : Nat) : D → DEnv → Option DEnv := fun d ρ => some (ρ.set i (some d))
def gTupD (n : Nat) (k : List D → DEnv → Option DEnv) : D → DEnv → Option DEnv := fun d ρ => match d with
  | .tup ds => if ds.length = n then k ds ρ else none
  | _ => none
def gNilD : List D → DEnv → Option DEnv := fun ds ρ => match ds with
  | [] => some ρ
  | _ => none
def gConsD (k : D → DEnv → Option DEnv) (l : List D → DEnv → Option DEnv) : List D → DEnv → Option DEnv := fun ds ρ => match ds with
  | d :: ds => match k d ρ with
    | some ρ' => l ds ρ'
    | none => none
  | [] => none
theorem sg_var (i : Nat) {x : Str} (hN : X.N.Nodup) (hi : X.N[i]? = some x := by rfl) (hx : Loc X.env.scope x := by first | exact .inl rfl | exact .inr rfl) (hf : X.fn x = true ∨ X.env.scope.names.lookup x = some .local := by first | exact .inl rfl | exact .inr rfl) : SG X P (.Name x pos) [i] (gVar i) := ⟨pg_imp (pg_name hN hi hx hf) fun v σ H Q h => by
  obtain ⟨g, ρ, b, d, hP, S, r, ρ', hk, q⟩ := h
  cases hk
  exact q _ (S.set r i) ⟨List.length_set, fun j h => List.getElem?_set_ne (fun z => h (by rw [z]; exact List.mem_singleton.mpr rfl))⟩⟩
theorem sgs_nil : SGs X P [] [] gNilD := ⟨pgs_imp pgs_nil fun v σ H Q h => by
  obtain ⟨g, ρ, b, ds, hP, S, r, ρ', hk, q⟩ := h
  cases r with
  | nil => cases hk; exact ⟨rfl, q _ S Agr.refl⟩
  | cons => cases hk⟩
theorem sgs_cons {ts : List Expr} {js ks : List Nat} {k : D → DEnv → Option DEnv} {l : List D → DEnv → Option DEnv} (h1 : SG X P tg js k) (h2 : SGs X P ts ks l) (hs : (assignEach (tg :: ts) X.env).map (·.2) = assign tg X.env :: (assignEach ts X.env).map (·.2) := by rfl) : SGs X P (tg :: ts) (js ++ ks) (gConsD k l) := ⟨pgs_imp (pgs_cons h1.pg h2.pg hs) fun v σ H Q h => by
  obtain ⟨g, ρ, b, ds, hP, S, r, ρ', hk, q⟩ := h
  cases r with
  | nil => cases hk
  | @cons d v ds vs r rs =>
    unfold gConsD at hk
    cases e1 : k d ρ with
    | none => simp only [e1] at hk; cases hk
    | some ρ1 =>
      simp only [e1] at hk
      exact ⟨v, vs, rfl, g, ρ, b, d, hP, S, r, ρ1, e1, fun σ1 S1 a1 => ⟨g, ρ1, b, ds, hP, S1, rs, ρ', hk, fun σ2 S2 a2 => q σ2 S2 (a1.trans a2)⟩⟩⟩
theorem sg_tup {ts : List Expr} {m : Nat} {js : List Nat} {k : List D → DEnv → Option DEnv} {n : Nat} (hc : X.calm = true) (h : SGs X P ts js k) (hK : X.K = P.K := by rfl) (hn : (assignEach ts X.env).length = n := by rfl) (hst : (assignEach ts X.env).findIdx? (·.1) = none := by rfl) : SG X P (.Tuple ts m pos) js (gTupD n k) := ⟨pg_imp (pg_tup hc h.pg hn hst) fun v σ H Q h => by
  obtain ⟨g, ρ, b, d, hP, S, r, ρ', hk, q⟩ := h
  unfold gTupD at hk
  cases r with
  | @tup a ds vs q1 r =>
    by_cases hl : ds.length = n
    · simp only [if_pos hl] at hk
      exact ⟨a, vs, rfl, sqt q1, by rw [← r.length]; exact hl, g, ρ, b, ds, hP, S, r, ρ', hk, q⟩
    · simp only [if_neg hl] at hk
      cases hk
  | _ => cases hk⟩
/-- target = e -/
def sAsg (k : D → DEnv → Option DEnv) (f : DEnv → M D) : DEnv → M Out := fun ρ => f ρ >>= fun d => chk d >>= fun d => match k d ρ with
  | some ρ' => pure (.nx ρ')
  | none => stuck
theorem ss_asg {js : List Nat} {k : D → DEnv → Option DEnv} (he : SE X P e f) (hg : SG X P tg js k) (hs : swapsWithSole [tg] e pos.line X.env = pure false := by rfl) (hw : swappedStores [tg] e X.env = pure none := by rfl) (h1 : (assignEach [tg] X.env).map (·.2) = [assign tg X.env] := by rfl) :
    SS X P (.Assign [tg] e pos) (sAsg k f) := ⟨fun W tk => ps_imp (ps_asg (he.pe W tk) hg.pg hs hw h1) fun E σ H h => by
  obtain ⟨g, H0, ρ, b, hP, S, B, w⟩ := h
  refine ⟨g, ρ, b, hP, S, (wpS_bind (R1 := RepT g) w B).imp fun v H1 ⟨d, b1, e1, B1, r1, w1⟩ => ?_⟩
  obtain ⟨rd, w2⟩ := chk_repS r1 w1
  cases ek : k d ρ with
  | none => simp only [ek] at w2; exact w2.elim
  | some ρ' =>
    simp only [ek] at w2
    exact ⟨g, ρ, b1, d, hP, S.mono e1 B1, rd, ρ', ek, fun σ' S' _ => w2 g.O σ' H1 (Tr.ex e1 S.bo) S' (B.at e1)⟩⟩
/-- a, b = x, y : two names -/
def sPar (i j : Nat) (f : DEnv → M (List D)) : DEnv → M Out := fun ρ => f ρ >>= fun ds => match ds with
  | [d, d'] => pure (.nx ((ρ.set i (some d)).set j (some d')))
  | _ => stuck
theorem ss_par (i j : Nat) {x y : Str} {px py pt : Pos} {kt k2 : Nat} {pt2 : Pos} (hc : X.calm = true) (hN : X.N.Nodup) (ha : SA X P [a, b] fs) (hi : X.N[i]? = some x := by rfl) (hj : X.N[j]? = some y := by rfl) (hij : i ≠ j := by decide)
    (hx : X.env.scope.names.lookup x = some .local := by rfl) (hy : X.env.scope.names.lookup y = some .local := by rfl)
    (hw : swappedStores [.Tuple [.Name x px, .Name y py] kt pt] (.Tuple [a, b] k2 pt2) X.env = pure (some [x, y]) := by rfl)
    (hs : swapsWithSole [.Tuple [.Name x px, .Name y py] kt pt] (.Tuple [a, b] k2 pt2) pos.line X.env = pure false := by rfl) :
    SS X P (.Assign [.Tuple [.Name x px, .Name y py] kt pt] (.Tuple [a, b] k2 pt2) pos) (sPar i j fs) := ⟨fun W tk => ps_imp (ps_par hc hN hi hj hij hx hy (ha.pa W tk) hw hs) fun E σ H h => by
  obtain ⟨g, H0, ρ, b, hP, S, B, w⟩ := h
  refine ⟨g, ρ, b, hP, S, (wpS_bind (R1 := RA g) w B).imp fun v H1 ⟨ds, b1, e1, B1, r1, w1⟩ => ?_⟩
  cases r1 with
  | nil => exact w1.elim
  | @cons d v1 ds vs r rs =>
    cases rs with
    | nil => exact w1.elim
    | @cons d' v2 ds vs r' rs =>
      cases rs with
      | nil => exact ⟨v1, v2, rfl, w1 g.O _ H1 (Tr.ex e1 S.bo) (((S.mono e1 B1).set r i).set r' j) (B.at e1)⟩
      | cons => exact w1.elim⟩

/-! ### what is walked -/
/-- from H1 on the iterator gives these, one by one -/
def JOk (g : Gh) (H1 : Hp) (ds : List D) (J : It) : Prop := ∀ O' H, Tr g.O H1 O' H → (∀ a, O' a → Mut (H a)) → ∀ i, (∀ d, ds[i]? = some d → J.go i H ∧ ∀ x H', J.yld i H x H' → (∀ a o, H a = some o → H' a = some o) ∧ Rep g.P O' g.bx H' d x) ∧ (ds.length ≤ i → J.stop i H)
structure SI (X : Cx) (P : Px) (tg iter : Expr) (f : DEnv → M (List D)) : Prop where
  pi : ∀ W, Takes X W → PI X tg iter (rG P W (fun g H ds J => JOk g H ds J) f)
theorem pi_imp {iter : Expr} {t t' : TI} (h : PI X tg iter t) (k : ∀ σ H Q, t' σ H Q → t σ H Q) : PI X tg iter t' := ⟨fun pins s σ H Q I q => h.run pins s σ H Q I (k σ H Q q)⟩
/-- a list or a tuple that stands (no one's own) -/
def itemsD (d : D) : M (List D) := match d with
  | .tup xs => pure xs
  | .lst xs => pure xs
  | _ => stuck
def iSeqD (f : DEnv → M D) : DEnv → M (List D) := fun ρ => f ρ >>= itemsD
def iSeqV (K : PySem.W.Frag) (tl : TE) : TI := fun σ H R => tl σ H fun x H1 => ∃ a, x = .ref a ∧ (((∃ xs, SqL K H1 a xs) ∧ R (Itl K a) H1) ∨ ((∃ xs, SqT K H1 a xs) ∧ R (Itt K a) H1))
theorem pi_seq {l : Expr} {tl : TE} (hl : PE X l tl) : PI X tg l (iSeqV X.K tl) := by
  refine ⟨fun pins s σ H R I h => ?_⟩
  refine thn (hl.run pins s σ H _ I h) fun v s1 ⟨x, H1, I1, r1, q1⟩ => ?_
  obtain ⟨a, rfl, q⟩ := q1
  cases r1
  rcases q with ⟨⟨xs, hq⟩, q⟩ | ⟨⟨xs, hq⟩, q⟩
  · obtain ⟨its, rv, p, hz⟩ := I1.list hq
    refine wpAny_pyIter_list p.isList ⟨_, [s1.heap.objs.size], _, _, H1, rfl, I1.kept (t' := s1.toks) (fun b o e => Heap.get?_push_of_some _ e), turn_list a _, ⟨_, Heap.get?_push_size _ rfl, rfl, rfl⟩, fun b hb => ?_, q⟩
    cases List.mem_singleton.mp hb
    exact I1.fpOk (Nat.le_refl _) (I1.hok.fresh (Nat.le_refl _))
  · obtain ⟨its, rv, p, hz⟩ := I1.tuple hq
    refine wpAny_pyIter_tuple (show s1.heap.IsTuple a its.toArray from p) ⟨_, [s1.heap.objs.size], _, _, H1, rfl, I1.kept (t' := s1.toks) (fun b o e => Heap.get?_push_of_some _ e), turn_tuple a _, ⟨_, Heap.get?_push_size _ rfl, rfl, rfl⟩, fun b hb => ?_, q⟩
    cases List.mem_singleton.mp hb
    exact I1.fpOk (Nat.le_refl _) (I1.hok.fresh (Nat.le_refl _))
theorem sql_uniq {K : PySem.W.Frag} {H : Hp} {a : Addr} {vs : List V} (h : H a = some (.lst vs)) {xs : List V} (q : SqL K H a xs) (nk : K.lookup a = none ∨ True) : True := trivial
theorem get_len {α : Type} {l : List α} {i : Nat} {x : α} (h : l[i]? = some x) : i < l.length := (List.getElem?_eq_some_iff.mp h).1
theorem si_seq (he : SE X P e f) (hK : X.K = P.K := by rfl) : SI X P tg e (iSeqD f) := ⟨fun W tk => pi_imp (pi_seq (he.pe W tk)) fun σ H R h => by
  obtain ⟨g, ρ, b, hP, S, w⟩ := h
  refine ⟨g, ρ, b, hP, S, (wpG.bind (R1 := RepT g) w).imp fun v H1 ⟨d, b1, e1, B1, r1, w1⟩ => ?_⟩
  have S1 := S.mono e1 B1
  subst hP
  rw [hK]
  cases r1 with
  | own => exact w1.elim
  | rep r1 =>
    cases r1 with
    | @tup a ds vs q r =>
      have q := sqt (K := g.P.K) q
      refine ⟨a, rfl, .inr ⟨⟨vs, q⟩, w1 _ H1 Ex1.refl B1 fun O' H t m i => ⟨fun d hd => ?_, fun hl => ⟨vs, sqt_tr S1.mt t q, by rw [← r.length]; exact hl⟩⟩⟩⟩
      obtain ⟨v, hv, rv⟩ := r.get hd
      exact ⟨⟨vs, v, sqt_tr S1.mt t q, hv⟩, fun x H' y => by
        obtain ⟨rfl, y⟩ := y
        have ev : vs[i]? = some x := y vs (sqt_tr S1.mt t q)
        rw [hv] at ev
        cases ev
        exact ⟨fun _ _ q => q, rv.tr S1.mt t⟩⟩
    | @lst a ds vs q n r =>
      refine ⟨a, rfl, .inl ⟨⟨vs, .inl (.inl q)⟩, w1 _ H1 Ex1.refl B1 fun O' H t m i => ⟨fun d hd => ?_, fun hl => ⟨vs, .inl (.inl (t.keep a _ n q)), by rw [← r.length]; exact hl⟩⟩⟩⟩
      obtain ⟨v, hv, rv⟩ := r.get hd
      exact ⟨⟨vs, v, .inl (.inl (t.keep a _ n q)), hv⟩, fun x H' y => by
        obtain ⟨rfl, y⟩ := y
        have ev : vs[i]? = some x := y vs (.inl (.inl (t.keep a _ n q)))
        rw [hv] at ev
        cases ev
        exact ⟨fun _ _ q => q, rv.tr S1.mt t⟩⟩
    | _ => exact w1.elim⟩
/-- range(n), range(a, b) -/
def rangeD (lo : Int) (n : Nat) : List D := (List.range n).map fun (i : Nat) => .int (lo + (i : Int))
def rng1 (ds : List D) : M (List D) := match ds with
  | [.int n] => if n.natAbs < 2 ^ 40 then pure (rangeD 0 n.toNat) else stuck
  | _ => stuck
def rng2 (ds : List D) : M (List D) := match ds with
  | [.int i, .int j] => if i.natAbs < 2 ^ 40 ∧ j.natAbs < 2 ^ 40 then pure (rangeD i (j - i).toNat) else stuck
  | _ => stuck
def iRng1D (f : DEnv → M (List D)) : DEnv → M (List D) := fun ρ => f ρ >>= rng1
def iRng2D (f : DEnv → M (List D)) : DEnv → M (List D) := fun ρ => f ρ >>= rng2
theorem jok_range {g : Gh} {H1 : Hp} {lo : Int} {n : Nat} : JOk g H1 (rangeD lo n) (Itr lo n) := fun O' H t m i => by
  unfold rangeD
  refine ⟨fun d hd => ?_, fun hl => ?_⟩
  · rw [List.getElem?_map] at hd
    cases e : (List.range n)[i]? with
    | none => rw [e] at hd; cases hd
    | some j =>
      rw [e] at hd
      have hi := get_len e
      rw [List.getElem?_range (by simpa using hi)] at e
      cases e
      cases hd
      have hi' : i < n := by simpa using hi
      exact ⟨hi', fun x H' y => by
        obtain ⟨rfl, rfl⟩ := y
        exact ⟨fun _ _ q => q, .int _⟩⟩
  · rw [List.length_map, List.length_range] at hl
    exact hl
theorem rts_ints1 {g : Gh} {H : Hp} {vs : List V} {i : Int} (r : Reps g.P g.O g.bx H [.int i] vs) : vs = [.int i] := by
  cases r with
  | cons h t => cases h; cases t; rfl
theorem rts_ints2 {g : Gh} {H : Hp} {vs : List V} {i j : Int} (r : Reps g.P g.O g.bx H [.int i, .int j] vs) : vs = [.int i, .int j] := by
  cases r with
  | cons h t =>
    cases h
    cases t with
    | cons h t => cases h; cases t; rfl
theorem si_range1 {p : Pos} (hg : Gl X "range") (hm : X.mg "range" = none) (ha : SA X P [a] fs) (hs : starEach [a] X.env = [(false, eval a X.env)] := by rfl) : SI X P tg (.Call (.Name "range" p) [a] [] pos) (iRng1D fs) := ⟨fun W tk => pi_imp (pi_range1 hg hm (ha.pa W tk) hs) fun σ H R h => by
  obtain ⟨g, ρ, b, hP, S, w⟩ := h
  refine ⟨g, ρ, b, hP, S, (wpG.bind (R1 := RA g) w).imp fun vs H1 ⟨ds, b1, e1, B1, r1, w1⟩ => ?_⟩
  unfold rng1 at w1
  split at w1
  · rename_i n
    obtain ⟨hn, w2⟩ := wp_ite w1
    exact ⟨n, rts_ints1 r1, by omega, by omega, w2 _ H1 Ex1.refl B1 jok_range⟩
  · exact w1.elim⟩
theorem si_range2 {p : Pos} (hg : Gl X "range") (hm : X.mg "range" = none) (ha : SA X P [a, b] fs) (hs : starEach [a, b] X.env = [(false, eval a X.env), (false, eval b X.env)] := by rfl) (hs2 : starEach [b] X.env = [(false, eval b X.env)] := by rfl) : SI X P tg (.Call (.Name "range" p) [a, b] [] pos) (iRng2D fs) := ⟨fun W tk => pi_imp (pi_range2 hg hm (ha.pa W tk) hs hs2) fun σ H R h => by
  obtain ⟨g, ρ, b, hP, S, w⟩ := h
  refine ⟨g, ρ, b, hP, S, (wpG.bind (R1 := RA g) w).imp fun vs H1 ⟨ds, b1, e1, B1, r1, w1⟩ => ?_⟩
  unfold rng2 at w1
  split at w1
  · rename_i i j
    obtain ⟨hn, w2⟩ := wp_ite w1
    exact ⟨i, j, rts_ints2 r1, ⟨by omega, by omega, by omega, by omega⟩, w2 _ H1 Ex1.refl B1 jok_range⟩
  · exact w1.elim⟩
/-- zip of two lists, of two tuples -/
def zipD : List D → List D → List D
  | x :: xs, y :: ys => .tup [x, y] :: zipD xs ys
  | _, _ => []
def zip2 (ds : List D) : M (List D) := match ds with
  | [.tup xs, .tup ys] => pure (zipD xs ys)
  | [.lst xs, .lst ys] => pure (zipD xs ys)
  | _ => stuck
def iZipD (f : DEnv → M (List D)) : DEnv → M (List D) := fun ρ => f ρ >>= zip2
theorem zip_get : ∀ {xs ys : List D} {i : Nat} {d : D}, (zipD xs ys)[i]? = some d → ∃ x y, d = .tup [x, y] ∧ xs[i]? = some x ∧ ys[i]? = some y
  | x :: xs, y :: ys, 0, d, h => by
    have h : D.tup [x, y] = d := Option.some.inj h
    exact ⟨x, y, h.symm, rfl, rfl⟩
  | x :: xs, y :: ys, i + 1, d, h => by
    obtain ⟨x', y', e, h1, h2⟩ := zip_get (xs := xs) (ys := ys) (i := i) (by simpa [zipD] using h)
    exact ⟨x', y', e, by simpa using h1, by simpa using h2⟩
  | [], _, i, d, h => by simp [zipD] at h
  | _ :: _, [], i, d, h => by simp [zipD] at h
theorem zip_len : ∀ {xs ys : List D} {i : Nat}, (zipD xs ys).length ≤ i → xs.length ≤ i ∨ ys.length ≤ i
  | [], _, i, _ => .inl (Nat.zero_le _)
  | _ :: _, [], i, _ => .inr (Nat.zero_le _)
  | x :: xs, y :: ys, 0, h => absurd h (by simp [zipD])
  | x :: xs, y :: ys, i + 1, h => by
    rcases zip_len (xs := xs) (ys := ys) (i := i) (by simpa [zipD] using h) with z | z
    · exact .inl (by simpa using z)
    · exact .inr (by simpa using z)
theorem mut_no {O : Addr → Prop} {H : Hp} (m : ∀ a, O a → Mut (H a)) {p : Addr} (h : H p = none) : ¬ O p := fun z => by
  have := m p z
  rw [h] at this
  exact this
/-- a new pair of two things that stand -/
theorem rep_pair {P : Px} {O : Addr → Prop} {bx : Option Addr} {H : Hp} {T : Addr} {x y : D} {v w : V} (m : ∀ a, O a → Mut (H a)) (hT : H T = none) (rx : Rep P O bx H x v) (ry : Rep P O bx H y w) : Rep P O bx (upd H T (.tup [v, w])) (.tup [x, y]) (.ref T) := by
  have t : Tr O H O (upd H T (.tup [v, w])) := ⟨fun a o _ q => new_keep hT a o q, fun _ h => .inl h⟩
  exact .tup upd_same (.cons (rx.tr m t) (.cons (ry.tr m t) .nil))
theorem si_zip {p tpos : Pos} {elts : List Expr} {kk : Nat} (hg : Gl X "zip") (hm : X.mg "zip" = none) (ha : SA X P [a, b] fs) (hK : X.K = P.K := by rfl) (hs : starEach [a, b] X.env = (false, eval a X.env) :: starEach [b] X.env := by rfl) (hpl : (backTo pos (starEach [b] X.env)).any (·.1) = false := by rfl) :
    SI X P (.Tuple elts kk tpos) (.Call (.Name "zip" p) [a, b] [] pos) (iZipD fs) := ⟨fun W tk => pi_imp (RZ.pi_zipA hg hm (ha.pa W tk) hs hpl) fun σ H R h => by
  obtain ⟨g, ρ, b, hP, S, w⟩ := h
  refine ⟨g, ρ, b, hP, S, (wpG.bind (R1 := RA g) w).imp fun vs H1 ⟨ds, b1, e1, B1, r1, w1⟩ => ?_⟩
  have S1 := S.mono e1 B1
  subst hP
  rw [hK]
  unfold zip2 at w1
  split at w1
  · rename_i xs ys
    cases r1 with
    | cons r1 t1 =>
      cases t1 with
      | cons r2 t2 =>
        cases t2
        cases r1 with
        | @tup a1 _ vs1 q1 r1 =>
          cases r2 with
          | @tup a2 _ vs2 q2 r2 =>
            have q1 := sqt (K := g.P.K) q1
            have q2 := sqt (K := g.P.K) q2
            refine ⟨a1, a2, vs1, vs2, rfl, .inr ⟨q1, q2, w1 _ H1 Ex1.refl B1 fun O' H t m i => ⟨fun d hd => ?_, fun hl => ⟨vs1, vs2, sqt_tr S1.mt t q1, sqt_tr S1.mt t q2, by rw [← r1.length, ← r2.length]; exact zip_len hl⟩⟩⟩⟩
            obtain ⟨x, y, rfl, hx, hy⟩ := zip_get hd
            obtain ⟨v, hv, rv⟩ := r1.get hx
            obtain ⟨v', hv', rv'⟩ := r2.get hy
            refine ⟨⟨vs1, vs2, v, v', sqt_tr S1.mt t q1, sqt_tr S1.mt t q2, hv, hv'⟩, fun z H' yy => ?_⟩
            obtain ⟨T, x', y', rfl, hT, rfl, f1, f2⟩ := yy
            have e1 := f1 vs1 (sqt_tr S1.mt t q1)
            have e2 := f2 vs2 (sqt_tr S1.mt t q2)
            rw [hv] at e1
            rw [hv'] at e2
            cases e1
            cases e2
            exact ⟨new_keep hT, rep_pair m hT (rv.tr S1.mt t) (rv'.tr S1.mt t)⟩
  · rename_i xs ys
    cases r1 with
    | cons r1 t1 =>
      cases t1 with
      | cons r2 t2 =>
        cases t2
        cases r1 with
        | @lst a1 _ vs1 q1 n1 r1 =>
          cases r2 with
          | @lst a2 _ vs2 q2 n2 r2 =>
            refine ⟨a1, a2, vs1, vs2, rfl, .inl ⟨.inl (.inl q1), .inl (.inl q2), w1 _ H1 Ex1.refl B1 fun O' H t m i => ⟨fun d hd => ?_, fun hl => ⟨vs1, vs2, .inl (.inl (t.keep _ _ n1 q1)), .inl (.inl (t.keep _ _ n2 q2)), by rw [← r1.length, ← r2.length]; exact zip_len hl⟩⟩⟩⟩
            obtain ⟨x, y, rfl, hx, hy⟩ := zip_get hd
            obtain ⟨v, hv, rv⟩ := r1.get hx
            obtain ⟨v', hv', rv'⟩ := r2.get hy
            refine ⟨⟨vs1, vs2, v, v', .inl (.inl (t.keep _ _ n1 q1)), .inl (.inl (t.keep _ _ n2 q2)), hv, hv'⟩, fun z H' yy => ?_⟩
            obtain ⟨T, x', y', rfl, hT, rfl, f1, f2⟩ := yy
            have e1 := f1 vs1 (.inl (.inl (t.keep _ _ n1 q1)))
            have e2 := f2 vs2 (.inl (.inl (t.keep _ _ n2 q2)))
            rw [hv] at e1
            rw [hv'] at e2
            cases e1
            cases e2
            exact ⟨new_keep hT, rep_pair m hT (rv.tr S1.mt t) (rv'.tr S1.mt t)⟩
  · exact w1.elim⟩

/-! ### loops -/
def forL (k : D → DEnv → Option DEnv) (body : DEnv → M Out) : List D → DEnv → M Out
  | [], ρ => pure (.nx ρ)
  | d :: ds, ρ => match k d ρ with
    | some ρ' => body ρ' >>= fun o => match o with
      | .nx ρ2 => forL k body ds ρ2
      | .ct ρ2 => forL k body ds ρ2
      | .bk ρ2 => pure (.nx ρ2)
      | .rt d => pure (.rt d)
    | none => stuck
def sFor (it : DEnv → M (List D)) (k : D → DEnv → Option DEnv) (body : DEnv → M Out) : DEnv → M Out := fun ρ => it ρ >>= fun ds => forL k body ds ρ
theorem ss_for {iter : Expr} {body : List Stmt} {js : List Nat} {k : D → DEnv → Option DEnv} (hp : PassesOwn (model X.prog X.w) X.A X.env X.xe) (hc : X.calm = true) (hi : SI X P tg iter fs) (hg : SG X P tg js k) (hb : SSs X P body u) (hs : ∀ x, foldedSetIterable iter X.env x = pure x := by intro _; rfl) :
    SS X P (.For tg iter body [] pos) (sFor fs k u) := ⟨fun W tk => ps_imp (ps_for hp hc (hi.pi W tk) hg.pg (hb.ps W tk) hs) fun E σ H h => by
  obtain ⟨g, H0, ρ, b, hP, S, B, w⟩ := h
  refine ⟨g, ρ, b, hP, S, (wpS_bind (R1 := fun H ds J => JOk g H ds J) w B).imp fun J H1 ⟨ds, b1, e1, B1, jok, w1⟩ => ?_⟩
  have S1 := S.mono e1 B1
  refine ⟨fun i m σ' H' => m = ds.length - i ∧ i ≤ ds.length ∧ ∃ O' ρ' b', StE (g.at O') ρ' b' σ' H' ∧ Base (g.at O') H0 H' ∧ Tr g.O H1 O' H' ∧ wpS (g.at O') H0 W H' (forL k u (ds.drop i) ρ' b') E,
    ⟨ds.length, rfl, Nat.zero_le _, g.O, ρ, b1, S1, B.at e1, Tr.refl, wpS.at (Tr.ex e1 S.bo) w1⟩, ?_⟩
  rintro i m σ' H' ⟨rfl, hl, O', ρ', b', S', B', t', w'⟩
  obtain ⟨j1, j2⟩ := jok O' H' t' S'.mt i
  by_cases hlt : i < ds.length
  · have hd : ds[i]? = some ds[i] := List.getElem?_eq_getElem hlt
    have ed : ds.drop i = ds[i] :: ds.drop (i + 1) := List.drop_eq_getElem_cons hlt
    obtain ⟨go, yl⟩ := j1 _ hd
    rw [ed] at w'
    refine .inr ⟨go, fun σ2 H2 => ∃ O2 ρ2 b2, StE (g.at O2) ρ2 b2 σ2 H2 ∧ Base (g.at O2) H0 H2 ∧ Tr g.O H1 O2 H2 ∧ wpS (g.at O2) H0 W H2 (forL k u (ds.drop (i + 1)) ρ2 b2) E, fun σ2 H2 n2 => ⟨ds.length - (i + 1), by omega, rfl, hlt, n2⟩, fun x H2 y => ?_⟩
    obtain ⟨keep, rx⟩ := yl x H2 y
    have e2 : Ex1 g.bx H' H2 := fun a o _ q => keep a o q
    have B2x : BoxOk (g.at O') b' H2 := S'.box.ex keep
    have S2 := S'.mono (g := g.at O') e2 B2x
    have w' : wpS (g.at O') H0 W H' ((match k ds[i] ρ' with
      | some ρ' => u ρ' >>= fun o => match o with
        | .nx ρ2 => forL k u (ds.drop (i + 1)) ρ2
        | .ct ρ2 => forL k u (ds.drop (i + 1)) ρ2
        | .bk ρ2 => pure (.nx ρ2)
        | .rt d => pure (.rt d)
      | none => stuck : M Out) b') E := w'
    cases ek : k ds[i] ρ' with
    | none => simp only [ek] at w'; exact w'.elim
    | some ρ2 =>
      simp only [ek] at w'
      have t2 : Tr O' H' O' H2 := ⟨fun a o _ q => keep a o q, fun _ h => .inl h⟩
      refine ⟨g.at O', ρ', b', _, hP, S2, rx, ρ2, ek, fun σ3 S3 _ => ⟨g.at O', H0, ρ2, b', hP, S3, B'.at e2, ?_⟩⟩
      have w2 : wpS (g.at O') H0 W H2 ((u ρ2 b').bind fun o => match o with
        | .nx ρ2 => forL k u (ds.drop (i + 1)) ρ2
        | .ct ρ2 => forL k u (ds.drop (i + 1)) ρ2
        | .bk ρ2 => pure (.nx ρ2)
        | .rt d => pure (.rt d)) E := wpS.at (g := g.at O') t2 w'
      match u ρ2 b', w2 with
      | .ok (.nx ρ4) b4, w2 => exact fun O4 σ4 H4 t4 S4 B4 => ⟨O4, ρ4, b4, S4, B4, (t'.trans t2).trans t4, wpS.at (g := g.at O') t4 w2⟩
      | .ok (.ct ρ4) b4, w2 => exact fun O4 σ4 H4 t4 S4 B4 => ⟨O4, ρ4, b4, S4, B4, (t'.trans t2).trans t4, wpS.at (g := g.at O') t4 w2⟩
      | .ok (.bk ρ4) b4, w2 => exact fun O4 σ4 H4 t4 S4 B4 => w2 O4 σ4 H4 t4 S4 B4
      | .ok (.rt d) b4, w2 => exact w2
      | .exc x b4, w2 => exact w2
  · have e : i = ds.length := by omega
    subst e
    rw [List.drop_length] at w'
    exact .inl ⟨j2 (Nat.le_refl _), w' O' σ' H' Tr.refl S' B'⟩⟩
def whileL (c : DEnv → M Bool) (body : DEnv → M Out) : Nat → DEnv → M Out
  | 0, _ => stuck
  | n + 1, ρ => c ρ >>= fun k => if k = true then body ρ >>= fun o => match o with
      | .nx ρ2 => whileL c body n ρ2
      | .ct ρ2 => whileL c body n ρ2
      | .bk ρ2 => pure (.nx ρ2)
      | .rt d => pure (.rt d)
    else pure (.nx ρ)
/-- μ: turns enough -/
def sWhile (μ : DEnv → Nat) (c : DEnv → M Bool) (body : DEnv → M Out) : DEnv → M Out := fun ρ => whileL c body (μ ρ) ρ
theorem ss_while {body : List Stmt} (μ : DEnv → Nat) (hp : PassesOwn (model X.prog X.w) X.A X.env X.xe) (hc : STt X P c t) (hb : SSs X P body u) : SS X P (.While c body [] pos) (sWhile μ t u) := ⟨fun W tk => ps_imp (ps_while hp (hc.pt W tk) (hb.ps W tk)) fun E σ H h => by
  obtain ⟨g, H0, ρ, b, hP, S, B, w⟩ := h
  refine ⟨fun n σ' H' => ∃ O' ρ' b', StE (g.at O') ρ' b' σ' H' ∧ Base (g.at O') H0 H' ∧ wpS (g.at O') H0 W H' (whileL t u n ρ' b') E, ⟨μ ρ, g.O, ρ, b, S, B, w⟩, ?_⟩
  rintro n σ' H' ⟨O', ρ', b', S', B', w'⟩
  cases n with
  | zero => exact w'.elim
  | succ n =>
    refine ⟨g.at O', ρ', b', hP, S', (wpS_bind (g := g.at O') (R1 := fun _ a v => v = a) w' B').imp fun v H2 ⟨d, b1, e1, B1, r1, w1⟩ => ?_⟩
    subst r1
    have S2 := S'.mono e1 B1
    have t1 : Tr O' H' O' H2 := Tr.ex e1 S'.bo
    cases v with
    | true =>
      refine iteT ⟨fun σ3 H3 => ∃ O3 ρ3 b3, StE (g.at O3) ρ3 b3 σ3 H3 ∧ Base (g.at O3) H0 H3 ∧ wpS (g.at O3) H0 W H3 (whileL t u n ρ3 b3) E, fun σ3 H3 h3 => ⟨n, Nat.lt_succ_self n, h3⟩, g.at O', H0, ρ', b1, hP, S2, B'.at e1, ?_⟩
      have w2 : wpS (g.at O') H0 W H2 ((u ρ' b1).bind fun o => match o with
        | .nx ρ2 => whileL t u n ρ2
        | .ct ρ2 => whileL t u n ρ2
        | .bk ρ2 => pure (.nx ρ2)
        | .rt d => pure (.rt d)) E := wpS.at (g := g.at O') t1 w1
      match u ρ' b1, w2 with
      | .ok (.nx ρ4) b4, w2 => exact fun O4 σ4 H4 t4 S4 B4 => ⟨O4, ρ4, b4, S4, B4, wpS.at (g := g.at O') t4 w2⟩
      | .ok (.ct ρ4) b4, w2 => exact fun O4 σ4 H4 t4 S4 B4 => ⟨O4, ρ4, b4, S4, B4, wpS.at (g := g.at O') t4 w2⟩
      | .ok (.bk ρ4) b4, w2 => exact fun O4 σ4 H4 t4 S4 B4 => w2 O4 σ4 H4 t4 S4 B4
      | .ok (.rt d) b4, w2 => exact w2
      | .exc x b4, w2 => exact w2
    | false => exact iteF (w1 O' σ' H2 t1 S2 (B'.at e1))⟩
end
end Pu

set_option Elab.async false
set_option linter.all false
set_option maxRecDepth 100000
set_option maxHeartbeats 4000000
/-! The pure layer, part H: comprehensions, defs, their calls, raise -/
namespace Pu
open PySem L2
/-- what raises is not told of -/
def noX {α : Type} (m : M α) : M α := fun b => match m b with
  | .ok a b => .ok a b
  | .exc _ _ => .stk
  | .stk => .stk
def wipeD (ρ : DEnv) : List Nat → DEnv
  | [] => ρ
  | v :: vs => (wipeD ρ vs).set v none
def compL (vs : List Nat) (k : D → DEnv → Option DEnv) (t : DEnv → M Bool) (f : DEnv → M D) (ρ : DEnv) : List D → M (List D)
  | [] => pure []
  | d :: ds => match k d (wipeD ρ vs) with
    | some ρ' => noX (t ρ') >>= fun c => if c = true then noX (f ρ') >>= fun y => chk y >>= fun y => compL vs k t f ρ ds >>= fun ys => pure (y :: ys)
        else compL vs k t f ρ ds
    | none => stuck
def fComp (it : DEnv → M (List D)) (vs : List Nat) (k : D → DEnv → Option DEnv) (t : DEnv → M Bool) (f : DEnv → M D) : DEnv → M (List D) := fun ρ => it ρ >>= fun ds => if ds.length < 100000 then compL vs k t f ρ ds else stuck
def tYesD : DEnv → M Bool := fun _ => pure true
section
variable {X : Cx} {P : Px} {s : Stmt} {rest : List Stmt} {e a b c tg elt iter : Expr} {es ifs : List Expr} {pos pos' : Pos} {f fa fb : DEnv → M D} {t : DEnv → M Bool} {fs : DEnv → M (List D)} {u : DEnv → M Out} {k : D → DEnv → Option DEnv}
structure STs (X : Cx) (P : Px) (ifs : List Expr) (f : DEnv → M Bool) : Prop where
  pt : ∀ W, Takes X W → PTs X ifs (rT P W f)
theorem sts_nil : STs X P [] tYesD := ⟨fun W _ => ⟨fun pins s σ H Q I h => by
  obtain ⟨g, ρ, b, hP, S, w⟩ := h
  exact pts_nil.run pins s σ H Q I (w true H Ex1.refl S.box rfl)⟩⟩
theorem sts_one (h : STt X P c t) : STs X P [c] t := ⟨fun W tk => pts_one (h.pt W tk)⟩
theorem wipe_len (ρ : DEnv) : ∀ vs : List Nat, (wipeD ρ vs).length = ρ.length
  | [] => rfl
  | v :: vs => by
    rw [wipeD, List.length_set]
    exact wipe_len ρ vs
theorem set_none {α : Type} {l : List (Option α)} {i j : Nat} {x : α} (h : (l.set i none)[j]? = some (some x)) : i ≠ j ∧ l[j]? = some (some x) := by
  rcases get_set h with ⟨_, q, _⟩ | q
  · cases q
  · exact q
theorem StE.wipe {g : Gh} {ρ : DEnv} {b : Bx} {σ : St} {H : Hp} (S : StE g ρ b σ H) : ∀ vs : List Nat, StE g (wipeD ρ vs) b (L2.wipe σ vs) H
  | [] => S
  | v :: vs => by
    have T := S.wipe vs
    refine ⟨by rw [wipeD, L2.wipe, List.length_set, List.length_set]; exact T.len, fun i d h => ?_, fun i j ds es a h1 h2 h3 h4 => ?_, T.box, T.mt⟩
    · obtain ⟨n, h⟩ := set_none h
      obtain ⟨w, e1, e2⟩ := T.val i d h
      refine ⟨w, ?_, e2⟩
      show ((L2.wipe σ vs).set v none)[i]? = _
      rw [List.getElem?_set_ne n]
      exact e1
    · obtain ⟨n1, q1⟩ := set_none h1
      obtain ⟨n2, q2⟩ := set_none h2
      have h3 : ((L2.wipe σ vs).set v none)[i]? = _ := h3
      have h4 : ((L2.wipe σ vs).set v none)[j]? = _ := h4
      rw [List.getElem?_set_ne n1] at h3
      rw [List.getElem?_set_ne n2] at h4
      exact T.sep i j ds es a q1 q2 h3 h4
theorem noX_ok {α β : Type} {g : Gh} {W : WX} {σ : St} {R : Hp → α → β → Prop} {H : Hp} {m : M α} {b : Bx} {Q : β → Hp → Prop} (h : wpG g W σ R H (noX m b) Q) (W' : WX) (σ' : St) : wpG g W' σ' R H (m b) Q := by
  unfold noX at h
  match m b, h with
  | .ok a b, h => exact h
  | .exc x b, h => exact h.elim
  | .stk, h => exact h.elim
theorem noX_bind {α β γ δ : Type} {g : Gh} {W : WX} {σ : St} {R : Hp → γ → δ → Prop} {R1 : Hp → α → β → Prop} {H : Hp} {m : M α} {k : α → M γ} {b : Bx} {Q : δ → Hp → Prop} (h : wpG g W σ R H ((noX m >>= k) b) Q) (W' : WX) (σ' : St) :
    wpG g W' σ' R1 H (m b) fun v H1 => ∃ a b, Ex1 g.bx H H1 ∧ BoxOk g b H1 ∧ R1 H1 a v ∧ wpG g W σ R H1 (k a b) Q := by
  have h' : wpG g W σ R H ((noX m b).bind k) Q := h
  unfold noX at h'
  match m b, h' with
  | .ok a b, h' => exact fun v H' e B r => ⟨a, b, e, B, r, wpG.at e h'⟩
  | .exc x b, h' => exact h'.elim
  | .stk, h' => exact h'.elim
theorem wipe_get {σ : St} : ∀ {vs : List Nat} {i : Nat}, i < σ.length → i ∈ vs → (L2.wipe σ vs)[i]? = some none
  | [], i, _, h => absurd h (by simp)
  | v :: vs, i, hi, h => by
    show ((L2.wipe σ vs).set v none)[i]? = _
    by_cases e : v = i
    · subst e
      exact List.getElem?_set_self (by rw [wipe_length]; exact hi)
    · rw [List.getElem?_set_ne e]
      exact wipe_get hi ((List.mem_cons.mp h).resolve_left fun z => e z.symm)
theorem wipe_agr {σ σ' : St} {js vs : List Nat} (a : Agr js (L2.wipe σ vs) σ') (h : ∀ j ∈ js, j ∈ vs) : L2.wipe σ' vs = L2.wipe σ vs := by
  have hl : σ'.length = σ.length := a.1.trans (wipe_length σ vs)
  apply List.ext_getElem?
  intro i
  by_cases hi : i ∈ vs
  · by_cases hlt : i < σ.length
    · rw [wipe_get (by omega) hi, wipe_get hlt hi]
    · rw [List.getElem?_eq_none (by rw [wipe_length]; omega), List.getElem?_eq_none (by rw [wipe_length]; omega)]
  · rw [wipe_out hi]
    exact a.2 i fun z => hi (h i z)
/-- one more owned list -/
theorem StE.more {g : Gh} {ρ : DEnv} {b b' : Bx} {σ : St} {H H' : Hp} {p : Addr} {vs : List V} (S : StE g ρ b σ H) (hp : H p = none) (e : Ex1 g.bx H H') (B : BoxOk g b' H') (hq : H' p = some (.lst vs)) : StE (g.at fun a => g.O a ∨ a = p) ρ b' σ H' := by
  have w : ∀ a, (g.O a ∨ a = p) → g.O a ∨ H a = none := fun a h => h.elim .inl fun z => .inr (by rw [z]; exact hp)
  have bl : BxL (fun a => g.O a ∨ a = p) g.bx H := fun a z => ⟨.inl (S.bo a z), (S.box.bxl a z).2⟩
  refine ⟨S.len, fun i d h => ?_, S.sep, ?_, fun a h => ?_⟩
  · obtain ⟨v, h1, h2⟩ := S.val i d h
    refine ⟨v, h1, ?_⟩
    cases h2 with
    | rep r => exact .rep ((r.own w).mono bl e)
    | own q o n nb r => exact .own (e _ _ nb q) (.inl o) n nb ((r.own w).mono bl e)
  · unfold BoxOk at B ⊢
    cases eb : g.bx with
    | none => rw [eb] at B; exact B
    | some a =>
      rw [eb] at B
      exact ⟨⟨B.1.1, .inl B.1.2⟩, B.2⟩
  · rcases h with h | h
    · exact (S.mono e B).mt a h
    · rw [h, hq]
      trivial
/-- what a comprehension's block may let out: nothing -/
abbrev W0 : WX := fun _ _ _ _ => False
theorem comp_body {vs js : List Nat} (hj : ∀ j ∈ js, j ∈ vs) {W : WX} {g : Gh} {ρ : DEnv} {b1 : Bx} {σ : St} {H H1 : Hp} {ds : List D} {J : It} {Q : VK} (hP : g.P = P) (S1 : StE g ρ b1 σ H1) (jok : JOk g H1 ds J) (hl : ds.length < 100000) (hf : ∀ p, H1 p = none → H p = none)
    (w1 : wpG g W σ (RF g H) H1 (compL vs k t f ρ ds b1) Q) : ∀ D, H1 D = none → ∃ W : Nat → Nat → Hp → Prop, (∃ m, W 0 m (upd H1 D (.lst []))) ∧ ∀ i m H, W i m H →
  (J.stop i H ∧ Q (.ref D) H) ∨ (J.go i H ∧ ∃ Nx : Hp → Prop, (∀ H', Nx H' → ∃ m', m' < m ∧ W (i + 1) m' H') ∧ ∀ x H', J.yld i H x H' → rP P js k x (wipe σ vs) H' fun σ2 H2 => wipe σ2 vs = wipe σ vs ∧ rT P W0 t σ2 H2 fun b H3 =>
    if b = true then rE P W0 f σ2 H3 fun y H4 => ∃ acc, H4 D = some (.lst acc) ∧ acc.length < sizeLine ∧ Nx (upd H4 D (.lst (acc ++ [y]))) else Nx H3) := by
  intro Dl hD
  have nb : g.bx ≠ some Dl := fun z => by
    obtain ⟨_, vs, q⟩ := S1.box.bxl Dl z
    rw [hD] at q; cases q
  have h0 := hf Dl hD
  refine ⟨fun i m H' => m = ds.length - i ∧ i ≤ ds.length ∧ ∃ b' done us, Ex1 g.bx H1 H' ∧ BoxOk g b' H' ∧ H' Dl = some (.lst us) ∧ Reps g.P (fun a => g.O a ∨ a = Dl) g.bx H' done us ∧ done.length ≤ i ∧
    wpG g W σ (RF g H) H1 ((compL vs k t f ρ (ds.drop i) b').bind fun ys => pure (done ++ ys)) Q,
    ⟨ds.length, rfl, Nat.zero_le _, b1, [], [], Ex1.new hD, S1.box.new hD, upd_same, .nil, Nat.le_refl _, ?_⟩, ?_⟩
  · have e0 : ((compL vs k t f ρ (ds.drop 0) b1).bind fun ys => (pure ([] ++ ys) : M (List D))) = compL vs k t f ρ ds b1 := by
      show Res.bind (compL vs k t f ρ ds b1) _ = _
      cases compL vs k t f ρ ds b1 <;> rfl
    rw [e0]
    exact w1
  rintro i m H' ⟨rfl, hi, b', done, us, ex, Bb, hq, rs, hdl, w'⟩
  have S' := S1.more hD ex Bb hq
  have t1 : Tr g.O H1 (fun a => g.O a ∨ a = Dl) H' := ⟨fun a o n q => ex a o (fun z => n (S1.bo a z)) q, fun a h => h.elim .inl fun z => .inr (by rw [z]; exact hD)⟩
  obtain ⟨j1, j2⟩ := jok _ H' t1 S'.mt i
  by_cases hlt : i < ds.length
  · have hd : ds[i]? = some ds[i] := List.getElem?_eq_getElem hlt
    have ed : ds.drop i = ds[i] :: ds.drop (i + 1) := List.drop_eq_getElem_cons hlt
    obtain ⟨go, yl⟩ := j1 _ hd
    rw [ed] at w'
    refine .inr ⟨go, fun H5 => ∃ b' done us, Ex1 g.bx H1 H5 ∧ BoxOk g b' H5 ∧ H5 Dl = some (.lst us) ∧ Reps g.P (fun a => g.O a ∨ a = Dl) g.bx H5 done us ∧ done.length ≤ i + 1 ∧
      wpG g W σ (RF g H) H1 ((compL vs k t f ρ (ds.drop (i + 1)) b').bind fun ys => pure (done ++ ys)) Q, fun H5 n5 => ⟨ds.length - (i + 1), by omega, rfl, hlt, n5⟩, fun x H2 y => ?_⟩
    obtain ⟨keep, rx⟩ := yl x H2 y
    have e2 : Ex1 g.bx H' H2 := fun a o _ q => keep a o q
    have Bb2 : BoxOk g b' H2 := Bb.ex keep
    have S2 := S1.more hD (ex.trans e2) Bb2 (keep Dl _ hq)
    have S2w := S2.wipe vs
    have w2 : wpG g W σ (RF g H) H1 (((match k ds[i] (wipeD ρ vs) with
      | some ρ' => noX (t ρ') >>= fun c => if c = true then noX (f ρ') >>= fun y => chk y >>= fun y => compL vs k t f ρ (ds.drop (i + 1)) >>= fun ys => pure (y :: ys)
          else compL vs k t f ρ (ds.drop (i + 1))
      | none => stuck : M (List D)) b').bind fun ys => pure (done ++ ys)) Q := w'
    cases ek : k ds[i] (wipeD ρ vs) with
    | none => simp only [ek] at w2; exact w2.elim
    | some ρ' =>
      simp only [ek] at w2
      refine ⟨g.at fun a => g.O a ∨ a = Dl, _, b', _, hP, S2w, rx, ρ', ek, fun σ' S3 ag => ⟨wipe_agr ag hj, g.at fun a => g.O a ∨ a = Dl, ρ', b', hP, S3, ?_⟩⟩
      -- the box as the block's ghosts have it
      have bk : ∀ {b : Bx} {H : Hp}, BoxOk (g.at fun a => g.O a ∨ a = Dl) b H → BoxOk g b H := fun {b H} h => by
        have o := S1.bo
        unfold BoxOk at h ⊢
        cases eb : g.bx with
        | none => rw [eb] at h; exact h
        | some a => rw [eb] at h o; exact ⟨⟨h.1.1, o a rfl⟩, h.2⟩
      -- what follows a value of the block
      have step : ∀ {α β γ : Type} {R1 : Hp → α → β → Prop} {m : M α} {l : α → M γ} {q : γ → M (List D)} {bb : Bx} {H3 : Hp}, wpG g W σ (RF g H) H1 (((noX m >>= l) bb).bind q) Q →
          wpG (g.at fun a => g.O a ∨ a = Dl) (fun _ _ _ _ => False) σ' R1 H3 (m bb) fun v H4 => ∃ a b, Ex1 g.bx H3 H4 ∧ BoxOk g b H4 ∧ R1 H4 a v ∧ wpG g W σ (RF g H) H1 ((l a b).bind q) Q := fun {α β γ R1 m l q bb H3} h => by
        have h' : wpG g W σ (RF g H) H1 (((noX m bb).bind l).bind q) Q := h
        unfold noX at h'
        match m bb, h' with
        | .ok a b, h' => exact fun v H' e B r => ⟨a, b, e, bk B, r, h'⟩
        | .exc x b, h' => exact h'.elim
        | .stk, h' => exact h'.elim
      refine (step (R1 := fun _ a v => v = a) w2).imp fun c H3 ⟨c', b3, e3, B3, r3, w4⟩ => ?_
      subst r3
      have hq3 : H3 Dl = some (.lst us) := e3 Dl _ nb (keep Dl _ hq)
      have rs3 := (rs.mono (H' := H2) (fun a z => ⟨.inl (S1.bo a z), (Bb.bxl a z).2⟩) e2).mono (fun a z => ⟨.inl (S1.bo a z), (Bb2.bxl a z).2⟩) e3
      cases c with
      | false => exact iteF ⟨b3, done, us, (ex.trans e2).trans e3, B3, hq3, rs3, Nat.le_succ_of_le hdl, w4⟩
      | true =>
        have B3' : BoxOk (g.at fun a => g.O a ∨ a = Dl) b3 H3 := by
          unfold BoxOk at B3 ⊢
          cases eb : g.bx with
          | none => rw [eb] at B3; exact B3
          | some a => rw [eb] at B3; exact ⟨⟨B3.1.1, .inl B3.1.2⟩, B3.2⟩
        have S4 := S3.mono (g := g.at fun a => g.O a ∨ a = Dl) e3 B3'
        refine iteT ⟨g.at fun a => g.O a ∨ a = Dl, ρ', b3, hP, S4, (step (R1 := RepT (g.at fun a => g.O a ∨ a = Dl)) w4).imp fun yv H4 ⟨yd, b4, e4, B4, r4, w5⟩ => ?_⟩
        have hq4 : H4 Dl = some (.lst us) := e4 Dl _ nb hq3
        have rs4 := rs3.mono (fun a z => ⟨.inl (S1.bo a z), (B3.bxl a z).2⟩) e4
        have lenU : us.length < 100000 := by
          have := rs4.length
          omega
        have rd : Rep g.P (fun a => g.O a ∨ a = Dl) g.bx H4 yd yv ∧ wpG g W σ (RF g H) H1 (((compL vs k t f ρ (ds.drop (i + 1)) >>= fun ys => pure (yd :: ys)) b4).bind fun ys => pure (done ++ ys)) Q := by
          cases r4 with
          | own => exact w5.elim
          | rep r4 =>
            refine ⟨r4, ?_⟩
            cases r4 <;> exact w5
        obtain ⟨rd, w6⟩ := rd
        refine ⟨us, hq4, szlt lenU, b4, done ++ [yd], us ++ [yv], ((ex.trans e2).trans (e3.trans e4)).write hD, ?_, upd_same, (rs4.write (.inr rfl) hq4).append (.cons (rd.write (.inr rfl) hq4) .nil), by rw [List.length_append]; simpa using hdl, ?_⟩
        · unfold BoxOk at B4 ⊢
          cases eb : g.bx with
          | none => rw [eb] at B4; exact B4
          | some a =>
            rw [eb] at B4 nb
            exact ⟨B4.1, by rw [upd_ne (fun y => nb (by rw [y]))]; exact B4.2⟩
        · have em : ((compL vs k t f ρ (ds.drop (i + 1)) b4).bind fun ys => (pure (done ++ [yd] ++ ys) : M (List D))) = (((compL vs k t f ρ (ds.drop (i + 1)) >>= fun ys => pure (yd :: ys)) b4).bind fun ys => pure (done ++ ys)) := by
            show _ = Res.bind (Res.bind (compL vs k t f ρ (ds.drop (i + 1)) b4) _) _
            cases compL vs k t f ρ (ds.drop (i + 1)) b4 with
            | ok a b => show Res.ok (done ++ [yd] ++ a) b = Res.ok (done ++ (yd :: a)) b; rw [List.append_assoc]; rfl
            | exc x b => rfl
            | stk => rfl
          rw [em]
          exact w6
  · have e : i = ds.length := by omega
    subst e
    rw [List.drop_length] at w'
    have w' : wpG g W σ (RF g H) H1 ((pure (done ++ []) : M (List D)) b') Q := w'
    rw [List.append_nil] at w'
    exact .inl ⟨j2 (Nat.le_refl _), w' _ H' ex Bb ⟨Dl, us, rfl, h0, hq, rs⟩⟩
theorem comp_read {vs js : List Nat} (hj : ∀ j ∈ js, j ∈ vs) {W : WX} {σ : St} {H : Hp} {Q : VK} (h : rF P W (fComp fs vs k t f) σ H Q) :
    tLc (rG P W (fun g H ds J => JOk g H ds J) fs) (rP P js k) (rT P W0 t) (rE P W0 f) vs σ H Q := by
  obtain ⟨g, ρ, b, hP, S, w⟩ := h
  refine ⟨g, ρ, b, hP, S, (wpG.bind (R1 := fun H ds J => JOk g H ds J) w).imp fun J H1 ⟨ds, b1, e1, B1, jok, w1⟩ => ?_⟩
  obtain ⟨hl, w1⟩ := wp_ite (c := ds.length < 100000) (m := compL vs k t f ρ ds) w1
  exact comp_body hj hP (S.mono e1 B1) jok hl (fun p hp => fresh_back B1.bxl e1 hp) w1
theorem sf_comp {scope : Scope} {own : List (Str × Nat)} {js : List Nat} (hc : X.calm = true) (hN : X.N.Nodup) (hi : SI X P tg iter fs) (ok : BlkOk X.N X.env.scope scope own) (hj : ∀ j ∈ js, j ∈ own.map (·.2))
    (hg : ∀ (s : Shared) (H : Hp) (C : Addr) (cl : List (Str × Addr)) (fp : List Addr), SG (X.blk s H scope (compEnvC scope cl C X.env) fp) P tg js k)
    (ht : ∀ (s : Shared) (H : Hp) (C : Addr) (cl : List (Str × Addr)) (fp : List Addr), STs (X.blk s H scope (compEnvC scope cl C X.env) fp) P ifs t)
    (he : ∀ (s : Shared) (H : Hp) (C : Addr) (cl : List (Str × Addr)) (fp : List Addr), SE (X.blk s H scope (compEnvC scope cl C X.env) fp) P elt f) (hs : ∀ x, foldedSetIterable iter X.env x = pure x := by intro _; rfl) :
    SF X P (.ListComp elt [⟨tg, iter, ifs, 0⟩] scope pos) (fComp fs (own.map (·.2)) k t f) := ⟨fun W tk =>
  pe_imp (pe_lc hc hN (hi.pi W tk) ok (fun s H C cl fp => (hg s H C cl fp).pg) (fun s H C cl fp => (ht s H C cl fp).pt _ takes0) (fun s H C cl fp => (he s H C cl fp).pe _ takes0) hs) fun σ H Q h => comp_read hj h⟩
/-- y = [..] : shared, or y's own -/
theorem ss_setC (i : Nat) {y : Str} {py spos : Pos} {scope : Scope} {own : List (Str × Nat)} {js : List Nat} (hc : X.calm = true) (hN : X.N.Nodup) (hi : SI X P tg iter fs) (ok : BlkOk X.N X.env.scope scope own) (hj : ∀ j ∈ js, j ∈ own.map (·.2))
    (hg : ∀ (s : Shared) (H : Hp) (C : Addr) (cl : List (Str × Addr)) (fp : List Addr), SG (X.blk s H scope (compEnvC scope cl C X.env) fp) P tg js k)
    (ht : ∀ (s : Shared) (H : Hp) (C : Addr) (cl : List (Str × Addr)) (fp : List Addr), STs (X.blk s H scope (compEnvC scope cl C X.env) fp) P ifs t)
    (he : ∀ (s : Shared) (H : Hp) (C : Addr) (cl : List (Str × Addr)) (fp : List Addr), SE (X.blk s H scope (compEnvC scope cl C X.env) fp) P elt f) (hy : X.N[i]? = some y := by rfl) (hyl : X.env.scope.names.lookup y = some .local := by rfl)
    (hsw : swapsWith (.ListComp elt [⟨tg, iter, ifs, 0⟩] scope pos) (some (.Name y py)) spos.line X.env = pure true := by exact sw_true rfl rfl rfl (by decide +kernel)) (hs : ∀ x, foldedSetIterable iter X.env x = pure x := by intro _; rfl) :
    SS X P (.Assign [.Name y py] (.ListComp elt [⟨tg, iter, ifs, 0⟩] scope pos) spos) (sSet i (eF (fComp fs (own.map (·.2)) k t f))) := ⟨fun W tk =>
  ps_imp (ps_setLc hc hN hy hyl hsw (hi.pi W tk) ok (fun s H C cl fp => (hg s H C cl fp).pg) (fun s H C cl fp => (ht s H C cl fp).pt _ takes0) (fun s H C cl fp => (he s H C cl fp).pe _ takes0) hs) fun E σ H h => comp_read hj (f_read (set_read h))⟩
theorem ss_ownC (i : Nat) {y : Str} {py spos : Pos} {scope : Scope} {own : List (Str × Nat)} {js : List Nat} (hc : X.calm = true) (hN : X.N.Nodup) (hi : SI X P tg iter fs) (ok : BlkOk X.N X.env.scope scope own) (hj : ∀ j ∈ js, j ∈ own.map (·.2))
    (hg : ∀ (s : Shared) (H : Hp) (C : Addr) (cl : List (Str × Addr)) (fp : List Addr), SG (X.blk s H scope (compEnvC scope cl C X.env) fp) P tg js k)
    (ht : ∀ (s : Shared) (H : Hp) (C : Addr) (cl : List (Str × Addr)) (fp : List Addr), STs (X.blk s H scope (compEnvC scope cl C X.env) fp) P ifs t)
    (he : ∀ (s : Shared) (H : Hp) (C : Addr) (cl : List (Str × Addr)) (fp : List Addr), SE (X.blk s H scope (compEnvC scope cl C X.env) fp) P elt f) (hy : X.N[i]? = some y := by rfl) (hyl : X.env.scope.names.lookup y = some .local := by rfl)
    (hsw : swapsWith (.ListComp elt [⟨tg, iter, ifs, 0⟩] scope pos) (some (.Name y py)) spos.line X.env = pure true := by exact sw_true rfl rfl rfl (by decide +kernel)) (hs : ∀ x, foldedSetIterable iter X.env x = pure x := by intro _; rfl) :
    SS X P (.Assign [.Name y py] (.ListComp elt [⟨tg, iter, ifs, 0⟩] scope pos) spos) (sOwn i (fComp fs (own.map (·.2)) k t f)) := ⟨fun W tk =>
  ps_imp (ps_setLc hc hN hy hyl hsw (hi.pi W tk) ok (fun s H C cl fp => (hg s H C cl fp).pg) (fun s H C cl fp => (ht s H C cl fp).pt _ takes0) (fun s H C cl fp => (he s H C cl fp).pe _ takes0) hs) fun E σ H h => comp_read hj (own_read h)⟩
end
end Pu

set_option Elab.async false
set_option linter.all false
set_option maxRecDepth 100000
set_option maxHeartbeats 4000000
/-! The pure layer, part I: defs, their calls, raise -/
namespace Pu
open PySem L2
/-- what a def of the meaning Fn promises -/
def pureSp (P : Px) (Fn : List D → M D) : Sp := fun vs H Q E => ∃ (O : Addr → Prop) (bx : Option Addr) (b : Bx) (ds : List D), BoxOk ⟨P, O, O, bx⟩ b H ∧ (∀ a, O a → Mut (H a)) ∧ Reps P O bx H ds vs ∧
  wpG ⟨P, O, O, bx⟩ (fun cls dd _ H => E cls dd H) [] (fun H d v => Rep P O bx H d v) H (Fn ds b) Q
def startD (m : Nat) (ds : List D) : DEnv := ds.map some ++ List.replicate (m - ds.length) none
def endD : Out → M D
  | .rt d => pure d
  | .nx _ => pure .non
  | _ => stuck
/-- a def of n parameters, m names, and this body -/
def runD (n m : Nat) (body : DEnv → M Out) : List D → M D := fun ds => if ds.length = n then body (startD m ds) >>= endD else stuck
section
variable {X : Cx} {P : Px} {e a b c : Expr} {es : List Expr} {pos : Pos} {f : DEnv → M D} {fs : DEnv → M (List D)} {u : DEnv → M Out} {Fn : List D → M D}
def eCall (Fn : List D → M D) (fs : DEnv → M (List D)) : DEnv → M D := fun ρ => fs ρ >>= Fn
theorem call_read {W : WX} {σ : St} {H : Hp} {Q : VK} (h : rE P W (eCall Fn fs) σ H Q) : tCallS (pureSp P Fn) (WE W) (rA P W fs) σ H Q := by
  obtain ⟨g, ρ, b, hP, S, w⟩ := h
  refine ⟨g, ρ, b, hP, S, (wpG.bind (R1 := RA g) w).imp fun vs H1 ⟨ds, b1, e1, B1, r1, w1⟩ => ?_⟩
  subst hP
  have S1 := S.mono e1 B1
  have o0 : ∀ a, g.bx = some a → g.O0 a := fun a z => by
    have B := B1
    unfold BoxOk at B
    rw [z] at B
    exact B.1.1
  have up : ∀ {b : Bx} {H : Hp}, BoxOk ⟨g.P, g.O, g.O, g.bx⟩ b H → BoxOk g b H := fun {b H} B => by
    unfold BoxOk at B ⊢
    cases z : g.bx with
    | none => rw [z] at B; exact B
    | some a =>
      rw [z] at B o0
      exact ⟨⟨o0 a rfl, B.1.1⟩, B.2⟩
  refine ⟨g.O, g.bx, b1, ds, ?_, S1.mt, r1, ?_⟩
  · have B := B1
    unfold BoxOk at B ⊢
    cases z : g.bx with
    | none => rw [z] at B; exact B
    | some a =>
      rw [z] at B
      exact ⟨⟨B.1.2, B.1.2⟩, B.2⟩
  · match Fn ds b1, w1 with
    | .ok d b2, w1 => exact fun v H' e B r => w1 v H' e (up B) (.rep r)
    | .exc x b2, w1 => exact fun cls dd H' e B r => w1 cls dd H' e (up B) r
theorem se_call {k : Nat} {f0 : Addr} {fd : FuncData} {ps : List Str} {x : Str} {p : Pos} (F : FnOk X.prog X.w X.K X.mg X.base (L2.CX X.prog X.w) k f0 fd ps (pureSp P Fn)) (hr : Room k X.A) (hg : Gl X x) (hm : X.mg x = some (.ref f0)) (hk : PySem.W.keepIn X.K (.ref f0) = true) (hb : Binds X.K fd ps [])
    (ha : SA X P (e :: es) fs) (hdb : (x == ("__debug__" : Str)) = false := by decide) (he : starEach (e :: es) X.env = (false, eval e X.env) :: starEach es X.env := by rfl) (hpl : (backTo pos (starEach es X.env)).any (·.1) = false := by rfl) : SE X P (.Call (.Name x p) (e :: es) [] pos) (eCall Fn fs) :=
  ⟨fun W tk => pe_imp (pe_callS F hr hg hm hk hb (fun σ => passAt tk σ) (ha.pa W tk) hdb he hpl) fun σ H Q h => call_read h⟩

/-- a def keeps the promise of its body's meaning -/
theorem fn_ok {prog : Program} {w : World} {K : PySem.W.Frag} {mg : Str → Option Value} {base : Heap} {x qual : Str} {st : Stmt} {f0 : Addr} {fd : FuncData} {N ps : List Str} {k : Nat} (hK : P.K = K) (F : Fun K x qual st f0 fd) (S : FnScope N ps (defScope st))
    (hb : ∀ (cdv : Value) (A : Around) (outer : List Env) (s : Shared) (H : Hp) (E : XK), Room k (A.deeper (PyProof.Rows.envOfC qual (defScope st) s.heap.objs.size f0 cdv)) →
      SSs (cxOf (L2.CX prog w) prog w K mg base N qual (defScope st) f0 cdv A outer s H E) P (defBody st) u) :
    FnOk prog w K mg base (L2.CX prog w) (k + 1) f0 fd ps (pureSp P (runD ps.length N.length u)) := by
  subst hK
  have hpl : ps.length ≤ N.length := by
    have := congrArg List.length S.pre
    rw [List.length_take] at this
    omega
  refine F.okX S (fun vs H Q E h => ?_) (fun cdv A outer s H vs Q E hr h => ?_)
  · obtain ⟨O, bx, b, ds, B, m, r, w⟩ := h
    rw [← r.length]
    unfold runD at w
    by_cases hl : ds.length = ps.length
    · exact hl
    · rw [if_neg hl] at w
      exact w.elim
  · refine ⟨_, (hb cdv A outer s H E hr).ps (fun cls d _ H => E cls d H) (takes_of rfl rfl rfl rfl), ?_⟩
    obtain ⟨O, bx, b, ds, B, m, r, w⟩ := h
    unfold runD at w
    by_cases hl : ds.length = ps.length
    · rw [if_pos hl] at w
      have hv := r.length
      have at_ : ∀ (i : Nat) (d : D), (startD N.length ds)[i]? = some (some d) → ds[i]? = some d := fun i d h => by
        unfold startD at h
        by_cases hi : i < ds.length
        · rw [List.getElem?_append_left (by simpa using hi), List.getElem?_map] at h
          cases e : ds[i]? with
          | none => rw [e] at h; cases h
          | some z => rw [e] at h; cases h; rfl
        · rw [List.getElem?_append_right (by simpa using hi), List.getElem?_replicate] at h
          split at h <;> cases h
      have no : ∀ (i : Nat) (es : List D), (startD N.length ds)[i]? ≠ some (some (.own es)) := fun i es h => by
        obtain ⟨v, _, q⟩ := r.get (at_ i _ h)
        cases q
      refine ⟨⟨P, O, O, bx⟩, H, startD N.length ds, b, rfl, ⟨?_, fun i d h => ?_, fun i j es _ _ h => absurd h (no i es), B, m⟩, ⟨fun _ h => h, fun _ h => .inl h, Ex1.refl, fun a h => mut_some (m a h)⟩, ?_⟩
      · unfold L2.start startD
        rw [List.length_append, List.length_append, List.length_map, List.length_map, List.length_replicate, List.length_replicate]
        omega
      · obtain ⟨v, h1, h2⟩ := r.get (at_ i d h)
        refine ⟨v, ?_, .rep h2⟩
        have hi := get_len h1
        unfold L2.start
        rw [List.getElem?_append_left (by simpa using hi), List.getElem?_map, h1]
        rfl
      · have w : wpG ⟨P, O, O, bx⟩ (fun cls dd _ H => E cls dd H) [] (fun H d v => Rep P O bx H d v) H ((u (startD N.length ds) b).bind endD) Q := w
        match u (startD N.length ds) b, w with
        | .ok (.nx ρ) b', w => exact fun O' σ' H' t S' B' => w .non H' B'.ex (S'.box.base B') .non
        | .ok (.rt d) b', w => exact fun v H' e B r => w v H' e B r
        | .exc x b', w => exact fun cls dd σ' H' e B r => w cls dd H' e B r
    · rw [if_neg hl] at w
      exact w.elim

/-! ### raise X() -/
theorem pmk_own0 {C : Addr} {bmB : List Value} {B newId initId : String} {x : Str} {p : Pos} (F : ExcBaseFacts B newId initId bmB) (q : PySem.W.excIn X.K C bmB newId = true) (gC : X.mg x = some (.ref C)) (kC : PySem.W.keepIn X.K (.ref C) = true) (r : Raises X (.ref C)) (hg : Gl X x)
    (hdb : (x == ("__debug__" : Str)) = false := by decide) : PMk X (.Call (.Name x p) [] [] pos) (fun _ H Q => Q (.ref C) none H) := by
  intro pins s σ H Q I h
  refine wpAny_Call_Name_kw (ld_glob I hg gC (PySem.W.callWith_K0 I.kIn kC ?_) hdb)
  obtain ⟨bm, N, nm, qn, bs, hdct, sn, sub, ab, col, dd, k0, k1, k2, k3, k5, mN, hC, hN, hni, T⟩ := exc_obj I.kIn q
  exact wpAny_call_exc_subT F T hC hN hni (fun h' e hm => mk_of I hm r h (I.hok.gone hm.new)) (by show 0 ≤ sizeLine; exact Nat.zero_le _)
def sRaise (i : Nat) : DEnv → M Out := fun _ => raise ⟨i, none⟩
/-- what is known of an error's class without an __init__ -/
structure ErrC (K : PySem.W.Frag) (C : Addr) : Prop where
  ex : PySem.W.excIn K C [.type "ValueError", .type "Exception", .type "BaseException", .type "object"] "ValueError.__new__" = true
  kp : PySem.W.keepIn K (.ref C) = true
  sub : PySem.W.subIn K (.ref C) (.type "BaseException") = some true
  ty : PySem.W.typeIn K (.ref C) = some (.type "type")
theorem ss_raise (i : Nat) {x : Str} {p pos' : Pos} (hc : X.calm = true) (T : ErrC X.K (P.ca i)) (gC : X.mg x = some (.ref (P.ca i))) (hg : Gl X x) (hdb : (x == ("__debug__" : Str)) = false := by decide) : SS X P (.Raise (some (.Call (.Name x p) [] [] pos')) none pos) (sRaise i) :=
  ⟨fun W tk => ps_imp (ps_raise hc tk (pmk_own0 PySem.F.excBase_ValueError T.ex gC T.kp (raises_own T.sub T.ty) hg hdb)) fun E σ H h => by
    obtain ⟨g, H0, ρ, b, hP, S, B, w⟩ := h
    exact w (.ref (P.ca i)) none σ H B.ex (S.box.base B) ⟨by rw [hP], rfl⟩⟩
end
end Pu

set_option Elab.async false
set_option linter.all false
set_option maxRecDepth 100000
set_option maxHeartbeats 4000000
/-! The pure layer, part J: what has no rule, defs by their data, calls by a table -/
namespace Pu
open PySem L2
section
variable {X : Cx} {P : Px} {s : Stmt} {ss : List Stmt} {e a b c : Expr} {es : List Expr} {pos : Pos}
abbrev eStk : DEnv → M D := fun _ => stuck
abbrev fStk : DEnv → M (List D) := fun _ => stuck
abbrev tStk : DEnv → M Bool := fun _ => stuck
abbrev sStk : DEnv → M Out := fun _ => stuck
theorem se_stk : SE X P e eStk := ⟨fun W tk => ⟨fun pins s σ H Q I h => by
  obtain ⟨g, ρ, b, hP, S, w⟩ := h
  exact w.elim⟩⟩
theorem sf_stk : SF X P e fStk := ⟨fun W tk => ⟨fun pins s σ H Q I h => by
  obtain ⟨g, ρ, b, hP, S, w⟩ := h
  exact w.elim⟩⟩
theorem st_stk : STt X P e tStk := ⟨fun W tk => ⟨fun pins s σ H Q I h => by
  obtain ⟨g, ρ, b, hP, S, w⟩ := h
  exact w.elim⟩⟩
theorem ss_stk : SS X P s sStk := ⟨fun W tk => ⟨fun pins s σ H E I h => by
  obtain ⟨g, H0, ρ, b, hP, S, B, w⟩ := h
  exact w.elim⟩⟩
theorem sss_stk : SSs X P ss sStk := ⟨fun W tk => ⟨fun pins s σ H E I h => by
  obtain ⟨g, H0, ρ, b, hP, S, B, w⟩ := h
  exact w.elim⟩⟩
theorem si_stk {tg : Expr} : SI X P tg e fStk := ⟨fun W tk => ⟨fun pins s σ H Q I h => by
  obtain ⟨g, ρ, b, hP, S, w⟩ := h
  exact w.elim⟩⟩

def natOf : D → Nat
  | .int i => i.natAbs
  | _ => 0
def natAt (ρ : DEnv) (i : Nat) : Nat := match ρ[i]? with
  | some (some d) => natOf d
  | _ => 0
/-- a def that keeps the promise of Fn, called with n things -/
structure OkF (prog : Program) (w : World) (K : PySem.W.Frag) (mg : Str → Option Value) (base : Heap) (P : Px) (k i : Nat) (Fn : List D → M D) : Prop where
  ex : ∃ (fd : FuncData) (ps : List Str), FnOk prog w K mg base (L2.CX prog w) k (P.fa i) fd ps (pureSp P Fn) ∧ PySem.W.keepIn K (.ref (P.fa i)) = true ∧ Binds K fd ps []
theorem se_callF {k i : Nat} {x : Str} {p : Pos} {Fn : List D → M D} {fs : DEnv → M (List D)} (F : OkF X.prog X.w X.K X.mg X.base P k i Fn) (hr : Room k X.A) (hm : X.mg x = some (.ref (P.fa i))) (hg : Gl X x)
    (ha : SA X P (e :: es) fs) (hdb : (x == ("__debug__" : Str)) = false := by decide) (he : starEach (e :: es) X.env = (false, eval e X.env) :: starEach es X.env := by rfl) (hpl : (backTo pos (starEach es X.env)).any (·.1) = false := by rfl) : SE X P (.Call (.Name x p) (e :: es) [] pos) (eCall Fn fs) := by
  obtain ⟨fd, ps, F, kp, hb⟩ := F.ex
  exact se_call F hr hg hm kp hb ha hdb he hpl
end
section
variable {prog : Program} {w : World} {K : PySem.W.Frag} {mg : Str → Option Value} {base : Heap} {P : Px}
theorem fun_of {x qual : Str} {st : Stmt} {f : Addr} {fd : FuncData} (F : FunD K x qual (defArgs st) (defBody st) (defScope st) [] [] f fd) : Fun K x qual st f fd := by
  obtain ⟨oc, od, dV, kV, doc, pm, an, cdv, ct, osl, rfl, lk, hcd, hD, hK⟩ := F.ex
  rcases hD with ⟨_, rfl⟩ | ⟨e, _⟩
  · exact ⟨⟨oc, od, kV, doc, pm, an, cdv, ct, osl, rfl, lk, hcd⟩, F.kp⟩
  · exact absurd rfl e
/-- a def's promise from its datum -/
theorem okF_mk {x : Str} {st : Stmt} {i k : Nat} {fd : FuncData} {N ps : List Str} {u : DEnv → M Out} (hK : P.K = K) (F : FunD K x x (defArgs st) (defBody st) (defScope st) [] [] (P.fa i) fd) (S : FnScope N ps (defScope st)) (b : Binds K fd ps [])
    (hb : ∀ (cdv : Value) (A : Around) (outer : List Env) (s : Shared) (H : Hp) (E : XK), Room k (A.deeper (PyProof.Rows.envOfC x (defScope st) s.heap.objs.size (P.fa i) cdv)) →
      SSs (cxOf (L2.CX prog w) prog w K mg base N x (defScope st) (P.fa i) cdv A outer s H E) P (defBody st) u) :
    OkF prog w K mg base P (k + 1) i (runD ps.length N.length u) := ⟨fd, ps, fn_ok hK (fun_of F) S hb, F.kp, b⟩
theorem OkF.stk {k i : Nat} {Fn : List D → M D} (F : OkF prog w K mg base P k i Fn) : OkF prog w K mg base P k i (fun _ => stuck) := by
  obtain ⟨fd, ps, F, kp, b⟩ := F.ex
  refine ⟨fd, ps, F.imp fun vs H Q E h => ?_, kp, b⟩
  obtain ⟨O, bx, b, ds, _, _, _, w⟩ := h
  exact w.elim
theorem OkF.mono {j k i : Nat} {Fn : List D → M D} (F : OkF prog w K mg base P j i Fn) (h : j ≤ k) : OkF prog w K mg base P k i Fn := by
  obtain ⟨fd, ps, F, kp, b⟩ := F.ex
  exact ⟨fd, ps, F.mono h, kp, b⟩
end
end Pu

set_option Elab.async false
set_option linter.all false
set_option maxRecDepth 100000
set_option maxHeartbeats 4000000
/-! The pure layer, part K: enumerate over lists and tuples -/
namespace Pu
open PySem L2 PyProof.Rows
theorem meets_enumB {v : Value} {o : Obj} {G : Heap → Prop} (B : Begins v o G) :
    Meets (Builtin.«enumerate.__new__» ⟨[.type "enumerate", v], []⟩) (fun _ R s => G s.heap ∧ R (.ok (.ret (.ref (s.heap.push o).objs.size)))
      { s with heap := (s.heap.push o).push { cls := .type "enumerate", data := .fields #[.none, .bool false, .ref s.heap.objs.size, rawInt 0, .none, .none] } }) :=
  .of_wp fun prog w A R s h => by
    obtain ⟨hp, g, d, tk, os⟩ := s
    obtain ⟨h1, h⟩ := h
    have hsub := sub_enumerate
    have it0 : ∀ {A' : Around} {E : Value → Shared → Prop} {Q : Value → Shared → Prop}, Q (.ref hp.objs.size) ⟨hp.push o, g, d, tk, os⟩ → wpAny (model prog w) A' (pyIter v) Q E ⟨hp, g, d, tk, os⟩ :=
      fun q => B.iter prog w _ _ ⟨hp, g, d, tk, os⟩ _ h1 q
    wp_walk using it0
    refine wpAny_stack_any fun st => wpAny_pure ?_
    split
    · rename_i c _ _ _ _ _
      cases (c == Value.type "enumerate")
      all_goals
        wp_walk using it0
        exact ⟨_, rfl, h⟩
    · wp_walk using it0
      exact ⟨_, rfl, h⟩
section
variable {prog : Program} {w : World} {A : Around} {E : Value → Shared → Prop} {s : Shared}
/-- enumerate(v): its two new cells -/
theorem call_enumB {v : Value} {o : Obj} {G : Heap → Prop} {Q : Value → Shared → Prop} (B : Begins v o G) (h1 : G s.heap)
    (h : ∀ h', IsEnum h' (s.heap.objs.size + 1) s.heap.objs.size 0 .none → h'.get? s.heap.objs.size = some o →
      (∀ b u, s.heap.get? b = some u → h'.get? b = some u) → Q (.ref (s.heap.objs.size + 1)) { s with heap := h' }) :
    wpAny (model prog w) A (call (.type "enumerate") [v]) Q E s := by
  refine callType_new F.called_enumerate (by decide) (F.typeCall_enumerate_1 _) (F.newCall_enumerate_1 _) (fun obj => F.args_object_init_2 obj _) F.entry_enumerate_new (meets_enumB B) ⟨h1, ?_⟩
  have hz : (s.heap.push o).objs.size = s.heap.objs.size + 1 := Heap.size_push ..
  show _ ∧ _
  rw [hz]
  have he : IsEnum ((s.heap.push o).push { cls := .type "enumerate", data := .fields #[.none, .bool false, .ref s.heap.objs.size, rawInt 0, .none, .none] }) (s.heap.objs.size + 1) s.heap.objs.size 0 .none := by
    have q := Heap.get?_push_size (s.heap.push o) (o := { cls := .type "enumerate", data := .fields #[.none, .bool false, .ref s.heap.objs.size, rawInt 0, .none, .none] }) rfl
    rw [hz] at q
    exact q
  exact ⟨⟨_, he, rfl⟩, h _ he (Heap.get?_push_of_some _ (Heap.get?_push_size _ B.free)) fun b u x => Heap.get?_push_of_some _ (Heap.get?_push_of_some _ x)⟩
end
/-- the tuple at a, its items in new pairs -/
def ItET (K : PySem.W.Frag) (a : Addr) : It :=
  ⟨fun i H => ∃ (xs : List V) (x : V), SqT K H a xs ∧ xs[i]? = some x, fun i H v H' => ∃ T x, v = .ref T ∧ H T = none ∧ H' = upd H T (.tup [.int (i : Nat), x]) ∧ ∀ xs, SqT K H a xs → xs[i]? = some x, fun i H => ∃ xs : List V, SqT K H a xs ∧ xs.length ≤ i⟩
theorem turn_enumT {P : Program} {w : World} {K : PySem.W.Frag} {elts : List Expr} {kk : Nat} {tpos : Pos} (a e it : Addr) :
    Turn P w K (.Tuple elts kk tpos) (ItET K a) [e, it] e (fun i h => ((∃ old, IsEnum h e it ((i : Nat) : Int) old) ∧ h.IsTupleIter it a i) ∧ e ≠ it ∧ a ≠ it ∧ a ≠ e) where
  mem := by simp
  obj := fun i h st b hb => by
    obtain ⟨⟨⟨old, he⟩, ⟨o, ho, hc, hd⟩⟩, _⟩ := st
    have e' : b = e ∨ b = it := by simpa using hb
    rcases e' with z | z
    · rw [z]; exact ⟨_, he, fun v q => nomatch q⟩
    · rw [z]; exact ⟨o, ho, fun v q => by rw [hd] at q; cases q⟩
  keep := fun i h h' st k => let ⟨⟨⟨old, he⟩, hi⟩, hne⟩ := st; ⟨⟨⟨old, k e (by simp) _ he⟩, hi.at fun o q => k it (by simp) o q⟩, hne⟩
  item := by
    intro X hP hw hK hc i pins s σ H E I hf st hg
    subst hP hw hK
    obtain ⟨⟨⟨old, he⟩, hit⟩, hne, ha1, ha2⟩ := st
    obtain ⟨xs, x, hq, hx⟩ := hg
    obtain ⟨its, rv, p, hz⟩ := I.tuple hq
    obtain ⟨u, hu, ru⟩ := rv.get hx
    have hel : e < s.heap.objs.size := Heap.lt_size he
    have hil : it < s.heap.objs.size := by obtain ⟨_, q, _⟩ := hit; exact Heap.lt_size q
    have hlt : i < its.toArray.size := by
      have := (List.getElem?_eq_some_iff.mp hu).1
      simpa using this
    refine wpAny_pyNext_enum_itemC (c := (i : Int)) (i := i) (fp := [it, a]) (Draws.tuple (A := X.A.in1) (show X.A.in1.handled = none from I.ok.hd hc) it a ha1 its.toArray) he ⟨hit, p⟩ hlt hne (by simp only [List.mem_cons, List.not_mem_nil, or_false, not_or]; exact ⟨hne, Ne.symm ha2⟩) fun x' h' tk hx' ho hst' hT hsz hk => ?_
    have ex : x' = u := by
      have h2 : its[i]? = some x' := by simpa using hx'
      rw [hu] at h2
      exact (Option.some.inj h2).symm
    subst ex
    refine ⟨_, rfl, wpAny_letOwnedTupleGo_enum (s := { s with heap := h', toks := tk + 1 }) ho fun h'' he' sb => ?_⟩
    have hT2 : h''.get? s.heap.objs.size = some { cls := .type "tuple", data := .seq #[.int i tk, x'] } := (sb.2 _ (Nat.ne_of_gt hel)).trans hT
    have new : ObjOk X.prog X.w (upd H s.heap.objs.size (.tup [.int (i : Nat), x])) h'' s.heap.objs.size (.tup [.int (i : Nat), x]) :=
      ⟨by show 2 ≤ sizeLine; decide, [.int i tk, x'], .cons ⟨_, rfl⟩ (.cons ru .nil), ⟨_, hT2, rfl, _, rfl⟩⟩
    have I1 : Inv X pins σ (upd H s.heap.objs.size (.tup [.int (i : Nat), x])) { s with heap := h'', toks := tk + 1 } :=
      I.turnedNew (ch := [e, it]) (fun b ob hb q => (sb.2 b (fun z => hb (by simp [z]))).trans (hk b ob (fun z => hb (by simp [z])) (fun z => hb (by simp [z])) q)) hf (Nat.le_refl _) new
    refine ⟨.ref s.heap.objs.size, _, I1, rfl, ⟨_, x, rfl, I.hok.fresh (Nat.le_refl _), rfl, fun ys hy => by rw [I.tuple_inj hy hq]; exact hx⟩, ⟨⟨⟨x', ?_⟩, hst'.1.at fun o q => (sb.2 it (Ne.symm hne)).trans q⟩, hne, ha1, ha2⟩, fun b hb => ?_⟩
    · have e1 : ((i + 1 : Nat) : Int) = (i : Int) + 1 := by omega
      rw [e1]; exact he'
    · have hb' : b < s.heap.objs.size := by
        have e' : b = e ∨ b = it := by simpa using hb
        rcases e' with z | z
        · rw [z]; exact hel
        · rw [z]; exact hil
      rw [upd_ne (Nat.ne_of_lt hb')]
      exact (hf b hb).1
  done := by
    intro X hP hw hK hc i pins s σ H E I hf st hg
    subst hP hw hK
    obtain ⟨⟨⟨old, he⟩, hit⟩, hne, ha1, ha2⟩ := st
    obtain ⟨xs, hq, hx⟩ := hg
    obtain ⟨its, rv, p, hz⟩ := I.tuple hq
    obtain ⟨f0, f1, f2, f3, f4, f5⟩ := hf it (by simp)
    have hl := rv.length
    have hT : s.TypeIs (.ref e) "enumerate" := ⟨_, he, rfl⟩
    unfold pyNext
    refine wpAny_bind (wpAny_attempt (wpAny_callSpecial?_slot (name := Str.ofString "__next__") hT F.slot_enumerate_next
      (wpAny_call_entry F.slot_enumerate_next hT F.entry_enumerate_next ?_ (F.args_enumerate_next_1 _))))
    show wpAny _ _ (field (.ref e) 2 >>= _) _ _ _
    refine wpAny_bind (wpAny_field he rfl (x := .ref it) rfl ?_)
    refine wpAny_bind (wpAny_nextOf_tuple_end (I.ok.hd hc) hit p (by simp; omega) fun h' x he' hx' => ?_)
    obtain ⟨o, ho, hc'⟩ := hx'
    refine wpAny_bind (wpAny_isInstance (T := "StopIteration") (b := true) ⟨o, ho, hc'⟩ isSubtype_stop ?_)
    exact wpAny_pure ⟨rfl, I.turned (t' := s.toks) (fun b o hb q => he' b o hb q) f0 f1 f3 f4 f5⟩
  self := fun A i s Q E st h => let ⟨⟨⟨_, he⟩, _⟩, _⟩ := st; wpAny_pyIter_enum he h
def iEnumV (K : PySem.W.Frag) (ta : TA) : TI := fun σ H R => ta σ H fun vs H1 => ∃ a, vs = [.ref a] ∧ (((∃ xs, SqL K H1 a xs) ∧ R (Ite K a) H1) ∨ ((∃ xs, SqT K H1 a xs) ∧ R (ItET K a) H1))
theorem pi_enumV {X : Cx} {e : Expr} {ta : TA} {p pos tpos : Pos} {elts : List Expr} {kk : Nat} (hg : Gl X "enumerate") (hm : X.mg "enumerate" = none) (ha : PA X [e] ta) (hs : starEach [e] X.env = [(false, eval e X.env)] := by rfl) :
    PI X (.Tuple elts kk tpos) (.Call (.Name "enumerate" p) [e] [] pos) (iEnumV X.K ta) := by
  refine ⟨fun pins s σ H R I h => ?_⟩
  refine Call_ (ld_blt I hg hm boot_enumerate (PyProof.Rows.callWith_type1 (thn (ha.run pos pins s σ H _ I h) fun us s1 ⟨vs, H1, I1, r1, q1⟩ => ?_) hs rfl))
  obtain ⟨a, ex, q⟩ := q1
  subst ex
  cases r1 with
  | cons r rr =>
    cases rr
    cases r
    have ends : ∀ (h' : Heap), (∀ b o, s1.heap.get? b = some o → h'.get? b = some o) → ∀ b ∈ [s1.heap.objs.size + 1, s1.heap.objs.size], s1.heap.objs.size ≤ b := fun h' _ b hb => by
      have e' : b = s1.heap.objs.size + 1 ∨ b = s1.heap.objs.size := by simpa using hb
      rcases e' with z | z
      · rw [z]; exact Nat.le_add_right _ _
      · rw [z]; exact Nat.le_refl _
    rcases q with ⟨⟨xs, hq⟩, q⟩ | ⟨⟨xs, hq⟩, q⟩
    · obtain ⟨its, rv, p', hz⟩ := I1.list hq
      refine call_enumerate_list p'.isList fun h' he hit hsz hk => wpAny_pyIter_enum he ?_
      have I2 : Inv X pins σ H1 { s1 with heap := h' } := I1.kept (t' := s1.toks) hk
      refine ⟨s1.heap.objs.size + 1, [s1.heap.objs.size + 1, s1.heap.objs.size], _, _, H1, rfl, I2, turn_enum a (s1.heap.objs.size + 1) s1.heap.objs.size, ⟨⟨.none, he⟩, hit, Nat.succ_ne_self _⟩, fun b hb => ?_, q⟩
      exact I1.fpOk (ends h' hk b hb) (I1.hok.fresh (ends h' hk b hb))
    · obtain ⟨its, rv, p', hz⟩ := I1.tuple hq
      have hal : a < s1.heap.objs.size := by
        obtain ⟨o, ho, _⟩ := p'
        exact Heap.lt_size ho
      refine call_enumB (begins_tuple a its.toArray) p' fun h' he ho hk => wpAny_pyIter_enum he ?_
      have I2 : Inv X pins σ H1 { s1 with heap := h' } := I1.kept (t' := s1.toks) hk
      refine ⟨s1.heap.objs.size + 1, [s1.heap.objs.size + 1, s1.heap.objs.size], _, _, H1, rfl, I2, turn_enumT a (s1.heap.objs.size + 1) s1.heap.objs.size, ⟨⟨⟨.none, he⟩, ⟨_, ho, rfl, rfl⟩⟩, Nat.succ_ne_self _, Nat.ne_of_lt hal, Nat.ne_of_lt (Nat.lt_succ_of_lt hal)⟩, fun b hb => ?_, q⟩
      exact I1.fpOk (ends h' hk b hb) (I1.hok.fresh (ends h' hk b hb))
def enumFrom (i : Nat) : List D → List D
  | [] => []
  | d :: ds => .tup [.int (i : Int), d] :: enumFrom (i + 1) ds
def enum1 (ds : List D) : M (List D) := match ds with
  | [.tup xs] => pure (enumFrom 0 xs)
  | [.lst xs] => pure (enumFrom 0 xs)
  | _ => stuck
def iEnumD (f : DEnv → M (List D)) : DEnv → M (List D) := fun ρ => f ρ >>= enum1
theorem enum_get : ∀ {xs : List D} {k i : Nat}, (enumFrom k xs)[i]? = xs[i]?.map fun d => .tup [.int ((k + i : Nat) : Int), d]
  | [], k, i => by simp [enumFrom]
  | x :: xs, k, 0 => by simp [enumFrom]
  | x :: xs, k, i + 1 => by
    have e : k + 1 + i = k + (i + 1) := by omega
    rw [enumFrom, List.getElem?_cons_succ, List.getElem?_cons_succ, enum_get, e]
theorem enum_len : ∀ {xs : List D} {k : Nat}, (enumFrom k xs).length = xs.length
  | [], _ => rfl
  | x :: xs, k => by rw [enumFrom, List.length_cons, List.length_cons, enum_len]
section
variable {X : Cx} {P : Px} {a : Expr} {fs : DEnv → M (List D)} {pos : Pos}
theorem si_enum {p tpos : Pos} {elts : List Expr} {kk : Nat} (hg : Gl X "enumerate") (hm : X.mg "enumerate" = none) (ha : SA X P [a] fs) (hK : X.K = P.K := by rfl) (hs : starEach [a] X.env = [(false, eval a X.env)] := by rfl) :
    SI X P (.Tuple elts kk tpos) (.Call (.Name "enumerate" p) [a] [] pos) (iEnumD fs) := ⟨fun W tk => pi_imp (pi_enumV hg hm (ha.pa W tk) hs) fun σ H R h => by
  obtain ⟨g, ρ, b, hP, S, w⟩ := h
  refine ⟨g, ρ, b, hP, S, (wpG.bind (R1 := RA g) w).imp fun vs H1 ⟨ds, b1, e1, B1, r1, w1⟩ => ?_⟩
  have S1 := S.mono e1 B1
  subst hP
  rw [hK]
  unfold enum1 at w1
  split at w1
  · rename_i xs
    cases r1 with
    | cons r1 t1 =>
      cases t1
      cases r1 with
      | @tup a1 _ vs1 q1 r1 =>
        have q1 := sqt (K := g.P.K) q1
        refine ⟨a1, rfl, .inr ⟨⟨vs1, q1⟩, w1 _ H1 Ex1.refl B1 fun O' H t m i => ⟨fun d hd => ?_, fun hl => ⟨vs1, sqt_tr S1.mt t q1, by rw [← r1.length, ← enum_len (k := 0)]; exact hl⟩⟩⟩⟩
        rw [enum_get] at hd
        cases hx : xs[i]? with
        | none => rw [hx] at hd; cases hd
        | some x =>
          rw [hx] at hd
          obtain rfl := Option.some.inj hd
          obtain ⟨v, hv, rv⟩ := r1.get hx
          refine ⟨⟨vs1, v, sqt_tr S1.mt t q1, hv⟩, fun z H' yy => ?_⟩
          obtain ⟨T, x', rfl, hT, rfl, f1⟩ := yy
          have e1 := f1 vs1 (sqt_tr S1.mt t q1)
          rw [hv] at e1
          cases e1
          rw [Nat.zero_add]
          exact ⟨new_keep hT, rep_pair m hT (.int _) (rv.tr S1.mt t)⟩
  · rename_i xs
    cases r1 with
    | cons r1 t1 =>
      cases t1
      cases r1 with
      | @lst a1 _ vs1 q1 n1 r1 =>
        refine ⟨a1, rfl, .inl ⟨⟨vs1, .inl (.inl q1)⟩, w1 _ H1 Ex1.refl B1 fun O' H t m i => ⟨fun d hd => ?_, fun hl => ⟨vs1, .inl (.inl (t.keep _ _ n1 q1)), by rw [← r1.length, ← enum_len (k := 0)]; exact hl⟩⟩⟩⟩
        rw [enum_get] at hd
        cases hx : xs[i]? with
        | none => rw [hx] at hd; cases hd
        | some x =>
          rw [hx] at hd
          obtain rfl := Option.some.inj hd
          obtain ⟨v, hv, rv⟩ := r1.get hx
          refine ⟨⟨vs1, v, .inl (.inl (t.keep _ _ n1 q1)), hv⟩, fun z H' yy => ?_⟩
          obtain ⟨T, x', rfl, hT, rfl, f1⟩ := yy
          have e1 := f1 vs1 (.inl (.inl (t.keep _ _ n1 q1)))
          rw [hv] at e1
          cases e1
          rw [Nat.zero_add]
          exact ⟨new_keep hT, rep_pair m hT (.int _) (rv.tr S1.mt t)⟩
  · exact w1.elim⟩
end
end Pu

set_option Elab.async false
set_option linter.all false
set_option maxRecDepth 100000
set_option maxHeartbeats 4000000
/-! The pure layer, part L: chains, fresh lists, x += e, max, min, calls by a table -/
namespace Pu
open PySem L2
section
variable {X : Cx} {P : Px} {e a b c : Expr} {es rest : List Expr} {pos : Pos} {f fa fb fc : DEnv → M D} {t : DEnv → M Bool} {fs gs : DEnv → M (List D)}
/-! ### a < b <= c of ints -/
def eChain (o o' : D → D → M D) (fa fb fc : DEnv → M D) : DEnv → M D := fun ρ => fa ρ >>= fun x => fb ρ >>= fun y => o x y >>= fun z => boolD z >>= fun k => if k = true then fc ρ >>= fun w => o' y w else pure (.bl false)
theorem cmpI_ok {p : Int → Int → Bool} {g : Gh} {W : WX} {σ : St} {H : Hp} {x y : D} {v w : V} {b : Bx} {γ δ : Type} {R : Hp → γ → δ → Prop} {k : Bool → M γ} {Q : δ → Hp → Prop} (r1 : RepT g H x v) (r2 : RepT g H y w)
    (h : wpG g W σ R H ((cmpI p x y >>= fun z => boolD z >>= k) b) Q) : ∃ i j, v = .int i ∧ w = .int j ∧ wpG g W σ R H (k (p i j) b) Q := by
  cases x <;> cases y <;> first | exact h.elim | skip
  exact ⟨_, _, int_rt r1, int_rt r2, h⟩
theorem chain_read {p p' : Int → Int → Bool} {W : WX} {σ : St} {H : Hp} {Q : VK} (h : rE P W (eChain (cmpI p) (cmpI p') fa fb fc) σ H Q) :
    tChain (rI0 fun i j => .bl (p i j)) (rI0 fun i j => .bl (p' i j)) (rE P W fa) (rE P W fb) (rE P W fc) σ H Q := by
  obtain ⟨g, ρ, b, hP, S, w⟩ := h
  refine ⟨g, ρ, b, hP, S, (wpG.bind (R1 := RepT g) w).imp fun x H1 ⟨d, b1, e1, B1, r1, w1⟩ => ?_⟩
  have S1 := S.mono e1 B1
  refine ⟨g, ρ, b1, hP, S1, (wpG.bind (R1 := RepT g) w1).imp fun y H2 ⟨d', b2, e2, B2, r2, w2⟩ => ?_⟩
  have S2 := S1.mono e2 B2
  obtain ⟨i, j, rfl, rfl, w3⟩ := cmpI_ok (r1.mono S1.box.bxl e2) r2 w2
  refine ⟨i, j, rfl, rfl, p i j, rfl, ?_⟩
  cases hk : p i j with
  | false =>
    rw [hk] at w3
    exact iteF (wpG_ok w3 B2 (.rep (.bl _)))
  | true =>
    rw [hk] at w3
    refine iteT ⟨g, ρ, b2, hP, S2, (wpG.bind (R1 := RepT g) w3).imp fun z H3 ⟨d2, b3, e3, B3, r3, w4⟩ => ?_⟩
    have S3 := S2.mono e3 B3
    have w5 : wpG g W σ (RepT g) H3 (((cmpI p' d' d2) >>= fun z => boolD z >>= fun k => pure (D.bl k)) b3) Q := by
      have e0 : ((cmpI p' d' d2) >>= fun z => boolD z >>= fun k => (pure (D.bl k) : M D)) = cmpI p' d' d2 := by
        cases d' <;> cases d2 <;> rfl
      rw [e0]
      exact w4
    obtain ⟨i', j', e1', rfl, w6⟩ := cmpI_ok (r2.mono S2.box.bxl e3) r3 w5
    cases e1'
    exact ⟨j, j', rfl, rfl, wpG_ok w6 B3 (.rep (.bl _))⟩
theorem se_chain {op op' : CmpOp} {p p' : Int → Int → Bool} (ho : OpR X (compareOp op) (rI0 fun i j => .bl (p i j))) (ho' : OpR X (compareOp op') (rI0 fun i j => .bl (p' i j))) (ha : SE X P a fa) (hb : SE X P b fb) (hc : SE X P c fc)
    (hm : lastMarks [op, op'] [b, c] = false := by with_unfolding_all rfl) : SE X P (.Compare a [op, op'] [b, c] pos) (eChain (cmpI p) (cmpI p') fa fb fc) := ⟨fun W tk => pe_imp (pe_chain ho ho' (ha.pe W tk) (hb.pe W tk) (hc.pe W tk) hm) fun σ H Q h => chain_read h⟩
theorem st_chain {op op' : CmpOp} {p p' : Int → Int → Bool} (ho : OpR X (compareOp op) (rI0 fun i j => .bl (p i j))) (ho' : OpR X (compareOp op') (rI0 fun i j => .bl (p' i j))) (ha : SE X P a fa) (hb : SE X P b fb) (hc : SE X P c fc)
    (hm : lastMarks [op, op'] [b, c] = false := by with_unfolding_all rfl) : STt X P (.Compare a [op, op'] [b, c] pos) (tB (eChain (cmpI p) (cmpI p') fa fb fc)) := ⟨fun W tk => pt_imp (pt_chain ho ho' (ha.pe W tk) (hb.pe W tk) (hc.pe W tk) hm) fun σ H Q h => chain_read (rE_bool h)⟩

/-! ### new lists: a + b, xs * n, a or b -/
def catL (x y : D) : M (List D) := match x.lseq with
  | some xs => match y.lseq with
    | some ys => if xs.length + ys.length ≤ 100000 then pure (xs ++ ys) else stuck
    | none => stuck
  | none => stuck
def fCat (fa fb : DEnv → M D) : DEnv → M (List D) := fun ρ => fa ρ >>= fun x => fb ρ >>= fun y => catL x y
theorem sf_cat (ha : SE X P a fa) (hb : SE X P b fb) : SF X P (.BinOp a .Add b pos) (fCat fa fb) := ⟨fun W tk => pe_imp (pe_op op_cat (ha.pe W tk) (hb.pe W tk)) fun σ H Q h => by
  obtain ⟨g, ρ, b, hP, S, w⟩ := h
  refine ⟨g, ρ, b, hP, S, (wpG.bind (R1 := RepT g) w).imp fun x H1 ⟨d, b1, e1, B1, r1, w1⟩ => ?_⟩
  have S1 := S.mono e1 B1
  refine ⟨g, ρ, b1, hP, S1, (wpG.bind (R1 := RepT g) w1).imp fun y H2 ⟨d', b2, e2, B2, r2, w2⟩ => ?_⟩
  have r1' := r1.mono S1.box.bxl e2
  unfold catL at w2
  cases q1 : d.lseq with
  | none => simp only [q1] at w2; exact w2.elim
  | some xs =>
    cases q2 : d'.lseq with
    | none => simp only [q1, q2] at w2; exact w2.elim
    | some ys =>
      simp only [q1, q2] at w2
      obtain ⟨hl, w3⟩ := wp_ite (c := xs.length + ys.length ≤ 100000) (m := pure (xs ++ ys)) w2
      obtain ⟨p1, vs, rfl, h1, s1⟩ := lseq_rep r1' q1
      obtain ⟨p2, us, rfl, h2, s2⟩ := lseq_rep r2 q2
      refine ⟨p1, p2, vs, us, rfl, rfl, h1, h2, szl (by rw [← s1.length, ← s2.length]; exact hl), fun p hp => ?_⟩
      exact w3 (.ref p) _ (Ex1.new hp) (B2.new hp) (rf_new B2 (e1.trans e2) hp (s1.append s2))⟩
def repL (x y : D) : M (List D) := match x.lseq with
  | some xs => match y with
    | .int k => if -(2 ^ 63) ≤ k ∧ k < 2 ^ 63 ∧ xs.length * k.toNat ≤ 100000 then pure (List.replicate k.toNat xs).flatten else stuck
    | _ => stuck
  | none => stuck
def fRep (fa fb : DEnv → M D) : DEnv → M (List D) := fun ρ => fa ρ >>= fun x => fb ρ >>= fun y => repL x y
theorem reps_rep {P : Px} {O : Addr → Prop} {bx : Option Addr} {H : Hp} {ds : List D} {vs : List V} (r : Reps P O bx H ds vs) : ∀ n : Nat, Reps P O bx H (List.replicate n ds).flatten (List.replicate n vs).flatten
  | 0 => .nil
  | n + 1 => by
    rw [List.replicate_succ, List.replicate_succ, List.flatten_cons, List.flatten_cons]
    exact r.append (reps_rep r n)
theorem sf_rep (ha : SE X P a fa) (hb : SE X P b fb) : SF X P (.BinOp a .Mult b pos) (fRep fa fb) := ⟨fun W tk => pe_imp (pe_op op_rep (ha.pe W tk) (hb.pe W tk)) fun σ H Q h => by
  obtain ⟨g, ρ, b, hP, S, w⟩ := h
  refine ⟨g, ρ, b, hP, S, (wpG.bind (R1 := RepT g) w).imp fun x H1 ⟨d, b1, e1, B1, r1, w1⟩ => ?_⟩
  have S1 := S.mono e1 B1
  refine ⟨g, ρ, b1, hP, S1, (wpG.bind (R1 := RepT g) w1).imp fun y H2 ⟨d', b2, e2, B2, r2, w2⟩ => ?_⟩
  have r1' := r1.mono S1.box.bxl e2
  unfold repL at w2
  cases q1 : d.lseq with
  | none => simp only [q1] at w2; exact w2.elim
  | some xs =>
    cases d' with
    | int k =>
      simp only [q1] at w2
      obtain ⟨⟨k1, k2, hl⟩, w3⟩ := wp_ite (c := -(2 ^ 63) ≤ k ∧ k < 2 ^ 63 ∧ xs.length * k.toNat ≤ 100000) (m := pure (List.replicate k.toNat xs).flatten) w2
      obtain ⟨p1, vs, rfl, h1, s1⟩ := lseq_rep r1' q1
      have ey := int_rt r2
      subst ey
      refine ⟨p1, k, vs, rfl, rfl, h1, k1, k2, szl (by rw [← s1.length]; exact hl), fun p hp => ?_⟩
      exact w3 (.ref p) _ (Ex1.new hp) (B2.new hp) (rf_new B2 (e1.trans e2) hp (reps_rep s1 _))
    | _ => simp only [q1] at w2; exact w2.elim⟩
theorem wpG.rel {α β : Type} {g : Gh} {W : WX} {σ : St} {R R' : Hp → α → β → Prop} {H : Hp} {m : Res α} {Q : β → Hp → Prop} (h : wpG g W σ R H m Q) (k : ∀ a v H', R' H' a v → R H' a v) : wpG g W σ R' H m Q := by
  cases m with
  | ok a b => exact fun v H' e B r => h v H' e B (k a v H' r)
  | exc x b => exact h
  | stk => exact h
def fOr (fs gs : DEnv → M (List D)) : DEnv → M (List D) := fun ρ => fs ρ >>= fun ds => if ds.isEmpty = true then gs ρ else pure ds
theorem sf_or (ha : SF X P a fs) (hb : SF X P b gs) (hK : X.K = P.K := by rfl) : SF X P (.BoolOp .Or [a, b] pos) (fOr fs gs) := ⟨fun W tk => pe_imp (pe_orT (ha.pe W tk) (pe_one (hb.pe W tk))) fun σ H Q h => by
  obtain ⟨g, ρ, b, hP, S, w⟩ := h
  refine ⟨g, ρ, b, hP, S, (wpG.bind (R1 := RF g H) w).imp fun x H1 ⟨ds, b1, e1, B1, r1, w1⟩ => ?_⟩
  have S1 := S.mono e1 B1
  obtain ⟨p, vs, rfl, h0, h1, s1⟩ := id r1
  have emp : ds.isEmpty = vs.isEmpty := by cases s1 <;> rfl
  refine ⟨!vs.isEmpty, .inl ⟨vs, .inl (.inl h1), rfl⟩, ?_⟩
  rw [← emp]
  cases hd : ds.isEmpty with
  | false =>
    rw [hd] at w1
    exact iteT (wpG_ok w1 B1 r1)
  | true =>
    rw [hd] at w1
    refine iteF ⟨g, ρ, b1, hP, S1, wpG.rel w1 fun l v H' r => ?_⟩
    obtain ⟨q, us, hv, n0, n1, rr⟩ := r
    exact ⟨q, us, hv, fresh_back S1.box.bxl e1 n0, n1, rr⟩⟩

/-! ### x += e of ints -/
def sAug (i : Nat) (f : DEnv → M D) : DEnv → M Out := fun ρ => gtE ρ i >>= fun d => f ρ >>= fun d' => match d with
  | .int x => match d' with
    | .int y => pure (.nx (ρ.set i (some (.int (x + y)))))
    | _ => stuck
  | _ => stuck
theorem ss_aug (i : Nat) {x : Str} {xp : Pos} (hN : X.N.Nodup) (he : SE X P e f) (hi : X.N[i]? = some x := by rfl) (hx : Loc X.env.scope x := by first | exact .inl rfl | exact .inr rfl) (hf : X.fn x = true ∨ X.env.scope.names.lookup x = some .local := by first | exact .inl rfl | exact .inr rfl) :
    SS X P (.AugAssign (.Name x xp) .Add e pos) (sAug i f) := ⟨fun W tk => ps_imp (ps_aug hN hi hx (he.pe W tk) ip_add hf) fun E σ H h => by
  obtain ⟨g, H0, ρ, b, hP, S, B, w⟩ := h
  have w : wpS g H0 W H ((gtE ρ i >>= fun d => f ρ >>= fun d' => match d with
    | .int x => match d' with
      | .int y => pure (.nx (ρ.set i (some (.int (x + y)))))
      | _ => stuck
    | _ => stuck : M Out) b) E := w
  unfold gtE at w
  cases e0 : ρ[i]? with
  | none => rw [e0] at w; exact w.elim
  | some o =>
    cases o with
    | none => rw [e0] at w; exact w.elim
    | some d =>
      rw [e0] at w
      obtain ⟨v, h1, h2⟩ := S.val i d e0
      refine ⟨v, h1, g, ρ, b, hP, S, (wpS_bind (R1 := RepT g) w B).imp fun y H1 ⟨d', b1, e1, B1, r1, w1⟩ => ?_⟩
      have S1 := S.mono e1 B1
      cases d with
      | int n =>
        cases d' with
        | int m =>
          have ev := int_rt h2
          have ey := int_rt r1
          subst ev ey
          exact ⟨n, m, rfl, rfl, w1 g.O _ H1 (Tr.ex e1 S.bo) (S1.set (.int _) i) (B.at e1)⟩
        | _ => exact w1.elim
      | _ => exact w1.elim⟩

/-! ### max, min -/
def two2 (k : Int → Int → Int) : List D → M D
  | [.int i, .int j] => pure (.int (k i j))
  | _ => stuck
def maxI (i j : Int) : Int := if j > i then j else i
def minI (i j : Int) : Int := if j < i then j else i
abbrev max2D := two2 maxI
abbrev min2D := two2 minI
theorem cs_two {k : Int → Int → Int} : CallS P (fun xs H Q => ∃ i j, xs = [.int i, .int j] ∧ Q (.int (k i j)) H) (two2 k) := fun g W σ H Q vs ds b hP B T r w => by
  unfold two2 at w
  split at w
  · rename_i i j
    obtain ⟨v, u, rfl, r1, r2⟩ := two_rt r
    exact ⟨i, j, by rw [int_rt r1, int_rt r2], wpG_ok w B (.rep (.int _))⟩
  · exact w.elim
theorem se_max2 {x y : Expr} {p : Pos} (hc : X.calm = true) (hg : Gl X "max") (hm : X.mg "max" = none) (ha : SB X P [x, y] fs) (he : starEach [x, y] X.env = (false, eval x X.env) :: starEach [y] X.env := by rfl) (hpl : (backTo pos (starEach [y] X.env)).any (·.1) = false := by rfl) : SE X P (.Call (.Name "max" p) [x, y] [] pos) (eB max2D fs) :=
  se_callB (call_max2 hc) (cs_two (k := maxI)) hg hm (by decide +kernel) ha (by decide) (by decide) he hpl
theorem se_min2 {x y : Expr} {p : Pos} (hc : X.calm = true) (hg : Gl X "min") (hm : X.mg "min" = none) (ha : SB X P [x, y] fs) (he : starEach [x, y] X.env = (false, eval x X.env) :: starEach [y] X.env := by rfl) (hpl : (backTo pos (starEach [y] X.env)).any (·.1) = false := by rfl) : SE X P (.Call (.Name "min" p) [x, y] [] pos) (eB min2D fs) :=
  se_callB (call_min2 hc) (cs_two (k := minI)) hg hm (by decide +kernel) ha (by decide) (by decide) he hpl
theorem maxI_fold : ∀ (ns : List Int) (n : Int), (ns.foldl maxI n ∈ n :: ns) ∧ ∀ y ∈ n :: ns, y ≤ ns.foldl maxI n
  | [], n => by simp
  | m :: ns, n => by
    obtain ⟨h1, h2⟩ := maxI_fold ns (maxI n m)
    have c : maxI n m = n ∨ maxI n m = m := by unfold maxI; split <;> simp
    have g1 : n ≤ maxI n m := by unfold maxI; split <;> omega
    have g2 : m ≤ maxI n m := by unfold maxI; split <;> omega
    have g3 := h2 _ List.mem_cons_self
    refine ⟨?_, fun y hy => ?_⟩
    · rcases List.mem_cons.mp h1 with e | e
      · rw [List.foldl_cons, e]
        rcases c with z | z
        · rw [z]; exact List.mem_cons_self
        · rw [z]; exact List.mem_cons_of_mem _ List.mem_cons_self
      · rw [List.foldl_cons]
        exact List.mem_cons_of_mem _ (List.mem_cons_of_mem _ e)
    · rw [List.foldl_cons]
      rcases List.mem_cons.mp hy with e | hy
      · rw [e]; omega
      rcases List.mem_cons.mp hy with e | hy
      · rw [e]; omega
      · exact h2 y (List.mem_cons_of_mem _ hy)
theorem minI_fold : ∀ (ns : List Int) (n : Int), (ns.foldl minI n ∈ n :: ns) ∧ ∀ y ∈ n :: ns, ns.foldl minI n ≤ y
  | [], n => by simp
  | m :: ns, n => by
    obtain ⟨h1, h2⟩ := minI_fold ns (minI n m)
    have c : minI n m = n ∨ minI n m = m := by unfold minI; split <;> simp
    have g1 : minI n m ≤ n := by unfold minI; split <;> omega
    have g2 : minI n m ≤ m := by unfold minI; split <;> omega
    have g3 := h2 _ List.mem_cons_self
    refine ⟨?_, fun y hy => ?_⟩
    · rcases List.mem_cons.mp h1 with e | e
      · rw [List.foldl_cons, e]
        rcases c with z | z
        · rw [z]; exact List.mem_cons_self
        · rw [z]; exact List.mem_cons_of_mem _ List.mem_cons_self
      · rw [List.foldl_cons]
        exact List.mem_cons_of_mem _ (List.mem_cons_of_mem _ e)
    · rw [List.foldl_cons]
      rcases List.mem_cons.mp hy with e | hy
      · rw [e]; omega
      rcases List.mem_cons.mp hy with e | hy
      · rw [e]; omega
      · exact h2 y (List.mem_cons_of_mem _ hy)
def bestI (k : Int → Int → Int) (ns : List Int) : M D := match ns with
  | [] => stuck
  | n :: ns => pure (.int (ns.foldl k n))
abbrev maxLD := un1 (onInts (bestI maxI))
abbrev minLD := un1 (onInts (bestI minI))
theorem se_maxL {x : Expr} {p : Pos} (hc : X.calm = true) (hg : Gl X "max") (hm : X.mg "max" = none) (ha : SB X P [x] fs) (hK : X.K = P.K := by rfl) (he : starEach [x] X.env = (false, eval x X.env) :: starEach [] X.env := by rfl) : SE X P (.Call (.Name "max" p) [x] [] pos) (eB maxLD fs) :=
  se_callB (r := rMax P.K) (by rw [← hK]; exact cr_max hc) (cs_ints fun g W σ H Q a ns b hP B h w => by
    cases ns with
    | nil => exact w.elim
    | cons n ns => exact ⟨a, _, rfl, h, Nat.succ_pos _, fun m hm hb => by
      obtain ⟨h1, h2⟩ := maxI_fold ns n
      have e : m = ns.foldl maxI n := Int.le_antisymm (h2 m hm) (hb _ h1)
      rw [e]
      exact wpG_ok w B (.rep (.int _))⟩) hg hm (by decide +kernel) ha (by decide) (by decide) he
theorem se_minL {x : Expr} {p : Pos} (hc : X.calm = true) (hg : Gl X "min") (hm : X.mg "min" = none) (ha : SB X P [x] fs) (hK : X.K = P.K := by rfl) (he : starEach [x] X.env = (false, eval x X.env) :: starEach [] X.env := by rfl) : SE X P (.Call (.Name "min" p) [x] [] pos) (eB minLD fs) :=
  se_callB (r := rMin P.K) (by rw [← hK]; exact cr_min hc) (cs_ints fun g W σ H Q a ns b hP B h w => by
    cases ns with
    | nil => exact w.elim
    | cons n ns => exact ⟨a, _, rfl, h, Nat.succ_pos _, fun m hm hb => by
      obtain ⟨h1, h2⟩ := minI_fold ns n
      have e : m = ns.foldl minI n := Int.le_antisymm (hb _ h1) (h2 m hm)
      rw [e]
      exact wpG_ok w B (.rep (.int _))⟩) hg hm (by decide +kernel) ha (by decide) (by decide) he

/-! ### a call of a local name that holds a def -/
def eCallL (i : Nat) (tbl : Nat → Option (List D → M D)) (fs : DEnv → M (List D)) : DEnv → M D := fun ρ => match ρ[i]? with
  | some (some (.fn n)) => match tbl n with
    | some Fn => fs ρ >>= Fn
    | none => stuck
  | _ => stuck
theorem se_callL (i : Nat) {k : Nat} {x : Str} {p : Pos} {tbl : Nat → Option (List D → M D)} (T : ∀ n Fn, tbl n = some Fn → OkF X.prog X.w X.K X.mg X.base P k n Fn) (hr : Room k X.A) (ha : SA X P (e :: es) fs) (hN : X.N[i]? = some x := by rfl) (hv : Vis X.env.scope x := by first | exact Or.inl rfl | exact Or.inr (Or.inl rfl) | exact Or.inr (Or.inr rfl))
    (hdb : (x == ("__debug__" : Str)) = false := by decide) (hcd : (x == ("__classdict__" : Str)) = false := by decide) (he : starEach (e :: es) X.env = (false, eval e X.env) :: starEach es X.env := by rfl) (hpl : (backTo pos (starEach es X.env)).any (·.1) = false := by rfl) :
    SE X P (.Call (.Name x p) (e :: es) [] pos) (eCallL i tbl fs) := ⟨fun W tk => ⟨fun pins s σ H Q I h => by
  obtain ⟨g, ρ, b, hP, S, w⟩ := h
  have w : wpG g W σ (RepT g) H ((match ρ[i]? with
    | some (some (.fn n)) => match tbl n with
      | some Fn => fs ρ >>= Fn
      | none => stuck
    | _ => stuck : M D) b) Q := w
  cases e0 : ρ[i]? with
  | none => rw [e0] at w; exact w.elim
  | some o =>
    cases o with
    | none => rw [e0] at w; exact w.elim
    | some d =>
      rw [e0] at w
      cases d with
      | fn n =>
        have w : wpG g W σ (RepT g) H ((match tbl n with
          | some Fn => fs ρ >>= Fn
          | none => stuck : M D) b) Q := w
        cases et : tbl n with
        | none => rw [et] at w; exact w.elim
        | some Fn =>
          rw [et] at w
          obtain ⟨fd, ps, F, kp, hb⟩ := (T n Fn et).ex
          obtain ⟨v, hvv, rv⟩ := S.val i _ e0
          have ev : v = .ref (P.fa n) := by
            cases rv with
            | rep rv => cases rv; rw [hP]
          subst ev
          have z := call_read (P := P) (Fn := Fn) (fs := fs) (W := W) (σ := σ) (H := H) (Q := Q) ⟨g, ρ, b, hP, S, w⟩
          refine PySem.wpAny_Call_Name_kw (thn ((pe_var (pos := p) hN hv hdb hcd).run pins s σ H (fun v H1 => v = .ref (P.fa n) ∧ H1 = H) I ⟨.ref (P.fa n), hvv, rfl, rfl⟩) fun u s1 ⟨v, H1, I1, r1, q1⟩ => ?_)
          obtain ⟨rfl, rfl⟩ := q1
          cases r1
          refine PySem.W.callWith_K (h₀ := X.base) I.ok.mod.kin kp (thn ((ha.pa W tk).run pos pins s1 σ _ _ I1 z) fun us s2 ⟨vs, H2, I2, r, q⟩ => ⟨I2.kIn, ?_⟩) he hpl
          exact run_fnS F hr hb (passAt tk σ) I2 r q
      | _ => exact w.elim⟩⟩
end
end Pu

set_option Elab.async false
set_option linter.all false
set_option maxRecDepth 100000
set_option maxHeartbeats 4000000
/-! The pure layer, part M: comprehensions with two fors -/
namespace Pu
open PySem L2
/-- the ghosts inside a block that fills the list at p: p is no name's own -/
abbrev Gh.blk (g : Gh) (p : Addr) : Gh := { g with O := fun a => g.O a ∨ a = p, O0 := fun a => g.O0 a ∨ a = p }
section
variable {g : Gh} {ρ : DEnv} {b b' : Bx} {σ : St} {H H' : Hp} {p : Addr} {vs us : List V}
theorem box_up (B : BoxOk g b H) : BoxOk (g.blk p) b H := by
  unfold BoxOk at B ⊢
  cases eb : g.bx with
  | none => rw [eb] at B; exact B
  | some a => rw [eb] at B; exact ⟨⟨.inl B.1.1, .inl B.1.2⟩, B.2⟩
theorem box_down (B0 : BoxOk g b' H') (B : BoxOk (g.blk p) b H) : BoxOk g b H := by
  unfold BoxOk at B B0 ⊢
  cases eb : g.bx with
  | none => rw [eb] at B; exact B
  | some a => rw [eb] at B B0; exact ⟨B0.1, B.2⟩
theorem StE.moreB (S : StE g ρ b σ H) (hp : H p = none) (e : Ex1 g.bx H H') (B : BoxOk g b' H') (hq : H' p = some (.lst vs)) : StE (g.blk p) ρ b' σ H' := by
  have w : ∀ a, (g.O a ∨ a = p) → g.O a ∨ H a = none := fun a h => h.elim .inl fun z => .inr (by rw [z]; exact hp)
  have bl : BxL (fun a => g.O a ∨ a = p) g.bx H := fun a z => ⟨.inl (S.bo a z), (S.box.bxl a z).2⟩
  refine ⟨S.len, fun i d h => ?_, S.sep, box_up B, fun a h => ?_⟩
  · obtain ⟨v, h1, h2⟩ := S.val i d h
    refine ⟨v, h1, ?_⟩
    cases h2 with
    | rep r => exact .rep ((r.own w).mono bl e)
    | @own _ _ a q o n nb r => exact .own (e _ _ nb q) (.inl o) (fun z => z.elim n fun z => by rw [z, hp] at q; cases q) nb ((r.own w).mono bl e)
  · rcases h with h | h
    · exact (S.mono e B).mt a h
    · rw [h, hq]
      trivial
theorem StE.writeB {vs0 : List V} (S : StE (g.blk p) ρ b σ H) (hq : H p = some (.lst vs0)) (nb : g.bx ≠ some p) : StE (g.blk p) ρ b σ (upd H p (.lst us)) := by
  refine ⟨S.len, fun i d h => ?_, S.sep, ?_, fun a h => ?_⟩
  · obtain ⟨v, h1, h2⟩ := S.val i d h
    refine ⟨v, h1, ?_⟩
    cases h2 with
    | rep r => exact .rep (r.write (.inr rfl) hq)
    | @own _ _ a q o n nb2 r => exact .own (by rw [upd_ne (fun z => n (.inr z))]; exact q) o n nb2 (r.write (.inr rfl) hq)
  · have B := S.box
    unfold BoxOk at B ⊢
    cases eb : g.bx with
    | none =>
      have eb' : (g.blk p).bx = none := eb
      rw [eb'] at B; exact B
    | some a =>
      have eb' : (g.blk p).bx = some a := eb
      rw [eb'] at B
      exact ⟨B.1, by rw [upd_ne (fun y => nb (by rw [eb, y]))]; exact B.2⟩
  · by_cases z : a = p
    · rw [z, upd_same]
      trivial
    · rw [upd_ne z]
      exact S.mt a h
end
def compL2 (vs : List Nat) (k : D → DEnv → Option DEnv) (t : DEnv → M Bool) (fs1 : DEnv → M (List D)) (vs1 : List Nat) (k1 : D → DEnv → Option DEnv) (t1 : DEnv → M Bool) (f : DEnv → M D) (ρ : DEnv) : List D → M (List D)
  | [] => pure []
  | d :: ds => match k d (wipeD ρ vs) with
    | some ρ' => noX (t ρ') >>= fun c => if c = true then noX (fs1 ρ') >>= fun ds1 => if ds1.length < 1000 then compL vs1 k1 t1 f ρ' ds1 >>= fun ys => compL2 vs k t fs1 vs1 k1 t1 f ρ ds >>= fun zs => pure (ys ++ zs) else stuck
        else compL2 vs k t fs1 vs1 k1 t1 f ρ ds
    | none => stuck
def fComp2 (it : DEnv → M (List D)) (vs : List Nat) (k : D → DEnv → Option DEnv) (t : DEnv → M Bool) (fs1 : DEnv → M (List D)) (vs1 : List Nat) (k1 : D → DEnv → Option DEnv) (t1 : DEnv → M Bool) (f : DEnv → M D) : DEnv → M (List D) :=
  fun ρ => it ρ >>= fun ds => if ds.length < 100 then compL2 vs k t fs1 vs1 k1 t1 f ρ ds else stuck
section
variable {X : Cx} {P : Px} {e a c tg elt iter tg1 iter1 : Expr} {es ifs ifs1 : List Expr} {pos pos' : Pos} {f : DEnv → M D} {t t1 : DEnv → M Bool} {fs fs1 : DEnv → M (List D)} {u : DEnv → M Out} {k k1 : D → DEnv → Option DEnv}
theorem comp2_read {vs vs1 js js1 : List Nat} (hj : ∀ j ∈ js, j ∈ vs) (hj1 : ∀ j ∈ js1, j ∈ vs1) {W : WX} {σ : St} {H : Hp} {Q : VK} (h : rF P W (fComp2 fs vs k t fs1 vs1 k1 t1 f) σ H Q) :
    tLc2 (rG P W (fun g H ds J => JOk g H ds J) fs) (rP P js k) (rT P W0 t) (rG P W0 (fun g H ds J => JOk g H ds J) fs1) (rP P js1 k1) (rT P W0 t1) (rE P W0 f) vs vs1 σ H Q := by
  obtain ⟨g, ρ, b, hP, S, w⟩ := h
  refine ⟨g, ρ, b, hP, S, (wpG.bind (R1 := fun H ds J => JOk g H ds J) w).imp fun J H1 ⟨ds, b1, e1, B1, jok, w1⟩ => ?_⟩
  obtain ⟨hl, w1⟩ := wp_ite (c := ds.length < 100) (m := compL2 vs k t fs1 vs1 k1 t1 f ρ ds) w1
  intro Dl hD
  have S1 := S.mono e1 B1
  have nb : g.bx ≠ some Dl := fun z => by
    obtain ⟨_, vs, q⟩ := B1.bxl Dl z
    rw [hD] at q; cases q
  have h0 := fresh_back B1.bxl e1 hD
  have bxo : ∀ a, g.bx = some a → g.O a := S1.bo
  refine ⟨fun i m H' => m = ds.length - i ∧ i ≤ ds.length ∧ ∃ b' done us, Ex1 g.bx H1 H' ∧ BoxOk g b' H' ∧ H' Dl = some (.lst us) ∧ Reps g.P (fun a => g.O a ∨ a = Dl) g.bx H' done us ∧ done.length ≤ i * 1000 ∧
    wpG g W σ (RF g H) H1 ((compL2 vs k t fs1 vs1 k1 t1 f ρ (ds.drop i) b').bind fun ys => pure (done ++ ys)) Q,
    ⟨ds.length, rfl, Nat.zero_le _, b1, [], [], Ex1.new hD, B1.new hD, upd_same, .nil, Nat.zero_le _, ?_⟩, ?_⟩
  · have e0 : ((compL2 vs k t fs1 vs1 k1 t1 f ρ (ds.drop 0) b1).bind fun ys => (pure ([] ++ ys) : M (List D))) = compL2 vs k t fs1 vs1 k1 t1 f ρ ds b1 := by
      show Res.bind (compL2 vs k t fs1 vs1 k1 t1 f ρ ds b1) _ = _
      cases compL2 vs k t fs1 vs1 k1 t1 f ρ ds b1 <;> rfl
    rw [e0]
    exact w1
  rintro i m H' ⟨rfl, hi, b', done, us, ex, Bb, hq, rs, hdl, w'⟩
  have S' := S1.moreB hD ex Bb hq
  have t1' : Tr g.O H1 (fun a => g.O a ∨ a = Dl) H' := ⟨fun a o n q => ex a o (fun z => n (S1.bo a z)) q, fun a h => h.elim .inl fun z => .inr (by rw [z]; exact hD)⟩
  obtain ⟨j1, j2⟩ := jok _ H' t1' S'.mt i
  by_cases hlt : i < ds.length
  · have hd : ds[i]? = some ds[i] := List.getElem?_eq_getElem hlt
    have ed : ds.drop i = ds[i] :: ds.drop (i + 1) := List.drop_eq_getElem_cons hlt
    obtain ⟨go, yl⟩ := j1 _ hd
    rw [ed] at w'
    refine .inr ⟨go, fun H5 => ∃ b' done us, Ex1 g.bx H1 H5 ∧ BoxOk g b' H5 ∧ H5 Dl = some (.lst us) ∧ Reps g.P (fun a => g.O a ∨ a = Dl) g.bx H5 done us ∧ done.length ≤ (i + 1) * 1000 ∧
      wpG g W σ (RF g H) H1 ((compL2 vs k t fs1 vs1 k1 t1 f ρ (ds.drop (i + 1)) b').bind fun ys => pure (done ++ ys)) Q, fun H5 n5 => ⟨ds.length - (i + 1), by omega, rfl, hlt, n5⟩, fun x H2 y => ?_⟩
    obtain ⟨keep, rx⟩ := yl x H2 y
    have e2 : Ex1 g.bx H' H2 := fun a o _ q => keep a o q
    have Bb2 : BoxOk g b' H2 := Bb.ex keep
    have S2 := S1.moreB hD (ex.trans e2) Bb2 (keep Dl _ hq)
    have S2w := S2.wipe vs
    have w2 : wpG g W σ (RF g H) H1 (((match k ds[i] (wipeD ρ vs) with
      | some ρ' => noX (t ρ') >>= fun c => if c = true then noX (fs1 ρ') >>= fun ds1 => if ds1.length < 1000 then compL vs1 k1 t1 f ρ' ds1 >>= fun ys => compL2 vs k t fs1 vs1 k1 t1 f ρ (ds.drop (i + 1)) >>= fun zs => pure (ys ++ zs) else stuck
          else compL2 vs k t fs1 vs1 k1 t1 f ρ (ds.drop (i + 1))
      | none => stuck : M (List D)) b').bind fun ys => pure (done ++ ys)) Q := w'
    cases ek : k ds[i] (wipeD ρ vs) with
    | none => simp only [ek] at w2; exact w2.elim
    | some ρ' =>
      simp only [ek] at w2
      refine ⟨g.blk Dl, _, b', _, hP, S2w, rx, ρ', ek, fun σ' S3 ag => ⟨wipe_agr ag hj, g.blk Dl, ρ', b', hP, S3, ?_⟩⟩
      -- what follows a value of the block
      have step : ∀ {α β γ : Type} {R1 : Hp → α → β → Prop} {m : M α} {l : α → M γ} {q : γ → M (List D)} {bb : Bx} {H3 : Hp} {σ' : St}, wpG g W σ (RF g H) H1 (((noX m >>= l) bb).bind q) Q →
          wpG (g.blk Dl) (fun _ _ _ _ => False) σ' R1 H3 (m bb) fun v H4 => ∃ a b, Ex1 g.bx H3 H4 ∧ BoxOk g b H4 ∧ R1 H4 a v ∧ wpG g W σ (RF g H) H1 ((l a b).bind q) Q := fun {α β γ R1 m l q bb H3 σ'} h => by
        have h' : wpG g W σ (RF g H) H1 (((noX m bb).bind l).bind q) Q := h
        unfold noX at h'
        match m bb, h' with
        | .ok a b, h' => exact fun v H' e B r => ⟨a, b, e, box_down Bb B, r, h'⟩
        | .exc x b, h' => exact h'.elim
        | .stk, h' => exact h'.elim
      refine (step (R1 := fun _ a v => v = a) w2).imp fun c H3 ⟨c', b3, e3, B3, r3, w4⟩ => ?_
      subst r3
      have hq3 : H3 Dl = some (.lst us) := e3 Dl _ nb (keep Dl _ hq)
      have rs3 := (rs.mono (H' := H2) (fun a z => ⟨.inl (S1.bo a z), (Bb.bxl a z).2⟩) e2).mono (fun a z => ⟨.inl (S1.bo a z), (Bb2.bxl a z).2⟩) e3
      cases c with
      | false => exact iteF ⟨b3, done, us, (ex.trans e2).trans e3, B3, hq3, rs3, by omega, w4⟩
      | true =>
        have S4 := S3.mono (g := g.blk Dl) e3 (box_up B3)
        refine iteT ⟨g.blk Dl, ρ', b3, hP, S4, (step (R1 := fun H ds J => JOk (g.blk Dl) H ds J) w4).imp fun J1 H4 ⟨ds1, b4, e4, B4, jok1, w5⟩ => ?_⟩
        have w5 : wpG g W σ (RF g H) H1 (((if ds1.length < 1000 then compL vs1 k1 t1 f ρ' ds1 >>= fun ys => compL2 vs k t fs1 vs1 k1 t1 f ρ (ds.drop (i + 1)) >>= fun zs => pure (ys ++ zs) else stuck : M (List D)) b4).bind fun ys => pure (done ++ ys)) Q := w5
        have hl1 : ds1.length < 1000 := by
          by_cases z : ds1.length < 1000
          · exact z
          · rw [if_neg z] at w5
            exact w5.elim
        rw [if_pos hl1] at w5
        have hq4 : H4 Dl = some (.lst us) := e4 Dl _ nb hq3
        have rs4 := rs3.mono (fun a z => ⟨.inl (S1.bo a z), (B3.bxl a z).2⟩) e4
        have S5 := S4.mono (g := g.blk Dl) e4 (box_up B4)
        have ex4 : Ex1 g.bx H1 H4 := (ex.trans e2).trans (e3.trans e4)
        refine ⟨fun j m H5 => m = ds1.length - j ∧ j ≤ ds1.length ∧ ∃ b' done us, Ex1 g.bx H1 H5 ∧ StE (g.blk Dl) ρ' b' σ' H5 ∧ Tr (g.blk Dl).O H4 (g.blk Dl).O H5 ∧ BoxOk g b' H5 ∧ H5 Dl = some (.lst us) ∧ Reps g.P (fun a => g.O a ∨ a = Dl) g.bx H5 done us ∧ done.length ≤ i * 1000 + j ∧
          wpG g W σ (RF g H) H1 ((compL vs1 k1 t1 f ρ' (ds1.drop j) b').bind fun ys => compL2 vs k t fs1 vs1 k1 t1 f ρ (ds.drop (i + 1)) >>= fun zs => pure (done ++ (ys ++ zs))) Q,
          ⟨ds1.length, rfl, Nat.zero_le _, b4, done, us, ex4, S5, Tr.refl, B4, hq4, rs4, by omega, ?_⟩, ?_⟩
        · have e0 : ((compL vs1 k1 t1 f ρ' (ds1.drop 0) b4).bind fun ys => (compL2 vs k t fs1 vs1 k1 t1 f ρ (ds.drop (i + 1)) >>= fun zs => (pure (done ++ (ys ++ zs)) : M (List D))))
              = Res.bind ((compL vs1 k1 t1 f ρ' ds1 >>= fun ys => compL2 vs k t fs1 vs1 k1 t1 f ρ (ds.drop (i + 1)) >>= fun zs => (pure (ys ++ zs) : M (List D))) b4) fun ys => pure (done ++ ys) := by
            show Res.bind (compL vs1 k1 t1 f ρ' ds1 b4) _ = Res.bind (Res.bind (compL vs1 k1 t1 f ρ' ds1 b4) _) _
            cases compL vs1 k1 t1 f ρ' ds1 b4 with
            | ok ys b =>
              show Res.bind (compL2 vs k t fs1 vs1 k1 t1 f ρ (ds.drop (i + 1)) b) _ = Res.bind (Res.bind (compL2 vs k t fs1 vs1 k1 t1 f ρ (ds.drop (i + 1)) b) _) _
              cases compL2 vs k t fs1 vs1 k1 t1 f ρ (ds.drop (i + 1)) b <;> rfl
            | exc x b => rfl
            | stk => rfl
          rw [e0]
          exact w5
        rintro j m H5 ⟨rfl, hj5, b5, done5, us5, ex5, S6, t5, B5, hq5, rs5, hdl5, w6⟩
        obtain ⟨j3, j4⟩ := jok1 _ H5 t5 S6.mt j
        by_cases hlt1 : j < ds1.length
        · have hd1 : ds1[j]? = some ds1[j] := List.getElem?_eq_getElem hlt1
          have ed1 : ds1.drop j = ds1[j] :: ds1.drop (j + 1) := List.drop_eq_getElem_cons hlt1
          obtain ⟨go1, yl1⟩ := j3 _ hd1
          rw [ed1] at w6
          refine .inr ⟨go1, fun H5 => ∃ b' done us, Ex1 g.bx H1 H5 ∧ StE (g.blk Dl) ρ' b' σ' H5 ∧ Tr (g.blk Dl).O H4 (g.blk Dl).O H5 ∧ BoxOk g b' H5 ∧ H5 Dl = some (.lst us) ∧ Reps g.P (fun a => g.O a ∨ a = Dl) g.bx H5 done us ∧ done.length ≤ i * 1000 + (j + 1) ∧
            wpG g W σ (RF g H) H1 ((compL vs1 k1 t1 f ρ' (ds1.drop (j + 1)) b').bind fun ys => compL2 vs k t fs1 vs1 k1 t1 f ρ (ds.drop (i + 1)) >>= fun zs => pure (done ++ (ys ++ zs))) Q, fun H6 n6 => ⟨ds1.length - (j + 1), by omega, rfl, hlt1, n6⟩, fun x1 H6 y1 => ?_⟩
          obtain ⟨keep1, rx1⟩ := yl1 x1 H6 y1
          have e6 : Ex1 g.bx H5 H6 := fun a o _ q => keep1 a o q
          have B6 : BoxOk g b5 H6 := B5.ex keep1
          have S7 := S6.mono (g := g.blk Dl) e6 (box_up B6)
          have w7 : wpG g W σ (RF g H) H1 (((match k1 ds1[j] (wipeD ρ' vs1) with
            | some ρ2 => noX (t1 ρ2) >>= fun c => if c = true then noX (f ρ2) >>= fun y => chk y >>= fun y => compL vs1 k1 t1 f ρ' (ds1.drop (j + 1)) >>= fun ys => pure (y :: ys)
                else compL vs1 k1 t1 f ρ' (ds1.drop (j + 1))
            | none => stuck : M (List D)) b5).bind fun ys => compL2 vs k t fs1 vs1 k1 t1 f ρ (ds.drop (i + 1)) >>= fun zs => pure (done5 ++ (ys ++ zs))) Q := w6
          cases ek1 : k1 ds1[j] (wipeD ρ' vs1) with
          | none => simp only [ek1] at w7; exact w7.elim
          | some ρ2 =>
            simp only [ek1] at w7
            refine ⟨g.blk Dl, _, b5, _, hP, S7.wipe vs1, rx1, ρ2, ek1, fun σ3 S8 ag1 => ⟨wipe_agr ag1 hj1, g.blk Dl, ρ2, b5, hP, S8, (step (R1 := fun _ a v => v = a) w7).imp fun c7 H7 ⟨c7', b7, e7, B7, r7, w8⟩ => ?_⟩⟩
            subst r7
            have hq7 : H7 Dl = some (.lst us5) := e7 Dl _ nb (keep1 Dl _ hq5)
            have rs7 := (rs5.mono (H' := H6) (fun a z => ⟨.inl (S1.bo a z), (B5.bxl a z).2⟩) e6).mono (fun a z => ⟨.inl (S1.bo a z), (B6.bxl a z).2⟩) e7
            have S9 := S7.mono (g := g.blk Dl) e7 (box_up B7)
            have t7 : Tr (g.blk Dl).O H4 (g.blk Dl).O H7 := t5.trans ((Tr.ex (O := (g.blk Dl).O) e6 fun a z => .inl (bxo a z)).trans (Tr.ex (O := (g.blk Dl).O) e7 fun a z => .inl (bxo a z)))
            cases c7 with
            | false => exact iteF ⟨b7, done5, us5, (ex5.trans e6).trans e7, S9, t7, B7, hq7, rs7, by omega, w8⟩
            | true =>
              refine iteT ⟨g.blk Dl, ρ2, b7, hP, S8.mono (g := g.blk Dl) e7 (box_up B7), (step (R1 := RepT (g.blk Dl)) w8).imp fun yv H8 ⟨yd, b8, e8, B8, r8, w9⟩ => ?_⟩
              have hq8 : H8 Dl = some (.lst us5) := e8 Dl _ nb hq7
              have rs8 := rs7.mono (fun a z => ⟨.inl (S1.bo a z), (B7.bxl a z).2⟩) e8
              have lenU : us5.length < 100000 := by
                have := rs8.length
                omega
              have rd : Rep g.P (fun a => g.O a ∨ a = Dl) g.bx H8 yd yv ∧ wpG g W σ (RF g H) H1 (((compL vs1 k1 t1 f ρ' (ds1.drop (j + 1)) >>= fun ys => pure (yd :: ys)) b8).bind fun ys => compL2 vs k t fs1 vs1 k1 t1 f ρ (ds.drop (i + 1)) >>= fun zs => pure (done5 ++ (ys ++ zs))) Q := by
                cases r8 with
                | own => exact w9.elim
                | rep r8 =>
                  refine ⟨r8, ?_⟩
                  cases r8 <;> exact w9
              obtain ⟨rd, w10⟩ := rd
              have S10 := (S9.mono (g := g.blk Dl) e8 (box_up B8)).writeB (us := us5 ++ [yv]) hq8 nb
              have tw : Tr (g.blk Dl).O H8 (g.blk Dl).O (upd H8 Dl (.lst (us5 ++ [yv]))) := ⟨fun a o n q => by rw [upd_ne (fun z => n (.inr z))]; exact q, fun _ h => .inl h⟩
              refine ⟨us5, hq8, szlt lenU, b8, done5 ++ [yd], us5 ++ [yv], (((ex5.trans e6).trans e7).trans e8).write hD, S10, (t7.trans (Tr.ex (O := (g.blk Dl).O) e8 fun a z => .inl (bxo a z))).trans tw, ?_, upd_same, (rs8.write (.inr rfl) hq8).append (.cons (rd.write (.inr rfl) hq8) .nil), by rw [List.length_append, List.length_singleton]; omega, ?_⟩
              · exact box_down B8 S10.box
              · have em : ((compL vs1 k1 t1 f ρ' (ds1.drop (j + 1)) b8).bind fun ys => compL2 vs k t fs1 vs1 k1 t1 f ρ (ds.drop (i + 1)) >>= fun zs => (pure (done5 ++ [yd] ++ (ys ++ zs)) : M (List D)))
                    = (((compL vs1 k1 t1 f ρ' (ds1.drop (j + 1)) >>= fun ys => pure (yd :: ys)) b8).bind fun ys => compL2 vs k t fs1 vs1 k1 t1 f ρ (ds.drop (i + 1)) >>= fun zs => pure (done5 ++ (ys ++ zs))) := by
                  show _ = Res.bind (Res.bind (compL vs1 k1 t1 f ρ' (ds1.drop (j + 1)) b8) _) _
                  cases compL vs1 k1 t1 f ρ' (ds1.drop (j + 1)) b8 with
                  | ok ys b =>
                    show Res.bind (compL2 vs k t fs1 vs1 k1 t1 f ρ (ds.drop (i + 1)) b) _ = Res.bind (compL2 vs k t fs1 vs1 k1 t1 f ρ (ds.drop (i + 1)) b) _
                    cases compL2 vs k t fs1 vs1 k1 t1 f ρ (ds.drop (i + 1)) b with
                    | ok zs b => show Res.ok (done5 ++ [yd] ++ (ys ++ zs)) b = Res.ok (done5 ++ (yd :: ys ++ zs)) b; rw [List.append_assoc]; rfl
                    | exc x b => rfl
                    | stk => rfl
                  | exc x b => rfl
                  | stk => rfl
                rw [em]
                exact w10
        · have e : j = ds1.length := by omega
          subst e
          rw [List.drop_length] at w6
          refine .inl ⟨j4 (Nat.le_refl _), b5, done5, us5, ex5, B5, hq5, rs5, by omega, ?_⟩
          exact w6
  · have e : i = ds.length := by omega
    subst e
    rw [List.drop_length] at w'
    have w' : wpG g W σ (RF g H) H1 ((pure (done ++ []) : M (List D)) b') Q := w'
    rw [List.append_nil] at w'
    have rs' : Reps g.P (fun a => g.O a ∨ a = Dl) g.bx H' done us := rs
    exact .inl ⟨j2 (Nat.le_refl _), w' _ H' ex Bb ⟨Dl, us, rfl, h0, hq, rs'⟩⟩
theorem sf_comp2 {scope : Scope} {own : List (Str × Nat)} {js js1 vs1 : List Nat} (hc : X.calm = true) (hN : X.N.Nodup) (hi : SI X P tg iter fs) (ok : BlkOk X.N X.env.scope scope own) (hv : ∀ j ∈ vs1, j ∈ own.map (·.2)) (hj : ∀ j ∈ js, j ∈ own.map (·.2)) (hj1 : ∀ j ∈ js1, j ∈ vs1)
    (hg : ∀ (s : Shared) (H : Hp) (C : Addr) (cl : List (Str × Addr)) (fp : List Addr), SG (X.blk s H scope (compEnvC scope cl C X.env) fp) P tg js k)
    (ht : ∀ (s : Shared) (H : Hp) (C : Addr) (cl : List (Str × Addr)) (fp : List Addr), STs (X.blk s H scope (compEnvC scope cl C X.env) fp) P ifs t)
    (hi1 : ∀ (s : Shared) (H : Hp) (C : Addr) (cl : List (Str × Addr)) (fp : List Addr), SI (X.blk s H scope (compEnvC scope cl C X.env) fp) P tg1 iter1 fs1)
    (hg1 : ∀ (s : Shared) (H : Hp) (C : Addr) (cl : List (Str × Addr)) (fp : List Addr), SG (X.blk s H scope (compEnvC scope cl C X.env) fp) P tg1 js1 k1)
    (ht1 : ∀ (s : Shared) (H : Hp) (C : Addr) (cl : List (Str × Addr)) (fp : List Addr), STs (X.blk s H scope (compEnvC scope cl C X.env) fp) P ifs1 t1)
    (he : ∀ (s : Shared) (H : Hp) (C : Addr) (cl : List (Str × Addr)) (fp : List Addr), SE (X.blk s H scope (compEnvC scope cl C X.env) fp) P elt f) (hs : ∀ x, foldedSetIterable iter X.env x = pure x := by intro _; rfl) (hs1 : ∀ env x, foldedSetIterable iter1 env x = pure x := by intro _ _; rfl) :
    SF X P (.ListComp elt [⟨tg, iter, ifs, 0⟩, ⟨tg1, iter1, ifs1, 0⟩] scope pos) (fComp2 fs (own.map (·.2)) k t fs1 vs1 k1 t1 f) := ⟨fun W tk =>
  pe_imp (pe_lc2 (vs1 := vs1) hc hN (hi.pi W tk) ok hv (fun s H C cl fp => (hg s H C cl fp).pg) (fun s H C cl fp => (ht s H C cl fp).pt _ takes0) (fun s H C cl fp => (hi1 s H C cl fp).pi _ takes0) (fun s H C cl fp => (hg1 s H C cl fp).pg) (fun s H C cl fp => (ht1 s H C cl fp).pt _ takes0) (fun s H C cl fp => (he s H C cl fp).pe _ takes0) hs hs1) fun σ H Q h => comp2_read hj hj1 h⟩
theorem setC2 (i : Nat) {y : Str} {py spos : Pos} {scope : Scope} {own : List (Str × Nat)} {js js1 vs1 : List Nat} {v : DEnv → M Out} (hv0 : ∀ {W : WX} {E : Ends} {σ : St} {H : Hp}, rS P W v E σ H → rF P W (fComp2 fs (own.map (·.2)) k t fs1 vs1 k1 t1 f) σ H fun v H1 => E.nx (σ.set i (some v)) H1)
    (hc : X.calm = true) (hN : X.N.Nodup) (hi : SI X P tg iter fs) (ok : BlkOk X.N X.env.scope scope own) (hv : ∀ j ∈ vs1, j ∈ own.map (·.2)) (hj : ∀ j ∈ js, j ∈ own.map (·.2)) (hj1 : ∀ j ∈ js1, j ∈ vs1)
    (hg : ∀ (s : Shared) (H : Hp) (C : Addr) (cl : List (Str × Addr)) (fp : List Addr), SG (X.blk s H scope (compEnvC scope cl C X.env) fp) P tg js k)
    (ht : ∀ (s : Shared) (H : Hp) (C : Addr) (cl : List (Str × Addr)) (fp : List Addr), STs (X.blk s H scope (compEnvC scope cl C X.env) fp) P ifs t)
    (hi1 : ∀ (s : Shared) (H : Hp) (C : Addr) (cl : List (Str × Addr)) (fp : List Addr), SI (X.blk s H scope (compEnvC scope cl C X.env) fp) P tg1 iter1 fs1)
    (hg1 : ∀ (s : Shared) (H : Hp) (C : Addr) (cl : List (Str × Addr)) (fp : List Addr), SG (X.blk s H scope (compEnvC scope cl C X.env) fp) P tg1 js1 k1)
    (ht1 : ∀ (s : Shared) (H : Hp) (C : Addr) (cl : List (Str × Addr)) (fp : List Addr), STs (X.blk s H scope (compEnvC scope cl C X.env) fp) P ifs1 t1)
    (he : ∀ (s : Shared) (H : Hp) (C : Addr) (cl : List (Str × Addr)) (fp : List Addr), SE (X.blk s H scope (compEnvC scope cl C X.env) fp) P elt f) (hy : X.N[i]? = some y) (hyl : X.env.scope.names.lookup y = some .local)
    (hsw : swapsWith (.ListComp elt [⟨tg, iter, ifs, 0⟩, ⟨tg1, iter1, ifs1, 0⟩] scope pos) (some (.Name y py)) spos.line X.env = pure true) (hs : ∀ x, foldedSetIterable iter X.env x = pure x) (hs1 : ∀ env x, foldedSetIterable iter1 env x = pure x) :
    SS X P (.Assign [.Name y py] (.ListComp elt [⟨tg, iter, ifs, 0⟩, ⟨tg1, iter1, ifs1, 0⟩] scope pos) spos) v := ⟨fun W tk =>
  ps_imp (ps_setLc2 (vs1 := vs1) hc hN hy hyl hsw (hi.pi W tk) ok hv (fun s H C cl fp => (hg s H C cl fp).pg) (fun s H C cl fp => (ht s H C cl fp).pt _ takes0) (fun s H C cl fp => (hi1 s H C cl fp).pi _ takes0) (fun s H C cl fp => (hg1 s H C cl fp).pg) (fun s H C cl fp => (ht1 s H C cl fp).pt _ takes0) (fun s H C cl fp => (he s H C cl fp).pe _ takes0) hs hs1) fun E σ H h => comp2_read hj hj1 (hv0 h)⟩
theorem ss_setC2 (i : Nat) {y : Str} {py spos : Pos} {scope : Scope} {own : List (Str × Nat)} {js js1 vs1 : List Nat} (hc : X.calm = true) (hN : X.N.Nodup) (hi : SI X P tg iter fs) (ok : BlkOk X.N X.env.scope scope own) (hv : ∀ j ∈ vs1, j ∈ own.map (·.2)) (hj : ∀ j ∈ js, j ∈ own.map (·.2)) (hj1 : ∀ j ∈ js1, j ∈ vs1)
    (hg : ∀ (s : Shared) (H : Hp) (C : Addr) (cl : List (Str × Addr)) (fp : List Addr), SG (X.blk s H scope (compEnvC scope cl C X.env) fp) P tg js k)
    (ht : ∀ (s : Shared) (H : Hp) (C : Addr) (cl : List (Str × Addr)) (fp : List Addr), STs (X.blk s H scope (compEnvC scope cl C X.env) fp) P ifs t)
    (hi1 : ∀ (s : Shared) (H : Hp) (C : Addr) (cl : List (Str × Addr)) (fp : List Addr), SI (X.blk s H scope (compEnvC scope cl C X.env) fp) P tg1 iter1 fs1)
    (hg1 : ∀ (s : Shared) (H : Hp) (C : Addr) (cl : List (Str × Addr)) (fp : List Addr), SG (X.blk s H scope (compEnvC scope cl C X.env) fp) P tg1 js1 k1)
    (ht1 : ∀ (s : Shared) (H : Hp) (C : Addr) (cl : List (Str × Addr)) (fp : List Addr), STs (X.blk s H scope (compEnvC scope cl C X.env) fp) P ifs1 t1)
    (he : ∀ (s : Shared) (H : Hp) (C : Addr) (cl : List (Str × Addr)) (fp : List Addr), SE (X.blk s H scope (compEnvC scope cl C X.env) fp) P elt f) (hy : X.N[i]? = some y := by rfl) (hyl : X.env.scope.names.lookup y = some .local := by rfl)
    (hsw : swapsWith (.ListComp elt [⟨tg, iter, ifs, 0⟩, ⟨tg1, iter1, ifs1, 0⟩] scope pos) (some (.Name y py)) spos.line X.env = pure true := by exact sw_true rfl rfl rfl (by decide +kernel)) (hs : ∀ x, foldedSetIterable iter X.env x = pure x := by intro _; rfl) (hs1 : ∀ env x, foldedSetIterable iter1 env x = pure x := by intro _ _; rfl) :
    SS X P (.Assign [.Name y py] (.ListComp elt [⟨tg, iter, ifs, 0⟩, ⟨tg1, iter1, ifs1, 0⟩] scope pos) spos) (sSet i (eF (fComp2 fs (own.map (·.2)) k t fs1 vs1 k1 t1 f))) :=
  setC2 i (fun h => f_read (set_read h)) hc hN hi ok hv hj hj1 hg ht hi1 hg1 ht1 he hy hyl hsw hs hs1
theorem ss_ownC2 (i : Nat) {y : Str} {py spos : Pos} {scope : Scope} {own : List (Str × Nat)} {js js1 vs1 : List Nat} (hc : X.calm = true) (hN : X.N.Nodup) (hi : SI X P tg iter fs) (ok : BlkOk X.N X.env.scope scope own) (hv : ∀ j ∈ vs1, j ∈ own.map (·.2)) (hj : ∀ j ∈ js, j ∈ own.map (·.2)) (hj1 : ∀ j ∈ js1, j ∈ vs1)
    (hg : ∀ (s : Shared) (H : Hp) (C : Addr) (cl : List (Str × Addr)) (fp : List Addr), SG (X.blk s H scope (compEnvC scope cl C X.env) fp) P tg js k)
    (ht : ∀ (s : Shared) (H : Hp) (C : Addr) (cl : List (Str × Addr)) (fp : List Addr), STs (X.blk s H scope (compEnvC scope cl C X.env) fp) P ifs t)
    (hi1 : ∀ (s : Shared) (H : Hp) (C : Addr) (cl : List (Str × Addr)) (fp : List Addr), SI (X.blk s H scope (compEnvC scope cl C X.env) fp) P tg1 iter1 fs1)
    (hg1 : ∀ (s : Shared) (H : Hp) (C : Addr) (cl : List (Str × Addr)) (fp : List Addr), SG (X.blk s H scope (compEnvC scope cl C X.env) fp) P tg1 js1 k1)
    (ht1 : ∀ (s : Shared) (H : Hp) (C : Addr) (cl : List (Str × Addr)) (fp : List Addr), STs (X.blk s H scope (compEnvC scope cl C X.env) fp) P ifs1 t1)
    (he : ∀ (s : Shared) (H : Hp) (C : Addr) (cl : List (Str × Addr)) (fp : List Addr), SE (X.blk s H scope (compEnvC scope cl C X.env) fp) P elt f) (hy : X.N[i]? = some y := by rfl) (hyl : X.env.scope.names.lookup y = some .local := by rfl)
    (hsw : swapsWith (.ListComp elt [⟨tg, iter, ifs, 0⟩, ⟨tg1, iter1, ifs1, 0⟩] scope pos) (some (.Name y py)) spos.line X.env = pure true := by exact sw_true rfl rfl rfl (by decide +kernel)) (hs : ∀ x, foldedSetIterable iter X.env x = pure x := by intro _; rfl) (hs1 : ∀ env x, foldedSetIterable iter1 env x = pure x := by intro _ _; rfl) :
    SS X P (.Assign [.Name y py] (.ListComp elt [⟨tg, iter, ifs, 0⟩, ⟨tg1, iter1, ifs1, 0⟩] scope pos) spos) (sOwn i (fComp2 fs (own.map (·.2)) k t fs1 vs1 k1 t1 f)) :=
  setC2 i (fun h => own_read h) hc hN hi ok hv hj hj1 hg ht hi1 hg1 ht1 he hy hyl hsw hs hs1
end
end Pu

set_option Elab.async false
set_option linter.all false
set_option maxRecDepth 100000
set_option maxHeartbeats 4000000
/-! The pure layer, part N: x, y = a, b with new lists -/
namespace Pu
open PySem L2
theorem StE.setOwn2 {g : Gh} {ρ : DEnv} {b : Bx} {σ : St} {H : Hp} {p : Addr} {ds : List D} {vs : List V} (S : StE g ρ b σ H) (h0 : ∀ (j : Nat) (es : List D), ρ[j]? = some (some (.own es)) → σ[j]? ≠ some (some (.ref p))) (np : g.bx ≠ some p) (n0 : ¬ g.O0 p) (o : g.O p)
    (hp : H p = some (.lst vs)) (r : Reps g.P g.O g.bx H ds vs) (i : Nat) : StE g (ρ.set i (some (.own ds))) b (σ.set i (some (.ref p))) H := by
  have e : (fun a => g.O a ∨ a = p) = g.O := funext fun a => propext ⟨fun h => h.elim id fun z => by rw [z]; exact o, .inl⟩
  have z := S.setOwn (p := p) (ds := ds) (vs := vs) h0 np n0 (by rw [e]; exact fun _ _ _ _ _ h => h) (by rw [e]; exact S.box) hp (by rw [e]; exact r) i
  rw [e] at z
  exact z
/-- a new list that stands by -/
structure Held0 (g : Gh) (ρ : DEnv) (σ : St) (H : Hp) (p : Addr) (ds : List D) (vs : List V) : Prop where
  no : ∀ (j : Nat) (es : List D), ρ[j]? = some (some (.own es)) → σ[j]? ≠ some (some (.ref p))
  np : g.bx ≠ some p
  n0 : ¬ g.O0 p
  o : g.O p
  hp : H p = some (.lst vs)
  r : Reps g.P g.O g.bx H ds vs
section
variable {g : Gh} {ρ : DEnv} {b b1 : Bx} {σ : St} {H0 H H1 : Hp} {p : Addr} {ds : List D} {vs : List V}
/-- the new list at p is the call's own from now on -/
theorem take_own (S : StE g ρ b σ H) (B : Base g H0 H) (e1 : Ex1 g.bx H H1) (B1 : BoxOk g b1 H1) (h0 : H p = none) (hp : H1 p = some (.lst vs)) (r : Reps g.P (fun a => g.O a ∨ a = p) g.bx H1 ds vs) :
    Tr g.O H (fun a => g.O a ∨ a = p) H1 ∧ StE (g.at fun a => g.O a ∨ a = p) ρ b1 σ H1 ∧ Base (g.at fun a => g.O a ∨ a = p) H0 H1 ∧ Held0 (g.at fun a => g.O a ∨ a = p) ρ σ H1 p ds vs := by
  have B1' := B.at e1
  have wd : ∀ a, (g.O a ∨ a = p) → g.O a ∨ H a = none := fun a h => h.elim .inl fun z => .inr (by rw [z]; exact h0)
  refine ⟨⟨fun a o n q => e1 a o (fun z => n (S.bo a z)) q, wd⟩, S.more h0 e1 B1 hp, ⟨fun a h => .inl (B1'.sub a h), fun a h => ?_, B1'.ex, B1'.trk⟩, ?_, ?_, ?_, .inr rfl, hp, r⟩
  · rcases h with h | h
    · exact B1'.new a h
    · rw [h]
      exact .inr (fresh_back S.box.bxl B.ex h0)
  · intro j es h1 h2
    obtain ⟨v, h3, h4⟩ := S.val j _ h1
    rw [h2] at h3
    cases h3
    cases h4 with
    | own q => rw [h0] at q; cases q
    | rep q => cases q
  · intro z
    obtain ⟨_, vs, q⟩ := S.box.bxl p z
    rw [h0] at q; cases q
  · exact fun z => S.trk p (B.sub p z) h0
theorem Held0.mono {H' : Hp} (h : Held0 g ρ σ H p ds vs) (B : BxL g.O g.bx H) (e : Ex1 g.bx H H') : Held0 g ρ σ H' p ds vs := ⟨h.no, h.np, h.n0, h.o, e _ _ h.np h.hp, h.r.mono B e⟩
end
section
variable {X : Cx} {P : Px} {a b : Expr} {pos : Pos} {fa fb : DEnv → M D} {fs gs : DEnv → M (List D)}
def sParFE (i j : Nat) (fs : DEnv → M (List D)) (fb : DEnv → M D) : DEnv → M Out := fun ρ => fs ρ >>= fun ds => fb ρ >>= fun d => chk d >>= fun d => pure (.nx ((ρ.set i (some (.own ds))).set j (some d)))
def sParEF (i j : Nat) (fa : DEnv → M D) (gs : DEnv → M (List D)) : DEnv → M Out := fun ρ => fa ρ >>= fun d => chk d >>= fun d => gs ρ >>= fun ds => pure (.nx ((ρ.set i (some d)).set j (some (.own ds))))
def sParFF (i j : Nat) (fs gs : DEnv → M (List D)) : DEnv → M Out := fun ρ => fs ρ >>= fun ds => gs ρ >>= fun es => pure (.nx ((ρ.set i (some (.own ds))).set j (some (.own es))))
theorem ss_parFE (i j : Nat) {x y : Str} {px py pt : Pos} {kt k2 : Nat} {pt2 : Pos} (hc : X.calm = true) (hN : X.N.Nodup) (ha : SF X P a fs) (hb : SE X P b fb) (hi : X.N[i]? = some x := by rfl) (hj : X.N[j]? = some y := by rfl) (hij : i ≠ j := by decide)
    (hx : X.env.scope.names.lookup x = some .local := by rfl) (hy : X.env.scope.names.lookup y = some .local := by rfl)
    (hw : swappedStores [.Tuple [.Name x px, .Name y py] kt pt] (.Tuple [a, b] k2 pt2) X.env = pure (some [x, y]) := by rfl)
    (hs : swapsWithSole [.Tuple [.Name x px, .Name y py] kt pt] (.Tuple [a, b] k2 pt2) pos.line X.env = pure false := by rfl) (h1 : starEach [a, b] X.env = (false, eval a X.env) :: starEach [b] X.env := by rfl) (h2 : starEach [b] X.env = (false, eval b X.env) :: starEach [] X.env := by rfl) :
    SS X P (.Assign [.Tuple [.Name x px, .Name y py] kt pt] (.Tuple [a, b] k2 pt2) pos) (sParFE i j fs fb) := ⟨fun W tk => ps_imp (ps_par hc hN hi hj hij hx hy (pa_cons (ha.pe W tk) (pa_cons (hb.pe W tk) pa_nil h2) h1) hw hs) fun E σ H h => by
  obtain ⟨g, H0, ρ, b, hP, S, B, w⟩ := h
  refine ⟨g, ρ, b, hP, S, (wpS_bind (R1 := RF g H) w B).imp fun v H1 ⟨ds, b1, e1, B1, r1, w1⟩ => ?_⟩
  obtain ⟨p, vs, rfl, h0, hp, r⟩ := r1
  obtain ⟨t1, S1, Bs1, hd⟩ := take_own S B e1 B1 h0 hp r
  have w2 := wpS.at t1 w1
  refine ⟨g.at fun a => g.O a ∨ a = p, ρ, b1, hP, S1, (wpS_bind (R1 := RepT (g.at fun a => g.O a ∨ a = p)) w2 Bs1).imp fun v2 H2 ⟨d2, b2, e2, B2, r2, w3⟩ => ?_⟩
  obtain ⟨rd, w4⟩ := chk_repS r2 w3
  have S2 := S1.mono e2 B2
  have hd2 := hd.mono S1.box.bxl e2
  have S3 := (S2.setOwn2 hd2.no hd2.np hd2.n0 hd2.o hd2.hp hd2.r i).set rd j
  exact ⟨.ref p, v2, rfl, w4 _ _ H2 (Tr.ex e2 S1.bo) S3 (Bs1.at e2)⟩⟩
theorem ss_parEF (i j : Nat) {x y : Str} {px py pt : Pos} {kt k2 : Nat} {pt2 : Pos} (hc : X.calm = true) (hN : X.N.Nodup) (ha : SE X P a fa) (hb : SF X P b gs) (hi : X.N[i]? = some x := by rfl) (hj : X.N[j]? = some y := by rfl) (hij : i ≠ j := by decide)
    (hx : X.env.scope.names.lookup x = some .local := by rfl) (hy : X.env.scope.names.lookup y = some .local := by rfl)
    (hw : swappedStores [.Tuple [.Name x px, .Name y py] kt pt] (.Tuple [a, b] k2 pt2) X.env = pure (some [x, y]) := by rfl)
    (hs : swapsWithSole [.Tuple [.Name x px, .Name y py] kt pt] (.Tuple [a, b] k2 pt2) pos.line X.env = pure false := by rfl) (h1 : starEach [a, b] X.env = (false, eval a X.env) :: starEach [b] X.env := by rfl) (h2 : starEach [b] X.env = (false, eval b X.env) :: starEach [] X.env := by rfl) :
    SS X P (.Assign [.Tuple [.Name x px, .Name y py] kt pt] (.Tuple [a, b] k2 pt2) pos) (sParEF i j fa gs) := ⟨fun W tk => ps_imp (ps_par hc hN hi hj hij hx hy (pa_cons (ha.pe W tk) (pa_cons (hb.pe W tk) pa_nil h2) h1) hw hs) fun E σ H h => by
  obtain ⟨g, H0, ρ, b, hP, S, B, w⟩ := h
  refine ⟨g, ρ, b, hP, S, (wpS_bind (R1 := RepT g) w B).imp fun v H1 ⟨d, b1, e1, B1, r1, w1⟩ => ?_⟩
  obtain ⟨rd, w2⟩ := chk_repS r1 w1
  have S1 := S.mono e1 B1
  have Bs1 := B.at e1
  have w2 := wpS.at (Tr.ex e1 S.bo) w2
  refine ⟨g, ρ, b1, hP, S1, (wpS_bind (R1 := RF g H1) w2 Bs1).imp fun v2 H2 ⟨ds, b2, e2, B2, r2, w3⟩ => ?_⟩
  obtain ⟨p, vs, rfl, h0, hp, r⟩ := r2
  obtain ⟨t2, S2, Bs2, hd⟩ := take_own S1 Bs1 e2 B2 h0 hp r
  have wd : ∀ a, (g.O a ∨ a = p) → g.O a ∨ H1 a = none := fun a h => h.elim .inl fun z => .inr (by rw [z]; exact h0)
  have rd2 : Rep g.P (fun a => g.O a ∨ a = p) g.bx H2 d v := (rd.own wd).mono (fun a z => ⟨.inl (S1.bo a z), (S1.box.bxl a z).2⟩) e2
  have S3 := S2.set rd2 i
  have nown : ∀ es, d ≠ .own es := fun es e => by rw [e] at rd; cases rd
  have no : ∀ (l : Nat) (es : List D), (ρ.set i (some d))[l]? = some (some (.own es)) → (σ.set i (some v))[l]? ≠ some (some (.ref p)) := fun l es hl => by
    rcases get_set hl with ⟨_, q, _⟩ | ⟨q1, q2⟩
    · exact absurd (Option.some.inj q) (nown es)
    · rw [List.getElem?_set_ne q1]
      exact hd.no l es q2
  have S4 := S3.setOwn2 no hd.np hd.n0 hd.o hd.hp hd.r j
  exact ⟨v, .ref p, rfl, w3 _ _ H2 t2 S4 Bs2⟩⟩
theorem ss_parFF (i j : Nat) {x y : Str} {px py pt : Pos} {kt k2 : Nat} {pt2 : Pos} (hc : X.calm = true) (hN : X.N.Nodup) (ha : SF X P a fs) (hb : SF X P b gs) (hi : X.N[i]? = some x := by rfl) (hj : X.N[j]? = some y := by rfl) (hij : i ≠ j := by decide)
    (hx : X.env.scope.names.lookup x = some .local := by rfl) (hy : X.env.scope.names.lookup y = some .local := by rfl)
    (hw : swappedStores [.Tuple [.Name x px, .Name y py] kt pt] (.Tuple [a, b] k2 pt2) X.env = pure (some [x, y]) := by rfl)
    (hs : swapsWithSole [.Tuple [.Name x px, .Name y py] kt pt] (.Tuple [a, b] k2 pt2) pos.line X.env = pure false := by rfl) (h1 : starEach [a, b] X.env = (false, eval a X.env) :: starEach [b] X.env := by rfl) (h2 : starEach [b] X.env = (false, eval b X.env) :: starEach [] X.env := by rfl) :
    SS X P (.Assign [.Tuple [.Name x px, .Name y py] kt pt] (.Tuple [a, b] k2 pt2) pos) (sParFF i j fs gs) := ⟨fun W tk => ps_imp (ps_par hc hN hi hj hij hx hy (pa_cons (ha.pe W tk) (pa_cons (hb.pe W tk) pa_nil h2) h1) hw hs) fun E σ H h => by
  obtain ⟨g, H0, ρ, b, hP, S, B, w⟩ := h
  refine ⟨g, ρ, b, hP, S, (wpS_bind (R1 := RF g H) w B).imp fun v H1 ⟨ds, b1, e1, B1, r1, w1⟩ => ?_⟩
  obtain ⟨p, vs, rfl, h0, hp, r⟩ := r1
  obtain ⟨t1, S1, Bs1, hd⟩ := take_own S B e1 B1 h0 hp r
  have w2 := wpS.at t1 w1
  refine ⟨g.at fun a => g.O a ∨ a = p, ρ, b1, hP, S1, (wpS_bind (R1 := RF (g.at fun a => g.O a ∨ a = p) H1) w2 Bs1).imp fun v2 H2 ⟨es, b2, e2, B2, r2, w3⟩ => ?_⟩
  obtain ⟨q, us, rfl, k0, hq, rq⟩ := r2
  have hd1 := hd.mono S1.box.bxl e2
  obtain ⟨t2, S2, Bs2, hd2⟩ := take_own S1 Bs1 e2 B2 k0 hq rq
  have npq : p ≠ q := fun z => by rw [← z] at k0; rw [hd.hp] at k0; cases k0
  have wd : ∀ a, ((g.O a ∨ a = p) ∨ a = q) → (g.O a ∨ a = p) ∨ H1 a = none := fun a h => h.elim .inl fun z => .inr (by rw [z]; exact k0)
  have rp : Reps g.P (fun a => (g.O a ∨ a = p) ∨ a = q) g.bx H2 ds vs := (hd.r.own wd).mono (fun a z => ⟨.inl (S1.bo a z), (S1.box.bxl a z).2⟩) e2
  have S3 := S2.setOwn2 (p := p) (ds := ds) (vs := vs) hd.no hd.np hd.n0 (.inl (.inr rfl)) hd1.hp rp i
  have no : ∀ (l : Nat) (es' : List D), (ρ.set i (some (.own ds)))[l]? = some (some (.own es')) → (σ.set i (some (.ref p)))[l]? ≠ some (some (.ref q)) := fun l es' hl => by
    rcases get_set hl with ⟨z, _, k⟩ | ⟨q1, q2⟩
    · subst z
      rw [List.getElem?_set_self (by rw [S.len]; exact k)]
      intro z
      cases z
      exact npq rfl
    · rw [List.getElem?_set_ne q1]
      exact hd2.no l es' q2
  have S4 := S3.setOwn2 no hd2.np hd2.n0 hd2.o hd2.hp hd2.r j
  exact ⟨.ref p, .ref q, rfl, w3 _ _ H2 t2 S4 Bs2⟩⟩
end
end Pu

set_option Elab.async false
set_option linter.all false
set_option maxRecDepth 100000
set_option maxHeartbeats 4000000
/-! The pure layer: set(xs) of a list of ints (turned from HandS.SetFor's rule for tuples) -/
namespace Pu
namespace SetN
open PySem PySem.Spec PyProof.Rows L2
section
variable {P : Program} {w : World} {A : Around} {E : Value → Shared → Prop} {s : Shared}
-- set(xs) of a list of ints, as HandS has it of a tuple
set_option maxRecDepth 100000 in
set_option maxHeartbeats 3200000 in
theorem call_set_listN {l : Addr} {items : Array Value} (ns : List Int) {Q : Value → Shared → Prop} (hh : A.handled = none) (hl : s.heap.IsList l items) (hit : IntsAre items.toList ns) (hb : ns.length + 1 < scanBound)
    (h : ∀ (h' : Heap) (tk c : Nat), SetR w h' s.heap.objs.size (fun j => decide (j ∈ ns)) c → c ≤ ns.length → (∀ b o, s.heap.get? b = some o → h'.get? b = some o) → Q (.ref s.heap.objs.size) { s with heap := h', toks := tk }) :
    wpAny (model P w) A (call (.type "set") [.ref l]) Q E s := by
  have hisz : items.size = ns.length := by
    have q := IntsAre.length hit
    rw [Array.length_toList] at q
    exact q
  obtain ⟨c, tl, hmro⟩ := F.called_set.mro
  have hmade := F.called_set.made
  have hsub := F.called_set.sub
  refine wpAny_call (codeAny_of_tree ?_)
  show wpAny _ _ (callAny (.type "set") _) _ _ _
  refine wpAny_pure ⟨Code.quiet_builtin _ (by decide +kernel), codeAny_builtin F.entry_type_call ?_⟩
  rw [Around.under_plain (weight_type_call_type "set" [.ref l] []) rfl]
  have h1 := F.called_set.notType
  have h2 := F.called_set.canCreate
  have hct := F.typeCall_set_1 (.ref l)
  repeat (any_goals (first | assumption | wp_step))

  refine codeAny_mono (code_set_led1 (.ref l) (E := E) (Q₁ := fun obj s₁ => obj = .ref s.heap.objs.size ∧ s₁ = { s with heap := s.heap.push { cls := .type "set", dict := none, data := .set #[] 0 (.fresh 0 0 (!w.params.followText "set-order")) } }) ⟨rfl, rfl⟩) fun r s₁ hr => ?_
  cases r with
  | error e => exact hr
  | ok fl =>
    cases fl with
    | ret obj =>
      obtain ⟨rfl, rfl⟩ := hr
      have hS : (s.heap.push { cls := .type "set", dict := none, data := .set #[] 0 (.fresh 0 0 (!w.params.followText "set-order")) }).get? s.heap.objs.size = some { cls := .type "set", dict := none, data := .set #[] 0 (.fresh 0 0 (!w.params.followText "set-order")) } := Heap.get?_push_size _ rfl
      have hT : Shared.TypeIs { s with heap := s.heap.push { cls := .type "set", dict := none, data := .set #[] 0 (.fresh 0 0 (!w.params.followText "set-order")) } } (.ref s.heap.objs.size) "set" := ⟨_, hS, rfl⟩
      have hli := F.called_set.init.lookup
      have hbi := F.called_set.init.bind (.ref s.heap.objs.size)
      repeat (any_goals (first | assumption | wp_step))

      refine codeAny_mono (codeAny_call_builtin (R := wants (fun r s₂ => r = .none ∧ ∃ h' tk c, s₂ = { s with heap := h', toks := tk } ∧ SetR w h' s.heap.objs.size (fun j => decide (j ∈ ns)) c ∧ c ≤ ns.length ∧
          (∀ b o, s.heap.get? b = some o → h'.get? b = some o)) E) F.called_set.init.plain F.entry_set_init (check_set_init_1 hT ?_)) fun r₂ s₂ hr₂ => ?_
      · obtain ⟨ol, hol, hcl, nl, hdl⟩ := hl
        obtain ⟨ocls, odict, odata, oslots⟩ := ol
        simp only at hcl hdl
        subst hcl; subst hdl
        have hol' : (s.heap.push { cls := .type "set", dict := none, data := .set #[] 0 (.fresh 0 0 (!w.params.followText "set-order")) }).get? l = some { cls := .type "list", dict := odict, data := .seq items nl, slots := oslots } := Heap.get?_push_of_some _ hol
        have hsls := F.sub_list_set
        have hslf := F.sub_list_frozenset
        have hne : (Value.type "list" == Value.type "dict") = false := by decide
        have hl1 : (s.heap.push { cls := .type "set", dict := none, data := .set #[] 0 (.fresh 0 0 (!w.params.followText "set-order")) }).IsList l items := ⟨_, hol', rfl, nl, rfl⟩
        unfold Builtin.«set.__init__» noKeywords Builtin.Frozenset.updateFrom
        generalize hPI : pyIter = PI
        wp_walk
        subst hPI

        refine wpAny_pyIter_list hl1 ?_
        refine wpAny_bind (wpAny_runValue ?_)
        have hlS : l < s.heap.objs.size := Heap.lt_size hol
        have hh3 : A.in1.in1.in1.handled = none := by simp [hh]
        have hz1 : (s.heap.push { cls := .type "set", dict := none, data := .set #[] 0 (.fresh 0 0 (!w.params.followText "set-order")) }).objs.size = s.heap.objs.size + 1 := Heap.size_push ..
        have hneI : l ≠ (s.heap.push { cls := .type "set", dict := none, data := .set #[] 0 (.fresh 0 0 (!w.params.followText "set-order")) }).objs.size := by
          rw [Heap.size_push]; exact Nat.ne_of_lt (Nat.lt_succ_of_lt hlS)
        have hSf : s.heap.objs.size ∉ [(s.heap.push { cls := .type "set", dict := none, data := .set #[] 0 (.fresh 0 0 (!w.params.followText "set-order")) }).objs.size, l] := by
          rw [Heap.size_push]; simp only [List.mem_cons, List.mem_singleton, List.not_mem_nil, or_false, not_or]
          exact ⟨Nat.ne_of_lt (Nat.lt_succ_self _), Nat.ne_of_gt hlS⟩
        have hval : ∀ (i : Nat) (v : Value), items[i]? = some v → ∃ k t, ns[i]? = some k ∧ v = .int k t := fun i v hv => by
          have hi : i < ns.length := by rw [← hisz]; exact (Array.getElem?_eq_some_iff.mp hv).1
          obtain ⟨t, e⟩ := PyProof.Rows.IntsAre.int_at hit i v (by rw [Array.getElem?_toList]; exact hv)
          refine ⟨ns[i], t, List.getElem?_eq_getElem hi, ?_⟩
          rw [e, List.getD_eq_getElem?_getD, List.getElem?_eq_getElem hi] <;> rfl
        refine set_update_ints ((Walks.list hh3 _ l hneI items).toS) s.heap.objs.size
          hSf ns hisz hb hval (items.size - 0) 0 _ (by omega) (Nat.zero_le _)
          ⟨⟨_, Heap.get?_push_size _ rfl, rfl, rfl⟩, (hl1.push _)⟩ ?hS0 ?hR
        case hS0 =>
          have hget : ((s.heap.push { cls := .type "set", dict := none, data := .set #[] 0 (.fresh 0 0 (!w.params.followText "set-order")) }).push { cls := .type "list_iterator", data := .fields #[.ref l, .int 0 0] }).get? s.heap.objs.size
              = some { cls := .type "set", dict := none, data := .set #[] 0 (.fresh 0 0 (!w.params.followText "set-order")) } := Heap.get?_push_of_some _ hS
          exact ⟨0, Nat.le_refl 0, setR_new_at hget⟩
        case hR =>
          intro s' c' hm hc' hS'
          obtain ⟨h', g2, d', tk', os'⟩ := s'
          have eg : g2 = s.gens := hm.gens
          have ed : d' = s.drawn := hm.drawn
          have eo : os' = s.os := hm.os
          subst eg; subst ed; subst eo
          show wpAny _ _ _ _ _ _
          refine wpAny_pure ?_
          show wpAny _ _ (ret Value.none) _ _ _
          rw [hisz] at hc'
          refine wpAny_pure ⟨rfl, h', tk', c', rfl, hS', hc', fun b o e => ?_⟩
          have hb0 : b < s.heap.objs.size := Heap.lt_size e
          have hb1 : b ≠ s.heap.objs.size := Nat.ne_of_lt hb0
          have hb2 : b ≠ (s.heap.push { cls := .type "set", dict := none, data := .set #[] 0 (.fresh 0 0 (!w.params.followText "set-order")) }).objs.size := by
            rw [Heap.size_push]; exact Nat.ne_of_lt (Nat.lt_succ_of_lt hb0)
          exact hm.heap b o (by simp only [List.mem_cons, List.mem_singleton, List.not_mem_nil, or_false, not_or]; exact ⟨hb1, hb2⟩) (Heap.get?_push_of_some _ (Heap.get?_push_of_some _ e))

      · cases r₂ with
        | error e => exact hr₂
        | ok fl₂ =>
          cases fl₂ with
          | ret r =>
            obtain ⟨rfl, h', tk, c', rfl, hS', hc', hk'⟩ := hr₂
            repeat (any_goals (first | assumption | wp_step))
            exact h _ _ _ hS' hc' hk'
          | _ => exact hr₂.elim
    | _ => exact hr.elim
end
end SetN
end Pu

set_option Elab.async false
set_option linter.all false
set_option maxRecDepth 100000
set_option maxHeartbeats 4000000
/-! The pure layer, part O: sorted of lists of data; sets of ints, of tuples of ints -/
namespace Pu
open PySem L2
/-! ### sorting, as a plain function -/
def insL {α : Type} (le : α → α → Bool) (x : α) : List α → List α
  | [] => [x]
  | y :: ys => if le x y = true then x :: y :: ys else y :: insL le x ys
def isort {α : Type} (le : α → α → Bool) : List α → List α
  | [] => []
  | x :: xs => insL le x (isort le xs)
section
variable {α β : Type} {le : α → α → Bool}
theorem insL_mem {x : α} : ∀ {ys : List α} {z : α}, z ∈ insL le x ys ↔ z = x ∨ z ∈ ys
  | [], z => by simp [insL]
  | y :: ys, z => by
    unfold insL
    split
    · simp
    · rw [List.mem_cons, insL_mem, List.mem_cons]
      constructor
      · rintro (h | h | h)
        · exact .inr (.inl h)
        · exact .inl h
        · exact .inr (.inr h)
      · rintro (h | h | h)
        · exact .inr (.inl h)
        · exact .inl h
        · exact .inr (.inr h)
theorem insL_pw (h : PySem.W.TotalLe le) {x : α} : ∀ {ys : List α}, ys.Pairwise (fun a b => le a b = true) → (insL le x ys).Pairwise (fun a b => le a b = true)
  | [], _ => by simp [insL]
  | y :: ys, p => by
    unfold insL
    obtain ⟨p1, p2⟩ := List.pairwise_cons.mp p
    by_cases e : le x y = true
    · rw [if_pos e]
      refine List.pairwise_cons.mpr ⟨fun z hz => ?_, p⟩
      rcases List.mem_cons.mp hz with q | q
      · rw [q]; exact e
      · exact h.trans _ _ _ e (p1 z q)
    · rw [if_neg e]
      refine List.pairwise_cons.mpr ⟨fun z hz => ?_, insL_pw h p2⟩
      rcases insL_mem.mp hz with q | q
      · rw [q]
        exact (h.total x y).resolve_left e
      · exact p1 z q
theorem isort_pw (h : PySem.W.TotalLe le) : ∀ xs : List α, (isort le xs).Pairwise (fun a b => le a b = true)
  | [] => List.Pairwise.nil
  | x :: xs => insL_pw h (isort_pw h xs)
theorem insL_filter (h : PySem.W.TotalLe le) (c x : α) : ∀ ys : List α, (insL le x ys).filter (PySem.W.sameRank le c) = (x :: ys).filter (PySem.W.sameRank le c)
  | [] => rfl
  | y :: ys => by
    unfold insL
    by_cases e : le x y = true
    · rw [if_pos e]
    · rw [if_neg e]
      have ih := insL_filter h c x ys
      by_cases hx : PySem.W.sameRank le c x = true
      · have hy : ¬ PySem.W.sameRank le c y = true := fun hy => by
          unfold PySem.W.sameRank at hx hy
          obtain ⟨a1, a2⟩ := Bool.and_eq_true_iff.mp hx
          obtain ⟨b1, b2⟩ := Bool.and_eq_true_iff.mp hy
          exact e (h.trans _ _ _ a2 b1)
        rw [List.filter_cons_of_pos hx] at ih ⊢
        rw [List.filter_cons_of_neg hy, List.filter_cons_of_neg hy, ih]
      · rw [List.filter_cons_of_neg hx] at ih ⊢
        by_cases hy : PySem.W.sameRank le c y = true
        · rw [List.filter_cons_of_pos hy, List.filter_cons_of_pos hy, ih]
        · rw [List.filter_cons_of_neg hy, List.filter_cons_of_neg hy, ih]
theorem isort_filter (h : PySem.W.TotalLe le) (c : α) : ∀ xs : List α, (isort le xs).filter (PySem.W.sameRank le c) = xs.filter (PySem.W.sameRank le c)
  | [] => rfl
  | x :: xs => by
    show (insL le x (isort le xs)).filter _ = _
    rw [insL_filter h, List.filter_cons, List.filter_cons, isort_filter h c xs]
theorem isort_eq (h : PySem.W.TotalLe le) (xs : List α) : isort le xs = xs.mergeSort le := PySem.W.sort_unique h (isort_pw h xs) fun c => isort_filter h c xs
theorem insL_map {le' : β → β → Bool} (f : β → α) (x : β) (h : ∀ a b, le' a b = le (f a) (f b)) : ∀ ys : List β, (insL le' x ys).map f = insL le (f x) (ys.map f)
  | [] => rfl
  | y :: ys => by
    rw [List.map_cons, insL, insL, h]
    by_cases e : le (f x) (f y) = true
    · rw [if_pos e, if_pos e]; rfl
    · rw [if_neg e, if_neg e, List.map_cons, insL_map f x h ys]
theorem isort_map {le' : β → β → Bool} (f : β → α) (h : ∀ a b, le' a b = le (f a) (f b)) : ∀ xs : List β, (isort le' xs).map f = isort le (xs.map f)
  | [] => rfl
  | x :: xs => by
    show (insL le' x (isort le' xs)).map f = insL le (f x) (isort le (xs.map f))
    rw [insL_map f x h, isort_map f h xs]
theorem isort_mem : ∀ {xs : List α} {z : α}, z ∈ isort le xs ↔ z ∈ xs
  | [], z => Iff.rfl
  | x :: xs, z => by
    show z ∈ insL le x (isort le xs) ↔ _
    rw [insL_mem, isort_mem, List.mem_cons]
theorem isort_len : ∀ xs : List α, (isort le xs).length = xs.length := by
  have ins : ∀ (x : α) (ys : List α), (insL le x ys).length = ys.length + 1 := fun x ys => by
    induction ys with
    | nil => rfl
    | cons y ys ih =>
      unfold insL
      split
      · rfl
      · rw [List.length_cons, ih, List.length_cons]
  intro xs
  induction xs with
  | nil => rfl
  | cons x xs ih =>
    show (insL le x (isort le xs)).length = _
    rw [ins, ih, List.length_cons]
end
/-! ### sorted(xs) -/
abbrev leP : PyData → PyData → Bool := PySem.W.dataLe false fun p : PyData => p
def ltoD (a b : D) : Bool := leP a.py b.py
def alikeB (ds : List PyData) : Bool := ds.all fun d => ds.all fun e => PySem.W.alike d e
def tupB : PyData → Bool
  | .tuple (_ :: _) => true
  | _ => false
def plainB : PyData → Bool
  | .none => false
  | .tuple _ => false
  | _ => true
def sortB (ds : List PyData) : Bool := alikeB ds && (ds.all tupB || ds.all plainB)
theorem sortB_ok {ds : List PyData} (h : sortB ds = true) : PySem.W.AllAlike ds ∧ PySem.W.Sortable ds := by
  unfold sortB at h
  obtain ⟨h1, h2⟩ := Bool.and_eq_true_iff.mp h
  refine ⟨fun d hd e he => ?_, ?_⟩
  · unfold alikeB at h1
    exact List.all_eq_true.mp (List.all_eq_true.mp h1 d hd) e he
  · rcases Bool.or_eq_true_iff.mp h2 with h | h
    · refine .inl fun d hd => ?_
      have q := List.all_eq_true.mp h d hd
      unfold tupB at q
      split at q
      · exact ⟨_, _, rfl⟩
      · cases q
    · refine .inr fun d hd => ?_
      have q := List.all_eq_true.mp h d hd
      unfold plainB at q
      split at q
      · cases q
      · cases q
      · rename_i n1 n2
        exact ⟨n1, n2⟩
abbrev le2 : PyData × V → PyData × V → Bool := PySem.W.dataLe false fun b : PyData × V => b.1
def rSortedAny (K : PySem.W.Frag) : List V → Hp → VK → Prop := fun vs H Q => ∃ (a : Addr) (ds : List PyData) (xs : List V), vs = [V.ref a] ∧ SqL K H a xs ∧ DpAll K H xs ds ∧ sortB ds = true ∧ PyData.depthAll ds ≤ 60 ∧
  ∀ p, H p = none → Q (.ref p) (upd H p (.lst ((isort le2 (ds.zip xs)).map (·.2))))
theorem each_zip {X : Cx} {pins : List (Addr × Obj)} {σ : St} {H : Hp} {s : Shared} (I : Inv X pins σ H s) : ∀ {ds : List PyData} {xs : List V} {us : List Value}, DpAll X.K H xs ds → Vals xs us →
    PySem.W.EachIs (fun (u : Value) (b : PyData × V) => RelV b.2 u) us (ds.zip xs) ∧ PySem.W.EachIs (fun (u : Value) (b : PyData × V) => ∃ as, Reads s.heap u b.1 as) us (ds.zip xs) ∧ (ds.zip xs).map (·.1) = ds
  | [], [], us, h, r => by
    cases r
    exact ⟨.nil, .nil, rfl⟩
  | d :: ds, [], us, h, r => by cases h
  | [], x :: xs, us, h, r => by cases h
  | d :: ds, x :: xs, us, h, r => by
    cases r with
    | cons r rr =>
      cases h with
      | cons h hh =>
        obtain ⟨i1, i2, i3⟩ := each_zip I hh rr
        refine ⟨.cons r i1, .cons (Dp.reads I d x _ h r) i2, ?_⟩
        rw [List.zip_cons_cons, List.map_cons, i3]
theorem vals_each : ∀ {us : List Value} {bs : List (PyData × V)}, PySem.W.EachIs (fun (u : Value) (b : PyData × V) => RelV b.2 u) us bs → Vals (bs.map (·.2)) us
  | _, _, .nil => .nil
  | _, _, .cons h t => .cons h (vals_each t)
theorem depth_mem : ∀ {ds : List PyData} {d : PyData}, d ∈ ds → d.depth ≤ PyData.depthAll ds
  | e :: ds, d, h => by
    rw [PyData.depthAll]
    rcases List.mem_cons.mp h with q | q
    · rw [q]; omega
    · have := depth_mem q
      omega
theorem cr_sortedAny {X : Cx} {k : Nat} (hr : Room k X.A) : CallR X (.builtin "sorted") (rSortedAny X.K) := by
  intro pins s σ H vs us Q I r h
  obtain ⟨a, ds, xs, rfl, hs, hd, hb, hdep, q⟩ := h
  obtain ⟨its, rv, hl, hz⟩ := I.list hs
  rw [Vals.ref1 r]
  obtain ⟨e1, e2, e3⟩ := each_zip I hd rv
  obtain ⟨b1, b2⟩ := sortB_ok hb
  have hlen : (ds.zip xs).length = xs.length := by rw [← e1.length, ← rv.length]
  refine PySem.W.sorted_data (enc := fun b : PyData × V => b.1) (bs := ds.zip xs) (vs := its) (R := fun u b => RelV b.2 u) hl.isList e1 e2 (by rw [e3]; exact b1) (by rw [e3]; exact b2) (by rw [hlen]; exact hz) (fun b hbm => ?_) fun out ol oe => ?_
  · have m : b.1 ∈ ds := by
      rw [← e3]
      exact List.mem_map_of_mem hbm
    have := depth_mem m
    have := hr.un
    omega
  · have es : isort le2 (ds.zip xs) = (ds.zip xs).mergeSort (PySem.W.dataLe false fun b : PyData × V => b.1) := isort_eq (PySem.W.sortLe_total _ _ _) _
    rw [← es] at oe
    have rv2 := vals_each oe
    obtain ⟨ep, he'⟩ := PyProof.Rows.sortedAll_at s.heap its out.toArray
    have hl2 : ((isort le2 (ds.zip xs)).map (·.2)).length ≤ sizeLine := by
      rw [List.length_map, isort_len, hlen]
      exact hz
    exact ⟨.ref _, upd H (s.heap.objs.size + 1) (.lst ((isort le2 (ds.zip xs)).map (·.2))), I.laid (t' := s.toks) (fun _ _ => PyProof.Rows.sortedAll_old) (Nat.le_succ _) ⟨hl2, out, ep, rv2, he'⟩, rfl, q _ (I.hok.fresh (Nat.le_succ _))⟩
/-- the items and their values, sorted together -/
theorem reps_perm {P : Px} {O : Addr → Prop} {bx : Option Addr} {H : Hp} (zs : List (D × V)) : Reps P O bx H (zs.map (·.1)) (zs.map (·.2)) ↔ ∀ z ∈ zs, Rep P O bx H z.1 z.2 := by
  induction zs with
  | nil => exact ⟨fun _ z hz => (by cases hz), fun _ => .nil⟩
  | cons z zs ih =>
    constructor
    · intro h y hy
      cases h with
      | cons h t =>
        rcases List.mem_cons.mp hy with q | q
        · rw [q]; exact h
        · exact ih.mp t y q
    · intro h
      exact .cons (h z List.mem_cons_self) (ih.mpr fun y hy => h y (List.mem_cons_of_mem _ hy))
theorem zip_maps {α β : Type} : ∀ {xs : List α} {ys : List β}, xs.length = ys.length → (xs.zip ys).map (·.1) = xs ∧ (xs.zip ys).map (·.2) = ys
  | [], [], _ => ⟨rfl, rfl⟩
  | x :: xs, y :: ys, h => by
    obtain ⟨h1, h2⟩ := zip_maps (xs := xs) (ys := ys) (by simpa using h)
    rw [List.zip_cons_cons, List.map_cons, List.map_cons, h1, h2]
    exact ⟨rfl, rfl⟩
  | [], y :: ys, h => by simp at h
  | x :: xs, [], h => by simp at h
theorem sort_reps {P : Px} {O : Addr → Prop} {bx : Option Addr} {H : Hp} {ds : List D} {vs : List V} (r : Reps P O bx H ds vs) : Reps P O bx H (isort ltoD ds) ((isort le2 ((D.pys ds).zip vs)).map (·.2)) := by
  have hl := r.length
  obtain ⟨z1, z2⟩ := zip_maps hl
  have hp : ∀ ds : List D, D.pys ds = ds.map D.py := fun ds => by
    induction ds with
    | nil => rw [D.pys, List.map_nil]
    | cons d ds ih => rw [D.pys, List.map_cons, ih]
  have e0 : (D.pys ds).zip vs = (ds.zip vs).map fun z => (z.1.py, z.2) := by
    rw [hp]
    clear r hl z1 z2
    induction ds generalizing vs with
    | nil => rfl
    | cons d ds ih =>
      cases vs with
      | nil => rfl
      | cons v vs => rw [List.map_cons, List.zip_cons_cons, List.zip_cons_cons, List.map_cons, ih]
  have s1 : isort ltoD ds = (isort (fun a b : D × V => ltoD a.1 b.1) (ds.zip vs)).map (·.1) := by
    rw [isort_map (le := ltoD) (fun z : D × V => z.1) fun _ _ => rfl, z1]
  have s2 : isort le2 ((D.pys ds).zip vs) = (isort (fun a b : D × V => ltoD a.1 b.1) (ds.zip vs)).map fun z => (z.1.py, z.2) := by
    rw [e0]
    exact (isort_map (le' := fun a b : D × V => ltoD a.1 b.1) (le := le2) (fun z : D × V => (z.1.py, z.2)) (fun _ _ => rfl) _).symm
  rw [s1, s2, List.map_map]
  refine (reps_perm _).mpr fun z hz => ?_
  have hz' := isort_mem.mp hz
  have r' : Reps P O bx H ((ds.zip vs).map (·.1)) ((ds.zip vs).map (·.2)) := by rw [z1, z2]; exact r
  exact (reps_perm _).mp r' z hz'
def sortF1 (d : D) : M (List D) := match d.lseq with
  | some xs => if (D.oks deep xs && sortB (D.pys xs)) = true then pure (isort ltoD xs) else stuck
  | none => stuck
def fSort (f : DEnv → M D) : DEnv → M (List D) := fun ρ => f ρ >>= sortF1
section
variable {X : Cx} {P : Px} {e a : Expr} {pos : Pos} {f : DEnv → M D} {fs : DEnv → M (List D)}
theorem sf_sorted {x : Expr} {p : Pos} {k : Nat} (hr : Room k X.A) (hg : Gl X "sorted") (hm : X.mg "sorted" = none) (ha : SE X P x f) (hK : X.K = P.K := by rfl) (he : starEach [x] X.env = (false, eval x X.env) :: starEach [] X.env := by rfl) : SF X P (.Call (.Name "sorted" p) [x] [] pos) (fSort f) :=
  ⟨fun W tk => pe_imp (pe_callB (cr_sortedAny hr) hg hm PyProof.Rows.boot_sorted (pa_cons (ha.pe W tk) pa_nil he) (by decide) (by decide) he rfl) fun σ H Q h => by
    obtain ⟨g, ρ, b, hP, S, w⟩ := h
    refine ⟨g, ρ, b, hP, S, (wpG.bind (R1 := RepT g) w).imp fun v H1 ⟨d, b1, e1, B1, r1, w1⟩ => ?_⟩
    unfold sortF1 at w1
    cases e : d.lseq with
    | none => rw [e] at w1; exact w1.elim
    | some xs =>
      rw [e] at w1
      obtain ⟨hok, w2⟩ := wp_ite (c := (D.oks deep xs && sortB (D.pys xs)) = true) (m := pure (isort ltoD xs)) w1
      obtain ⟨h1, h2⟩ := and2 hok
      obtain ⟨a, vs, rfl, h, r⟩ := lseq_rep r1 e
      subst hP
      rw [hK]
      have dp := Reps.dp (n := deep) r h1
      exact ⟨a, D.pys xs, vs, rfl, .inl (.inl h), dp, h2, (oks_lay _ _ h1).2, fun l hl => w2 (.ref l) _ (Ex1.new hl) (B1.new hl) (rf_new B1 e1 hl (sort_reps r))⟩⟩
/-! ### sorted(set(xs)), len(set(xs)) -/
def insU (x : Int) : List Int → List Int
  | [] => [x]
  | y :: ys => if x < y then x :: y :: ys else if x = y then y :: ys else y :: insU x ys
def usort : List Int → List Int
  | [] => []
  | x :: xs => insU x (usort xs)
theorem insU_mem {x : Int} : ∀ {ys : List Int} {z : Int}, z ∈ insU x ys ↔ z = x ∨ z ∈ ys
  | [], z => by simp [insU]
  | y :: ys, z => by
    unfold insU
    split
    · simp
    · split
      · rename_i e
        subst e
        simp
      · rw [List.mem_cons, insU_mem, List.mem_cons]
        constructor
        · rintro (h | h | h)
          · exact .inr (.inl h)
          · exact .inl h
          · exact .inr (.inr h)
        · rintro (h | h | h)
          · exact .inr (.inl h)
          · exact .inl h
          · exact .inr (.inr h)
theorem usort_mem : ∀ {xs : List Int} {z : Int}, z ∈ usort xs ↔ z ∈ xs
  | [], z => Iff.rfl
  | x :: xs, z => by
    show z ∈ insU x (usort xs) ↔ _
    rw [insU_mem, usort_mem, List.mem_cons]
theorem insU_pw {x : Int} : ∀ {ys : List Int}, ys.Pairwise (· < ·) → (insU x ys).Pairwise (· < ·)
  | [], _ => by simp [insU]
  | y :: ys, p => by
    unfold insU
    obtain ⟨p1, p2⟩ := List.pairwise_cons.mp p
    split
    · rename_i e
      refine List.pairwise_cons.mpr ⟨fun z hz => ?_, p⟩
      rcases List.mem_cons.mp hz with q | q
      · rw [q]; exact e
      · have := p1 z q
        omega
    · split
      · exact p
      · refine List.pairwise_cons.mpr ⟨fun z hz => ?_, insU_pw p2⟩
        rcases insU_mem.mp hz with q | q
        · omega
        · exact p1 z q
theorem usort_pw : ∀ xs : List Int, (usort xs).Pairwise (· < ·)
  | [] => List.Pairwise.nil
  | x :: xs => insU_pw (usort_pw xs)
theorem insU_len (x : Int) : ∀ ys : List Int, (insU x ys).length ≤ ys.length + 1
  | [] => Nat.le_refl _
  | y :: ys => by
    unfold insU
    split
    · exact Nat.le_refl _
    · split
      · exact Nat.le_succ _
      · have := insU_len x ys
        rw [List.length_cons, List.length_cons]
        omega
theorem usort_len : ∀ xs : List Int, (usort xs).length ≤ xs.length
  | [] => Nat.le_refl _
  | x :: xs => by
    have h1 := insU_len x (usort xs)
    have h2 := usort_len xs
    show (insU x (usort xs)).length ≤ xs.length + 1
    omega
theorem lt_uniq : ∀ {xs ys : List Int}, xs.Pairwise (· < ·) → ys.Pairwise (· < ·) → (∀ z, z ∈ xs ↔ z ∈ ys) → xs = ys
  | [], [], _, _, _ => rfl
  | [], y :: ys, _, _, h => by
    have := (h y).mpr List.mem_cons_self
    cases this
  | x :: xs, [], _, _, h => by
    have := (h x).mp List.mem_cons_self
    cases this
  | x :: xs, y :: ys, p, q, h => by
    obtain ⟨p1, p2⟩ := List.pairwise_cons.mp p
    obtain ⟨q1, q2⟩ := List.pairwise_cons.mp q
    have e : x = y := by
      rcases List.mem_cons.mp ((h x).mp List.mem_cons_self) with e | e
      · exact e
      · rcases List.mem_cons.mp ((h y).mpr List.mem_cons_self) with e' | e'
        · exact e'.symm
        · have := p1 y e'
          have := q1 x e
          omega
    subst e
    rw [lt_uniq p2 q2 fun z => ⟨fun hz => ?_, fun hz => ?_⟩]
    · rcases List.mem_cons.mp ((h z).mp (List.mem_cons_of_mem _ hz)) with e | e
      · have := p1 z hz
        omega
      · exact e
    · rcases List.mem_cons.mp ((h z).mpr (List.mem_cons_of_mem _ hz)) with e | e
      · have := q1 z hz
        omega
      · exact e
def tSortSet (K : PySem.W.Frag) (ta : TE) : TE := fun σ H Q => ta σ H fun x H1 => ∃ (l : Addr) (ns : List Int), x = V.ref l ∧ SqL K H1 l (ns.map V.int) ∧ (ns.length < 4000 ∧ (usort ns).length < 64) ∧ ∀ p, H1 p = none → Q (.ref p) (upd H1 p (.lst ((usort ns).map V.int)))
theorem pe_sortSet {a : Expr} {ta : TE} {p p2 q pos : Pos} (hc : X.calm = true) (hg : Gl X "sorted") (hm : X.mg "sorted" = none) (hg2 : Gl X "set") (hm2 : X.mg "set" = none) (ha : PE X a ta)
    (na : starEach [a] X.env = (false, eval a X.env) :: starEach [] X.env := by rfl) : PE X (.Call (.Name "sorted" p) [.Call (.Name "set" p2) [a] [] q] [] pos) (tSortSet X.K ta) := by
  refine ⟨fun pins s σ H Q I h => ?_⟩
  refine PyProof.Rows.Call_ (ld_blt I hg hm PyProof.Rows.boot_sorted ?_)
  refine PyProof.Rows.callWith_builtin1 (PyProof.Rows.args_cons ?_ rfl) rfl rfl
  refine PyProof.Rows.Call_ (ld_blt I hg2 hm2 PyProof.Rows.boot_set ?_)
  refine PyProof.Rows.callWith_type1 (PyProof.Rows.args_cons (thn (ha.run pins s σ H _ I h) fun v s1 ⟨x, H1, I1, r1, q1⟩ => PyProof.Rows.args_nil ?_) na) na rfl
  obtain ⟨l, ns, rfl, hq, h64, q1⟩ := q1
  cases r1
  obtain ⟨its, r, pl, hz⟩ := I1.list hq
  refine SetN.call_set_listN (P := X.prog) (w := X.w) ns (I1.ok.hd hc) pl.isList (by simpa using r.ints) (by unfold scanBound; omega) fun h' tk c R hcl hk => ?_
  refine PyProof.Rows.args_nil ?_
  have I2 : Inv X pins σ H1 { s1 with heap := h', toks := tk } := I1.kept hk
  generalize hs2 : ({ s1 with heap := h', toks := tk } : Shared) = s2 at I2
  have R : SetR X.w s2.heap s1.heap.objs.size (fun j => decide (j ∈ ns)) c := by rw [← hs2]; exact R
  have few : c < 64 := by
    obtain ⟨_, es, _, _, _, _, _, _, nd, mem, _, _, sz, _⟩ := R
    have sub : es.toList.map keyOf ⊆ usort ns := fun z hz => usort_mem.mpr (of_decide_eq_true ((mem z).mpr hz))
    have := List.Nodup.length_le_of_subset nd sub
    rw [List.length_map, Array.length_toList] at this
    omega
  refine sorted_set R (I2.ok.hd hc) few fun s' p out c' ms k g o hp hg' hi hs hm' hl => ?_
  have em : ms = usort ns := lt_uniq hs (usort_pw ns) fun z => by
    rw [hm', usort_mem, decide_eq_true_iff]
  subst em
  have hlen : ((usort ns).map V.int).length ≤ sizeLine := by
    rw [List.length_map, hl, sizeLine_eq]
    omega
  have hn : H1 p = none := I2.hok.fresh hp
  have J : Inv X pins σ (upd H1 p (.lst ((usort ns).map V.int))) { s2 with heap := s'.heap, gens := s'.gens, drawn := s'.drawn, toks := s'.toks } :=
    I2.call (ch := []) (Un.laid k hp hn) (I2.hok.laid k hp ⟨hlen, out.toList, c', vals_of_ints hi, hg'⟩) (by rw [g]; exact I2.bare) (fun _ z => nomatch z)
  have e : s' = { s2 with heap := s'.heap, gens := s'.gens, drawn := s'.drawn, toks := s'.toks } := by
    cases s'
    cases s2
    cases o
    rfl
  rw [e]
  exact ⟨.ref p, _, J, rfl, q1 p hn⟩
def sortSet1 (d : D) : M (List D) := match d.lseq with
  | some xs => match intsOf xs with
    | some ns => if ns.length < 4000 ∧ (usort ns).length < 64 then pure ((usort ns).map D.int) else stuck
    | none => stuck
  | none => stuck
def fSortSet (f : DEnv → M D) : DEnv → M (List D) := fun ρ => f ρ >>= sortSet1
theorem reps_ints {P : Px} {O : Addr → Prop} {bx : Option Addr} {H : Hp} : ∀ ns : List Int, Reps P O bx H (ns.map D.int) (ns.map V.int)
  | [] => .nil
  | n :: ns => .cons (.int n) (reps_ints ns)
theorem sf_sortSet {p p2 q : Pos} (hc : X.calm = true) (hg : Gl X "sorted") (hm : X.mg "sorted" = none) (hg2 : Gl X "set") (hm2 : X.mg "set" = none) (ha : SE X P a f) (hK : X.K = P.K := by rfl)
    (na : starEach [a] X.env = (false, eval a X.env) :: starEach [] X.env := by rfl) : SF X P (.Call (.Name "sorted" p) [.Call (.Name "set" p2) [a] [] q] [] pos) (fSortSet f) :=
  ⟨fun W tk => pe_imp (pe_sortSet hc hg hm hg2 hm2 (ha.pe W tk) na) fun σ H Q h => by
    obtain ⟨g, ρ, b, hP, S, w⟩ := h
    refine ⟨g, ρ, b, hP, S, (wpG.bind (R1 := RepT g) w).imp fun v H1 ⟨d, b1, e1, B1, r1, w1⟩ => ?_⟩
    unfold sortSet1 at w1
    cases e : d.lseq with
    | none => rw [e] at w1; exact w1.elim
    | some xs =>
      rw [e] at w1
      obtain ⟨a, vs, rfl, h, r⟩ := lseq_rep r1 e
      cases e2 : intsOf xs with
      | none => simp only [e2] at w1; exact w1.elim
      | some ns =>
        simp only [e2] at w1
        obtain ⟨hl, w2⟩ := wp_ite (c := ns.length < 4000 ∧ (usort ns).length < 64) (m := pure ((usort ns).map D.int)) w1
        have ev := ints_rep r e2
        subst ev
        exact ⟨a, ns, rfl, .inl (.inl h), hl, fun l hl => w2 (.ref l) _ (Ex1.new hl) (B1.new hl) (rf_new B1 e1 hl (reps_ints _))⟩⟩
end
end Pu

set_option Elab.async false
set_option linter.all false
set_option maxRecDepth 100000
set_option maxHeartbeats 4000000
/-! The pure layer, part P: try with several clauses that name the exception -/
namespace Pu
namespace TryA
open PySem PySem.Spec PyProof.Rows L2
/-- the ends of a suite whose clause's name (slot i) goes -/
def goneE (D : Ends) (i : Nat) : Ends := { nx := fun σ' H' => D.nx (σ'.set i none) H', rt := D.rt, bk := fun σ' H' => D.bk (σ'.set i none) H', ct := fun σ' H' => D.ct (σ'.set i none) H' }
structure Cl where
  c : Value
  i : Nat
  ts : Addr → Value → Option Addr → TS
def wClauses (K : PySem.W.Frag) (Wout : WX) (D : Ends) : List Cl → WX
  | [] => Wout
  | l :: r => fun cls d σ H => ∃ b, PySem.W.exmOne K cls l.c = some b ∧ (b = true → ∀ a, H a = none → l.ts a cls d (goneE D l.i) (σ.set l.i (some (.ref a))) H) ∧ (b = false → wClauses K Wout D r cls d σ H)
inductive ClOk (X : Cx) : List ExceptHandler → List Cl → Prop
  | nil : ClOk X [] []
  | cons {x n : Str} {l : Cl} {b₀ : Stmt} {suite : List Stmt} {np pos' : Pos} {hds : List ExceptHandler} {ls : List Cl} (hc : Names X x l.c) (hi : X.N[l.i]? = some n) (hln : X.env.kindOf n = some .local)
      (hsu : ∀ (a : Addr) (oe : Obj) (cls : Value) (d : Option Addr) (pn : List (Addr × Obj)), Zc cls d oe → (∃ vs, oe.data = .fields vs) → PSs (X.suite a ((a, oe) :: pn)) (b₀ :: suite) (l.ts a cls d)) (r : ClOk X hds ls) :
      ClOk X (.ExceptHandler (some (.Name x np)) (some n) (b₀ :: suite) pos' :: hds) (l :: ls)
section
variable {X : Cx} {body : List Stmt} {h₀ : ExceptHandler} {hds : List ExceptHandler} {l : List Cl} {pos : Pos} {tb : WX → TS} {Wout : WX}
theorem ps_try_clauses (hN : X.N.Nodup) (hs : X.stack = X.env :: X.outer) (hf : X.env.frame = some X.env.locals) (tk : Takes X Wout)
    (hb : ∀ (W : WX) (pn : List (Addr × Obj)) (xe : Value → Shared → Prop), Takes (X.tr pn xe) W → PassesOwn (model X.prog X.w) X.A X.env xe → PSs (X.tr pn xe) body (tb W))
    (hh : ClOk X (h₀ :: hds) l) : PS X (.Try body (h₀ :: hds) [] [] pos) (fun D σ H => tb (wClauses X.K Wout D l) D σ H) := by
  refine ⟨fun pins s σ H D I h => ?_⟩
  have ok := I.ok
  have hfr : X.A.frames = some (X.env :: X.outer) := by rw [ok.frames, hs]
  refine wpAny_Try_except ?_
  refine wpAny_mono ((hb (wClauses X.K Wout D l) (X.pn ++ pins) (fun e s₁ => wpAny (model X.prog X.w) X.A (noteFrame e X.env) (fun _ s₂ => wpAny (model X.prog X.w) X.A (setFlight e none) (fun _ s₃ =>
    wpAny (model X.prog X.w) X.A (handleBy e X.env (h₀ :: hds)) (SP X pins D) X.xe s₃) X.xe s₂) X.xe s₁) (fun u s' xx => ?_) PassesOwn.looking).run [] s σ H D (I.toTry _) h) (fun f s1 hsp => ?_) (fun e s1 he => he)
  · -- the catch
    obtain ⟨a, B, sI, pins', σ', H', cls, d, rfl, J', nb, up, sky, na, os, ag, w⟩ := xx
    have J : Inv X pins σ' H' sI := J'.ofTry ok
    have sky' : Sky B (X.env :: X.outer) a (Zc cls d) X.env.locals s'.heap := by rw [← hs]; exact sky
    show wpAny (model X.prog X.w) X.A (noteFrame (.ref a) X.env) _ _ _
    refine Sky.land Zc.steady hfr hf sky' fun h3 fl3 up3 => ?_
    have J3 : Inv X pins σ' H' { s' with heap := h3 } := J.landed nb fl3.1 (up.trans up3) os ag
    obtain ⟨oe3, vs3, he3, hz3, hd3⟩ := fl3.there
    have notFr : ∀ {h : Heap} {o : Obj} {vs : Array Value}, h.FunFrames B (X.env :: X.outer) → h.get? a = some o → o.data = .fields vs → a ∉ frs (X.env :: X.outer) := fun {h o vs} ff e dd hm => by
      obtain ⟨_, o', e', hnf⟩ := ff.mem hm
      rw [e] at e'; cases e'
      exact hnf _ dd
    have nfr := notFr fl3.2.2.1 he3 hd3
    have nL : a ≠ X.env.locals := fun z => nfr (List.mem_filterMap.mpr ⟨X.env, List.mem_cons_self, by rw [hf, z]⟩)
    have nF : a ∉ X.fs := fun hm => by
      obtain ⟨e, he, q⟩ := List.mem_filterMap.mp hm
      exact nfr (List.mem_filterMap.mpr ⟨e, List.mem_cons_of_mem _ he, q⟩)
    have S3 := J3.suite he3 hd3 na nL nF
    have go : ∀ {hds' : List ExceptHandler} {l' : List Cl}, ClOk X hds' l' → wClauses X.K Wout D l' cls d σ' H' →
        wpAny (model X.prog X.w) X.A (handleBy (.ref a) X.env hds') (SP X pins D) X.xe { s' with heap := h3 } := by
      intro hds' l' hk
      induction hk with
      | nil =>
        intro w
        refine wpAny_handleBy_nil ?_
        obtain ⟨k1, k2, k3, oe, vs, T, oT, ts', he, hz, hd, h1, hr⟩ := id fl3
        unfold PySem.passOn
        refine wpAny_bind (wpAny_field he hd h1 ?_)
        rw [if_neg (show ¬ ((Value.ref T == Value.none) = true) from by simp)]
        have fin : wpAny (model X.prog X.w) X.A (setFlight (.ref a) X.env.frame) (fun _ s4 => wpAny (model X.prog X.w) X.A (throw (.ref a) : Sem Flow) (SP X pins D) X.xe s4) X.xe { s' with heap := h3 } := by
          rw [hf]
          refine HandSPX.setFlight_upZ fl3 fun h4 hh4 up4 => wpAny_throw (tk _ _ ?_)
          exact ⟨a, B, sI, pins, σ', H', cls, d, rfl, J, nb, (up.trans up3).trans up4, .inr (.inr (by rw [hs]; exact hh4)), na, os, ag, w⟩
        first
          | exact wpAny_bind (wpAny_pure (wpAny_bind fin))
          | exact wpAny_bind fin
      | @cons x n cl b₀ suite np pos' hds2 l2 hc hi hln hsu r ih =>
        intro w
        obtain ⟨b, hb1, hyes, hno⟩ := w
        refine wpAny_handleBy_cons (codeAny_handlers_test ?_) (by intro q; cases q)
        have LT : PySem.W.Looks (model X.prog X.w) h3 (typeOf (.ref a)) cls := fun A Q E s k q => wpAny_typeOf_ref (k _ _ he3) (by rw [hz3.1]; exact q)
        have LM := PySem.W.exm_one (M := model X.prog X.w) (J3.kIn) LT hb1
        have test : ∀ {Q : Value → Shared → Prop} {E : Value → Shared → Prop}, Q cl.c { s' with heap := h3 } → wpAny (model X.prog X.w) (X.A.mark (some (.ref a))) (eval (.Name x np) X.env) Q E { s' with heap := h3 } := fun {Q E} q => by
          obtain ⟨hg, hdbg, hm | ⟨hm, hv, hnn⟩⟩ := hc
          · exact ld_glob (X := X.suite a ((a, oe3) :: (X.pn ++ pins))) S3 hg hm q hdbg
          · exact ld_blt (X := X.suite a ((a, oe3) :: (X.pn ++ pins))) S3 hg hm hv q hnn hdbg
        refine test (LM.here ?_)
        cases b with
        | true =>
          refine codeAny_handlers_suite_as ?_
          refine HandSPX.lands_againZ fl3 fun h4 fl4 up4 => ?_
          have J4 : Inv X pins σ' H' { s' with heap := h4 } := J.landed nb fl4.1 ((up.trans up3).trans up4) os ag
          obtain ⟨oe4, vs4, he4, hz4, hd4⟩ := fl4.there
          have S4 := J4.suite he4 hd4 na nL nF
          refine store_ok (X := X.suite a ((a, oe4) :: (X.pn ++ pins))) (v := .ref a) S4 hN hi (.inl hln) rfl (fun s5 S5 => ?_) (.inr hln)
          refine wpAny_mono ((hsu a oe4 cls d (X.pn ++ pins) hz4 ⟨_, hd4⟩).run [] s5 _ H' _ S5 (hyes rfl a na)) (fun f s6 hsp => ?_) (fun _ _ z => False.elim z)
          have end_ : ∀ {σ6 : L2.St} {H6 : Hp} {Q : Shared → Prop}, Inv (X.suite a ((a, oe4) :: (X.pn ++ pins))) [] σ6 H6 s6 → (∀ s7, Inv X pins (σ6.set cl.i none) H6 s7 → Q s7) →
              wpAny (model X.prog X.w) X.A (do bindName X.env n .none; unbindBehindTheSuite X.env n pos') (fun _ s7 => Q s7) X.xe s6 := fun {σ6 H6 Q} S6 hq => gone_ok (S6.unsuite ok) hN hi hln hq
          cases f with
          | next =>
            obtain ⟨σ6, H6, S6, q6⟩ := hsp
            exact end_ S6 fun s7 J7 => ⟨_, _, J7, q6⟩
          | brk =>
            obtain ⟨σ6, H6, S6, q6⟩ := hsp
            exact end_ S6 fun s7 J7 => ⟨_, _, J7, q6⟩
          | cont =>
            obtain ⟨σ6, H6, S6, q6⟩ := hsp
            exact end_ S6 fun s7 J7 => ⟨_, _, J7, q6⟩
          | ret u =>
            obtain ⟨v6, σ6, H6, S6, r6, q6⟩ := hsp
            exact end_ S6 fun s7 J7 => ⟨_, _, _, J7, r6, q6⟩
        | false =>
          show wpAny _ X.A (handleBy (.ref a) X.env hds2) _ _ _
          exact ih (hno rfl)
    exact go hh w
  · cases f with
    | next =>
      obtain ⟨σ', H', J', q⟩ := hsp
      exact wpAny_execs_nil ⟨σ', H', J'.ofTry ok, q⟩
    | brk =>
      obtain ⟨σ', H', J', q⟩ := hsp
      exact ⟨σ', H', J'.ofTry ok, q⟩
    | cont =>
      obtain ⟨σ', H', J', q⟩ := hsp
      exact ⟨σ', H', J'.ofTry ok, q⟩
    | ret u =>
      obtain ⟨v, σ', H', J', r, q⟩ := hsp
      exact ⟨v, σ', H', J'.ofTry ok, r, q⟩
end
end TryA
end Pu

set_option Elab.async false
set_option linter.all false
set_option maxRecDepth 100000
set_option maxHeartbeats 4000000
/-! The pure layer, part Q: try: .. except X as n: return t if isinstance(n, ValueError) else u; the head's Hook with one more look -/
namespace Pu
open PySem L2 TryA
/-- what an error's class must say when its instances are asked -/
structure ErrX (K : PySem.W.Frag) (D : Addr) : Prop where
  ec : L2.ExcC K D
  ko : PySem.W.kitOne K (.ref D) (.type "ValueError") = some true
def lookC (c : Nat) : List (Nat × Nat × Str) → Option Str
  | [] => none
  | (c', _, t) :: r => if c = c' then some t else lookC c r
def sSlip (cs : List (Nat × Nat × Str)) (u : DEnv → M Out) : DEnv → M Out := fun ρ b => match u ρ b with
  | .ok o b => .ok o b
  | .exc ⟨c, none⟩ b => match lookC c cs with
    | some t => .ok (.rt (.str t)) b
    | none => .stk
  | _ => .stk
section
variable {X : Cx} {P : Px}
def slipCl (P : Px) (K : PySem.W.Frag) (l : Nat × Nat × Str) : Cl := ⟨.ref (P.ca l.1), l.2.1, fun a cls d D σ H => ∃ c, cls = .ref c ∧ d = none ∧ ErrX K c ∧ (∃ σ0 : St, σ = σ0.set l.2.1 (some (.ref a))) ∧ D.rt (.str l.2.2) H⟩
inductive SlipOk (X : Cx) (P : Px) : List ExceptHandler → List (Nat × Nat × Str) → Prop
  | nil : SlipOk X P [] []
  | cons {x n t u : Str} {c i : Nat} {np pos' p1 p2 p3 p4 p5 p6 p7 p8 : Pos} {j1 j2 : Nat} {hds : List ExceptHandler} {ls : List (Nat × Nat × Str)} (hx : Gl X x) (hd : (x == ("__debug__" : Str)) = false) (hm : X.mg x = some (.ref (P.ca c))) (hi : X.N[i]? = some n) (hn : (n == ("__debug__" : Str)) = false) (hn2 : (n == ("__classdict__" : Str)) = false) (hln : X.env.kindOf n = some .local) (r : SlipOk X P hds ls) :
      SlipOk X P (.ExceptHandler (some (.Name x np)) (some n) [.Return (some (.IfExp (.Call (.Name "isinstance" p1) [.Name n p2, .Name "ValueError" p3] [] p4) (.Constant (.str t) j1 p5) (.Constant (.str u) j2 p6) p7)) p8] pos' :: hds) ((c, i, t) :: ls)
theorem slip_cl (hg : Gl X "isinstance") (hm : X.mg "isinstance" = none) (hgV : Gl X "ValueError") (hmV : X.mg "ValueError" = none) : ∀ {hds : List ExceptHandler} {ls : List (Nat × Nat × Str)}, SlipOk X P hds ls → ClOk X hds (ls.map (slipCl P X.K))
  | _, _, .nil => .nil
  | _, _, .cons (n := n) (c := c) (i := i) (t := t) hx hd hmx hi hn hn2 hln r => .cons (l := slipCl P X.K (c, i, t)) ⟨hx, hd, .inl hmx⟩ hi hln (fun a oe cls d pn hz hf => ⟨fun pins s σ H D I h => by
      obtain ⟨C, rfl, rfl, E, ⟨σ0, hs0⟩, hD⟩ := h
      have hs : σ[i]? = some (some (.ref a)) := by
        have hl : i < σ.length := by
          rw [I.len]
          exact get_len hi
        have e : σ[i]? = (σ0.set i (some (.ref a)))[i]? := congrArg (fun z : St => z[i]?) hs0
        rw [e]
        exact List.getElem?_set_self (by
          have e2 : σ.length = (σ0.set i (some (.ref a))).length := congrArg List.length hs0
          rw [List.length_set] at e2
          omega)
      have hv : Vis (X.suite a ((a, oe) :: pn)).env.scope n := .inl hln
      refine (pss_one (ps_ret (pe_ifExp (pt_val (pe_callB (X := X.suite a ((a, oe) :: pn)) (call_isE E.ec hz hf) hg hm (by decide +kernel) (pa_cons (pe_var (i := i) hi hv hn hn2) (pa_cons (pe_bltn (v := .ty "ValueError") hgV hmV (by decide +kernel) rfl (by decide) (by decide)) pa_nil)) (by decide) (by decide))) pe_str pe_str))).run pins s σ H D I ?_
      exact ⟨.ref a, hs, .ty "ValueError", .type "ValueError", true, rfl, (fun u hu => by cases hu; rfl), E.ko, true, rfl, hD⟩⟩) (slip_cl hg hm hgV hmV r)
theorem w_slip {W : WX} {D : Ends} {c : Nat} {t : Str} {σ : St} {H : Hp} (hE : ErrX X.K (P.ca c)) (hr : ∀ H', H' = H → D.rt (.str t) H') : ∀ {ls : List (Nat × Nat × Str)}, lookC c ls = some t → (∀ l ∈ ls, PySem.W.exmOne X.K (.ref (P.ca c)) (.ref (P.ca l.1)) = some (decide (c = l.1))) →
    wClauses X.K W D (ls.map (slipCl P X.K)) (.ref (P.ca c)) none σ H
  | [], h, _ => by cases h
  | (c', i, t') :: ls, h, he => by
    unfold lookC at h
    refine ⟨decide (c = c'), he _ List.mem_cons_self, fun hb a ha => ?_, fun hb => ?_⟩
    · rw [if_pos (of_decide_eq_true hb)] at h
      cases h
      exact ⟨_, rfl, rfl, hE, ⟨σ, rfl⟩, hr H rfl⟩
    · rw [if_neg (of_decide_eq_false hb)] at h
      exact w_slip hE hr h fun l hl' => he l (List.mem_cons_of_mem _ hl')
theorem look_mem {c : Nat} {t : Str} : ∀ {ls : List (Nat × Nat × Str)}, lookC c ls = some t → c ∈ ls.map (·.1)
  | [], h => by cases h
  | (c', i, t') :: ls, h => by
    unfold lookC at h
    by_cases e : c = c'
    · rw [e]; exact List.mem_cons_self
    · rw [if_neg e] at h
      exact List.mem_cons_of_mem _ (look_mem h)
end
section
variable {X : Cx} {P : Px} {body : List Stmt} {h₀ : ExceptHandler} {hds : List ExceptHandler} {ls : List (Nat × Nat × Str)} {pos : Pos} {u : DEnv → M Out}
theorem ss_slip (hc : X.calm = true) (hN : X.N.Nodup) (hg : Gl X "isinstance") (hm : X.mg "isinstance" = none) (hgV : Gl X "ValueError") (hmV : X.mg "ValueError" = none)
    (hE : ∀ c ∈ ls.map (·.1), ErrX X.K (P.ca c)) (hM : ∀ c ∈ ls.map (·.1), ∀ l ∈ ls, PySem.W.exmOne X.K (.ref (P.ca c)) (.ref (P.ca l.1)) = some (decide (c = l.1)))
    (hb : ∀ (pn : List (Addr × Obj)) (xe : Value → Shared → Prop), PassesOwn (model X.prog X.w) X.A X.env xe → SSs (X.tr pn xe) P body u) (ok : SlipOk X P (h₀ :: hds) ls)
    (hs : X.stack = X.env :: X.outer := by rfl) (hf : X.env.frame = some X.env.locals := by rfl) : SS X P (.Try body (h₀ :: hds) [] [] pos) (sSlip ls u) := ⟨fun W tk =>
  ps_imp (ps_try_clauses (tb := fun W => rS P W u) hN hs hf tk (fun W pn xe t p => (hb pn xe p).ps W t) (slip_cl hg hm hgV hmV ok)) fun E σ H h => by
    obtain ⟨g, H0, ρ, b, hP, S, B, w⟩ := h
    refine ⟨g, H0, ρ, b, hP, S, B, ?_⟩
    have w : wpS g H0 W H (match u ρ b with
      | .ok o b => .ok o b
      | .exc ⟨c, none⟩ b => match lookC c ls with
        | some t => .ok (.rt (.str t)) b
        | none => .stk
      | _ => .stk) E := w
    match u ρ b, w with
    | .ok (.nx _) b, w => exact w
    | .ok (.rt _) b, w => exact w
    | .ok (.bk _) b, w => exact w
    | .ok (.ct _) b, w => exact w
    | .exc ⟨c, some i⟩ b, w => exact w.elim
    | .exc ⟨c, none⟩ b, w =>
      have w : wpS g H0 W H (match lookC c ls with
        | some t => .ok (.rt (.str t)) b
        | none => .stk) E := w
      cases el : lookC c ls with
      | none => rw [el] at w; exact w.elim
      | some t =>
        rw [el] at w
        intro cls dd σ' H' e Bx xr
        obtain ⟨rfl, rfl⟩ := xr
        rw [hP]
        have hc' := look_mem el
        exact w_slip (hE c hc') (fun H2 e2 => by rw [e2]; exact w (.str t) H' e Bx (.str t)) el (hM c hc')⟩
end
end Pu

set_option Elab.async false
set_option linter.all false
set_option maxRecDepth 100000
set_option maxHeartbeats 4000000
/-! The pure layer, part R: len(set(xs)), xs a list of tuples of ints; a Hook with one more look -/
namespace Pu
open PySem L2
theorem len_le_of {α : Type} [DecidableEq α] : ∀ {l m : List α}, l.Nodup → (∀ x ∈ l, x ∈ m) → l.length ≤ m.length
  | [], m, _, _ => Nat.zero_le _
  | a :: l, m, h, k => by
    obtain ⟨h1, h2⟩ := List.nodup_cons.mp h
    have ha := k a List.mem_cons_self
    have ih := len_le_of (l := l) (m := m.erase a) h2 fun x hx => (List.mem_erase_of_ne (fun z => h1 (by rw [← z]; exact hx))).mpr (k x (List.mem_cons_of_mem _ hx))
    rw [List.length_erase_of_mem ha] at ih
    have := List.length_pos_of_mem ha
    rw [List.length_cons]
    omega
theorem len_eq_of {α : Type} [DecidableEq α] {l m : List α} (h1 : l.Nodup) (h2 : m.Nodup) (h : ∀ x, x ∈ l ↔ x ∈ m) : l.length = m.length :=
  Nat.le_antisymm (len_le_of h1 fun x hx => (h x).mp hx) (len_le_of h2 fun x hx => (h x).mpr hx)
def nubL {α : Type} [DecidableEq α] : List α → List α
  | [] => []
  | x :: xs => if x ∈ xs then nubL xs else x :: nubL xs
theorem nub_mem {α : Type} [DecidableEq α] : ∀ {xs : List α} {z : α}, z ∈ nubL xs ↔ z ∈ xs
  | [], z => Iff.rfl
  | x :: xs, z => by
    unfold nubL
    split
    · rename_i h
      rw [nub_mem, List.mem_cons]
      exact ⟨.inr, fun q => q.elim (fun e => by rw [e]; exact h) id⟩
    · rw [List.mem_cons, List.mem_cons, nub_mem]
theorem nub_nd {α : Type} [DecidableEq α] : ∀ xs : List α, (nubL xs).Nodup
  | [] => List.Pairwise.nil
  | x :: xs => by
    unfold nubL
    split
    · exact nub_nd xs
    · rename_i h
      exact List.nodup_cons.mpr ⟨fun z => h (nub_mem.mp z), nub_nd xs⟩
def tLenSetT (K : PySem.W.Frag) (ta : TE) : TE := fun σ H Q => ta σ H fun x H1 => ∃ (l : Addr) (ks : List (Addr × List Int)), x = V.ref l ∧ SqL K H1 l (ks.map fun p => V.ref p.1) ∧ (∀ p ∈ ks, SqT K H1 p.1 (p.2.map V.int)) ∧ ks.length < 64 ∧ Q (.int (nubL (ks.map (·.2))).length) H1
theorem pe_lenSetT {X : Cx} {a : Expr} {ta : TE} {p p2 q pos : Pos} {k : Nat} (hr : Room k X.A) (hc : X.calm = true) (hg : Gl X "len") (hm : X.mg "len" = none) (hg2 : Gl X "set") (hm2 : X.mg "set" = none) (ha : PE X a ta)
    (na : starEach [a] X.env = (false, eval a X.env) :: starEach [] X.env := by rfl) : PE X (.Call (.Name "len" p) [.Call (.Name "set" p2) [a] [] q] [] pos) (tLenSetT X.K ta) := by
  refine ⟨fun pins s σ H Q I h => ?_⟩
  refine PyProof.Rows.Call_ (ld_blt I hg hm PySem.boot_len ?_)
  refine PyProof.Rows.callWith_builtin1 (PyProof.Rows.args_cons ?_ rfl) rfl rfl
  refine PyProof.Rows.Call_ (ld_blt I hg2 hm2 PyProof.Rows.boot_set ?_)
  refine PyProof.Rows.callWith_type1 (PyProof.Rows.args_cons (thn (ha.run pins s σ H _ I h) fun v s1 ⟨x, H1, I1, r1, q1⟩ => PyProof.Rows.args_nil ?_) na) na rfl
  obtain ⟨l, ks, rfl, hq, hk, h64, q1⟩ := q1
  cases r1
  obtain ⟨its, r, pl, hz⟩ := I1.list hq
  refine call_set_tups (P := X.prog) (w := X.w) ks (I1.ok.hd hc) pl.isList (by simpa using refs_of_vals r) (fun p hp => I1.isT (hk p hp)) h64 (by have := hr.un; omega) fun h' tk L es ep t R g kp => ?_
  refine PyProof.Rows.args_nil ?_
  have I2 : Inv X pins σ H1 { s1 with heap := h', toks := tk } := I1.kept kp
  obtain ⟨o, ho, hex, hd⟩ := R.ob
  have hsz : es.size = L.length := by
    have z := congrArg List.length R.rows
    rw [Array.length_toList, rowsOf, List.length_map] at z
    exact z
  have hfew := R.few
  have e : es.size = (nubL (ks.map (·.2))).length := by
    rw [hsz, ← List.length_map (f := (·.2)) (as := L)]
    refine len_eq_of R.nd (nub_nd _) fun x => ?_
    rw [nub_mem]
    constructor
    · intro hx
      obtain ⟨p, hp, e⟩ := List.mem_map.mp hx
      exact List.mem_map.mpr ⟨p, List.mem_of_mem_take (g.sub p hp), e⟩
    · intro hx
      obtain ⟨p, hp, e⟩ := List.mem_map.mp hx
      rw [← e]
      exact g.all p (by rw [List.take_length]; exact hp)
  exact call_len_set ho hex hd (SetTR.fits (s := { s1 with heap := h', toks := tk }) R) (by rw [hsz]; omega) ⟨.int (es.size : Int), H1, I2.tok _, ⟨_, rfl⟩, by rw [e]; exact q1⟩
def tupI : D → Option (List Int)
  | .tup xs => intsOf xs
  | _ => none
def tupIs : List D → Option (List (List Int))
  | [] => some []
  | d :: ds => match tupI d, tupIs ds with
    | some k, some ks => some (k :: ks)
    | _, _ => none
theorem tupIs_rep {P : Px} {O : Addr → Prop} {bx : Option Addr} {H : Hp} : ∀ {ds : List D} {vs : List V} {kss : List (List Int)}, Reps P O bx H ds vs → tupIs ds = some kss → ∃ ks : List (Addr × List Int), vs = ks.map (fun p => V.ref p.1) ∧ ks.map (·.2) = kss ∧ ∀ p ∈ ks, H p.1 = some (.tup (p.2.map V.int))
  | _, _, _, .nil, e => by
    cases e
    exact ⟨[], rfl, rfl, fun p hp => by cases hp⟩
  | d :: ds, _, kss, .cons h t, e => by
    unfold tupIs at e
    cases e1 : tupI d with
    | none => simp only [e1] at e; cases e
    | some k =>
      cases e2 : tupIs ds with
      | none => simp only [e1, e2] at e; cases e
      | some ks' =>
        simp only [e1, e2] at e
        cases e
        obtain ⟨ks, rfl, rfl, h3⟩ := tupIs_rep t e2
        unfold tupI at e1
        cases h with
        | @tup a xs vs q r =>
          have ev := ints_rep r e1
          subst ev
          exact ⟨(a, k) :: ks, rfl, rfl, fun p hp => by
            rcases List.mem_cons.mp hp with z | z
            · rw [z]; exact q
            · exact h3 p z⟩
        | _ => cases e1
def lenSet1 (d : D) : M D := match d.lseq with
  | some xs => match tupIs xs with
    | some ks => if ks.length < 64 then pure (.int (nubL ks).length) else stuck
    | none => stuck
  | none => stuck
section
variable {X : Cx} {P : Px} {a : Expr} {pos : Pos} {f : DEnv → M D}
theorem se_lenSet {p p2 q : Pos} {k : Nat} (hr : Room k X.A) (hc : X.calm = true) (hg : Gl X "len") (hm : X.mg "len" = none) (hg2 : Gl X "set") (hm2 : X.mg "set" = none) (ha : SE X P a f) (hK : X.K = P.K := by rfl)
    (na : starEach [a] X.env = (false, eval a X.env) :: starEach [] X.env := by rfl) : SE X P (.Call (.Name "len" p) [.Call (.Name "set" p2) [a] [] q] [] pos) (eUn lenSet1 f) :=
  ⟨fun W tk => pe_imp (pe_lenSetT hr hc hg hm hg2 hm2 (ha.pe W tk) na) fun σ H Q h => by
    obtain ⟨g, ρ, b, hP, S, w⟩ := h
    refine ⟨g, ρ, b, hP, S, (wpG.bind (R1 := RepT g) w).imp fun v H1 ⟨d, b1, e1, B1, r1, w1⟩ => ?_⟩
    unfold lenSet1 at w1
    cases e : d.lseq with
    | none => rw [e] at w1; exact w1.elim
    | some xs =>
      rw [e] at w1
      obtain ⟨a, vs, rfl, h, r⟩ := lseq_rep r1 e
      cases e2 : tupIs xs with
      | none => simp only [e2] at w1; exact w1.elim
      | some kss =>
        simp only [e2] at w1
        obtain ⟨hl, w2⟩ := wp_ite (c := kss.length < 64) (m := pure (D.int (nubL kss).length)) w1
        obtain ⟨ks, rfl, rfl, h3⟩ := tupIs_rep r e2
        rw [List.length_map] at hl
        exact ⟨a, ks, rfl, .inl (.inl h), fun p hp => sqt (h3 p hp), hl, wpG_ok w2 B1 (.rep (.int _))⟩⟩
end
theorem excCB_ok {K : PySem.W.Frag} {D : Addr} (h : excCB K D = true) : ErrX K D := by
  obtain ⟨h1, h⟩ := He.ba h
  obtain ⟨h2, h⟩ := He.ba h
  obtain ⟨h3, h⟩ := He.ba h
  obtain ⟨h4, h⟩ := He.ba h
  obtain ⟨h5, h⟩ := He.ba h
  obtain ⟨h6, h⟩ := He.ba h
  obtain ⟨h7, h⟩ := He.ba h
  obtain ⟨h8, h9⟩ := He.ba h
  exact ⟨⟨He.eqO_ok h1, He.eqO_ok h2, of_decide_eq_true h3, h4, He.eqO_ok h5, He.eqO_ok h6, of_decide_eq_true h7, of_decide_eq_true h8⟩, of_decide_eq_true h9⟩
end Pu

set_option Elab.async false
set_option linter.all false
set_option maxRecDepth 100000
set_option maxHeartbeats 4000000
/-! The pure layer, part S: items() of a dict with tuple keys -/
namespace Pu
open PySem L2
/-- the pairs of a locked dict with tuple keys, each in a new tuple -/
def ItiT (d : Addr) (o : Obj) (kvs : List (List Key × V)) : It :=
  ⟨fun i H => H d = some (.frz o (.dT kvs)) ∧ i < kvs.length,
   fun i H x H' => ∃ T k v q, kvs[i]? = some (k, v) ∧ x = .ref T ∧ H T = none ∧ H q = some (.tup (k.map kV)) ∧ H' = upd H T (.tup [.ref q, v]),
   fun i H => H d = some (.frz o (.dT kvs)) ∧ kvs.length ≤ i⟩
theorem frzTV {X : Cx} {pins : List (Addr × Obj)} {σ : St} {H : Hp} {s : Shared} {d : Addr} {o : Obj} {kvs : List (List Key × V)} (I : Inv X pins σ H s) (h : H d = some (.frz o (.dT kvs))) :
    (d == sysModules) = false ∧ s.heap.get? d = some o ∧ o.ExactDict ∧ ∃ (es : Array DictEntry) (ep : Nat), o.data = .dict es ep ∧ es.size = kvs.length ∧
      ∀ (i : Nat) (k : List Key) (v : V), kvs[i]? = some (k, v) → ∃ (en : DictEntry) (q : Addr), es[i]? = some en ∧ en.key = .ref q ∧ H q = some (.tup (k.map kV)) ∧ RelV v en.val := by
  obtain ⟨hd, z, hs, xs, pr, o', es, ep, ho, hx, hdt, he, _⟩ := I.hok d _ h
  rw [hd] at ho
  cases ho
  have l2 : kvs.length = xs.length := Paired.length pr
  have l1 : es.size = xs.length := by
    have z := congrArg List.length he
    rw [Array.length_toList, List.length_map] at z
    exact z
  refine ⟨hs, hd, hx, es, ep, hdt, by omega, fun i k v e => ?_⟩
  have get : ∀ {l : List (List Key × V)} {m : List (List Key × Addr × Value)} {i : Nat}, KT H l m → l[i]? = some (k, v) → ∃ p, m[i]? = some p ∧ k = p.1 ∧ H p.2.1 = some (.tup (k.map kV)) ∧ RelV v p.2.2 := by
    intro l m i q
    induction q generalizing i with
    | nil => intro h; simp at h
    | @cons p q ps qs hq t ih =>
      intro h
      cases i with
      | zero =>
        have h' : p = (k, v) := Option.some.inj h
        subst h'
        exact ⟨q, rfl, hq⟩
      | succ i =>
        obtain ⟨p', h1, h2⟩ := ih (i := i) (by simpa using h)
        exact ⟨p', by simpa using h1, h2⟩
  obtain ⟨p, hp, e1, e2, e3⟩ := get pr e
  refine ⟨entryOfKey (tupleKind (mixKind X.prog X.w)) p, p.2.1, ?_, rfl, e2, e3⟩
  rw [entry_at he i, hp]
  rfl
section
variable {P : Program} {w : World} {K : PySem.W.Frag} {d : Addr} {o : Obj} {es : Array DictEntry} {ep : Nat}
theorem turn_itemsT {kvs : List (List Key × V)} {elts : List Expr} {kk : Nat} {tpos : Pos} (it : Addr) (hod : o.data = .dict es ep) :
    Turn P w K (.Tuple elts kk tpos) (ItiT d o kvs) [it] it (fun i h => ∃ ok ov, IsItemIter h it d i es.size ep ok ov) where
  mem := by simp
  obj := fun i h st b hb => by
    have e : b = it := by simpa using hb
    subst e
    obtain ⟨ok, ov, e⟩ := st
    exact ⟨_, e, fun v z => nomatch z⟩
  keep := fun i h h' st k => let ⟨ok, ov, e⟩ := st; ⟨ok, ov, k it (by simp) _ e⟩
  item := by
    intro X hP hw hK hc i pins s σ H E I hf st hg
    subst hP hw hK
    obtain ⟨hd, hi⟩ := hg
    obtain ⟨hs, hgd, hx, es', ep', hdt, hsz, ent⟩ := frzTV I hd
    obtain ⟨rfl, rfl⟩ := dict_ep hod hdt
    obtain ⟨⟨k, v⟩, hkv⟩ : ∃ p, kvs[i]? = some p := ⟨kvs[i], List.getElem?_eq_getElem hi⟩
    obtain ⟨en, q, hen, hkey, hq, rv⟩ := ent i k v hkv
    obtain ⟨ok, ov, he⟩ := st
    have hlt : it < s.heap.objs.size := Heap.lt_size he
    have hie : i < es'.size := by omega
    have een : es'[i] = en := by
      rw [Array.getElem?_eq_getElem hie] at hen
      exact Option.some.inj hen
    refine DT.nextI he ⟨o, hgd, hx, hdt⟩ hie fun h' ho hT hz hk => ?_
    rw [een, hkey] at ho hT
    refine ⟨_, rfl, wpAny_letOwnedTupleGo_items (s := { s with heap := h' }) ho fun h'' he' sb => ?_⟩
    have hT2 : h''.get? s.heap.objs.size = some { cls := .type "tuple", data := .seq #[.ref q, en.val] } := (sb.2 _ (Nat.ne_of_gt hlt)).trans hT
    have new : ObjOk X.prog X.w (upd H s.heap.objs.size (.tup [.ref q, v])) h'' s.heap.objs.size (.tup [.ref q, v]) :=
      ⟨by show 2 ≤ sizeLine; decide, [.ref q, en.val], .cons rfl (.cons rv .nil), ⟨_, hT2, rfl, _, rfl⟩⟩
    have I1 : Inv X pins σ (upd H s.heap.objs.size (.tup [.ref q, v])) { s with heap := h'' } :=
      I.turnedNew (t' := s.toks) (ch := [it]) (fun b ob hb e => (sb.2 b (by simpa using hb)).trans (hk b ob (by simpa using hb) e)) hf (Nat.le_refl _) new
    refine ⟨.ref s.heap.objs.size, _, I1, rfl, ⟨_, k, v, q, hkv, rfl, I.hok.fresh (Nat.le_refl _), hq, rfl⟩, ⟨.ref q, en.val, he'⟩, fun b hb => ?_⟩
    have e : b = it := by simpa using hb
    rw [e, upd_ne (Nat.ne_of_lt hlt)]
    exact (hf it (by simp)).1
  done := by
    intro X hP hw hK hc i pins s σ H E I hf st hg
    subst hP hw hK
    obtain ⟨hd, hi⟩ := hg
    obtain ⟨f0, f1, f2, f3, f4, f5⟩ := hf it (by simp)
    obtain ⟨hs, hgd, hx, es', ep', hdt, hsz, ent⟩ := frzTV I hd
    obtain ⟨rfl, rfl⟩ := dict_ep hod hdt
    obtain ⟨ok, ov, he⟩ := st
    exact DT.endI (I.ok.hd hc) he ⟨o, hgd, hx, hdt⟩ (by omega) fun h' eb => ⟨rfl, I.turned (t' := s.toks) (fun b o hb e => eb b o hb e) f0 f1 f3 f4 f5⟩
  self := fun A i s Q E st h => let ⟨_, _, e⟩ := st; PySem.W.kcp_self e h
end
def iItemsT (td : TE) : TI := fun σ H R => td σ H fun x H1 => ∃ d o kvs, x = .ref d ∧ H1 d = some (.frz o (.dT kvs)) ∧ R (ItiT d o kvs) H1
theorem pi_itemsT {X : Cx} {e : Expr} {td : TE} {apos cpos : Pos} {elts : List Expr} {kk : Nat} {tpos : Pos} (he : PE X e td) (hbase : attributeBase e "items" X.env (eval e X.env) = eval e X.env := by rfl) (hline : (apos.endLine == cpos.line) = true := by rfl) :
    PI X (.Tuple elts kk tpos) (.Call (.Attribute e "items" apos) [] [] cpos) (iItemsT td) := by
  refine ⟨fun pins s σ H R I h => ?_⟩
  refine wpAny_Call_method (T := "dict") (id := "dict.items") hbase rfl hline PySem.F.plainAttrs_dict PySem.F.slot_dict_items PySem.F.type_dict_items (thn (he.run pins s σ H _ I h) fun u s1 ⟨x, H1, I1, rx, d, o, kvs, ex, hd, q⟩ => ?_)
  subst ex
  obtain rfl : u = Value.ref d := rx
  obtain ⟨hs, hgd, hx, es, ep, hdt, hsz, ent⟩ := frzTV I1 hd
  have ty : s1.TypeIs (.ref d) "dict" := ⟨o, hgd, hx.1⟩
  have raw : DT.Raw s1.heap d es ep := ⟨o, hgd, hx, hdt⟩
  refine ⟨ty, fun a e => (by cases e; exact ⟨o, hgd, hx.2.1⟩), ?_⟩
  have I2 : Inv X pins σ H1 { s1 with heap := s1.heap.push { cls := .type "dict_items", data := .fields #[.ref d] } } := I1.kept (t' := s1.toks) fun b ob q => Heap.get?_push_of_some _ q
  have fin : wpAny (model X.prog X.w) X.A (pyIter (.ref s1.heap.objs.size)) (PIE X pins σ (.Tuple elts kk tpos) R) X.xe { s1 with heap := s1.heap.push { cls := .type "dict_items", data := .fields #[.ref d] } } := by
    refine DT.iterI (d := d) ⟨_, Heap.get?_push_size _ rfl, rfl, rfl⟩ (raw.push _) (pi_one (tk := s1.toks) I2 _ (turn_itemsT _ hdt) ⟨.none, .none, ?_⟩ q)
    exact Heap.get?_push_size _ rfl
  show wpAny _ _ (callWith cpos (.builtin "dict.items") [.ref d] [] []) _ X.xe s1
  exact method_meetsIn PySem.F.slot_dict_items PySem.F.entry_dict_items rfl (PySem.evalArgs_none ⟨rfl, ty, PySem.F.args_dict_items_1 _, _, DT.meetsItems hs, raw, fin⟩)
end Pu

set_option Elab.async false
set_option linter.all false
set_option maxRecDepth 100000
set_option maxHeartbeats 4000000
/-! The pure layer, part T: a def that gathers places by tuples of ints in a dict and gives them sorted -/
namespace Pu
open PySem L2
/-- no list, no tuple stands at p -/
structure NoSeq (u : Option HO) : Prop where
  l : ∀ vs, u ≠ some (.lst vs)
  t : ∀ vs, u ≠ some (.tup vs)
  f : ∀ o vs, u ≠ some (.frz o (.lst vs))
section
variable {P : Px} {O : Addr → Prop} {bx : Option Addr} {H : Hp} {p : Addr} {u : HO}
mutual
theorem Rep.chg (h0 : NoSeq (H p)) : ∀ {d : D} {v : V}, Rep P O bx H d v → Rep P O bx (upd H p u) d v
  | _, _, .non => .non
  | _, _, .bl b => .bl b
  | _, _, .int i => .int i
  | _, _, .str x => .str x
  | _, _, .ty n => .ty n
  | _, _, .fn i => .fn i
  | _, _, .box h => .box h
  | _, _, .tup (a := a) h r => .tup (by rw [upd_ne (fun z => h0.t _ (by rw [← z]; exact h))]; exact h) (Reps.chg h0 r)
  | _, _, .lst (a := a) h n r => .lst (by rw [upd_ne (fun z => h0.l _ (by rw [← z]; exact h))]; exact h) n (Reps.chg h0 r)
  | _, _, .fro (a := a) h r => .fro (h.elim (fun ⟨ob, q⟩ => .inl ⟨ob, by rw [upd_ne (fun z => h0.f _ _ (by rw [← z]; exact q))]; exact q⟩) .inr) (Reps.chg h0 r)
theorem Reps.chg (h0 : NoSeq (H p)) : ∀ {ds : List D} {vs : List V}, Reps P O bx H ds vs → Reps P O bx (upd H p u) ds vs
  | _, _, .nil => .nil
  | _, _, .cons h t => .cons (Rep.chg h0 h) (Reps.chg h0 t)
end
end
theorem BoxOk.chg {g : Gh} {b : Bx} {H : Hp} {p : Addr} {u : HO} (h : BoxOk g b H) (h0 : NoSeq (H p)) : BoxOk g b (upd H p u) := by
  unfold BoxOk at h ⊢
  cases e : g.bx with
  | none => rw [e] at h; exact h
  | some a =>
    rw [e] at h
    exact ⟨h.1, by rw [upd_ne (fun z => h0.l _ (by rw [← z]; exact h.2))]; exact h.2⟩
theorem StE.chg {g : Gh} {ρ : DEnv} {b : Bx} {σ : St} {H : Hp} {p : Addr} {u : HO} (S : StE g ρ b σ H) (h0 : NoSeq (H p)) (m : g.O p → Mut (some u)) : StE g ρ b σ (upd H p u) := by
  refine ⟨S.len, fun i d h => ?_, S.sep, S.box.chg h0, fun a h => ?_⟩
  · obtain ⟨v, h1, h2⟩ := S.val i d h
    refine ⟨v, h1, ?_⟩
    cases h2 with
    | rep r => exact .rep (r.chg h0)
    | own q o n nb r => exact .own (by rw [upd_ne (fun z => h0.l _ (by rw [← z]; exact q))]; exact q) o n nb (r.chg h0)
  · by_cases z : a = p
    · rw [z, upd_same]
      exact m (z ▸ h)
    · rw [upd_ne z]
      exact S.mt a h
/-! ### the table -/
abbrev Tbl := List (List Int × List Int)
def getT (T : Tbl) (k : List Int) : List Int := match T with
  | [] => []
  | (k', v) :: r => if k' = k then v else getT r k
def hasT (T : Tbl) (k : List Int) : Bool := T.any fun kv => decide (kv.1 = k)
def repT (T : Tbl) (k v : List Int) : Tbl := T.map fun kv => if kv.1 = k then (kv.1, v) else kv
def putT (T : Tbl) (k v : List Int) : Tbl := if hasT T k = true then repT T k v else T ++ [(k, v)]
abbrev kI (k : List Int) : List L2.Key := k.map Sum.inl
theorem kI_inj {k k' : List Int} (h : kI k = kI k') : k = k' := by
  unfold kI at h
  exact List.map_inj_right (fun a b e => Sum.inl.inj e) |>.mp h
theorem kI_v (k : List Int) : (kI k).map kV = k.map V.int := by
  unfold kI
  rw [List.map_map]
  rfl
inductive TRep (O : Addr → Prop) (H : Hp) : Tbl → List (List L2.Key × V) → Prop
  | nil : TRep O H [] []
  | cons {k v : List Int} {l : Addr} {T : Tbl} {kvs : List (List L2.Key × V)} (h : H l = some (.lst (v.map V.int))) (n : ¬ O l) (t : TRep O H T kvs) : TRep O H ((k, v) :: T) ((kI k, .ref l) :: kvs)
section
variable {O : Addr → Prop} {H H' : Hp} {T : Tbl} {kvs : List (List L2.Key × V)}
theorem TRep.keep (k : ∀ a vs, ¬ O a → H a = some (.lst vs) → H' a = some (.lst vs)) (t : TRep O H T kvs) : TRep O H' T kvs := by
  induction t with
  | nil => exact .nil
  | cons h n t ih => exact .cons (k _ _ n h) n ih
theorem TRep.length (t : TRep O H T kvs) : kvs.length = T.length := by
  induction t with
  | nil => rfl
  | cons h n t ih => rw [List.length_cons, List.length_cons, ih]
theorem TRep.get (t : TRep O H T kvs) (k : List Int) : (valV kvs (kI k) = none ∧ getT T k = []) ∨ ∃ l, valV kvs (kI k) = some (.ref l) ∧ H l = some (.lst ((getT T k).map V.int)) ∧ ¬ O l := by
  induction t with
  | nil => exact .inl ⟨rfl, rfl⟩
  | @cons k' v l T kvs h n t ih =>
    by_cases e : k' = k
    · refine .inr ⟨l, valV_pos (by rw [e]), ?_, n⟩
      unfold getT
      rw [if_pos e]
      exact h
    · rw [valV_neg (fun z => e (kI_inj z))]
      unfold getT
      rw [if_neg e]
      exact ih
theorem TRep.has (t : TRep O H T kvs) (k : List Int) : (kvs.any fun kv => decide (kv.1 = kI k)) = hasT T k := by
  induction t with
  | nil => rfl
  | @cons k' v l T kvs h n t ih =>
    unfold hasT at ih ⊢
    rw [List.any_cons, List.any_cons, ih]
    congr 1
    by_cases e : k' = k
    · rw [decide_eq_true (by rw [e]), decide_eq_true e]
    · rw [decide_eq_false (fun z => e (kI_inj z)), decide_eq_false e]
theorem TRep.rep (t : TRep O H T kvs) (k v : List Int) {l : Addr} (h : H l = some (.lst (v.map V.int))) (n : ¬ O l) : TRep O H (repT T k v) (kvs.map fun kv => if kv.1 = kI k then (kv.1, .ref l) else kv) := by
  induction t with
  | nil => exact .nil
  | @cons k' v' l' T kvs h' n' t ih =>
    unfold repT at ih ⊢
    rw [List.map_cons, List.map_cons]
    by_cases e : k' = k
    · rw [if_pos e, if_pos (by rw [e])]
      exact .cons h n ih
    · rw [if_neg e, if_neg (fun z => e (kI_inj z))]
      exact .cons h' n' ih
theorem TRep.snoc (t : TRep O H T kvs) (k v : List Int) {l : Addr} (h : H l = some (.lst (v.map V.int))) (n : ¬ O l) : TRep O H (T ++ [(k, v)]) (kvs ++ [(kI k, .ref l)]) := by
  induction t with
  | nil => exact .cons h n .nil
  | cons h' n' t ih => exact .cons h' n' ih
theorem TRep.put (t : TRep O H T kvs) (k v : List Int) {l : Addr} (h : H l = some (.lst (v.map V.int))) (n : ¬ O l) : TRep O H (putT T k v) (putK kvs (kI k) (.ref l)) := by
  unfold putT putK
  rw [t.has k]
  cases hasT T k with
  | true => exact t.rep k v h n
  | false => exact t.snoc k v h n
end
end Pu

set_option Elab.async false
set_option linter.all false
set_option maxRecDepth 100000
set_option maxHeartbeats 4000000
/-! The pure layer, part U: the loops that gather, the end -/
namespace Pu
open PySem L2
def intAt (ρ : DEnv) (i : Nat) : Option Int := match ρ[i]? with
  | some (some (.int n)) => some n
  | _ => none
def keyAt (ρ : DEnv) (i : Nat) : Option (List Int) := match ρ[i]? with
  | some (some (.tup xs)) => intsOf xs
  | _ => none
theorem intAt_ok {g : Gh} {ρ : DEnv} {b : Bx} {σ : St} {H : Hp} (S : StE g ρ b σ H) {i : Nat} {n : Int} (h : intAt ρ i = some n) : σ[i]? = some (some (.int n)) := by
  unfold intAt at h
  split at h
  · rename_i m e
    cases h
    obtain ⟨v, h1, h2⟩ := S.val i _ e
    rw [h1, int_rt h2]
  · cases h
theorem keyAt_ok {g : Gh} {ρ : DEnv} {b : Bx} {σ : St} {H : Hp} (S : StE g ρ b σ H) {i : Nat} {k : List Int} (h : keyAt ρ i = some k) : ∃ a, σ[i]? = some (some (.ref a)) ∧ H a = some (.tup (k.map V.int)) := by
  unfold keyAt at h
  split at h
  · rename_i xs e
    obtain ⟨v, h1, h2⟩ := S.val i _ e
    cases h2 with
    | rep r =>
      cases r with
      | @tup a _ vs q r =>
        have ev := ints_rep r h
        subst ev
        exact ⟨a, h1, q⟩
  · cases h
structure LnS (g : Gh) (dA : Addr) (ρ : DEnv) (b : Bx) (σ : St) (H : Hp) (T : Tbl) : Prop where
  S : StE g ρ b σ H
  f : σ[1]? = some (some (.ref dA))
  o : g.O dA
  n0 : ¬ g.O0 dA
  nb : g.bx ≠ some dA
  d : ∃ kvs, H dA = some (.dT kvs) ∧ TRep g.O H T kvs
def lnPut (ρ : DEnv) (T : Tbl) : M Tbl := match keyAt ρ 5 with
  | some k => match intAt ρ 4 with
    | some i => match intAt ρ 2 with
      | some j => if (getT T k).length < 60 ∧ T.length < 100000 then pure (putT T k (usort (getT T k ++ [i, j]))) else stuck
      | none => stuck
    | none => stuck
  | none => stuck
theorem dT_noseq {kvs : List (List L2.Key × V)} : NoSeq (some (.dT kvs)) := ⟨fun _ h => (by cases h), fun _ h => (by cases h), fun _ _ h => (by cases h)⟩
theorem frzT_noseq {o : Obj} {kvs : List (List L2.Key × V)} : NoSeq (some (.frz o (.dT kvs))) := ⟨fun _ h => (by cases h), fun _ h => (by cases h), fun _ _ h => (by cases h)⟩
theorem Ex1.lst {bx : Option Addr} {H H' : Hp} {O : Addr → Prop} (e : Ex1 bx H H') (bo : ∀ a, bx = some a → O a) : ∀ a vs, ¬ O a → H a = some (.lst vs) → H' a = some (.lst vs) := fun a vs n h => e a _ (fun z => n (bo a z)) h
section
variable {K : PySem.W.Frag} {g : Gh} {H0 : Hp} {W : WX} {E D : Ends} {dA : Addr} {ρ : DEnv} {b : Bx} {σ : St} {H : Hp} {T : Tbl} {k : Tbl → M Out}
/-- the value that is stored is made: then the store -/
theorem ln_store {kk : List Int} {ka : Addr} {v : List Int} (L : LnS g dA ρ b σ H T) (B : Base g H0 H) (h5 : σ[5]? = some (some (.ref ka))) (hk : H ka = some (.tup (kk.map V.int))) (hl : T.length < 100000)
    (nx : ∀ H' T', Tr g.O H g.O H' → LnS g dA ρ b σ H' T' → Base g H0 H' → T' = putT T kk v → D.nx σ H') {p : Addr} {H1 : Hp} (e1 : Ex1 g.bx H H1) (B1 : BoxOk g b H1) (hp : H1 p = none) :
    gSub (tVar 1) (tVar 5) rSetD (.ref p) σ (upd H1 p (.lst (v.map V.int))) D.nx := by
  obtain ⟨kvs, hd, t⟩ := L.d
  have e2 : Ex1 g.bx H (upd H1 p (.lst (v.map V.int))) := e1.trans (Ex1.new hp)
  have S2 := L.S.mono e2 (B1.new hp)
  have hd2 : upd H1 p (.lst (v.map V.int)) dA = some (.dT kvs) := e2 dA _ L.nb hd
  have hk2 : upd H1 p (.lst (v.map V.int)) ka = some (.tup (kk.map V.int)) := e2 ka _ (fun z => by
    obtain ⟨_, vs, q⟩ := L.S.box.bxl ka z
    rw [hk] at q; cases q) hk
  have np : ¬ g.O p := fun z => L.S.trk p z (fresh_back B1.bxl e1 hp)
  have t2 := t.keep (H' := upd H1 p (.lst (v.map V.int))) (e2.lst L.S.bo)
  have ns : NoSeq (upd H1 p (.lst (v.map V.int)) dA) := by rw [hd2]; exact dT_noseq
  have S3 : StE g ρ b σ (upd (upd H1 p (.lst (v.map V.int))) dA (.dT (putK kvs (kI kk) (.ref p)))) := S2.chg ns fun _ => trivial
  have t3 : TRep g.O (upd (upd H1 p (.lst (v.map V.int))) dA (.dT (putK kvs (kI kk) (.ref p)))) (putT T kk v) (putK kvs (kI kk) (.ref p)) := by
    have t4 := t2.put kk v upd_same np
    exact t4.keep fun a vs n h => by rw [upd_ne (fun z => n (by rw [z]; exact L.o))]; exact h
  refine ⟨.ref dA, L.f, .ref ka, h5, dA, _, rfl, DPut.t (k := kI kk) hd2 (by rw [kI_v]; exact hk2) (by rw [t.length]; exact szlt hl), ?_⟩
  have ba : Base g H0 (upd (upd H1 p (.lst (v.map V.int))) dA (.dT (putK kvs (kI kk) (.ref p)))) := by
    have b2 := B.at e2
    refine ⟨b2.sub, b2.new, fun a u n q => ?_, b2.trk⟩
    by_cases z : a = dA
    · subst z
      have q2 := (B.new a L.o).resolve_left L.n0
      rw [q2] at q; cases q
    · rw [upd_ne z]
      exact b2.ex a u n q
  exact nx _ _ ⟨fun a u n q => by rw [upd_ne (fun z => n (by rw [z]; exact L.o))]; exact e2 a u (fun z => n (L.S.bo a z)) q, fun _ h => .inl h⟩ ⟨S3, L.f, L.o, L.n0, L.nb, _, upd_same, t3⟩ ba rfl
/-- found[line] = sorted(set(found.get(line, []) + [its, place])) -/
theorem ln_put (L : LnS g dA ρ b σ H T) (B : Base g H0 H) (w : wpS g H0 W H ((lnPut ρ T b).bind k) E)
    (nx : ∀ H' T', Tr g.O H g.O H' → LnS g dA ρ b σ H' T' → Base g H0 H' → wpS g H0 W H (k T' b) E → D.nx σ H') :
    tAsg (tSortSet K (tOp rCat (tDGet2 (tVar 1) (tVar 5) (tLst tNil)) (tLst (tCons (tVar 4) (tCons (tVar 2) tNil))))) (gSub (tVar 1) (tVar 5) rSetD) D σ H := by
  unfold lnPut at w
  cases e5 : keyAt ρ 5 with
  | none => simp only [e5] at w; exact w.elim
  | some kk =>
    cases e4 : intAt ρ 4 with
    | none => simp only [e5, e4] at w; exact w.elim
    | some i =>
      cases e2 : intAt ρ 2 with
      | none => simp only [e5, e4, e2] at w; exact w.elim
      | some j =>
        simp only [e5, e4, e2] at w
        have hc : ((getT T kk).length < 60 ∧ T.length < 100000) ∧ wpS g H0 W H (k (putT T kk (usort (getT T kk ++ [i, j]))) b) E := by
          by_cases c : (getT T kk).length < 60 ∧ T.length < 100000
          · rw [if_pos c] at w
            exact ⟨c, w⟩
          · rw [if_neg c] at w
            exact w.elim
        obtain ⟨⟨hl, hT⟩, w⟩ := hc
        obtain ⟨ka, h5, hk⟩ := keyAt_ok L.S e5
        have h4 := intAt_ok L.S e4
        have h2 := intAt_ok L.S e2
        obtain ⟨kvs, hd, t⟩ := L.d
        have kx : g.bx ≠ some ka := fun z => by
          obtain ⟨_, vs, q⟩ := L.S.box.bxl ka z
          rw [hk] at q; cases q
        have store : ∀ {p : Addr} {H1 : Hp}, Ex1 g.bx H H1 → BoxOk g b H1 → H1 p = none → gSub (tVar 1) (tVar 5) rSetD (.ref p) σ (upd H1 p (.lst ((usort (getT T kk ++ [i, j])).map V.int))) D.nx := fun e1 B1 hp =>
          ln_store L B h5 hk hT (fun H' T' tr L' B' eT => nx H' T' tr L' B' (by rw [eT]; exact w)) e1 B1 hp
        refine ⟨.ref dA, L.f, dA, rfl, .inr ⟨kvs, .inl hd⟩, .ref ka, h5, Nat.zero_le _, fun p0 n0 => ?_⟩
        have ex0 : Ex1 g.bx H (upd H p0 (.lst [])) := Ex1.new n0
        have B0 : BoxOk g b (upd H p0 (.lst [])) := L.S.box.new n0
        refine ⟨valV kvs (kI kk), DGet.t (ex0 dA _ L.nb hd) (by rw [kI_v]; exact ex0 ka _ kx hk), ?_⟩
        -- the list that stands for it
        have old : ∃ q, ((valV kvs (kI kk)).getD (.ref p0)) = .ref q ∧ upd H p0 (.lst []) q = some (.lst ((getT T kk).map V.int)) := by
          rcases t.get kk with ⟨a1, a2⟩ | ⟨l, a1, a2, a3⟩
          · rw [a1, a2]
            exact ⟨p0, rfl, upd_same⟩
          · rw [a1]
            refine ⟨l, rfl, ?_⟩
            rw [upd_ne (ne_of_none a2 n0)]
            exact a2
        obtain ⟨q, eq, hq⟩ := old
        rw [eq]
        refine ⟨.int i, h4, .int j, h2, by show 2 ≤ sizeLine; decide, fun p1 n1 => ?_⟩
        have ex1 : Ex1 g.bx H (upd (upd H p0 (.lst [])) p1 (.lst [.int i, .int j])) := ex0.trans (Ex1.new n1)
        have B1 : BoxOk g b (upd (upd H p0 (.lst [])) p1 (.lst [.int i, .int j])) := B0.new n1
        refine ⟨q, p1, (getT T kk).map V.int, [.int i, .int j], rfl, rfl, by rw [upd_ne (ne_of_none hq n1)]; exact hq, upd_same, ?_, fun p2 n2 => ?_⟩
        · rw [List.length_map]
          show _ + 2 ≤ _
          exact szl (by omega)
        have ex2 := ex1.trans (Ex1.new (bx := g.bx) (o := .lst ((getT T kk).map V.int ++ [.int i, .int j])) n2)
        have B2 := B1.new (o := .lst ((getT T kk).map V.int ++ [.int i, .int j])) n2
        refine ⟨p2, getT T kk ++ [i, j], rfl, .inl (.inl (by rw [List.map_append]; exact upd_same)), by have := usort_len (getT T kk ++ [i, j]); rw [List.length_append] at this ⊢; have : (usort (getT T kk ++ [i, j])).length ≤ (getT T kk).length + 2 := this; exact ⟨by show _ + 2 < 4000; omega, by omega⟩, fun p3 n3 => ?_⟩
        exact store ex2 B2 n3
end
end Pu

set_option Elab.async false
set_option linter.all false
set_option maxRecDepth 100000
set_option maxHeartbeats 4000000
/-! The pure layer, part V: the loops that gather -/
namespace Pu
open PySem L2
def lnInner (kI : D → DEnv → Option DEnv) (fL : DEnv → M D) : List D → DEnv → Tbl → M (DEnv × Tbl)
  | [], ρ, T => pure (ρ, T)
  | d :: ds, ρ, T => match kI d ρ with
    | some ρ1 => fL ρ1 >>= fun l => chk l >>= fun l => lnPut (ρ1.set 5 (some l)) T >>= fun T' => lnInner kI fL ds (ρ1.set 5 (some l)) T'
    | none => stuck
def lnOuter (kO : D → DEnv → Option DEnv) (fsI : DEnv → M (List D)) (kI : D → DEnv → Option DEnv) (fL : DEnv → M D) : List D → DEnv → Tbl → M (DEnv × Tbl)
  | [], ρ, T => pure (ρ, T)
  | d :: ds, ρ, T => match kO d ρ with
    | some ρ1 => fsI ρ1 >>= fun js => lnInner kI fL js ρ1 T >>= fun r => lnOuter kO fsI kI fL ds r.1 r.2
    | none => stuck
theorem LnS.mono {g : Gh} {dA : Addr} {ρ : DEnv} {b b' : Bx} {σ : St} {H H' : Hp} {T : Tbl} (L : LnS g dA ρ b σ H T) (e : Ex1 g.bx H H') (B : BoxOk g b' H') : LnS g dA ρ b' σ H' T := by
  obtain ⟨kvs, hd, t⟩ := L.d
  exact ⟨L.S.mono e B, L.f, L.o, L.n0, L.nb, kvs, e dA _ L.nb hd, t.keep (e.lst L.S.bo)⟩
theorem LnS.tgt {g : Gh} {dA : Addr} {ρ ρ' : DEnv} {b : Bx} {σ σ' : St} {H : Hp} {T : Tbl} {js : List Nat} (L : LnS g dA ρ b σ H T) (S : StE g ρ' b σ' H) (a : Agr js σ σ') (h : 1 ∉ js) : LnS g dA ρ' b σ' H T :=
  ⟨S, (a.2 1 h).trans L.f, L.o, L.n0, L.nb, L.d⟩
abbrev tStore (K : PySem.W.Frag) : TS := tAsg (tSortSet K (tOp rCat (tDGet2 (tVar 1) (tVar 5) (tLst tNil)) (tLst (tCons (tVar 4) (tCons (tVar 2) tNil))))) (gSub (tVar 1) (tVar 5) rSetD)
section
variable {P : Px} {K : PySem.W.Frag} {g : Gh} {H0 : Hp} {W : WX} {E D0 : Ends} {dA : Addr} {ρ : DEnv} {b : Bx} {σ : St} {H : Hp} {T : Tbl} {jsI jsO : List Nat} {kI kO : D → DEnv → Option DEnv} {fsI fsO : DEnv → M (List D)} {fL : DEnv → M D} {k : DEnv × Tbl → M Out}
theorem ln_inner (hP : g.P = P) (h1 : 1 ∉ jsI) (L : LnS g dA ρ b σ H T) (B : Base g H0 H) (w : wpS g H0 W H ((fsI ρ b).bind fun js => lnInner kI fL js ρ T >>= k) E)
    (nx : ∀ ρ' b' σ' H' T', Tr g.O H g.O H' → LnS g dA ρ' b' σ' H' T' → Base g H0 H' → wpS g H0 W H' (k (ρ', T') b') E → D0.nx σ' H') :
    tFor (rG P W (fun g H ds J => JOk g H ds J) fsI) (rP P jsI kI) (tSeq (tAsg (rE P W fL) (gName 5)) (tStore K)) D0 σ H := by
  refine ⟨g, ρ, b, hP, L.S, (wpS_bind (R1 := fun H ds J => JOk g H ds J) w B).imp fun J H1 ⟨ds, b1, e1, B1, jok, w1⟩ => ?_⟩
  have L1 := L.mono e1 B1
  have t01 : Tr g.O H g.O H1 := Tr.ex e1 L.S.bo
  refine ⟨fun i m σ' H' => m = ds.length - i ∧ i ≤ ds.length ∧ ∃ ρ' b' T', LnS g dA ρ' b' σ' H' T' ∧ Base g H0 H' ∧ Tr g.O H1 g.O H' ∧ wpS g H0 W H' ((lnInner kI fL (ds.drop i) ρ' T' b').bind k) E,
    ⟨ds.length, rfl, Nat.zero_le _, ρ, b1, T, L1, B.at e1, Tr.refl, wpS.at (g := g) t01 w1⟩, ?_⟩
  rintro i m σ' H' ⟨rfl, hl, ρ', b', T', L', B', t', w'⟩
  obtain ⟨j1, j2⟩ := jok g.O H' t' L'.S.mt i
  by_cases hlt : i < ds.length
  · have hd : ds[i]? = some ds[i] := List.getElem?_eq_getElem hlt
    have ed : ds.drop i = ds[i] :: ds.drop (i + 1) := List.drop_eq_getElem_cons hlt
    obtain ⟨go, yl⟩ := j1 _ hd
    rw [ed] at w'
    refine .inr ⟨go, fun σ2 H2 => ∃ ρ2 b2 T2, LnS g dA ρ2 b2 σ2 H2 T2 ∧ Base g H0 H2 ∧ Tr g.O H1 g.O H2 ∧ wpS g H0 W H2 ((lnInner kI fL (ds.drop (i + 1)) ρ2 T2 b2).bind k) E, fun σ2 H2 n2 => ⟨ds.length - (i + 1), by omega, rfl, hlt, n2⟩, fun x H2 y => ?_⟩
    obtain ⟨keep, rx⟩ := yl x H2 y
    have e2 : Ex1 g.bx H' H2 := fun a o _ q => keep a o q
    have L2' := L'.mono e2 (L'.S.box.ex keep)
    have t2 : Tr g.O H' g.O H2 := Tr.ex e2 L.S.bo
    have w' : wpS g H0 W H' (((match kI ds[i] ρ' with
      | some ρ1 => fL ρ1 >>= fun l => chk l >>= fun l => lnPut (ρ1.set 5 (some l)) T' >>= fun T'' => lnInner kI fL (ds.drop (i + 1)) (ρ1.set 5 (some l)) T''
      | none => stuck : M (DEnv × Tbl)) b').bind k) E := w'
    cases ek : kI ds[i] ρ' with
    | none => simp only [ek] at w'; exact w'.elim
    | some ρ1 =>
      simp only [ek] at w'
      refine ⟨g, ρ', b', _, hP, L2'.S, rx, ρ1, ek, fun σ3 S3 ag => ?_⟩
      have L3 := L2'.tgt S3 ag h1
      have B2 := B'.at e2
      have w2 := wpS.at (g := g) t2 w'
      have em : ∀ bb : Bx, Res.bind ((fL ρ1 >>= fun l => chk l >>= fun l => lnPut (ρ1.set 5 (some l)) T' >>= fun T'' => lnInner kI fL (ds.drop (i + 1)) (ρ1.set 5 (some l)) T'' : M (DEnv × Tbl)) bb) k
          = Res.bind (fL ρ1 bb) fun l => (chk l >>= fun l => lnPut (ρ1.set 5 (some l)) T' >>= fun T'' => lnInner kI fL (ds.drop (i + 1)) (ρ1.set 5 (some l)) T'' >>= k) := fun bb => by
        show Res.bind (Res.bind (fL ρ1 bb) _) k = _
        cases fL ρ1 bb with
        | ok l b9 =>
          show Res.bind (Res.bind (chk l b9) _) k = Res.bind (chk l b9) _
          cases chk l b9 with
          | ok l b9 =>
            show Res.bind (Res.bind (lnPut (ρ1.set 5 (some l)) T' b9) _) k = Res.bind (lnPut (ρ1.set 5 (some l)) T' b9) _
            cases lnPut (ρ1.set 5 (some l)) T' b9 <;> rfl
          | exc x b9 => rfl
          | stk => rfl
        | exc x b9 => rfl
        | stk => rfl
      rw [em] at w2
      refine ⟨g, ρ1, b', hP, L3.S, (wpS_bind (R1 := RepT g) w2 B2).imp fun v H3 ⟨d, b3, e3, B3, r3, w3⟩ => ?_⟩
      obtain ⟨rd, w4⟩ := chk_repS r3 w3
      have L4 := L3.mono e3 B3
      have t3 : Tr g.O H2 g.O H3 := Tr.ex e3 L.S.bo
      have L5 : LnS g dA (ρ1.set 5 (some d)) b3 (σ3.set 5 (some v)) H3 T' := ⟨L4.S.set rd 5, (List.getElem?_set_ne (by decide)).trans L4.f, L4.o, L4.n0, L4.nb, L4.d⟩
      refine ln_put L5 (B2.at e3) (k := fun T'' => lnInner kI fL (ds.drop (i + 1)) (ρ1.set 5 (some d)) T'' >>= k) (wpS.at (g := g) t3 w4) fun H5 T5 t5 L6 B6 w6 => ?_
      exact ⟨_, b3, T5, L6, B6, (t'.trans t2).trans (t3.trans t5), wpS.at (g := g) t5 w6⟩
  · have e : i = ds.length := by omega
    subst e
    rw [List.drop_length] at w'
    exact .inl ⟨j2 (Nat.le_refl _), nx ρ' b' σ' H' T' (t01.trans t') L' B' w'⟩
theorem ln_outer (hP : g.P = P) (h1 : 1 ∉ jsI) (h2 : 1 ∉ jsO) (L : LnS g dA ρ b σ H T) (B : Base g H0 H) (w : wpS g H0 W H ((fsO ρ b).bind fun ds => lnOuter kO fsI kI fL ds ρ T >>= k) E)
    (nx : ∀ ρ' b' σ' H' T', Tr g.O H g.O H' → LnS g dA ρ' b' σ' H' T' → Base g H0 H' → wpS g H0 W H' (k (ρ', T') b') E → D0.nx σ' H') :
    tFor (rG P W (fun g H ds J => JOk g H ds J) fsO) (rP P jsO kO) (tFor (rG P W (fun g H ds J => JOk g H ds J) fsI) (rP P jsI kI) (tSeq (tAsg (rE P W fL) (gName 5)) (tStore K))) D0 σ H := by
  refine ⟨g, ρ, b, hP, L.S, (wpS_bind (R1 := fun H ds J => JOk g H ds J) w B).imp fun J H1 ⟨ds, b1, e1, B1, jok, w1⟩ => ?_⟩
  have L1 := L.mono e1 B1
  have t01 : Tr g.O H g.O H1 := Tr.ex e1 L.S.bo
  refine ⟨fun i m σ' H' => m = ds.length - i ∧ i ≤ ds.length ∧ ∃ ρ' b' T', LnS g dA ρ' b' σ' H' T' ∧ Base g H0 H' ∧ Tr g.O H1 g.O H' ∧ wpS g H0 W H' ((lnOuter kO fsI kI fL (ds.drop i) ρ' T' b').bind k) E,
    ⟨ds.length, rfl, Nat.zero_le _, ρ, b1, T, L1, B.at e1, Tr.refl, wpS.at (g := g) t01 w1⟩, ?_⟩
  rintro i m σ' H' ⟨rfl, hl, ρ', b', T', L', B', t', w'⟩
  obtain ⟨j1, j2⟩ := jok g.O H' t' L'.S.mt i
  by_cases hlt : i < ds.length
  · have hd : ds[i]? = some ds[i] := List.getElem?_eq_getElem hlt
    have ed : ds.drop i = ds[i] :: ds.drop (i + 1) := List.drop_eq_getElem_cons hlt
    obtain ⟨go, yl⟩ := j1 _ hd
    rw [ed] at w'
    refine .inr ⟨go, fun σ2 H2 => ∃ ρ2 b2 T2, LnS g dA ρ2 b2 σ2 H2 T2 ∧ Base g H0 H2 ∧ Tr g.O H1 g.O H2 ∧ wpS g H0 W H2 ((lnOuter kO fsI kI fL (ds.drop (i + 1)) ρ2 T2 b2).bind k) E, fun σ2 H2 n2 => ⟨ds.length - (i + 1), by omega, rfl, hlt, n2⟩, fun x H2 y => ?_⟩
    obtain ⟨keep, rx⟩ := yl x H2 y
    have e2 : Ex1 g.bx H' H2 := fun a o _ q => keep a o q
    have L2' := L'.mono e2 (L'.S.box.ex keep)
    have t2 : Tr g.O H' g.O H2 := Tr.ex e2 L.S.bo
    have w' : wpS g H0 W H' (((match kO ds[i] ρ' with
      | some ρ1 => fsI ρ1 >>= fun js => lnInner kI fL js ρ1 T' >>= fun r => lnOuter kO fsI kI fL (ds.drop (i + 1)) r.1 r.2
      | none => stuck : M (DEnv × Tbl)) b').bind k) E := w'
    cases ek : kO ds[i] ρ' with
    | none => simp only [ek] at w'; exact w'.elim
    | some ρ1 =>
      simp only [ek] at w'
      refine ⟨g, ρ', b', _, hP, L2'.S, rx, ρ1, ek, fun σ3 S3 ag => ?_⟩
      have L3 := L2'.tgt S3 ag h2
      have B2 := B'.at e2
      have w2 := wpS.at (g := g) t2 w'
      have em : Res.bind ((fsI ρ1 >>= fun js => lnInner kI fL js ρ1 T' >>= fun r => lnOuter kO fsI kI fL (ds.drop (i + 1)) r.1 r.2 : M (DEnv × Tbl)) b') k
          = Res.bind (fsI ρ1 b') fun js => (lnInner kI fL js ρ1 T' >>= fun r => lnOuter kO fsI kI fL (ds.drop (i + 1)) r.1 r.2 >>= k) := by
        show Res.bind (Res.bind (fsI ρ1 b') _) k = _
        cases fsI ρ1 b' with
        | ok js b9 =>
          show Res.bind (Res.bind (lnInner kI fL js ρ1 T' b9) _) k = Res.bind (lnInner kI fL js ρ1 T' b9) _
          cases lnInner kI fL js ρ1 T' b9 <;> rfl
        | exc x b9 => rfl
        | stk => rfl
      rw [em] at w2
      refine ln_inner (K := K) hP h1 L3 B2 (k := fun r => lnOuter kO fsI kI fL (ds.drop (i + 1)) r.1 r.2 >>= k) w2 fun ρ5 b5 σ5 H5 T5 t5 L5 B5 w5 => ?_
      exact ⟨ρ5, b5, T5, L5, B5, (t'.trans t2).trans t5, w5⟩
  · have e : i = ds.length := by omega
    subst e
    rw [List.drop_length] at w'
    exact .inl ⟨j2 (Nat.le_refl _), nx ρ' b' σ' H' T' (t01.trans t') L' B' w'⟩
end
end Pu

set_option Elab.async false
set_option linter.all false
set_option maxRecDepth 100000
set_option maxHeartbeats 4000000
/-! The pure layer, part W: the def that gathers, whole -/
namespace Pu
open PySem L2
theorem StE.moreO {g : Gh} {ρ : DEnv} {b b' : Bx} {σ : St} {H H' : Hp} {p : Addr} (S : StE g ρ b σ H) (hp : H p = none) (e : Ex1 g.bx H H') (B : BoxOk g b' H') (hq : Mut (H' p)) : StE (g.at fun a => g.O a ∨ a = p) ρ b' σ H' := by
  have w : ∀ a, (g.O a ∨ a = p) → g.O a ∨ H a = none := fun a h => h.elim .inl fun z => .inr (by rw [z]; exact hp)
  have bl : BxL (fun a => g.O a ∨ a = p) g.bx H := fun a z => ⟨.inl (S.bo a z), (S.box.bxl a z).2⟩
  refine ⟨S.len, fun i d h => ?_, S.sep, ?_, fun a h => ?_⟩
  · obtain ⟨v, h1, h2⟩ := S.val i d h
    refine ⟨v, h1, ?_⟩
    cases h2 with
    | rep r => exact .rep ((r.own w).mono bl e)
    | own q o n nb r => exact .own (e _ _ nb q) (.inl o) n nb ((r.own w).mono bl e)
  · unfold BoxOk at B ⊢
    cases eb : g.bx with
    | none => rw [eb] at B; exact B
    | some a =>
      rw [eb] at B
      exact ⟨⟨B.1.1, .inl B.1.2⟩, B.2⟩
  · rcases h with h | h
    · exact (S.mono e B).mt a h
    · rw [h]
      exact hq
theorem StE.hid {g : Gh} {ρ : DEnv} {b : Bx} {σ : St} {H : Hp} {i : Nat} {x : Option V} (S : StE g ρ b σ H) (h : ρ[i]? = some none) : StE g ρ b (σ.set i x) H := by
  have ne : ∀ (j : Nat) (d : D), ρ[j]? = some (some d) → i ≠ j := fun j d hj e => by
    rw [← e, h] at hj
    cases hj
  refine ⟨by rw [List.length_set]; exact S.len, fun j d hj => ?_, fun j l ds es a h1 h2 h3 h4 => ?_, S.box, S.mt⟩
  · rw [List.getElem?_set_ne (ne j d hj)]
    exact S.val j d hj
  · rw [List.getElem?_set_ne (ne j _ h1)] at h3
    rw [List.getElem?_set_ne (ne l _ h2)] at h4
    exact S.sep j l ds es a h1 h2 h3 h4
theorem StE.less {g : Gh} {ρ : DEnv} {b : Bx} {σ : St} {H : Hp} {p : Addr} (S : StE g ρ b σ H) (hp : ∀ vs, H p ≠ some (.lst vs)) : StE (g.at fun a => g.O a ∧ a ≠ p) ρ b σ H := by
  refine ⟨S.len, fun i d h => ?_, S.sep, ?_, fun a h => S.mt a h.1⟩
  · obtain ⟨v, h1, h2⟩ := S.val i d h
    refine ⟨v, h1, ?_⟩
    cases h2 with
    | rep r => exact .rep (r.own fun a h => .inl h.1)
    | own q o n nb r => exact .own q ⟨o, fun z => hp _ (by rw [← z]; exact q)⟩ n nb (r.own fun a h => .inl h.1)
  · have B := S.box
    unfold BoxOk at B ⊢
    cases eb : g.bx with
    | none => rw [eb] at B; exact B
    | some a =>
      rw [eb] at B
      exact ⟨⟨B.1.1, B.1.2, fun z => hp _ (by rw [← z]; exact B.2)⟩, B.2⟩
def itemD (kv : List Int × List Int) : D := .tup [.tup (kv.1.map D.int), .lst (kv.2.map D.int)]
theorem TRep.at {O : Addr → Prop} {H : Hp} {T : Tbl} {kvs : List (List L2.Key × V)} (t : TRep O H T kvs) : ∀ {i : Nat} {k v : List Int}, T[i]? = some (k, v) → ∃ l, kvs[i]? = some (kI k, .ref l) ∧ H l = some (.lst (v.map V.int)) ∧ ¬ O l := by
  induction t with
  | nil => intro i k v h; simp at h
  | @cons k' v' l T kvs h n t ih =>
    intro i k v hi
    cases i with
    | zero =>
      have e : (k', v') = (k, v) := Option.some.inj hi
      cases e
      exact ⟨l, rfl, h, n⟩
    | succ i =>
      obtain ⟨l', h1, h2, h3⟩ := ih (i := i) (by simpa using hi)
      exact ⟨l', by simpa using h1, h2, h3⟩
theorem TRep.sub {O O' : Addr → Prop} {H : Hp} {T : Tbl} {kvs : List (List L2.Key × V)} (w : ∀ a, O' a → O a) (t : TRep O H T kvs) : TRep O' H T kvs := by
  induction t with
  | nil => exact .nil
  | cons h n t ih => exact .cons h (fun z => n (w _ z)) ih
theorem jok_items {g : Gh} {H : Hp} {dA : Addr} {od : Obj} {T : Tbl} {kvs : List (List L2.Key × V)} (hd : H dA = some (.frz od (.dT kvs))) (t : TRep g.O H T kvs) (no : ¬ g.O dA) : JOk g H (T.map itemD) (ItiT dA od kvs) := fun O' H' tr m i => by
  have hd' : H' dA = some (.frz od (.dT kvs)) := tr.keep _ _ no hd
  refine ⟨fun d hi => ?_, fun hl => ⟨hd', by rw [t.length, ← List.length_map (f := itemD)]; exact hl⟩⟩
  rw [List.getElem?_map] at hi
  cases e : T[i]? with
  | none => rw [e] at hi; cases hi
  | some kv =>
    rw [e] at hi
    obtain rfl := Option.some.inj hi
    obtain ⟨k, v⟩ := kv
    obtain ⟨l, h1, h2, h3⟩ := t.at e
    have h2' := tr.keep _ _ h3 h2
    have nl : ¬ O' l := fun z => (tr.own l z).elim h3 fun q => by rw [h2] at q; cases q
    refine ⟨⟨hd', get_len h1⟩, fun x H2 y => ?_⟩
    obtain ⟨T0, kk, vv, q, hk, rfl, hT, hq, rfl⟩ := y
    rw [h1] at hk
    cases hk
    refine ⟨new_keep hT, .tup upd_same (.cons (.tup (vs := k.map V.int) ?_ (reps_ints k)) (.cons (.lst (vs := v.map V.int) (new_keep hT _ _ h2') nl (reps_ints v)) .nil))⟩
    rw [kI_v] at hq
    exact new_keep hT _ _ hq
section
variable {X : Cx} {P : Px} {f : DEnv → M D} {k : D → DEnv → Option DEnv}
theorem sort_read {W : WX} {σ : St} {H : Hp} {Q : VK} (hK : X.K = P.K) (h : rF P W (fSort f) σ H Q) : tCB (rSortedAny X.K) (tCons (rE P W f) tNil) σ H Q := by
  obtain ⟨g, ρ, b, hP, S, w⟩ := h
  refine ⟨g, ρ, b, hP, S, (wpG.bind (R1 := RepT g) w).imp fun v H1 ⟨d, b1, e1, B1, r1, w1⟩ => ?_⟩
  unfold sortF1 at w1
  cases e : d.lseq with
  | none => rw [e] at w1; exact w1.elim
  | some xs =>
    rw [e] at w1
    obtain ⟨hok, w2⟩ := wp_ite (c := (D.oks deep xs && sortB (D.pys xs)) = true) (m := pure (isort ltoD xs)) w1
    obtain ⟨h1, h2⟩ := and2 hok
    obtain ⟨a, vs, rfl, h, r⟩ := lseq_rep r1 e
    subst hP
    rw [hK]
    have dp := Reps.dp (n := deep) r h1
    exact ⟨a, D.pys xs, vs, rfl, .inl (.inl h), dp, h2, (oks_lay _ _ h1).2, fun l hl => w2 (.ref l) _ (Ex1.new hl) (B1.new hl) (rf_new B1 e1 hl (sort_reps r))⟩
def eEndT (vs : List Nat) (k : D → DEnv → Option DEnv) (f : DEnv → M D) (T : Tbl) : DEnv → M D := eF (fSort (eF (fComp (fun _ => pure (T.map itemD)) vs k tYesD f)))
def sLines (fsO : DEnv → M (List D)) (kO : D → DEnv → Option DEnv) (fsI : DEnv → M (List D)) (kI : D → DEnv → Option DEnv) (fL : DEnv → M D) (vs : List Nat) (kC : D → DEnv → Option DEnv) (f : DEnv → M D) : DEnv → M Out := fun ρ => match ρ[1]? with
  | some none => fsO ρ >>= fun ds => lnOuter kO fsI kI fL ds ρ [] >>= fun r => eEndT vs kC f r.2 r.1 >>= fun d => pure (.rt (strip d))
  | _ => stuck
/-- sorted([.. for k, v in found.items()]) while found is locked, then returned -/
theorem ln_end {g : Gh} {H0 : Hp} {W : WX} {E : Ends} {dA : Addr} {ρ : DEnv} {b : Bx} {σ : St} {H : Hp} {T : Tbl} {vs js : List Nat} (hK : X.K = P.K) (hP : g.P = P) (hj : ∀ j ∈ js, j ∈ vs) (L : LnS g dA ρ b σ H T) (B : Base g H0 H)
    (w : wpS g H0 W H ((eEndT vs k f T ρ b).bind fun d => pure (.rt (strip d))) E) :
    tLock (tRet (tCB (rSortedAny X.K) (tCons (tLc (iItemsT (tVar 1)) (rP P js k) (rT P W0 tYesD) (rE P W0 f) vs) tNil))) E σ H := by
  obtain ⟨kvs, hd, t⟩ := L.d
  refine ⟨dA, .dT kvs, hd, trivial, fun od => ?_⟩
  have ns : NoSeq (H dA) := by rw [hd]; exact dT_noseq
  have S4 := (L.S.less (p := dA) ns.l).chg (u := .frz od (.dT kvs)) ns fun z => absurd rfl z.2
  have hd4 : upd H dA (.frz od (.dT kvs)) dA = some (.frz od (.dT kvs)) := upd_same
  have t4 : TRep (fun a => g.O a ∧ a ≠ dA) (upd H dA (.frz od (.dT kvs))) T kvs := by
    have t5 := t.keep (H' := upd H dA (.frz od (.dT kvs))) fun a vs n h => by rw [upd_ne (fun z => n (by rw [z]; exact L.o))]; exact h
    exact t5.sub fun a h => h.1
  -- what is wished of the value
  have fin : wpG (g.at fun a => g.O a ∧ a ≠ dA) W σ (RepT (g.at fun a => g.O a ∧ a ≠ dA)) (upd H dA (.frz od (.dT kvs))) (eEndT vs k f T ρ b) fun v H' => H' dA = some (.frz od (.dT kvs)) ∧ E.rt v (upd H' dA (.dT kvs)) := by
    have w' := w
    have h0n : H0 dA = none := (B.new dA L.o).resolve_left L.n0
    have exs : ∀ {H' : Hp}, Ex1 g.bx (upd H dA (.frz od (.dT kvs))) H' → ∀ a o, g.bx ≠ some a → H0 a = some o → H' a = some o := fun {H'} e a o n q => by
      have ne : a ≠ dA := fun z => by rw [z, h0n] at q; cases q
      refine e a o n ?_
      rw [upd_ne ne]
      exact B.ex a o n q
    have boxs : ∀ {b2 : Bx} {H' : Hp}, BoxOk (g.at fun a => g.O a ∧ a ≠ dA) b2 H' → BoxOk (g.at g.O0) b2 H' := fun {b2 H'} Bx => by
      unfold BoxOk at Bx ⊢
      cases eb : g.bx with
      | none => rw [eb] at Bx; exact Bx
      | some a =>
        rw [eb] at Bx
        exact ⟨⟨Bx.1.1, Bx.1.1⟩, Bx.2⟩
    match eEndT vs k f T ρ b, w' with
    | .ok d b2, w' =>
      intro v H' e Bx r
      have hd5 : H' dA = some (.frz od (.dT kvs)) := e dA _ L.nb upd_same
      have ns5 : NoSeq (H' dA) := by rw [hd5]; exact frzT_noseq
      refine ⟨hd5, w' v _ (fun a o n q => ?_) ((boxs Bx).chg ns5) ?_⟩
      · have ne : a ≠ dA := fun z => by rw [z, h0n] at q; cases q
        rw [upd_ne ne]
        exact exs e a o n q
      · have r0 : Rep g.P g.O0 g.bx H' (strip d) v := by
          have wd : ∀ a, g.O0 a → (g.O a ∧ a ≠ dA) ∨ H' a = none := fun a h => .inl ⟨B.sub a h, fun z => L.n0 (z ▸ h)⟩
          cases r with
          | own q o n nb r => exact .lst q n (r.own wd)
          | rep r =>
            have q := r.own wd
            cases r <;> exact q
        exact r0.chg ns5
    | .exc x b2, w' => exact fun cls dd H' e Bx xr => w' cls dd σ H' (fun a o n q => exs e a o n q) (boxs Bx) xr
  show tRet (tCB (rSortedAny X.K) (tCons (tLc (iItemsT (tVar 1)) (rP P js k) (rT P W0 tYesD) (rE P W0 f) vs) tNil)) _ σ (upd H dA (.frz od (.dT kvs)))
  generalize hg2 : (g.at fun a => g.O a ∧ a ≠ dA) = g2 at S4 fin
  have hP2 : g2.P = P := by rw [← hg2]; exact hP
  have no2 : ¬ g2.O dA := by rw [← hg2]; exact fun z => z.2 rfl
  have t6 : TRep g2.O (upd H dA (.frz od (.dT kvs))) T kvs := by rw [← hg2]; exact t4
  generalize upd H dA (.frz od (.dT kvs)) = H4 at S4 fin hd4 t6
  refine ⟨.ref dA, L.f, dA, od, kvs, rfl, hd4, ?_⟩
  have fin2 : wpG g2 W σ (RepT g2) H4 ((((if (T.map itemD).length < 100000 then compL vs k tYesD f ρ (T.map itemD) else stuck : M (List D)) b).bind fun ys => (sortF1 (.lst ys) >>= fun zs => pure (.lst zs)))) (fun v H' => H' dA = some (.frz od (.dT kvs)) ∧ E.rt v (upd H' dA (.dT kvs))) := by
    refine Eq.mp (congrArg (fun z => wpG g2 W σ (RepT g2) H4 z _) ?_) fin
    show Res.bind (Res.bind (Res.bind ((if (T.map itemD).length < 100000 then compL vs k tYesD f ρ (T.map itemD) else stuck : M (List D)) b) _) _) _ = _
    cases (if (T.map itemD).length < 100000 then compL vs k tYesD f ρ (T.map itemD) else stuck : M (List D)) b with
    | ok ys b' =>
      show Res.bind (sortF1 (.lst ys) b') _ = Res.bind (sortF1 (.lst ys) b') _
      rfl
    | exc x b' => rfl
    | stk => rfl
  have hlen : (T.map itemD).length < 100000 := by
    by_cases z : (T.map itemD).length < 100000
    · exact z
    · rw [if_neg z] at fin2
      exact fin2.elim
  rw [if_pos hlen] at fin2
  refine comp_body (Q := fun v H5 => rSortedAny X.K [v] H5 (fun v H' => H' dA = some (.frz od (.dT kvs)) ∧ E.rt v (upd H' dA (.dT kvs)))) hj hP2 S4 (jok_items hd4 t6 no2) hlen (fun _ h => h) ((wpG.bind (R1 := RF g2 H4) fin2).imp fun v H5 ⟨ys, b5, e5, B5, r5, w5⟩ => ?_)
  obtain ⟨p, us, rfl, h0, hp, r⟩ := r5
  have w5 : wpG g2 W σ (RepT g2) H5 ((sortF1 (.lst ys) b5).bind fun zs => pure (.lst zs)) (fun v H' => H' dA = some (.frz od (.dT kvs)) ∧ E.rt v (upd H' dA (.dT kvs))) := w5
  unfold sortF1 at w5
  have w5 : wpG g2 W σ (RepT g2) H5 (((if (D.oks deep ys && sortB (D.pys ys)) = true then pure (isort ltoD ys) else stuck : M (List D)) b5).bind fun zs => pure (.lst zs)) (fun v H' => H' dA = some (.frz od (.dT kvs)) ∧ E.rt v (upd H' dA (.dT kvs))) := w5
  by_cases hok : (D.oks deep ys && sortB (D.pys ys)) = true
  · rw [if_pos hok] at w5
    obtain ⟨o1, o2⟩ := and2 hok
    have dp := Reps.dp (n := deep) r o1
    refine ⟨p, D.pys ys, us, rfl, .inl (.inl hp), by rw [hK, ← hP2]; exact dp, o2, (oks_lay _ _ o1).2, fun l hl => ?_⟩
    have S5 := S4.mono e5 B5
    have r' : Reps g2.P g2.O g2.bx H5 ys us := r.own fun a h => .inl (.inl h)
    have rs := sort_reps r'
    exact w5 (.ref l) _ (Ex1.new hl) (B5.new hl) (.rep (.lst upd_same (fun z => S5.trk l z hl) (rs.mono B5.bxl (Ex1.new hl))))
  · rw [if_neg hok] at w5
    exact w5.elim
end
section
variable {X : Cx} {P : Px} {tgO iterO tgI iterI eL elt tgC : Expr} {fsO fsI : DEnv → M (List D)} {kO kI kC : D → DEnv → Option DEnv} {fL f : DEnv → M D} {jsO jsI js : List Nat}
theorem sss_lines {kk : Nat} {xf xp xi xl : Str} {scope : Scope} {own : List (Str × Nat)} {celts : List Expr} {ck : Nat} {cpos q1 q2 q3 q4 q5 q6 q7 q8 q9 q10 q11 q12 q13 q14 q15 q16 q17 q18 q19 q20 q21 q22 q23 q24 q25 q26 q27 q28 q29 q30 q31 : Pos} (hr : Room kk X.A) (hc : X.calm = true) (hN : X.N.Nodup) (hp : PassesOwn (model X.prog X.w) X.A X.env X.xe)
    (hgs : Gl X "sorted") (hms : X.mg "sorted" = none) (hgt : Gl X "set") (hmt : X.mg "set" = none)
    (hO : SI X P tgO iterO fsO) (gO : SG X P tgO jsO kO) (hI : SI X P tgI iterI fsI) (gI : SG X P tgI jsI kI) (hL : SE X P eL fL) (hjO : 1 ∉ jsO) (hjI : 1 ∉ jsI)
    (n1 : X.N[1]? = some xf) (n2 : X.N[2]? = some xp) (n4 : X.N[4]? = some xi) (n5 : X.N[5]? = some xl)
    (lf : X.env.scope.names.lookup xf = some .local) (lp : X.env.scope.names.lookup xp = some .local) (li : X.env.scope.names.lookup xi = some .local) (ll : X.env.scope.names.lookup xl = some .local)
    (df : (xf == ("__debug__" : Str)) = false) (df2 : (xf == ("__classdict__" : Str)) = false) (dp : (xp == ("__debug__" : Str)) = false) (dp2 : (xp == ("__classdict__" : Str)) = false) (di : (xi == ("__debug__" : Str)) = false) (di2 : (xi == ("__classdict__" : Str)) = false) (dl : (xl == ("__debug__" : Str)) = false) (dl2 : (xl == ("__classdict__" : Str)) = false)
    (ok : BlkOk X.N X.env.scope scope own) (hj : ∀ j ∈ js, j ∈ own.map (·.2))
    (hg : ∀ (s : Shared) (H : Hp) (C : Addr) (cl : List (Str × Addr)) (fp : List Addr), SG (X.blk s H scope (compEnvC scope cl C X.env) fp) P (.Tuple celts ck cpos) js kC)
    (he : ∀ (s : Shared) (H : Hp) (C : Addr) (cl : List (Str × Addr)) (fp : List Addr), SE (X.blk s H scope (compEnvC scope cl C X.env) fp) P elt f) (hK : X.K = P.K)
    (s1 : swapsWith (.Dict [] [] q2) (some (.Name xf q1)) q3.line X.env = pure false) (s2 : swapsWith eL (some (.Name xl q6)) q7.line X.env = pure false) (s3 : ∀ x, foldedSetIterable iterO X.env x = pure x) (s4 : ∀ x, foldedSetIterable iterI X.env x = pure x)
    (s5 : swapsWithSole [.Subscript (.Name xf q8) (.Name xl q9) q10] (.Call (.Name "sorted" q11) [.Call (.Name "set" q12) [.BinOp (.Call (.Attribute (.Name xf q13) "get" q14) [.Name xl q15, .List [] q16] [] q17) .Add (.List [.Name xi q18, .Name xp q19] q20) q21] [] q22] [] q23) q24.line X.env = pure false)
    (m2 : M2 X (.Name xf q13) "get" q14 (.Name xl q15) (.List [] q16) q17) (hli : (q27.endLine == q28.line) = true)
    (hs : ∀ x, foldedSetIterable (.Call (.Attribute (.Name xf q26) "items" q27) [] [] q28) X.env x = pure x := by intro _; rfl) :
    SSs X P [.Assign [.Name xf q1] (.Dict [] [] q2) q3, .For tgO iterO [.For tgI iterI [.Assign [.Name xl q6] eL q7, .Assign [.Subscript (.Name xf q8) (.Name xl q9) q10] (.Call (.Name "sorted" q11) [.Call (.Name "set" q12) [.BinOp (.Call (.Attribute (.Name xf q13) "get" q14) [.Name xl q15, .List [] q16] [] q17) .Add (.List [.Name xi q18, .Name xp q19] q20) q21] [] q22] [] q23) q24] [] q5] [] q4,
      .Return (some (.Call (.Name "sorted" q25) [.ListComp elt [⟨.Tuple celts ck cpos, .Call (.Attribute (.Name xf q26) "items" q27) [] [] q28, [], 0⟩] scope q29] [] q30)) q31] (sLines fsO kO fsI kI fL (own.map (·.2)) kC f) := by
  have hu : X.A.units + 1 < cLine := by have := hr.un; omega
  have vf : ∀ {p : Pos}, PE X (.Name xf p) (tVar 1) := pe_var n1 (.inl lf) df df2
  have vp : ∀ {p : Pos}, PE X (.Name xp p) (tVar 2) := pe_var n2 (.inl lp) dp dp2
  have vi : ∀ {p : Pos}, PE X (.Name xi p) (tVar 4) := pe_var n4 (.inl li) di di2
  have vl : ∀ {p : Pos}, PE X (.Name xl p) (tVar 5) := pe_var n5 (.inl ll) dl dl2
  refine ⟨fun W tk => pss_imp (pss_cons (ps_set hN n1 (.inl lf) pe_dnewT s1 (.inr lf)) (pss_cons (ps_for hp hc (hO.pi W tk) gO.pg (pss_one (ps_for hp hc (hI.pi W tk) gI.pg
      (pss_cons (ps_set hN n5 (.inl ll) (hL.pe W tk) s2 (.inr ll)) (pss_one (ps_asg (pe_sortSet hc hgs hms hgt hmt (pe_op op_cat (pe_dget2 hu vf vl (pe_lst pa_nil) m2) (pe_lst (pa_cons vi (pa_cons vp pa_nil))))) (pg_sub vf vl (set_dict hu)) s5))) s4)) s3)
      (pss_one (ps_lock (ps_ret (pe_callB (cr_sortedAny hr) hgs hms PyProof.Rows.boot_sorted (pa_cons (pe_lc hc hN (pi_itemsT vf rfl hli) ok (fun s H C cl fp => (hg s H C cl fp).pg) (fun s H C cl fp => (sts_nil (P := P)).pt _ takes0) (fun s H C cl fp => (he s H C cl fp).pe _ takes0) hs) pa_nil) (by decide) (by decide)))))) ) fun E σ H h => ?_⟩
  obtain ⟨g, H0, ρ, b, hP, S, B, w⟩ := h
  have hw : ρ[1]? = some none ∧ wpS g H0 W H ((fsO ρ b).bind fun ds => lnOuter kO fsI kI fL ds ρ [] >>= fun r => eEndT (own.map (·.2)) kC f r.2 r.1 >>= fun d => pure (.rt (strip d))) E := by
    have w : wpS g H0 W H ((match ρ[1]? with
      | some none => fsO ρ >>= fun ds => lnOuter kO fsI kI fL ds ρ [] >>= fun r => eEndT (own.map (·.2)) kC f r.2 r.1 >>= fun d => pure (.rt (strip d))
      | _ => stuck : M Out) b) E := w
    cases hx : ρ[1]? with
    | none => rw [hx] at w; exact w.elim
    | some o =>
      cases o with
      | some d => rw [hx] at w; exact w.elim
      | none =>
        rw [hx] at w
        exact ⟨rfl, w⟩
  obtain ⟨e1, w⟩ := hw
  intro p hp0
  have e2 : Ex1 g.bx H (upd H p (.dT [])) := Ex1.new hp0
  have B2 : BoxOk g b (upd H p (.dT [])) := S.box.new hp0
  have S2 := (S.moreO hp0 e2 B2 (by rw [upd_same]; trivial)).hid (i := 1) (x := some (.ref p)) e1
  have n0 : ¬ g.O0 p := fun z => S.trk p (B.sub p z) hp0
  have nb : g.bx ≠ some p := fun z => by
    obtain ⟨_, vs, q⟩ := S.box.bxl p z
    rw [hp0] at q; cases q
  have hl1 : 1 < σ.length := by
    rw [S.len]
    exact get_len e1
  have L : LnS (g.at fun a => g.O a ∨ a = p) p ρ b (σ.set 1 (some (.ref p))) (upd H p (.dT [])) [] := ⟨S2, List.getElem?_set_self hl1, .inr rfl, n0, nb, [], upd_same, .nil⟩
  have tr : Tr g.O H (fun a => g.O a ∨ a = p) (upd H p (.dT [])) := ⟨fun a o n q => e2 a o (fun z => n (S.bo a z)) q, fun a h => h.elim .inl fun z => .inr (by rw [z]; exact hp0)⟩
  have Bs : Base (g.at fun a => g.O a ∨ a = p) H0 (upd H p (.dT [])) := by
    have B1' := B.at e2
    refine ⟨fun a h => .inl (B1'.sub a h), fun a h => ?_, B1'.ex, B1'.trk⟩
    rcases h with h | h
    · exact B1'.new a h
    · rw [h]
      exact .inr (fresh_back S.box.bxl B.ex hp0)
  have w1 := wpS.at tr w
  generalize hkk : (fun r : DEnv × Tbl => (eEndT (own.map (·.2)) kC f r.2 r.1 >>= fun d => pure (.rt (strip d)) : M Out)) = kk0 at w1
  have w2 : wpS (g.at fun a => g.O a ∨ a = p) H0 W (upd H p (.dT [])) ((fsO ρ b).bind fun ds => lnOuter kO fsI kI fL ds ρ [] >>= kk0) E := w1
  show tFor (rG P W (fun g H ds J => JOk g H ds J) fsO) (rP P jsO kO) (tFor (rG P W (fun g H ds J => JOk g H ds J) fsI) (rP P jsI kI) (tSeq (tAsg (rE P W fL) (gName 5)) (tStore X.K)))
    { E with nx := tLock (tRet (tCB (rSortedAny X.K) (tCons (tLc (iItemsT (tVar 1)) (rP P js kC) (rT P W0 tYesD) (rE P W0 f) (own.map (·.2))) tNil))) E } (σ.set 1 (some (.ref p))) (upd H p (.dT []))
  refine ln_outer (K := X.K) (P := P) (g := g.at fun a => g.O a ∨ a = p) hP hjI hjO L Bs (k := kk0) w2 fun ρ' b' σ' H' T' t' L' B' w' => ?_
  have w3 : wpS (g.at fun a => g.O a ∨ a = p) H0 W H' ((eEndT (own.map (·.2)) kC f T' ρ' b').bind fun d => pure (.rt (strip d))) E := by
    rw [← hkk] at w'
    exact w'
  exact ln_end (g := g.at fun a => g.O a ∨ a = p) hK hP hj L' B' w3
end
/-! ### the table of the defs that a name may hold -/
def lookF (n : Nat) : List (Nat × (List D → M D)) → Option (List D → M D)
  | [] => none
  | (m, F) :: r => if n = m then some F else lookF n r
def AllF (Q : Nat → (List D → M D) → Prop) : List (Nat × (List D → M D)) → Prop
  | [] => True
  | (m, F) :: r => Q m F ∧ AllF Q r
theorem lookF_ok {Q : Nat → (List D → M D) → Prop} : ∀ {l : List (Nat × (List D → M D))}, AllF Q l → ∀ n F, lookF n l = some F → Q n F
  | [], _, n, F, h => by cases h
  | (m, G) :: r, a, n, F, h => by
    unfold lookF at h
    by_cases e : n = m
    · rw [if_pos e] at h
      cases h
      rw [e]
      exact a.1
    · rw [if_neg e] at h
      exact lookF_ok a.2 n F h
end Pu

set_option Elab.async false
set_option linter.all false
set_option maxRecDepth 100000
set_option maxHeartbeats 4000000
/-! The pure layer, part X: a law's def: its first line makes the box that the rest draws from -/
namespace Pu
open PySem L2
def spLaw (P : Px) : Sp := fun vs H Q _ => ∃ (a : Addr) (ns : List Int), vs = [.ref a] ∧ ns.length ≤ 63 ∧ ((∃ o, H a = some (.frz o (.lst (ns.map V.int)))) ∨ ∀ H', SqL P.K H' a (ns.map V.int)) ∧ ∀ H', Q (.bl true) H'
/-- what is to be shown of the law's two parts -/
def Good (n i : Nat) (u1 u2 : DEnv → M Out) : Prop := ∀ ns : List Int, ns.length ≤ 63 → ∃ (ρ1 : DEnv) (iz : List Int), u1 (startD n [.fro (ns.map D.int)]) [] = .ok (.nx ρ1) [] ∧ ρ1[i]? = some (some (.lst (iz.map D.int))) ∧ ρ1.length = n ∧
  ∃ b', u2 ((List.replicate n none).set i (some .box)) iz = .ok (.rt (.bl true)) b'
theorem intsOf_map : ∀ ns : List Int, intsOf (ns.map D.int) = some ns
  | [] => rfl
  | n :: ns => by
    rw [List.map_cons, intsOf, intsOf_map]
    rfl
theorem law_ok {prog : Program} {w : World} {K : PySem.W.Frag} {mg : Str → Option Value} {base : Heap} {P : Px} {x qual p0 : Str} {st s1 : Stmt} {rest : List Stmt} {f0 : Addr} {fd : FuncData} {N : List Str} {k i : Nat} {u1 u2 : DEnv → M Out} (hK : P.K = K) (F : Fun K x qual st f0 fd) (S : FnScope N [p0] (defScope st)) (hst : defBody st = s1 :: rest)
    (hb : ∀ (cdv : Value) (A : Around) (outer : List Env) (s : Shared) (H : Hp) (E : XK), Room k (A.deeper (PyProof.Rows.envOfC qual (defScope st) s.heap.objs.size f0 cdv)) →
      SS (cxOf (L2.CX prog w) prog w K mg base N qual (defScope st) f0 cdv A outer s H E) P s1 u1 ∧ SSs (cxOf (L2.CX prog w) prog w K mg base N qual (defScope st) f0 cdv A outer s H E) P rest u2) (good : Good N.length i u1 u2) :
    FnOk prog w K mg base (L2.CX prog w) (k + 1) f0 fd [p0] (spLaw P) := by
  have hpl : 1 ≤ N.length := by
    have := congrArg List.length S.pre
    rw [List.length_take] at this
    have e : ([p0] : List Str).length = 1 := rfl
    rw [e] at this
    omega
  refine F.okX S (fun vs H Q E h => ?_) (fun cdv A outer s H vs Q E hr h => ?_)
  · obtain ⟨a, ns, rfl, _⟩ := h
    rfl
  · obtain ⟨h1, h2⟩ := hb cdv A outer s H E hr
    have tk := takes_of (X := cxOf (L2.CX prog w) prog w K mg base N qual (defScope st) f0 cdv A outer s H E) (E := E) rfl rfl rfl rfl
    refine ⟨_, by rw [hst]; exact pss_cons (h1.ps (fun cls d _ H => E cls d H) tk) (h2.ps (fun cls d _ H => E cls d H) tk), ?_⟩
    obtain ⟨a, ns, rfl, hl, hs, hQ⟩ := h
    obtain ⟨ρ1, iz, e1, e2, e3, b', e4⟩ := good ns hl
    have none_at : ∀ (j : Nat) (d : D), (startD N.length [.fro (ns.map D.int)])[j]? = some (some d) → j = 0 ∧ d = .fro (ns.map D.int) := fun j d hj => by
      unfold startD at hj
      cases j with
      | zero =>
        have hj : some (some (D.fro (ns.map D.int))) = some (some d) := hj
        cases hj
        exact ⟨rfl, rfl⟩
      | succ j =>
        rw [List.map_cons, List.map_nil, List.cons_append, List.nil_append, List.getElem?_cons_succ, List.getElem?_replicate] at hj
        split at hj <;> cases hj
    refine ⟨⟨P, fun _ => False, fun _ => False, none⟩, H, startD N.length [.fro (ns.map D.int)], [], rfl, ⟨?_, fun j d hj => ?_, fun j l ds es c q1 _ => ?_, rfl, fun _ z => z.elim⟩, ⟨fun _ z => z, fun _ z => z.elim, Ex1.refl, fun _ z => z.elim⟩, ?_⟩
    · unfold L2.start startD
      rw [List.length_append, List.length_append, List.length_map, List.length_map, List.length_replicate, List.length_replicate]
      rfl
    · obtain ⟨rfl, rfl⟩ := none_at j d hj
      refine ⟨.ref a, rfl, .rep (.fro hs ?_)⟩
      exact reps_ints ns
    · obtain ⟨_, z⟩ := none_at j _ q1
      cases z
    · rw [e1]
      intro O' σ' H' t S' B'
      obtain ⟨v, hv, rv⟩ := S'.val i _ e2
      cases rv with
      | rep rv =>
        cases rv with
        | @lst c _ vs q n r =>
          have ev := ints_rep r (intsOf_map iz)
          subst ev
          refine ⟨⟨P, fun z => z = c, fun z => z = c, some c⟩, H', (List.replicate N.length none).set i (some .box), iz, rfl, ⟨?_, fun j d hj => ?_, fun j l ds es c' q1 _ => ?_, ⟨⟨rfl, rfl⟩, q⟩, fun z hz => ?_⟩, ⟨fun _ z => z, fun _ z => .inl z, Ex1.refl, fun z hz => ?_⟩, ?_⟩
          · rw [S'.len, e3, List.length_set, List.length_replicate]
          · rcases get_set hj with ⟨z1, z2, _⟩ | ⟨_, z2⟩
            · cases z2
              subst z1
              exact ⟨_, hv, .rep (.box rfl)⟩
            · rw [List.getElem?_replicate] at z2
              split at z2 <;> cases z2
          · rcases get_set q1 with ⟨z1, z2, _⟩ | ⟨_, z2⟩
            · cases z2
            · rw [List.getElem?_replicate] at z2
              split at z2 <;> cases z2
          · have hz : z = c := hz
            rw [hz, q]
            trivial
          · have hz : z = c := hz
            rw [hz, q]
            exact fun z => by cases z
          · rw [e4]
            intro v2 H2 _ _ r2
            cases r2
            exact hQ H2
end Pu

set_option Elab.async false
set_option linter.all false
set_option maxRecDepth 100000
set_option maxHeartbeats 4000000
/-! The pure layer, part AA: list(range(..)), tuple(range(..)), l.count(k), l.index(x), l[::-1] -/
namespace Pu
open PySem L2
section
variable {X : Cx} {P : Px} {e a b : Expr} {pos : Pos} {f fa fb : DEnv → M D} {fs : DEnv → M (List D)}
/-! ### l.count(k) -/
def cntD (xs : List D) (y : D) : M D := match y with
  | .int k => match intsOf xs with
    | some ns => pure (.int (ns.count k : Nat))
    | none => stuck
  | _ => stuck
def eCount (f g : DEnv → M D) : DEnv → M D := fun ρ => f ρ >>= fun x => match x.lseq with
  | some xs => g ρ >>= fun y => cntD xs y
  | none => stuck
theorem tyV_lst {K : PySem.W.Frag} {H : Hp} {a : Addr} {vs : List V} (h : H a = some (.lst vs)) : tyV K "list" (.ref a) H := .inl ⟨rfl, _, .inl (.inl h)⟩
theorem lst_keep {g : Gh} {H H1 : Hp} {d : D} {v : V} {xs : List D} (r : RepT g H d v) (e : d.lseq = some xs) (B : BxL g.O g.bx H) (x : Ex1 g.bx H H1) : ∃ a vs, v = .ref a ∧ H a = some (.lst vs) ∧ H1 a = some (.lst vs) ∧ Reps g.P g.O g.bx H1 xs vs := by
  obtain ⟨a, vs, rfl, h, _⟩ := lseq_rep r e
  obtain ⟨a', vs', ev, h', r'⟩ := lseq_rep (r.mono B x) e
  cases ev
  have nb : g.bx ≠ some a := fun z => by
    cases r with
    | rep r =>
      cases r with
      | lst _ nb _ => exact nb (B a z).1
      | _ => cases e
    | own _ _ _ nb _ => exact nb z
  have q := x a _ nb h
  rw [q] at h'
  cases h'
  exact ⟨a, vs, rfl, h, q, r'⟩
theorem se_count {p2 p3 : Pos} (ha : SE X P a fa) (hb : SE X P b fb) (hK : X.K = P.K := by rfl)
    (hpe : ∀ {t1 t2 : TE}, PE X a t1 → PE X b t2 → PE X (.Call (.Attribute a "count" p2) [b] [] p3) (tBM X.K "list" (rCntI X.K) t1 (tCons t2 tNil)) := by
      intro t1 t2 h1 h2
      exact pe_bm PySem.F.plainAttrs_list PySem.F.slot_list_count PySem.F.type_list_count mt_lcount h1 (pa_cons h2 pa_nil)) :
    SE X P (.Call (.Attribute a "count" p2) [b] [] p3) (eCount fa fb) := ⟨fun W tk => pe_imp (hpe (ha.pe W tk) (hb.pe W tk)) fun σ H Q h => by
  obtain ⟨g, ρ, b, hP, S, w⟩ := h
  refine ⟨g, ρ, b, hP, S, (wpG.bind (R1 := RepT g) w).imp fun v H1 ⟨d, b1, e1, B1, r1, w1⟩ => ?_⟩
  have S1 := S.mono e1 B1
  cases el : d.lseq with
  | none => simp only [el] at w1; exact w1.elim
  | some xs =>
    simp only [el] at w1
    obtain ⟨p, vs, rfl, hp, _⟩ := lseq_rep r1 el
    refine ⟨tyV_lst hp, g, ρ, b1, hP, S1, (wpG.bind (R1 := RepT g) w1).imp fun y H2 ⟨d2, b2, e2, B2, r2, w2⟩ => ?_⟩
    obtain ⟨p', vs', ev, _, h2, rx⟩ := lst_keep r1 el S1.box.bxl e2
    cases ev
    unfold cntD at w2
    cases d2 with
    | int k =>
      cases int_rt r2
      cases ei : intsOf xs with
      | none => simp only [ei] at w2; exact w2.elim
      | some ns =>
        simp only [ei] at w2
        have ev := ints_rep rx ei
        subst ev
        exact ⟨p, ns, k, rfl, rfl, .inl (.inl h2), wpG_ok w2 B2 (.rep (.int _))⟩
    | _ => exact w2.elim⟩
/-! ### l.index(x): the first place of an equal one -/
def firstEq (x : D) : List D → Option Nat
  | [] => none
  | y :: ys => if D.eqv y x = true then some 0 else (firstEq x ys).map (· + 1)
def idx1 (o : Option Nat) : M D := match o with
  | some j => pure (.int (j : Nat))
  | none => stuck
def idxD (xs : List D) (y : D) : M D := if (y.ok deep && D.oks deep xs) = true then idx1 (firstEq y xs) else stuck
def eIndex (f g : DEnv → M D) : DEnv → M D := fun ρ => f ρ >>= fun x => match x.lseq with
  | some xs => g ρ >>= fun y => idxD xs y
  | none => stuck
theorem firstEq_get {x : D} : ∀ {xs : List D} {j : Nat}, firstEq x xs = some j → ∃ z, xs[j]? = some z ∧ D.eqv z x = true ∧ ∀ (m : Nat) (z' : D), m < j → xs[m]? = some z' → D.eqv z' x = false
  | y :: ys, j, h => by
    unfold firstEq at h
    by_cases e : D.eqv y x = true
    · rw [if_pos e] at h
      cases h
      exact ⟨y, rfl, e, fun m z' hm _ => absurd hm (Nat.not_lt_zero _)⟩
    · rw [if_neg e] at h
      cases q : firstEq x ys with
      | none => rw [q] at h; cases h
      | some k =>
        rw [q] at h
        cases h
        obtain ⟨z, h1, h2, h3⟩ := firstEq_get q
        refine ⟨z, h1, h2, fun m z' hm hz => ?_⟩
        cases m with
        | zero => cases hz; exact Bool.eq_false_iff.mpr e
        | succ m => exact h3 m z' (Nat.lt_of_succ_lt_succ hm) hz
theorem pys_get : ∀ {xs : List D} {j : Nat}, (D.pys xs)[j]? = xs[j]?.map D.py
  | [], j => by rw [D.pys]; rfl
  | x :: xs, 0 => by rw [D.pys]; rfl
  | x :: xs, j + 1 => by
    rw [D.pys, List.getElem?_cons_succ, List.getElem?_cons_succ]
    exact pys_get
theorem oks_get : ∀ {n : Nat} {xs : List D} {j : Nat} {z : D}, D.oks n xs = true → xs[j]? = some z → z.ok n = true
  | n, x :: xs, j, z, h, e => by
    have q : x.ok n = true ∧ D.oks n xs = true := by simpa [D.oks] using h
    cases j with
    | zero => cases e; exact q.1
    | succ j => exact oks_get q.2 e
theorem se_index {k : Nat} {p2 p3 : Pos} (hr : Room (k + 1) X.A) (ha : SE X P a fa) (hb : SE X P b fb) (hK : X.K = P.K := by rfl)
    (hpe : ∀ {t1 t2 : TE}, PE X a t1 → PE X b t2 → PE X (.Call (.Attribute a "index" p2) [b] [] p3) (tBM X.K "list" (rIndexD X.K) t1 (tCons t2 tNil)) := by
      intro t1 t2 h1 h2
      exact pe_bm PySem.F.plainAttrs_list PySem.F.slot_list_index PySem.F.type_list_index (mt_indexD (room65 hr)) h1 (pa_cons h2 pa_nil)) :
    SE X P (.Call (.Attribute a "index" p2) [b] [] p3) (eIndex fa fb) := ⟨fun W tk => pe_imp (hpe (ha.pe W tk) (hb.pe W tk)) fun σ H Q h => by
  obtain ⟨g, ρ, b, hP, S, w⟩ := h
  refine ⟨g, ρ, b, hP, S, (wpG.bind (R1 := RepT g) w).imp fun v H1 ⟨d, b1, e1, B1, r1, w1⟩ => ?_⟩
  have S1 := S.mono e1 B1
  cases el : d.lseq with
  | none => simp only [el] at w1; exact w1.elim
  | some xs =>
    simp only [el] at w1
    obtain ⟨p, vs, rfl, hp, _⟩ := lseq_rep r1 el
    refine ⟨tyV_lst hp, g, ρ, b1, hP, S1, (wpG.bind (R1 := RepT g) w1).imp fun y H2 ⟨d2, b2, e2, B2, r2, w2⟩ => ?_⟩
    obtain ⟨p', vs', ev, _, h2, rx⟩ := lst_keep r1 el S1.box.bxl e2
    cases ev
    obtain ⟨hok, w3⟩ := wp_ite (c := (d2.ok deep && D.oks deep xs) = true) (m := idx1 (firstEq d2 xs)) w2
    obtain ⟨o1, os⟩ := and2 hok
    cases ej : firstEq d2 xs with
    | none => rw [ej] at w3; exact w3.elim
    | some j =>
      rw [ej] at w3
      obtain ⟨z, q1, q2, q3⟩ := firstEq_get ej
      have o2 : (D.lst xs).ok (deep + 1) = true := by rw [D.ok]; exact os
      have dz := oks_get os q1
      subst hP
      rw [hK]
      have eqv : ∀ {z : D}, z.ok deep = true → PyData.eqv z.py d2.py = D.eqv z d2 := fun {z} hz => py_eqv deep _ _ hz o1
      refine ⟨p, y, d2.py, D.pys xs, j, z.py, rfl, rfl, .lst (.inl (.inl h2)) (Reps.dp rx os), r2.dp o1, ?_, ok_shaped o1 (by decide), by rw [pys_get, q1]; rfl, by rw [eqv dz]; exact q2, fun m z' hm hz => ?_, wpG_ok w3 B2 (.rep (.int _))⟩
      · have := ok_shaped o2 (by decide)
        rwa [D.py] at this
      · rw [pys_get] at hz
        cases hx : xs[m]? with
        | none => rw [hx] at hz; cases hz
        | some z2 =>
          rw [hx] at hz
          cases hz
          rw [eqv (oks_get os hx)]
          exact q3 m z2 hm hx⟩
/-! ### list(range(..)), tuple(range(..)) -/
def rgOk (i j : Int) : Bool := decide (i.natAbs < 2 ^ 40) && decide (j.natAbs < 2 ^ 40) && decide ((j - i).toNat ≤ 100000)
def lrg2 (x y : D) : M (List D) := match x, y with
  | .int i, .int j => if rgOk i j = true then pure (rangeD i (j - i).toNat) else stuck
  | _, _ => stuck
def fRg1 (f : DEnv → M D) : DEnv → M (List D) := fun ρ => f ρ >>= fun x => lrg2 (.int 0) x
def fRg2 (fa fb : DEnv → M D) : DEnv → M (List D) := fun ρ => fa ρ >>= fun x => fb ρ >>= fun y => lrg2 x y
def eTupF (fs : DEnv → M (List D)) : DEnv → M D := fun ρ => fs ρ >>= fun ds => pure (.tup ds)
theorem reps_range {P : Px} {O : Addr → Prop} {bx : Option Addr} {H : Hp} (i j : Int) : Reps P O bx H (rangeD i (j - i).toNat) (rgV i j) := by
  unfold rangeD rgV
  generalize (List.range (j - i).toNat) = l
  induction l with
  | nil => exact .nil
  | cons n l ih => exact .cons (.int _) ih
theorem rgOk_of {i j : Int} (h : rgOk i j = true) : RgOk i j := by
  unfold rgOk at h
  simp only [Bool.and_eq_true, decide_eq_true_eq] at h
  exact ⟨by omega, by omega, by omega, by omega, by omega⟩
theorem lrg_lst {g : Gh} {W : WX} {σ : St} {H H0 : Hp} {Q : VK} {i j : Int} {b : Bx} (B : BoxOk g b H) (e : Ex1 g.bx H0 H) (w : wpG g W σ (RF g H0) H (lrg2 (.int i) (.int j) b) Q) : RgOk i j ∧ ∀ q, H q = none → Q (.ref q) (upd H q (.lst (rgV i j))) := by
  obtain ⟨h, w2⟩ := wp_ite (c := rgOk i j = true) (m := pure (rangeD i (j - i).toNat)) w
  exact ⟨rgOk_of h, fun l hl => w2 (.ref l) _ (Ex1.new hl) (B.new hl) (rf_new B e hl (reps_range i j))⟩
theorem int_of {g : Gh} {H : Hp} {v : V} {d : D} {γ δ : Type} {W : WX} {σ : St} {R : Hp → γ → δ → Prop} {Q : δ → Hp → Prop} {k : Int → M γ} {b : Bx} (r : RepT g H d v) (w : wpG g W σ R H ((match d with | .int i => k i | _ => stuck : M γ) b) Q) : ∃ i, d = .int i ∧ v = .int i ∧ wpG g W σ R H (k i b) Q := by
  cases d with
  | int i => exact ⟨i, rfl, int_rt r, w⟩
  | _ => exact w.elim
theorem sf_listRg1 {p p1 p2 : Pos} {x : Expr} (hc : X.calm = true) (hg : Gl X "list") (hm : X.mg "list" = none) (hg2 : Gl X "range") (hm2 : X.mg "range" = none) (ha : SE X P x f) (hK : X.K = P.K := by rfl)
    (na : starEach [x] X.env = (false, eval x X.env) :: starEach [] X.env := by rfl) (nb : starEach [.Call (.Name "range" p1) [x] [] p2] X.env = (false, eval (.Call (.Name "range" p1) [x] [] p2) X.env) :: starEach [] X.env := by rfl) :
    SF X P (.Call (.Name "list" p) [.Call (.Name "range" p1) [x] [] p2] [] pos) (fRg1 f) := ⟨fun W tk => pe_imp (pe_listRg hc hg hm (prg_1 hg2 hm2 (ha.pe W tk) na) nb) fun σ H Q h => by
  obtain ⟨g, ρ, b, hP, S, w⟩ := h
  refine ⟨g, ρ, b, hP, S, (wpG.bind (R1 := RepT g) w).imp fun v H1 ⟨d, b1, e1, B1, r1, w1⟩ => ?_⟩
  have w1 : wpG g W σ (RF g H) H1 (lrg2 (.int 0) d b1) Q := w1
  cases d with
  | int j =>
    cases int_rt r1
    exact ⟨j, rfl, lrg_lst B1 e1 w1⟩
  | _ => exact w1.elim⟩
theorem sf_listRg2 {p p1 p2 : Pos} {x y : Expr} {f g : DEnv → M D} (hc : X.calm = true) (hg : Gl X "list") (hm : X.mg "list" = none) (hg2 : Gl X "range") (hm2 : X.mg "range" = none) (ha : SE X P x f) (hb : SE X P y g) (hK : X.K = P.K := by rfl)
    (na : starEach [x, y] X.env = (false, eval x X.env) :: starEach [y] X.env := by rfl) (nc : starEach [y] X.env = (false, eval y X.env) :: starEach [] X.env := by rfl) (hp : (backTo p2 (starEach [y] X.env)).any (·.1) = false := by rfl)
    (nb : starEach [.Call (.Name "range" p1) [x, y] [] p2] X.env = (false, eval (.Call (.Name "range" p1) [x, y] [] p2) X.env) :: starEach [] X.env := by rfl) :
    SF X P (.Call (.Name "list" p) [.Call (.Name "range" p1) [x, y] [] p2] [] pos) (fRg2 f g) := ⟨fun W tk => pe_imp (pe_listRg hc hg hm (prg_2 hg2 hm2 (ha.pe W tk) (hb.pe W tk) na nc hp) nb) fun σ H Q h => by
  obtain ⟨g0, ρ, b, hP, S, w⟩ := h
  refine ⟨g0, ρ, b, hP, S, (wpG.bind (R1 := RepT g0) w).imp fun v H1 ⟨d, b1, e1, B1, r1, w1⟩ => ?_⟩
  have S1 := S.mono e1 B1
  refine ⟨g0, ρ, b1, hP, S1, (wpG.bind (R1 := RepT g0) w1).imp fun u H2 ⟨d2, b2, e2, B2, r2, w2⟩ => ?_⟩
  have w2 : wpG g0 W σ (RF g0 H) H2 (lrg2 d d2 b2) Q := w2
  cases d with
  | int i =>
    cases d2 with
    | int j =>
      cases int_rt r1
      cases int_rt r2
      exact ⟨i, j, rfl, rfl, lrg_lst B2 (e1.trans e2) w2⟩
    | _ => exact w2.elim
  | _ => exact w2.elim⟩
theorem lrg_tup {g : Gh} {W : WX} {σ : St} {H : Hp} {Q : VK} {i j : Int} {b : Bx} (B : BoxOk g b H) (w : wpG g W σ (RepT g) H ((lrg2 (.int i) (.int j) b).bind fun ds => pure (.tup ds)) Q) : RgOk i j ∧ ∀ q, H q = none → Q (.ref q) (upd H q (.tup (rgV i j))) := by
  by_cases h : rgOk i j = true
  · have e : lrg2 (.int i) (.int j) b = .ok (rangeD i (j - i).toNat) b := by
      show (if rgOk i j = true then _ else _ : M (List D)) b = _
      rw [if_pos h]
      rfl
    rw [e] at w
    exact ⟨rgOk_of h, fun l hl => w (.ref l) _ (Ex1.new hl) (B.new hl) (.rep (.tup (upd_same) ((reps_range i j).mono B.bxl (Ex1.new hl))))⟩
  · have e : lrg2 (.int i) (.int j) b = .stk := by
      show (if rgOk i j = true then _ else _ : M (List D)) b = _
      rw [if_neg h]
      rfl
    rw [e] at w
    exact w.elim
theorem se_tupRg1 {p p1 p2 : Pos} {x : Expr} (hc : X.calm = true) (hg : Gl X "tuple") (hm : X.mg "tuple" = none) (hg2 : Gl X "range") (hm2 : X.mg "range" = none) (ha : SE X P x f) (hK : X.K = P.K := by rfl)
    (na : starEach [x] X.env = (false, eval x X.env) :: starEach [] X.env := by rfl) (nb : starEach [.Call (.Name "range" p1) [x] [] p2] X.env = (false, eval (.Call (.Name "range" p1) [x] [] p2) X.env) :: starEach [] X.env := by rfl) :
    SE X P (.Call (.Name "tuple" p) [.Call (.Name "range" p1) [x] [] p2] [] pos) (eTupF (fRg1 f)) := ⟨fun W tk => pe_imp (pe_tupRg hc hg hm (prg_1 hg2 hm2 (ha.pe W tk) na) nb) fun σ H Q h => by
  obtain ⟨g, ρ, b, hP, S, w⟩ := h
  have w : wpG g W σ (RepT g) H ((f ρ >>= fun x => lrg2 (.int 0) x >>= fun ds => pure (.tup ds)) b) Q := by
    have q : eTupF (fRg1 f) ρ b = (f ρ >>= fun x => lrg2 (.int 0) x >>= fun ds => pure (.tup ds)) b := by
      unfold eTupF fRg1
      rw [bind_assoc']
    rw [← q]
    exact w
  refine ⟨g, ρ, b, hP, S, (wpG.bind (R1 := RepT g) w).imp fun v H1 ⟨d, b1, e1, B1, r1, w1⟩ => ?_⟩
  cases d with
  | int j =>
    cases int_rt r1
    exact ⟨j, rfl, lrg_tup B1 w1⟩
  | _ => exact w1.elim⟩
/-! ### l[::-1] -/
def revF1 (d : D) : M (List D) := match d.lseq with
  | some xs => pure xs.reverse
  | none => stuck
def fRev (f : DEnv → M D) : DEnv → M (List D) := fun ρ => f ρ >>= revF1
theorem Reps.rev {P : Px} {O : Addr → Prop} {bx : Option Addr} {H : Hp} {ds : List D} {vs : List V} (r : Reps P O bx H ds vs) : Reps P O bx H ds.reverse vs.reverse := by
  have go : ∀ {ds : List D} {vs : List V} {es : List D} {us : List V}, Reps P O bx H ds vs → Reps P O bx H es us → Reps P O bx H (ds.reverseAux es) (vs.reverseAux us) := by
    intro ds vs es us r
    induction ds generalizing vs es us with
    | nil => cases r; exact id
    | cons d ds ih =>
      cases r with
      | cons h t =>
        intro q
        have z := ih t (.cons h q)
        exact z
  have := go r (.nil : Reps P O bx H [] [])
  rwa [List.reverseAux_eq, List.reverseAux_eq, List.append_nil, List.append_nil] at this
theorem sf_rev {x : Expr} {k : Nat} {p1 p2 p3 : Pos} (ha : SE X P x f) (hK : X.K = P.K := by rfl) : SF X P (.Subscript x (.Slice none none (some (.UnaryOp .USub (.Constant (.int 1) k p1) p2)) p3) pos) (fRev f) := ⟨fun W tk => pe_imp (pe_revL (ha.pe W tk)) fun σ H Q h => by
  obtain ⟨g, ρ, b, hP, S, w⟩ := h
  refine ⟨g, ρ, b, hP, S, (wpG.bind (R1 := RepT g) w).imp fun v H1 ⟨d, b1, e1, B1, r1, w1⟩ => ?_⟩
  unfold revF1 at w1
  cases e : d.lseq with
  | none => rw [e] at w1; exact w1.elim
  | some xs =>
    rw [e] at w1
    obtain ⟨a, vs, rfl, h, r⟩ := lseq_rep r1 e
    exact ⟨a, vs, rfl, .inl (.inl h), fun l hl => w1 (.ref l) _ (Ex1.new hl) (B1.new hl) (rf_new B1 e1 hl (Reps.rev r))⟩⟩
end
end Pu

set_option Elab.async false
set_option linter.all false
set_option maxRecDepth 100000
set_option maxHeartbeats 4000000
/-! The pure layer, part Y: the source of draws -/
namespace Pu
open PySem L2
theorem bindA {α β : Type} (m : M α) (k : α → M β) (b : Bx) : (m >>= k) b = (m b).bind k := rfl
theorem pureA {α : Type} (a : α) (b : Bx) : (pure a : M α) b = .ok a b := rfl
theorem okB {α β : Type} (a : α) (b : Bx) (k : α → M β) : (Res.ok a b).bind k = k a b := rfl
/-! ### what ends well -/
def Ev {α : Type} (m : M α) (b : Bx) (Q : α → Bx → Prop) : Prop := ∃ a b', m b = .ok a b' ∧ Q a b'
theorem Ev.bind {α β : Type} {m : M α} {k : α → M β} {b : Bx} {R : α → Bx → Prop} {Q : β → Bx → Prop} (h : Ev m b R) (g : ∀ a b', R a b' → Ev (k a) b' Q) : Ev (m >>= k) b Q := by
  obtain ⟨a, b', e, r⟩ := h
  obtain ⟨c, b2, e2, q⟩ := g a b' r
  exact ⟨c, b2, by rw [bindA, e, okB, e2], q⟩
theorem Ev.pure {α : Type} {a : α} {b : Bx} {Q : α → Bx → Prop} (h : Q a b) : Ev (pure a) b Q := ⟨a, b, rfl, h⟩
theorem Ev.imp {α : Type} {m : M α} {b : Bx} {R Q : α → Bx → Prop} (h : Ev m b R) (g : ∀ a b', R a b' → Q a b') : Ev m b Q := by
  obtain ⟨a, b', e, r⟩ := h
  exact ⟨a, b', e, g a b' r⟩
theorem Ev.eq {α : Type} {m : M α} {b b' : Bx} {a : α} {Q : α → Bx → Prop} (e : m b = .ok a b') (h : Q a b') : Ev m b Q := ⟨a, b', e, h⟩
theorem Ev.noX {α : Type} {m : M α} {b : Bx} {Q : α → Bx → Prop} (h : Ev m b Q) : Ev (Pu.noX m) b Q := by
  obtain ⟨a, b', e, r⟩ := h
  exact ⟨a, b', by unfold Pu.noX; rw [e], r⟩

/-! ### the next draw -/
def takeB : DEnv → M Out := (sSeq (sIf (tB (eBin gtD (eBin ixD (eVar 0) (eC (.int 0))) (eC (.int 0)))) (sSeq (sSet 2 (eBin modD (eB intOfD (bCons (eBin ixD (eVar 0) (eC (.int 0))) aNil)) (eVar 1))) (sSeq (sPut 0 (eBin fdivD (eBin ixD (eVar 0) (eC (.int 0))) (eVar 1)) (eC (.int 0))) (sRet (eVar 2)))) sNext) (sSeq (sPut 0 (eBin addD (eBin ixD (eVar 0) (eC (.int 2))) (eC (.int 1))) (eC (.int 2))) (sSeq (sSet 3 (eBin modD (eB intOfD (bCons (eBin mulD (eBin addD (eBin ixD (eVar 0) (eC (.int 1))) (eBin mulD (eC (.int 48271)) (eBin ixD (eVar 0) (eC (.int 2))))) (eBin addD (eC (.int 39373)) (eBin ixD (eVar 0) (eC (.int 2))))) aNil)) (eC (.int 2147483647)))) (sSeq (sSet 4 (eBin addD (eBin modD (eB intOfD (bCons (eVar 3) aNil)) (eC (.int 40009))) (eC (.int 7)))) (sSeq (sSet 5 (eBin modD (eB intOfD (bCons (eBin mulD (eBin addD (eBin addD (eVar 3) (eBin ixD (eVar 0) (eC (.int 2)))) (eBin fdivD (eBin ixD (eVar 0) (eC (.int 1))) (eC (.int 1000003)))) (eVar 4)) aNil)) (eC (.int 2147483629)))) (sRet (eBin modD (eB intOfD (bCons (eBin fdivD (eBin modD (eB intOfD (bCons (eBin addD (eBin mulD (eVar 5) (eC (.int 48271))) (eVar 3)) aNil)) (eC (.int 2147483587))) (eC (.int 64))) aNil)) (eVar 1))))))))
def takeF : List D → M D := runD 2 6 takeB
def Vb (c : Nat) (b : Bx) : Prop := ∃ x0 x1 x2 : Int, b = [x0, x1, x2] ∧ 0 ≤ x0 ∧ 0 ≤ x1 ∧ x1 < 2 ^ 63 ∧ 0 ≤ x2 ∧ x2 ≤ c
theorem Vb.mono {c c' : Nat} {b : Bx} (h : Vb c b) (l : c ≤ c') : Vb c' b := by
  obtain ⟨x0, x1, x2, e, h0, h1, h2, h3, h4⟩ := h
  exact ⟨x0, x1, x2, e, h0, h1, h2, h3, by omega⟩
theorem gt_ok (i j : Int) (b : Bx) : cmpI (fun i j => decide (j < i)) (.int i) (.int j) b = .ok (.bl (decide (j < i))) b := rfl
theorem mul_ok {i j : Int} (h : mulOk i j = true) (b : Bx) : mulD (.int i) (.int j) b = .ok (.int (i * j)) b := by
  show (if mulOk i j then _ else _ : M D) b = _
  rw [if_pos h]
  rfl
theorem mul_okL {i j : Int} (h : i.natAbs < 2 ^ 64) (b : Bx) : mulD (.int i) (.int j) b = .ok (.int (i * j)) b := mul_ok (by unfold mulOk; rw [decide_eq_true h]; rfl) b
theorem mul_okR {i j : Int} (h : j.natAbs < 2 ^ 64) (b : Bx) : mulD (.int i) (.int j) b = .ok (.int (i * j)) b := mul_ok (by unfold mulOk; rw [decide_eq_true h, Bool.or_true, Bool.true_or]) b
theorem mod_ok {i j : Int} (h : j ≠ 0) (b : Bx) : modD (.int i) (.int j) b = .ok (.int (i.fmod j)) b := by
  show (if j ≠ 0 then _ else _ : M D) b = _
  rw [if_pos h]
  rfl
theorem pow9000 : (2 : Nat) ^ 64 ≤ 2 ^ 9000 := Nat.pow_le_pow_right (by decide) (by decide)
theorem fdiv_ok {i j : Int} (h : j ≠ 0) (l : j.natAbs < 2 ^ 64) (b : Bx) : fdivD (.int i) (.int j) b = .ok (.int (i.fdiv j)) b := by
  show (if (decide (j ≠ 0) && decide (j.natAbs < 2 ^ 9000)) = true then _ else _ : M D) b = _
  rw [if_pos (by rw [decide_eq_true h, decide_eq_true (Nat.lt_of_lt_of_le l pow9000)]; rfl)]
  rfl
theorem fmod_range (i : Int) {n : Int} (h : 0 < n) : 0 ≤ i.fmod n ∧ i.fmod n < n := ⟨Int.fmod_nonneg_of_pos i h, Int.fmod_lt_of_pos i h⟩
theorem take_pos {x0 x1 x2 n : Int} (h0 : 0 < x0) (hn : 0 < n) (hl : n < 2 ^ 63) : takeF [.box, .int n] [x0, x1, x2] = .ok (.int (x0.fmod n)) [x0.fdiv n, x1, x2] := by
  have nz : n ≠ 0 := by omega
  have nl : n.natAbs < 2 ^ 64 := by omega
  show (takeB [some .box, some (.int n), none, none, none, none] >>= endD) [x0, x1, x2] = _
  have c : tB (eBin gtD (eBin ixD (eVar 0) (eC (.int 0))) (eC (.int 0))) [some .box, some (.int n), none, none, none, none] [x0, x1, x2] = .ok (decide (0 < x0)) [x0, x1, x2] := rfl
  have e1 : eBin modD (eB intOfD (bCons (eBin ixD (eVar 0) (eC (.int 0))) aNil)) (eVar 1) [some .box, some (.int n), none, none, none, none] [x0, x1, x2] = .ok (.int (x0.fmod n)) [x0, x1, x2] := mod_ok nz _
  have e2 : eBin fdivD (eBin ixD (eVar 0) (eC (.int 0))) (eVar 1) [some .box, some (.int n), some (.int (x0.fmod n)), none, none, none] [x0, x1, x2] = .ok (.int (x0.fdiv n)) [x0, x1, x2] := fdiv_ok nz nl _
  have p1 : sSet 2 (eBin modD (eB intOfD (bCons (eBin ixD (eVar 0) (eC (.int 0))) aNil)) (eVar 1)) [some .box, some (.int n), none, none, none, none] [x0, x1, x2] = .ok (.nx [some .box, some (.int n), some (.int (x0.fmod n)), none, none, none]) [x0, x1, x2] := by
    unfold sSet
    rw [bindA, e1]
    rfl
  have p2 : sPut 0 (eBin fdivD (eBin ixD (eVar 0) (eC (.int 0))) (eVar 1)) (eC (.int 0)) [some .box, some (.int n), some (.int (x0.fmod n)), none, none, none] [x0, x1, x2] = .ok (.nx [some .box, some (.int n), some (.int (x0.fmod n)), none, none, none]) [x0.fdiv n, x1, x2] := by
    show (eBin fdivD (eBin ixD (eVar 0) (eC (.int 0))) (eVar 1) [some .box, some (.int n), some (.int (x0.fmod n)), none, none, none] >>= _) [x0, x1, x2] = _
    rw [bindA, e2]
    rfl
  unfold takeB sSeq sIf
  rw [bindA, bindA, bindA, c, okB, decide_eq_true h0, if_pos rfl]
  simp only [bindA, p1, okB, p2]
  rfl
section
variable {ρ ρ' : DEnv} {b b1 b2 b3 : Bx} {fa fb f : DEnv → M D} {fs gs : DEnv → M (List D)} {t t' : DEnv → M Bool} {u k : DEnv → M Out} {x y z d : D} {ds es : List D} {i j : Nat}
theorem v_var (h : ρ[i]? = some (some d)) : eVar i ρ b = .ok d b := by
  show gtE ρ i b = _
  unfold gtE
  rw [h]
  rfl
theorem v_c : eC d ρ b = .ok d b := rfl
theorem v_bin {o : D → D → M D} {r : Res D} (h1 : fa ρ b = .ok x b1) (h2 : fb ρ b1 = .ok y b2) (h3 : o x y b2 = r) : eBin o fa fb ρ b = r := by
  unfold eBin
  rw [bindA, h1, okB, bindA, h2, okB, h3]
theorem v_un {o : D → M D} {r : Res D} (h1 : fa ρ b = .ok x b1) (h3 : o x b1 = r) : eUn o fa ρ b = r := by
  unfold eUn
  rw [bindA, h1, okB, h3]
theorem v_b {o : List D → M D} {r : Res D} (h1 : fs ρ b = .ok ds b1) (h3 : o ds b1 = r) : eB o fs ρ b = r := by
  unfold eB
  rw [bindA, h1, okB, h3]
theorem v_call {o : List D → M D} {r : Res D} (h1 : fs ρ b = .ok ds b1) (h3 : o ds b1 = r) : eCall o fs ρ b = r := by
  unfold eCall
  rw [bindA, h1, okB, h3]
theorem v_nil : aNil ρ b = .ok [] b := rfl
theorem v_bcons (h1 : f ρ b = .ok d b1) (h2 : fs ρ b1 = .ok ds b2) : bCons f fs ρ b = .ok (d :: ds) b2 := by
  unfold bCons
  rw [bindA, h1, okB, bindA, h2, okB]
  rfl
theorem v_acons (h1 : f ρ b = .ok d b1) (hc : chk d = pure d) (h2 : fs ρ b1 = .ok ds b2) : aCons f fs ρ b = .ok (d :: ds) b2 := by
  unfold aCons
  rw [bindA, h1, okB, hc, bindA, pureA, okB, bindA, h2, okB]
  rfl
theorem v_f (h1 : fs ρ b = .ok ds b1) : eF fs ρ b = .ok (.lst ds) b1 := by
  unfold eF
  rw [bindA, h1, okB]
  rfl
theorem v_lst (h1 : fs ρ b = .ok ds b1) (l : ds.length ≤ 100000) : fLst fs ρ b = .ok ds b1 := by
  unfold fLst
  rw [bindA, h1, okB, if_pos l]
  rfl
theorem v_tup (h1 : fs ρ b = .ok ds b1) (l : ds.length ≤ 100000) : eTup fs ρ b = .ok (.tup ds) b1 := by
  unfold eTup
  rw [bindA, h1, okB, if_pos l]
  rfl
theorem v_tB {c : Bool} (h : f ρ b = .ok (.bl c) b1) : tB f ρ b = .ok c b1 := by
  unfold tB
  rw [bindA, h, okB]
  rfl
theorem v_tTr {c : Bool} (h : f ρ b = .ok d b1) (h2 : truthD d b1 = .ok c b2) : tTr f ρ b = .ok c b2 := by
  unfold tTr
  rw [bindA, h, okB, h2]
theorem v_set (h : f ρ b = .ok d b1) (hc : chk d = pure d) : sSet i f ρ b = .ok (.nx (ρ.set i (some d))) b1 := by
  unfold sSet
  rw [bindA, h, okB, hc]
  rfl
theorem v_own (h : fs ρ b = .ok ds b1) : sOwn i fs ρ b = .ok (.nx (ρ.set i (some (.own ds)))) b1 := by
  unfold sOwn
  rw [bindA, h, okB]
  rfl
theorem v_seq {r : Res Out} (h : u ρ b = .ok (.nx ρ') b1) (h2 : k ρ' b1 = r) : sSeq u k ρ b = r := by
  unfold sSeq
  rw [bindA, h, okB]
  exact h2
theorem v_seqR (h : u ρ b = .ok (.rt d) b1) : sSeq u k ρ b = .ok (.rt d) b1 := by
  unfold sSeq
  rw [bindA, h, okB]
  rfl
theorem v_ret (h : f ρ b = .ok d b1) (hs : strip d = y) : sRet f ρ b = .ok (.rt y) b1 := by
  unfold sRet
  rw [bindA, h, okB, hs]
  rfl
theorem v_if {c : Bool} {r : Res Out} (h : t ρ b = .ok c b1) (h2 : (if c = true then u ρ else k ρ) b1 = r) : sIf t u k ρ b = r := by
  unfold sIf
  rw [bindA, h, okB, h2]
theorem v_ifT {c : Bool} {r : Res Out} (h : t ρ b = .ok c b1) (hc : c = true) (h2 : u ρ b1 = r) : sIf t u k ρ b = r := v_if h (by rw [if_pos hc]; exact h2)
theorem v_ifF {c : Bool} {r : Res Out} (h : t ρ b = .ok c b1) (hc : c = false) (h2 : k ρ b1 = r) : sIf t u k ρ b = r := v_if h (by rw [if_neg (by rw [hc]; decide)]; exact h2)
theorem v_ifnF (h : f ρ b = .ok (.bl false) b1) : sIf (tB f) u sNext ρ b = .ok (.nx ρ) b1 := v_ifF (v_tB h) rfl rfl
theorem v_eifT {c : Bool} {r : Res D} (h : t ρ b = .ok c b1) (hc : c = true) (h2 : fa ρ b1 = r) : eIf t fa fb ρ b = r := by
  unfold eIf
  rw [bindA, h, okB, if_pos hc, h2]
theorem v_eifF {c : Bool} {r : Res D} (h : t ρ b = .ok c b1) (hc : c = false) (h2 : fb ρ b1 = r) : eIf t fa fb ρ b = r := by
  unfold eIf
  rw [bindA, h, okB, if_neg (by rw [hc]; decide), h2]
theorem v_put {r : Res Out} {dx : D} (h0 : ρ[i]? = some (some dx)) (h : fa ρ b = .ok d b1) (hc : chk d = pure d) (h2 : fb ρ b1 = .ok y b2) (h3 : putD i ρ dx d y b2 = r) : sPut i fa fb ρ b = r := by
  unfold sPut
  rw [h0]
  show (fa ρ >>= fun d => chk d >>= fun d => fb ρ >>= fun j => putD i ρ dx d j) b = r
  rw [bindA, h, okB, hc, bindA, pureA, okB, bindA, h2, okB, h3]
theorem v_run {n m : Nat} (hl : ds.length = n) (h : u (startD m ds) b = .ok (.rt d) b1) : runD n m u ds b = .ok d b1 := by
  unfold runD
  rw [if_pos hl, bindA, h, okB]
  rfl
end
theorem take_zero {x1 x2 n : Int} (h1 : 0 ≤ x1) (h1' : x1 < 2 ^ 63) (h2 : 0 ≤ x2) (h2' : x2 < 2 ^ 60) (hn : 0 < n) : ∃ r, 0 ≤ r ∧ r < n ∧ takeF [.box, .int n] [0, x1, x2] = .ok (.int r) [0, x1, x2 + 1] := by
  have nz : n ≠ 0 := by omega
  have ho : (39373 + (x2 + 1)).natAbs < 2 ^ 64 := by omega
  have hw : ∀ i : Int, (i.fmod 40009 + 7).natAbs < 2 ^ 64 := fun i => by
    have := fmod_range i (n := 40009) (by decide)
    omega
  suffices h : ∃ r0 : Int, takeB (startD 6 [.box, .int n]) [0, x1, x2] = .ok (.rt (.int (r0.fmod n))) [0, x1, x2 + 1] by
    obtain ⟨r0, h⟩ := h
    exact ⟨_, (fmod_range r0 hn).1, (fmod_range r0 hn).2, v_run rfl h⟩
  unfold takeB
  apply Exists.intro
  repeat' first | exact v_var rfl | exact v_c | exact v_nil | exact mul_okL (by decide) _ | exact mul_okR ho _ | exact mul_okR (hw _) _ | exact mul_okR (by decide) _ | exact mod_ok (by decide) _ | exact mod_ok nz _ | exact fdiv_ok (by decide) (by decide) _ | apply v_bin | apply v_b | apply v_bcons | apply v_seq | apply v_set | apply v_ret | apply v_put (h0 := rfl) | apply v_ifnF | rfl

theorem take_ev {c : Nat} {b : Bx} {n : Int} (h : Vb c b) (hc : c < 2 ^ 60) (hn : 0 < n) (hl : n < 2 ^ 63) : ∃ r b', 0 ≤ r ∧ r < n ∧ Vb (c + 1) b' ∧ takeF [.box, .int n] b = .ok (.int r) b' := by
  obtain ⟨x0, x1, x2, rfl, h0, h1, h2, h3, h4⟩ := h
  by_cases z : 0 < x0
  · have f := fmod_range x0 hn
    exact ⟨_, _, f.1, f.2, ⟨_, _, _, rfl, Int.fdiv_nonneg h0 (Int.le_of_lt hn), h1, h2, h3, by omega⟩, take_pos z hn hl⟩
  · have e : x0 = 0 := by omega
    subst e
    obtain ⟨r, r0, r1, e⟩ := take_zero h1 h2 h3 (by omega) hn
    exact ⟨r, _, r0, r1, ⟨_, _, _, rfl, Int.le_refl _, h1, h2, by omega, by omega⟩, e⟩

/-! ### the first cell -/
def cellsB : DEnv → M Out := (sSeq (sOwn 2 (fOr (fLstOf (eSl (eVar 0) oNone (oSome (eVar 1)))) (fLst (aCons (eC (.int 0)) aNil)))) (sSeq (sFor (iEnumD (aCons (eSl (eVar 0) (oSome (eVar 1)) (oSome (eC (.int 63)))) aNil)) (gTupD 2 (gConsD (gVar 3) (gConsD (gVar 4) gNilD))) (sSeq (sSet 5 (eBin modD (eB intOfD (bCons (eVar 3) aNil)) (eVar 1))) (sPut 2 (eBin addD (eBin ixD (eVar 2) (eVar 5)) (eBin mulD (eVar 4) (eBin addD (eVar 3) (eC (.int 2))))) (eVar 5)))) (sFrz 2 (sRet (eVar 2)))))
def cellsF : List D → M D := runD 2 6 cellsB
theorem cut_map (ns : List Int) (lo hi : Option Int) : ∃ ms : List Int, ms.length ≤ ns.length ∧ cutD (ns.map D.int) lo hi = ms.map D.int := by
  unfold cutD
  rw [← List.map_drop, ← List.map_take]
  refine ⟨_, ?_, rfl⟩
  rw [List.length_take, List.length_drop]
  omega
theorem cut_one (n : Int) (r : List Int) : cutD ((n :: r).map D.int) none (some 1) = [.int n] := by
  unfold cutD
  have e : HT.sIx ((n :: r).map D.int).length ((n :: r).map D.int).length (some 1) = 1 := by
    rw [show (some (1 : Int)) = some ((1 : Nat) : Int) from rfl, HT.sIx_nat, List.length_map, List.length_cons]
    omega
  rw [e, HT.sIx_none]
  rfl
theorem v_forC {k : D → DEnv → Option DEnv} {body : DEnv → M Out} {ρ ρ1 ρ2 : DEnv} {b b1 : Bx} {d : D} {ds : List D} {r : Res Out} (hk : k d ρ = some ρ1) (h : body ρ1 b = .ok (.nx ρ2) b1) (h2 : forL k body ds ρ2 b1 = r) : forL k body (d :: ds) ρ b = r := by
  rw [forL, hk]
  show (body ρ1 >>= _) b = r
  rw [bindA, h, okB]
  exact h2
theorem cells_for (b : Bx) (s : D) : ∀ (ms : List Int) (k : Nat) (c : Int) (e3 e4 e5 : Option D), k + ms.length < 2 ^ 60 → ∃ c' e3' e4' e5', forL (gTupD 2 (gConsD (gVar 3) (gConsD (gVar 4) gNilD))) (sSeq (sSet 5 (eBin modD (eB intOfD (bCons (eVar 3) aNil)) (eVar 1))) (sPut 2 (eBin addD (eBin ixD (eVar 2) (eVar 5)) (eBin mulD (eVar 4) (eBin addD (eVar 3) (eC (.int 2))))) (eVar 5))) (enumFrom k (ms.map D.int)) [some s, some (.int 1), some (.own [.int c]), e3, e4, e5] b = .ok (.nx [some s, some (.int 1), some (.own [.int c']), e3', e4', e5']) b
  | [], k, c, e3, e4, e5, _ => ⟨c, e3, e4, e5, rfl⟩
  | n :: ms, k, c, e3, e4, e5, hk => by
    have hk2 : k + (ms.length + 1) < 2 ^ 60 := hk
    obtain ⟨c', a3, a4, a5, ih⟩ := cells_for b s ms (k + 1) (c + n * ((k : Int) + 2)) (some (.int k)) (some (.int n)) (some (.int 0)) (by omega)
    refine ⟨c', a3, a4, a5, ?_⟩
    have hm : ((k : Int) + 2).natAbs < 2 ^ 64 := by omega
    have f1 : eBin modD (eB intOfD (bCons (eVar 3) aNil)) (eVar 1) [some s, some (.int 1), some (.own [.int c]), some (.int k), some (.int n), e5] b = .ok (.int 0) b := by
      refine v_bin (v_b (v_bcons (v_var rfl) v_nil) rfl) (v_var rfl) ((mod_ok (by decide) _).trans ?_)
      rw [Int.fmod_one]
    refine v_forC (ρ2 := [some s, some (.int 1), some (.own [.int (c + n * ((k : Int) + 2))]), some (.int k), some (.int n), some (.int 0)]) rfl ?_ ih
    refine v_seq (v_set f1 rfl) ?_
    refine v_put rfl (v_bin (v_bin (v_var rfl) (v_var rfl) rfl) (v_bin (v_var rfl) (v_bin (v_var rfl) v_c rfl) (mul_okR hm _)) rfl) rfl (v_var rfl) rfl
theorem cells_ok (ns : List Int) (b : Bx) (h : ns.length ≤ 63) : ∃ c : Int, cellsF [.fro (ns.map D.int), .int 1] b = .ok (.lst [.int c]) b := by
  suffices h : ∃ c : Int, cellsB (startD 6 [.fro (ns.map D.int), .int 1]) b = .ok (.rt (.lst [.int c])) b by
    obtain ⟨c, h⟩ := h
    exact ⟨c, v_run rfl h⟩
  have first : ∃ c : Int, sOwn 2 (fOr (fLstOf (eSl (eVar 0) oNone (oSome (eVar 1)))) (fLst (aCons (eC (.int 0)) aNil))) (startD 6 [.fro (ns.map D.int), .int 1]) b = .ok (.nx [some (.fro (ns.map D.int)), some (.int 1), some (.own [.int c]), none, none, none]) b := by
    cases ns with
    | nil => exact ⟨0, rfl⟩
    | cons n r =>
      refine ⟨n, v_own ?_⟩
      have e : eSl (eVar 0) oNone (oSome (eVar 1)) (startD 6 [.fro ((n :: r).map D.int), .int 1]) b = .ok (.lst [.int n]) b := by
        show (pure (D.lst (cutD ((n :: r).map D.int) none (some 1))) : M D) b = _
        rw [cut_one]
        rfl
      unfold fOr fLstOf
      rw [bindA, bindA, e]
      rfl
  obtain ⟨c, e1⟩ := first
  obtain ⟨ms, hl, e2⟩ := cut_map ns (some 1) (some 63)
  obtain ⟨c', a3, a4, a5, e3⟩ := cells_for b (.fro (ns.map D.int)) ms 0 c none none none (by omega)
  refine ⟨c', v_seq e1 (v_seq (ρ' := [some (.fro (ns.map D.int)), some (.int 1), some (.own [.int c']), a3, a4, a5]) ?_ rfl)⟩
  show (forL _ _ (enumFrom 0 (cutD (ns.map D.int) (some 1) (some 63))) _) b = _
  rw [e2]
  exact e3

/-! ### the box -/
def boxB (z : Int) : DEnv → M Out := (sSeq (sSet 2 (eIf (tB (eBin ltD (eVar 1) (eB lenD (bCons (eVar 0) aNil)))) (eBin ixD (eVar 0) (eVar 1)) (eC (.int 0)))) (sRet (eF (fLst (aCons (eBin mulD (eB absD (bCons (eVar 2) aNil)) (eB intOfD (bCons (eBin geD (eB absD (bCons (eVar 2) aNil)) (eBin powD (eC (.int 10)) (eC (.int 18)))) aNil))) (aCons (eBin addD (eBin addD (eBin modD (eB intOfD (bCons (eVar 2) aNil)) (eC (.int 2305843009213693951))) (eBin mulD (eC (.int 39373)) (eVar 1))) (eC (.int z))) (aCons (eC (.int 0)) aNil)))))))
def boxF (z : Int) : List D → M D := runD 2 3 (boxB z)
theorem box_ok {z : Int} (z0 : 0 ≤ z) (z1 : z < 2 ^ 40) (c : Int) (b : Bx) : ∃ iz : List Int, Vb 0 iz ∧ boxF z [.lst [.int c], .int 0] b = .ok (.lst (iz.map D.int)) b := by
  have f := fmod_range c (n := 2305843009213693951) (by decide)
  have hb : ∀ x : Bool, (if x then 1 else 0 : Int).natAbs < 2 ^ 64 := fun x => by cases x <;> decide
  suffices h : ∃ x0 x1 : Int, 0 ≤ x0 ∧ 0 ≤ x1 ∧ x1 < 2 ^ 63 ∧ boxB z (startD 3 [.lst [.int c], .int 0]) b = .ok (.rt (.lst [.int x0, .int x1, .int 0])) b by
    obtain ⟨x0, x1, h0, h1, h2, e⟩ := h
    exact ⟨[x0, x1, 0], ⟨_, _, _, rfl, h0, h1, h2, by decide, by decide⟩, v_run rfl e⟩
  refine ⟨(if c < 0 then -c else c) * (if decide ((10 : Int) ^ (18 : Int).toNat ≤ (if c < 0 then -c else c)) then 1 else 0), c.fmod 2305843009213693951 + 39373 * 0 + z, ?_, by omega, by omega, ?_⟩
  · refine Int.mul_nonneg ?_ ?_ <;> split <;> omega
  · unfold boxB
    refine v_seq (ρ' := [some (.lst [.int c]), some (.int 0), some (.int c)]) rfl ?_
    refine v_ret (v_f (v_lst (v_acons (v_bin (v_b (v_bcons (v_var rfl) v_nil) rfl) (v_b (v_bcons (v_bin (v_b (v_bcons (v_var rfl) v_nil) rfl) rfl rfl) v_nil) rfl) (mul_okR (hb _) _)) rfl (v_acons (v_bin (v_bin (v_bin (v_b (v_bcons (v_var rfl) v_nil) rfl) v_c (mod_ok (by decide) _)) rfl rfl) v_c rfl) rfl (v_acons v_c rfl v_nil))) (Nat.le_of_ble_eq_true rfl))) rfl
end Pu

set_option Elab.async false
set_option linter.all false
set_option maxRecDepth 100000
set_option maxHeartbeats 400000
/-! The pure layer, part Z: what is picked; the law's first part -/
namespace Pu
open PySem L2
def pickB : DEnv → M Out := (sSeq (sParFF 3 4 (fLstOf (eVar 1)) (fLst aNil)) (sSeq (sFor (iRng1D (aCons (eB min2D (bCons (eB intOfD (bCons (eVar 2) aNil)) (bCons (eB lenD (bCons (eVar 3) aNil)) aNil))) aNil)) (gVar 5) (sPopApp 4 3 (eCall takeF (aCons (eVar 0) (aCons (eB lenD (bCons (eVar 3) aNil)) aNil))))) (sFrz 3 (sFrz 4 (sRet (eVar 4))))))
def pickF : List D → M D := runD 3 6 pickB
theorem erase_perm {α : Type} : ∀ (l : List α) (n : Nat) (h : n < l.length), (l[n] :: l.eraseIdx n).Perm l
  | x :: l, 0, _ => List.Perm.refl _
  | x :: l, n + 1, h => (List.Perm.swap x (l[n]'(Nat.lt_of_succ_lt_succ h)) _).trans ((erase_perm l n (Nat.lt_of_succ_lt_succ h)).cons x)
theorem seqIx {r : Int} {n : Nat} (h0 : 0 ≤ r) (h : r < n) : seqIndex? r n = some r.toNat := by
  unfold seqIndex?
  have e : (if r < 0 then r + (n : Int) else r) = r := if_neg (by omega)
  show (if (decide (0 ≤ (if r < 0 then r + (n : Int) else r)) && decide ((if r < 0 then r + (n : Int) else r) < (n : Int))) = true then some (if r < 0 then r + (n : Int) else r).toNat else none) = _
  rw [e, decide_eq_true h0, decide_eq_true h]
  rfl
theorem pick_for {g0 : D} {k0 : D} : ∀ (is : List D) (c : Nat) (b : Bx) (pool found : List D) (e5 : Option D), Vb c b → c + is.length < 2 ^ 60 → is.length ≤ pool.length → found.length + pool.length ≤ 100000 →
    ∃ pool' found' e5' b', forL (gVar 5) (sPopApp 4 3 (eCall takeF (aCons (eVar 0) (aCons (eB lenD (bCons (eVar 3) aNil)) aNil)))) is [some .box, some g0, some k0, some (.own pool), some (.own found), e5] b = .ok (.nx [some .box, some g0, some k0, some (.own pool'), some (.own found'), e5']) b' ∧
      Vb (c + is.length) b' ∧ (pool' ++ found').Perm (pool ++ found) ∧ found'.length = found.length + is.length
  | [], c, b, pool, found, e5, h, _, _, _ => ⟨pool, found, e5, b, rfl, h, List.Perm.refl _, rfl⟩
  | i :: is, c, b, pool, found, e5, h, hc, hl, hn => by
    have hc' : c + (is.length + 1) < 2 ^ 60 := hc
    have hl' : is.length + 1 ≤ pool.length := hl
    obtain ⟨r, b1, r0, r1, h1, e1⟩ := take_ev h (by omega) (n := (pool.length : Int)) (by omega) (by omega)
    have rl : r.toNat < pool.length := by omega
    obtain ⟨pool', found', e5', b', e2, h2, p2, l2⟩ := pick_for (g0 := g0) (k0 := k0) is (c + 1) b1 (pool.eraseIdx r.toNat) (found ++ [pool[r.toNat]]) (some i) h1 (by omega) (by rw [List.length_eraseIdx_of_lt rl]; omega) (by rw [List.length_eraseIdx_of_lt rl, List.length_append]; show found.length + 1 + (pool.length - 1) ≤ _; omega)
    refine ⟨pool', found', e5', b', v_forC (ρ2 := [some .box, some g0, some k0, some (.own (pool.eraseIdx r.toNat)), some (.own (found ++ [pool[r.toNat]])), some i]) rfl ?_ e2, ?_, p2.trans ?_, ?_⟩
    · show (eCall takeF (aCons (eVar 0) (aCons (eB lenD (bCons (eVar 3) aNil)) aNil)) [some .box, some g0, some k0, some (.own pool), some (.own found), some i] >>= fun d => popApp 4 3 [some .box, some g0, some k0, some (.own pool), some (.own found), some i] found pool d) b = _
      have e3 : eCall takeF (aCons (eVar 0) (aCons (eB lenD (bCons (eVar 3) aNil)) aNil)) [some .box, some g0, some k0, some (.own pool), some (.own found), some i] b = .ok (.int r) b1 := v_call (v_acons (v_var rfl) rfl (v_acons (v_b (v_bcons (v_var rfl) v_nil) rfl) rfl v_nil)) e1
      rw [bindA, e3, okB]
      show (if -(2 ^ 63) ≤ r ∧ r < 2 ^ 63 ∧ found.length < 100000 then _ else _ : M Out) b1 = _
      rw [if_pos ⟨by omega, by omega, by omega⟩, seqIx r0 r1]
      show (match pool[r.toNat]? with | some z => _ | none => _ : M Out) b1 = _
      rw [List.getElem?_eq_getElem rl]
      rfl
    · have : c + 1 + is.length = c + (is.length + 1) := by omega
      rw [this] at h2
      exact h2
    · have q := erase_perm pool r.toNat rl
      have q2 : (pool.eraseIdx r.toNat ++ (found ++ [pool[r.toNat]])).Perm (pool[r.toNat] :: pool.eraseIdx r.toNat ++ found) := by
        rw [← List.append_assoc]
        exact List.perm_append_comm
      exact q2.trans (q.append_right found)
    · rw [l2, List.length_append]
      show found.length + 1 + is.length = found.length + (is.length + 1)
      omega
theorem pick_ev {c : Nat} {b : Bx} {g : D} {gs : List D} {k : Nat} (h : Vb c b) (hg : g.seq = some gs) (hl : gs.length ≤ 100000) (hk : k ≤ 100000) (hc : c + 100000 < 2 ^ 60) :
    ∃ rs rest b', pickF [.box, g, .int k] b = .ok (.lst rs) b' ∧ (rest ++ rs).Perm gs ∧ rs.length = min k gs.length ∧ Vb (c + min k gs.length) b' := by
  have e0 : sParFF 3 4 (fLstOf (eVar 1)) (fLst aNil) (startD 6 [.box, g, .int k]) b = .ok (.nx [some .box, some g, some (.int k), some (.own gs), some (.own []), none]) b := by
    show (lstF1 g >>= _) b = _
    unfold lstF1
    rw [hg]
    rfl
  have hm : minI (k : Int) (gs.length : Int) = ((min k gs.length : Nat) : Int) := by
    unfold minI
    split <;> omega
  have e1 : iRng1D (aCons (eB min2D (bCons (eB intOfD (bCons (eVar 2) aNil)) (bCons (eB lenD (bCons (eVar 3) aNil)) aNil))) aNil) [some .box, some g, some (.int k), some (.own gs), some (.own []), none] b = .ok (rangeD 0 (min k gs.length)) b := by
    show rng1 [.int (minI (k : Int) (gs.length : Int))] b = _
    rw [hm]
    show (if ((min k gs.length : Nat) : Int).natAbs < 2 ^ 40 then pure (rangeD 0 ((min k gs.length : Nat) : Int).toNat) else stuck : M (List D)) b = _
    rw [if_pos (by omega)]
    rfl
  have hr : (rangeD 0 (min k gs.length)).length = min k gs.length := by
    unfold rangeD
    rw [List.length_map, List.length_range]
  obtain ⟨pool', found', e5', b', e2, h2, p2, l2⟩ := pick_for (g0 := g) (k0 := .int k) (rangeD 0 (min k gs.length)) c b gs [] none h (by rw [hr]; omega) (by rw [hr]; omega) (by rw [List.length_nil]; omega)
  rw [hr] at h2 l2
  rw [List.append_nil] at p2
  rw [List.length_nil, Nat.zero_add] at l2
  refine ⟨found', pool', b', v_run rfl (v_seq e0 (v_seq (ρ' := [some .box, some g, some (.int k), some (.own pool'), some (.own found'), e5']) (b1 := b') ?_ (r := .ok (.rt (.lst found')) b') rfl)), p2, l2, h2⟩
  show (iRng1D _ _ >>= _) b = _
  rw [bindA, e1, okB]
  exact e2
/-- the law's first part: of any script -/
theorem good_of {z : Int} {n i : Nat} {u2 : DEnv → M Out} (z0 : 0 ≤ z) (z1 : z < 2 ^ 40) (hi : 0 < i) (hin : i < n) (h : ∀ iz : List Int, Vb 0 iz → ∃ b', u2 ((List.replicate n none).set i (some .box)) iz = .ok (.rt (.bl true)) b') :
    Good n i (sSet i (eCall (boxF z) (aCons (eCall cellsF (aCons (eVar 0) (aCons (eC (.int 1)) aNil))) (aCons (eC (.int 0)) aNil)))) u2 := fun ns hl => by
  obtain ⟨c, e1⟩ := cells_ok ns [] hl
  obtain ⟨iz, V, e2⟩ := box_ok z0 z1 c []
  have hs : startD n [.fro (ns.map D.int)] = some (.fro (ns.map D.int)) :: List.replicate (n - 1) none := rfl
  refine ⟨(startD n [.fro (ns.map D.int)]).set i (some (.lst (iz.map D.int))), iz, v_set (v_call (v_acons (v_call (v_acons (v_var (by rw [hs]; rfl)) rfl (v_acons v_c rfl v_nil)) e1) rfl (v_acons v_c rfl v_nil)) e2) rfl, ?_, ?_, h iz V⟩
  · rw [List.getElem?_set_self (by rw [hs, List.length_cons, List.length_replicate]; omega)]
  · rw [List.length_set, hs, List.length_cons, List.length_replicate]
    omega
end Pu

set_option Elab.async false
set_option linter.all false
set_option maxRecDepth 100000
set_option maxHeartbeats 4000000
/-! The pure layer, part BB: more big steps -/
namespace Pu
open PySem L2
section
variable {ρ ρ' ρ1 : DEnv} {b b1 b2 b3 : Bx} {fa fb f g : DEnv → M D} {fs gs : DEnv → M (List D)} {t t' : DEnv → M Bool} {u k : DEnv → M Out} {x y z d : D} {ds es : List D} {i j : Nat}
theorem v_par (h : fs ρ b = .ok [x, y] b1) : sPar i j fs ρ b = .ok (.nx ((ρ.set i (some x)).set j (some y))) b1 := by
  unfold sPar
  rw [bindA, h, okB]
  rfl
theorem v_while0 {n : Nat} (h : t ρ b = .ok false b1) : whileL t u (n + 1) ρ b = .ok (.nx ρ) b1 := by
  rw [whileL, bindA, h, okB]
  rfl
theorem v_whileS {n : Nat} {r : Res Out} (h : t ρ b = .ok true b1) (h2 : u ρ b1 = .ok (.nx ρ') b2) (h3 : whileL t u n ρ' b2 = r) : whileL t u (n + 1) ρ b = r := by
  rw [whileL, bindA, h, okB, if_pos rfl, bindA, h2, okB]
  exact h3
theorem v_and {r : Res D} {c : Bool} (h : f ρ b = .ok (.bl c) b1) (h2 : (if c = true then g ρ else pure (.bl false)) b1 = r) : eAnd f g ρ b = r := by
  unfold eAnd
  rw [bindA, h, okB]
  exact h2
theorem v_andF (h : f ρ b = .ok (.bl false) b1) : eAnd f g ρ b = .ok (.bl false) b1 := v_and h rfl
theorem v_andT {r : Res D} (h : f ρ b = .ok (.bl true) b1) (h2 : g ρ b1 = r) : eAnd f g ρ b = r := v_and h (by rw [if_pos rfl]; exact h2)
theorem v_orTT (h : f ρ b = .ok d b1) (h2 : truthD d b1 = .ok true b2) : eOrT f g ρ b = .ok d b2 := by
  unfold eOrT
  rw [bindA, h, okB, bindA, h2, okB, if_pos rfl]
  rfl
theorem v_orTF {r : Res D} (h : f ρ b = .ok d b1) (h2 : truthD d b1 = .ok false b2) (h3 : g ρ b2 = r) : eOrT f g ρ b = r := by
  unfold eOrT
  rw [bindA, h, okB, bindA, h2, okB, if_neg (by decide), h3]
theorem v_not {c : Bool} (h : f ρ b = .ok (.bl c) b1) : eNot f ρ b = .ok (.bl (!c)) b1 := by
  unfold eNot
  rw [bindA, h, okB]
  rfl
theorem v_tNot {c : Bool} (h : t ρ b = .ok c b1) : tNotD t ρ b = .ok (!c) b1 := by
  unfold tNotD
  rw [bindA, h, okB]
  rfl
theorem v_tAndT {r : Res Bool} (h : t ρ b = .ok true b1) (h2 : t' ρ b1 = r) : tAndD t t' ρ b = r := by
  unfold tAndD
  rw [bindA, h, okB, if_pos rfl, h2]
theorem v_tAndF (h : t ρ b = .ok false b1) : tAndD t t' ρ b = .ok false b1 := by
  unfold tAndD
  rw [bindA, h, okB, if_neg (by decide)]
  rfl
theorem v_tOrT (h : t ρ b = .ok true b1) : tOrD t t' ρ b = .ok true b1 := by
  unfold tOrD
  rw [bindA, h, okB, if_pos rfl]
  rfl
theorem v_tOrF {r : Res Bool} (h : t ρ b = .ok false b1) (h2 : t' ρ b1 = r) : tOrD t t' ρ b = r := by
  unfold tOrD
  rw [bindA, h, okB, if_neg (by decide), h2]
theorem v_chain {o o' : D → D → M D} {fc : DEnv → M D} {c : Bool} {w : D} {r : Res D} (h1 : fa ρ b = .ok x b1) (h2 : fb ρ b1 = .ok y b2) (h3 : o x y b2 = .ok (.bl true) b3) (h4 : fc ρ b3 = .ok w b) (h5 : o' y w b = r) : eChain o o' fa fb fc ρ b = r := by
  unfold eChain
  rw [bindA, h1, okB, bindA, h2, okB, bindA, h3, okB]
  show (fc ρ >>= fun w => o' y w) b3 = r
  rw [bindA, h4, okB, h5]
/-! ### comprehensions -/
variable {vs : List Nat} {kk : D → DEnv → Option DEnv}
theorem v_comp {r : Res (List D)} (h : fs ρ b = .ok ds b1) (hl : ds.length < 100000) (hc : compL vs kk t f ρ ds b1 = r) : fComp fs vs kk t f ρ b = r := by
  unfold fComp
  rw [bindA, h, okB, if_pos hl, hc]
theorem comp_cons {c : Bool} (hk : kk d (wipeD ρ vs) = some ρ1) (ht : t ρ1 b = .ok c b1) {r : Res (List D)}
    (hy : c = true → ∃ b2 b3 es, f ρ1 b1 = .ok y b2 ∧ chk y = pure y ∧ compL vs kk t f ρ ds b2 = .ok es b3 ∧ r = .ok (y :: es) b3) (hn : c = false → compL vs kk t f ρ ds b1 = r) : compL vs kk t f ρ (d :: ds) b = r := by
  rw [compL, hk]
  show (noX (t ρ1) >>= fun c => if c = true then noX (f ρ1) >>= fun y => chk y >>= fun y => compL vs kk t f ρ ds >>= fun ys => pure (y :: ys) else compL vs kk t f ρ ds) b = r
  rw [bindA, show noX (t ρ1) b = .ok c b1 by unfold noX; rw [ht], okB]
  cases c with
  | false => rw [if_neg (by decide)]; exact hn rfl
  | true =>
    obtain ⟨b2, b3, es, h1, h2, h3, rfl⟩ := hy rfl
    rw [if_pos rfl, bindA, show noX (f ρ1) b1 = .ok y b2 by unfold noX; rw [h1], okB, h2, bindA, pureA, okB, bindA, h3, okB]
    rfl
theorem comp_filter {α : Type} (enc g : α → D) (p : α → Bool) : ∀ (xs : List α), (∀ x ∈ xs, ∃ ρ1, kk (enc x) (wipeD ρ vs) = some ρ1 ∧ t ρ1 b = .ok (p x) b ∧ (p x = true → f ρ1 b = .ok (g x) b ∧ chk (g x) = pure (g x))) → compL vs kk t f ρ (xs.map enc) b = .ok ((xs.filter p).map g) b
  | [], _ => rfl
  | x :: xs, h => by
    obtain ⟨ρ1, h1, h2, h3⟩ := h x List.mem_cons_self
    have ih := comp_filter enc g p xs fun y hy => h y (List.mem_cons_of_mem _ hy)
    refine comp_cons (c := p x) (y := g x) h1 h2 (fun c => ?_) fun c => ?_
    · obtain ⟨q1, q2⟩ := h3 c
      refine ⟨b, b, _, q1, q2, ih, ?_⟩
      rw [List.filter_cons_of_pos c]
      rfl
    · rw [List.filter_cons_of_neg (by rw [c]; decide)]
      exact ih
theorem comp_map {α : Type} (enc g : α → D) (xs : List α) (h : ∀ x ∈ xs, ∃ ρ1, kk (enc x) (wipeD ρ vs) = some ρ1 ∧ f ρ1 b = .ok (g x) b ∧ chk (g x) = pure (g x)) : compL vs kk tYesD f ρ (xs.map enc) b = .ok (xs.map g) b := by
  have := comp_filter (kk := kk) (vs := vs) (t := tYesD) (f := f) (ρ := ρ) (b := b) enc g (fun _ => true) xs fun x hx => by
    obtain ⟨ρ1, h1, h2⟩ := h x hx
    exact ⟨ρ1, h1, rfl, fun _ => h2⟩
  rw [this, List.filter_eq_self.mpr fun _ _ => rfl]
end
/-! ### sizes -/
def Bd (n : Nat) (i : Int) : Prop := i.natAbs < 2 ^ n
theorem Bd.mono {n m : Nat} {i : Int} (h : Bd n i) (l : n ≤ m) : Bd m i := Nat.lt_of_lt_of_le h (Nat.pow_le_pow_right (by decide) l)
theorem Bd.mul {n m : Nat} {i j : Int} (h : Bd n i) (h2 : Bd m j) : Bd (n + m) (i * j) := by
  unfold Bd at *
  rw [Int.natAbs_mul, Nat.pow_add]
  exact Nat.mul_lt_mul_of_le_of_lt (Nat.le_of_lt h) h2 (by have := Nat.pow_pos (n := n) (show 0 < 2 by decide); omega)
theorem Bd.add {n : Nat} {i j : Int} (h : Bd n i) (h2 : Bd n j) : Bd (n + 1) (i + j) := by
  unfold Bd at *
  have := Int.natAbs_add_le i j
  rw [Nat.pow_succ]
  omega
theorem Bd.neg {n : Nat} {i : Int} (h : Bd n i) : Bd n (-i) := by
  unfold Bd at *
  rw [Int.natAbs_neg]
  exact h
theorem Bd.sub {n : Nat} {i j : Int} (h : Bd n i) (h2 : Bd n j) : Bd (n + 1) (i - j) := by
  rw [Int.sub_eq_add_neg]
  exact h.add h2.neg
theorem Bd.le {n : Nat} {i j : Int} (h : Bd n i) (l : j.natAbs ≤ i.natAbs) : Bd n j := Nat.lt_of_le_of_lt l h
theorem mul_bd {n m : Nat} {i j : Int} (h : Bd n i) (h2 : Bd m j) (b : Bx) (l1 : n ≤ 9000 := by omega) (l2 : m ≤ 9000 := by omega) : mulD (.int i) (.int j) b = .ok (.int (i * j)) b := mul_ok (by
  unfold mulOk
  have q : (2 : Nat) ^ 9000 ≤ 2 ^ 400000 := Nat.pow_le_pow_right (by decide) (by decide)
  rw [decide_eq_true (show i.natAbs < 2 ^ 400000 from Nat.lt_of_lt_of_le (h.mono l1) q), decide_eq_true (show j.natAbs < 2 ^ 400000 from Nat.lt_of_lt_of_le (h2.mono l2) q)]
  simp) b
theorem fdiv_bd {n : Nat} {i j : Int} (h : j ≠ 0) (l : Bd n j) (b : Bx) (l1 : n ≤ 9000 := by omega) : fdivD (.int i) (.int j) b = .ok (.int (i.fdiv j)) b := by
  show (if (decide (j ≠ 0) && decide (j.natAbs < 2 ^ 9000)) = true then _ else _ : M D) b = _
  rw [if_pos (by rw [decide_eq_true h, decide_eq_true (show j.natAbs < 2 ^ 9000 from l.mono l1)]; rfl)]
  rfl
end Pu

set_option Elab.async false
set_option linter.all false
set_option maxRecDepth 100000
set_option maxHeartbeats 4000000
/-! The pure layer, part CC: len(set(xs)), xs a list or a tuple of ints, or a list of tuples of ints; (x,) * n -/
namespace Pu
open PySem L2
def tLenSetN (K : PySem.W.Frag) (ta : TE) : TE := fun σ H Q => ta σ H fun x H1 => ∃ (l : Addr) (ns : List Int), x = V.ref l ∧ (SqL K H1 l (ns.map V.int) ∨ SqT K H1 l (ns.map V.int)) ∧ ns.length < 64 ∧ Q (.int (nubL ns).length) H1
def tLenSetB (K : PySem.W.Frag) (ta : TE) : TE := fun σ H Q => ta σ H fun x H1 => (∃ (l : Addr) (ns : List Int), x = V.ref l ∧ (SqL K H1 l (ns.map V.int) ∨ SqT K H1 l (ns.map V.int)) ∧ ns.length < 64 ∧ Q (.int (nubL ns).length) H1) ∨ ∃ (l : Addr) (ks : List (Addr × List Int)), x = V.ref l ∧ SqL K H1 l (ks.map fun p => V.ref p.1) ∧ (∀ p ∈ ks, SqT K H1 p.1 (p.2.map V.int)) ∧ ks.length < 64 ∧ Q (.int (nubL (ks.map (·.2))).length) H1
theorem pe_lenSetB {X : Cx} {a : Expr} {ta : TE} {p p2 q pos : Pos} {k : Nat} (hr : Room k X.A) (hc : X.calm = true) (hg : Gl X "len") (hm : X.mg "len" = none) (hg2 : Gl X "set") (hm2 : X.mg "set" = none) (ha : PE X a ta)
    (na : starEach [a] X.env = (false, eval a X.env) :: starEach [] X.env := by rfl) : PE X (.Call (.Name "len" p) [.Call (.Name "set" p2) [a] [] q] [] pos) (tLenSetB X.K ta) := by
  refine ⟨fun pins s σ H Q I h => ?_⟩
  refine PyProof.Rows.Call_ (ld_blt I hg hm PySem.boot_len ?_)
  refine PyProof.Rows.callWith_builtin1 (PyProof.Rows.args_cons ?_ rfl) rfl rfl
  refine PyProof.Rows.Call_ (ld_blt I hg2 hm2 PyProof.Rows.boot_set ?_)
  refine PyProof.Rows.callWith_type1 (PyProof.Rows.args_cons (thn (ha.run pins s σ H _ I h) fun v s1 ⟨x, H1, I1, r1, q1⟩ => PyProof.Rows.args_nil ?_) na) na rfl
  rcases q1 with q1 | q1
  · obtain ⟨l, ns, rfl, hq, h64, q1⟩ := q1
    cases r1
    have sz : ∀ {h' : Heap} {c : Nat} {o : Obj} {es : Array (Int × Value)}, (es.toList.map keyOf).Nodup → (∀ k, decide (k ∈ ns) = true ↔ k ∈ es.toList.map keyOf) → es.size = (nubL ns).length := fun nd mem => by
      rw [← Array.length_toList, ← List.length_map (f := keyOf)]
      refine len_eq_of nd (nub_nd _) fun x => ?_
      rw [nub_mem, ← mem, decide_eq_true_iff]
    rcases hq with hq | hq
    · obtain ⟨its, r, pl, hz⟩ := I1.list hq
      refine SetN.call_set_listN (P := X.prog) (w := X.w) ns (I1.ok.hd hc) pl.isList (by simpa using r.ints) (by unfold scanBound; omega) fun h' tk c R hcl hk => PyProof.Rows.args_nil ?_
      have I2 : Inv X pins σ H1 { s1 with heap := h', toks := tk } := I1.kept hk
      obtain ⟨o, es, ep, t, ho, hex, hd, _, nd, mem, _, hf, hn, _⟩ := R
      exact call_len_set ho hex hd hf (by rw [hn]; omega) ⟨.int (es.size : Int), H1, I2.tok _, ⟨_, rfl⟩, by rw [sz (h' := h') (c := c) (o := o) nd mem]; exact q1⟩
    · obtain ⟨its, r, pl, hz⟩ := I1.tuple hq
      refine call_set_tupI (P := X.prog) (w := X.w) ns (I1.ok.hd hc) pl (by simpa using r.ints) (by unfold scanBound; omega) fun h' tk c R hcl hk => PyProof.Rows.args_nil ?_
      have I2 : Inv X pins σ H1 { s1 with heap := h', toks := tk } := I1.kept hk
      obtain ⟨o, es, ep, t, ho, hex, hd, _, nd, mem, _, hf, hn, _⟩ := R
      exact call_len_set ho hex hd hf (by rw [hn]; omega) ⟨.int (es.size : Int), H1, I2.tok _, ⟨_, rfl⟩, by rw [sz (h' := h') (c := c) (o := o) nd mem]; exact q1⟩
  · obtain ⟨l, ks, rfl, hq, hk, h64, q1⟩ := q1
    cases r1
    obtain ⟨its, r, pl, hz⟩ := I1.list hq
    refine call_set_tups (P := X.prog) (w := X.w) ks (I1.ok.hd hc) pl.isList (by simpa using refs_of_vals r) (fun p hp => I1.isT (hk p hp)) h64 (by have := hr.un; omega) fun h' tk L es ep t R g kp => ?_
    refine PyProof.Rows.args_nil ?_
    have I2 : Inv X pins σ H1 { s1 with heap := h', toks := tk } := I1.kept kp
    obtain ⟨o, ho, hex, hd⟩ := R.ob
    have hsz : es.size = L.length := by
      have z := congrArg List.length R.rows
      rw [Array.length_toList, rowsOf, List.length_map] at z
      exact z
    have hfew := R.few
    have e : es.size = (nubL (ks.map (·.2))).length := by
      rw [hsz, ← List.length_map (f := (·.2)) (as := L)]
      refine len_eq_of R.nd (nub_nd _) fun x => ?_
      rw [nub_mem]
      constructor
      · intro hx
        obtain ⟨p, hp, e⟩ := List.mem_map.mp hx
        exact List.mem_map.mpr ⟨p, List.mem_of_mem_take (g.sub p hp), e⟩
      · intro hx
        obtain ⟨p, hp, e⟩ := List.mem_map.mp hx
        rw [← e]
        exact g.all p (by rw [List.take_length]; exact hp)
    exact call_len_set ho hex hd (SetTR.fits (s := { s1 with heap := h', toks := tk }) R) (by rw [hsz]; omega) ⟨.int (es.size : Int), H1, I2.tok _, ⟨_, rfl⟩, by rw [e]; exact q1⟩
def seqI : D → Option (List Int)
  | .tup xs => intsOf xs
  | d => match d.lseq with
    | some xs => intsOf xs
    | none => none
theorem seqI_rep {g : Gh} {H : Hp} {d : D} {v : V} {ns : List Int} (r : RepT g H d v) (e : seqI d = some ns) : ∃ a, v = .ref a ∧ (H a = some (.lst (ns.map V.int)) ∨ H a = some (.tup (ns.map V.int))) := by
  cases el : d.lseq with
  | some xs =>
    have e1 : intsOf xs = some ns := by
      cases d with
      | tup ys => cases el
      | lst ys => cases el; exact e
      | own ys => cases el; exact e
      | fro ys => first | (cases el; exact e) | cases el
      | _ => cases el
    obtain ⟨a, vs, rfl, h, r⟩ := lseq_rep r el
    have ev := ints_rep r e1
    subst ev
    exact ⟨a, rfl, .inl h⟩
  | none =>
    cases d with
    | tup xs =>
      cases r with
      | rep r =>
        cases r with
        | @tup a _ vs q r =>
          have ev := ints_rep r (e : intsOf xs = some ns)
          subst ev
          exact ⟨a, rfl, .inr q⟩
    | lst xs => cases el
    | own xs => cases el
    | _ => first | (cases e) | (cases el)
def lenSet2 (d : D) : M D := match seqI d with
  | some ns => if ns.length < 64 then pure (.int (nubL ns).length) else stuck
  | none => lenSet1 d
section
variable {X : Cx} {P : Px} {a : Expr} {pos : Pos} {f : DEnv → M D}
theorem se_lenSetI {p p2 q : Pos} {k : Nat} (hr : Room k X.A) (hc : X.calm = true) (hg : Gl X "len") (hm : X.mg "len" = none) (hg2 : Gl X "set") (hm2 : X.mg "set" = none) (ha : SE X P a f) (hK : X.K = P.K := by rfl)
    (na : starEach [a] X.env = (false, eval a X.env) :: starEach [] X.env := by rfl) : SE X P (.Call (.Name "len" p) [.Call (.Name "set" p2) [a] [] q] [] pos) (eUn lenSet2 f) :=
  ⟨fun W tk => pe_imp (pe_lenSetB hr hc hg hm hg2 hm2 (ha.pe W tk) na) fun σ H Q h => by
    obtain ⟨g, ρ, b, hP, S, w⟩ := h
    refine ⟨g, ρ, b, hP, S, (wpG.bind (R1 := RepT g) w).imp fun v H1 ⟨d, b1, e1, B1, r1, w1⟩ => ?_⟩
    unfold lenSet2 at w1
    cases e2 : seqI d with
    | none =>
      simp only [e2] at w1
      unfold lenSet1 at w1
      cases e : d.lseq with
      | none => rw [e] at w1; exact w1.elim
      | some xs =>
        rw [e] at w1
        obtain ⟨a, vs, rfl, h, r⟩ := lseq_rep r1 e
        cases e2 : tupIs xs with
        | none => simp only [e2] at w1; exact w1.elim
        | some kss =>
          simp only [e2] at w1
          obtain ⟨hl, w2⟩ := wp_ite (c := kss.length < 64) (m := pure (D.int (nubL kss).length)) w1
          obtain ⟨ks, rfl, rfl, h3⟩ := tupIs_rep r e2
          rw [List.length_map] at hl
          exact .inr ⟨a, ks, rfl, .inl (.inl h), fun p hp => sqt (h3 p hp), hl, wpG_ok w2 B1 (.rep (.int _))⟩
    | some ns =>
      simp only [e2] at w1
      obtain ⟨hl, w2⟩ := wp_ite (c := ns.length < 64) (m := pure (D.int (nubL ns).length)) w1
      obtain ⟨a, rfl, h⟩ := seqI_rep r1 e2
      exact .inl ⟨a, ns, rfl, h.elim (fun h => .inl (.inl (.inl h))) (fun h => .inr (sqt h)), hl, wpG_ok w2 B1 (.rep (.int _))⟩⟩
end
def repD : D → D → M D
  | .tup xs, .int k => if xs ≠ [] ∧ 2 ≤ k ∧ k ≤ 1000 ∧ xs.length ≤ 1000 then pure (.tup (List.replicate k.toNat xs).flatten) else stuck
  | _, _ => stuck
section
variable {X : Cx} {P : Px} {a c : Expr} {pos : Pos} {fa fb : DEnv → M D}
theorem os_rep : OpS P (rRepT P.K) repD := fun g W σ H Q x y d d' b hP B T r1 r2 w => by
  cases r1 with
  | own => cases r2 <;> exact w.elim
  | rep r1 =>
    cases r2 with
    | own => cases d <;> exact w.elim
    | rep r2 =>
      subst hP
      cases r1 with
      | @tup l xs vs h1 q1 =>
        cases r2 with
        | int k =>
          obtain ⟨⟨h2, h3, h4, h5⟩, w⟩ := wp_ite (c := xs ≠ [] ∧ 2 ≤ k ∧ k ≤ 1000 ∧ xs.length ≤ 1000) (m := pure (D.tup (List.replicate k.toNat xs).flatten)) w
          have e1 := q1.length
          refine ⟨l, k, vs, rfl, rfl, sqt h1, fun z => h2 (by rw [z] at e1; exact List.eq_nil_of_length_eq_zero e1), h3, h4, by omega, fun p hp => ?_⟩
          exact w (.ref p) _ (Ex1.new hp) (B.new hp) (.rep (.tup upd_same (reps_rep (q1.mono B.bxl (Ex1.new hp)) _)))
        | _ => exact w.elim
      | _ => cases r2 <;> exact w.elim
theorem se_rep (ha : SE X P a fa) (hb : SE X P c fb) (hK : X.K = P.K := by rfl) : SE X P (.BinOp a .Mult c pos) (eBin repD fa fb) := se_bin (r := rRepT P.K) (by rw [← hK]; exact op_repT) os_rep ha hb
end
end Pu

set_option Elab.async false
set_option linter.all false
set_option maxRecDepth 100000
set_option maxHeartbeats 4000000
/-! plain mathematics, part A: fractions in lowest terms, triples in lowest terms -/
namespace Ma
/-! ### the quotient of an exact division -/
theorem fd {a b c : Int} (hb : b ≠ 0) (h : a = b * c) : a.fdiv b = c := Int.fdiv_eq_of_eq_mul_right hb h
/-! ### a fraction in lowest terms -/
def low (a b : Int) : Int × Int := (((if b < 0 then -1 else 1) * a).fdiv (Int.gcd a b : Nat), ((if b < 0 then -1 else 1) * b).fdiv (Int.gcd a b : Nat))
structure Fr (p : Int × Int) : Prop where
  pos : 0 < p.2
  cop : Int.gcd p.1 p.2 = 1
theorem low_spec {a b : Int} (hb : b ≠ 0) : Fr (low a b) ∧ (low a b).1 * b = a * (low a b).2 ∧ ∃ g : Int, g ≠ 0 ∧ a = g * (low a b).1 ∧ b = g * (low a b).2 := by
  have g0 : (0 : Int) < (Int.gcd a b : Nat) := by
    have : Int.gcd a b ≠ 0 := fun z => hb (Int.gcd_eq_zero_iff.mp z).2
    omega
  obtain ⟨x, hx⟩ := Int.gcd_dvd_left a b
  obtain ⟨y, hy⟩ := Int.gcd_dvd_right a b
  have gn : Int.gcd x y = 1 := by
    have e := Int.gcd_ediv_gcd_ediv_gcd (i := a) (j := b) (by omega)
    rw [show a / (Int.gcd a b : Nat) = x from Int.ediv_eq_of_eq_mul_right (by omega) hx, show b / (Int.gcd a b : Nat) = y from Int.ediv_eq_of_eq_mul_right (by omega) hy] at e
    exact e
  generalize hg : (Int.gcd a b : Int) = g at *
  have y0 : y ≠ 0 := fun z => hb (by rw [hy, z, Int.mul_zero])
  unfold low
  rw [hg]
  by_cases s : b < 0
  · rw [if_pos s, fd (c := -x) (by omega) (by rw [hx]; grind), fd (c := -y) (by omega) (by rw [hy]; grind)]
    have ny : y < 0 := by
      rcases Int.lt_or_gt_of_ne y0 with h | h
      · exact h
      · have := Int.mul_pos g0 h
        omega
    exact ⟨⟨by show 0 < -y; omega, by show Int.gcd (-x) (-y) = 1; rw [Int.gcd_neg, Int.neg_gcd]; exact gn⟩, by show -x * b = a * -y; rw [hx, hy]; grind, -g, by omega, by show a = -g * -x; rw [hx]; grind, by show b = -g * -y; rw [hy]; grind⟩
  · rw [if_neg s, fd (c := x) (by omega) (by rw [hx]; grind), fd (c := y) (by omega) (by rw [hy]; grind)]
    have py : 0 < y := by
      rcases Int.lt_or_gt_of_ne y0 with h | h
      · have := Int.mul_neg_of_pos_of_neg g0 h
        omega
      · exact h
    exact ⟨⟨py, gn⟩, by show x * b = a * y; rw [hx, hy]; grind, g, by omega, hx, hy⟩
theorem fr_eq {p q : Int × Int} (hp : Fr p) (hq : Fr q) (h : p.1 * q.2 = q.1 * p.2) : p = q := by
  have d1 : p.2 ∣ q.2 := by
    have : p.2 ∣ p.1 * q.2 := ⟨q.1, by rw [h]; exact Int.mul_comm _ _⟩
    have c : Nat.Coprime p.2.natAbs p.1.natAbs := by
      have := hp.cop
      rw [Int.gcd_comm] at this
      exact this
    have := Nat.Coprime.dvd_of_dvd_mul_left c (by rw [← Int.natAbs_mul]; exact Int.natAbs_dvd_natAbs.mpr this)
    exact Int.natAbs_dvd_natAbs.mp this
  have d2 : q.2 ∣ p.2 := by
    have : q.2 ∣ q.1 * p.2 := ⟨p.1, by rw [← h]; exact Int.mul_comm _ _⟩
    have c : Nat.Coprime q.2.natAbs q.1.natAbs := by
      have := hq.cop
      rw [Int.gcd_comm] at this
      exact this
    have := Nat.Coprime.dvd_of_dvd_mul_left c (by rw [← Int.natAbs_mul]; exact Int.natAbs_dvd_natAbs.mpr this)
    exact Int.natAbs_dvd_natAbs.mp this
  have e : p.2 = q.2 := Int.dvd_antisymm (Int.le_of_lt hp.pos) (Int.le_of_lt hq.pos) d1 d2
  rw [e] at h
  have e1 : p.1 = q.1 := Int.eq_of_mul_eq_mul_right (by have := hq.pos; omega) h
  exact Prod.ext e1 e
theorem low_one (a : Int) : low a 1 = (a, 1) := by
  unfold low
  rw [Int.gcd_one, if_neg (by decide)]
  exact Prod.ext (by show (1 * a).fdiv 1 = a; rw [Int.one_mul, Int.fdiv_one]) rfl
/-! ### a triple in lowest terms -/
abbrev T3 := Int × Int × Int
def g3 (u : T3) : Int := (Int.gcd ((Int.gcd u.1 u.2.1 : Nat) : Int) u.2.2 : Nat)
def f3 (u : T3) : Int := if u.1 ≠ 0 then u.1 else u.2.1
def s3 (u : T3) : Int := if f3 u < 0 then -g3 u else g3 u
def norm (u : T3) : T3 := (u.1.fdiv (s3 u), u.2.1.fdiv (s3 u), u.2.2.fdiv (s3 u))
def sc (m : Int) (u : T3) : T3 := (m * u.1, m * u.2.1, m * u.2.2)
/-- the first two are not both 0 -/
def Nz (u : T3) : Prop := u.1 ≠ 0 ∨ u.2.1 ≠ 0
theorem g3_pos {u : T3} (h : Nz u) : 0 < g3 u := by
  unfold g3
  have : Int.gcd ((Int.gcd u.1 u.2.1 : Nat) : Int) u.2.2 ≠ 0 := fun z => by
    have z1 := (Int.gcd_eq_zero_iff.mp z).1
    have z2 : Int.gcd u.1 u.2.1 = 0 := by omega
    have z3 := Int.gcd_eq_zero_iff.mp z2
    rcases h with h | h
    · exact h z3.1
    · exact h z3.2
  omega
theorem f3_ne {u : T3} (h : Nz u) : f3 u ≠ 0 := by
  unfold f3
  by_cases z : u.1 ≠ 0
  · rw [if_pos z]; exact z
  · rw [if_neg z]
    rcases h with h | h
    · exact absurd h z
    · exact h
theorem s3_ne {u : T3} (h : Nz u) : s3 u ≠ 0 := by
  have := g3_pos h
  unfold s3
  split <;> omega
theorem g3_dvd (u : T3) : g3 u ∣ u.1 ∧ g3 u ∣ u.2.1 ∧ g3 u ∣ u.2.2 := by
  unfold g3
  have h1 := Int.gcd_dvd_left ((Int.gcd u.1 u.2.1 : Nat) : Int) u.2.2
  exact ⟨Int.dvd_trans h1 (Int.gcd_dvd_left _ _), Int.dvd_trans h1 (Int.gcd_dvd_right _ _), Int.gcd_dvd_right _ _⟩
theorem s3_dvd (u : T3) : s3 u ∣ u.1 ∧ s3 u ∣ u.2.1 ∧ s3 u ∣ u.2.2 := by
  have h := g3_dvd u
  unfold s3
  split
  · exact ⟨Int.neg_dvd.mpr h.1, Int.neg_dvd.mpr h.2.1, Int.neg_dvd.mpr h.2.2⟩
  · exact h
theorem norm_sc {u : T3} (h : Nz u) : u = sc (s3 u) (norm u) := by
  obtain ⟨⟨x, hx⟩, ⟨y, hy⟩, ⟨z, hz⟩⟩ := s3_dvd u
  have n := s3_ne h
  have e : norm u = (x, y, z) := by unfold norm; rw [fd n hx, fd n hy, fd n hz]
  rw [e]
  exact Prod.ext hx (Prod.ext hy hz)
theorem f3_sc {m : Int} (hm : m ≠ 0) (u : T3) : f3 (sc m u) = m * f3 u := by
  unfold f3 sc
  by_cases z : u.1 ≠ 0
  · rw [if_pos (by show m * u.1 ≠ 0; exact Int.mul_ne_zero hm z), if_pos z]
  · have z' : u.1 = 0 := by omega
    rw [if_neg (by show ¬ (m * u.1 ≠ 0); rw [z', Int.mul_zero]; omega), if_neg z]
theorem g3_sc (m : Int) (u : T3) : g3 (sc m u) = m.natAbs * g3 u := by
  unfold g3 sc
  show ((Int.gcd ((Int.gcd (m * u.1) (m * u.2.1) : Nat) : Int) (m * u.2.2) : Nat) : Int) = _
  rw [Int.gcd_mul_left]
  have e : Int.gcd ((m.natAbs * Int.gcd u.1 u.2.1 : Nat) : Int) (m * u.2.2) = Int.gcd ((m.natAbs : Int) * (Int.gcd u.1 u.2.1 : Nat)) ((m.natAbs : Int) * u.2.2) := by
    unfold Int.gcd
    rw [Int.natAbs_mul, Int.natAbs_mul, Int.natAbs_mul, Int.natAbs_natCast, Int.natAbs_natCast, Int.natAbs_natCast]
  rw [e, Int.gcd_mul_left, Int.natAbs_natCast]
  omega
theorem s3_sc {m : Int} (hm : m ≠ 0) {u : T3} (h : Nz u) : s3 (sc m u) = m * s3 u := by
  have f0 := f3_ne h
  unfold s3
  rw [f3_sc hm, g3_sc]
  rcases Int.lt_or_gt_of_ne hm with a | a
  · have e : (m.natAbs : Int) = -m := by omega
    rw [e]
    rcases Int.lt_or_gt_of_ne f0 with b | b
    · have := Int.mul_pos_of_neg_of_neg a b
      rw [if_neg (by omega), if_pos b]
      grind
    · have := Int.mul_neg_of_neg_of_pos a b
      rw [if_pos this, if_neg (by omega)]
      grind
  · have e : (m.natAbs : Int) = m := by omega
    rw [e]
    rcases Int.lt_or_gt_of_ne f0 with b | b
    · have := Int.mul_neg_of_pos_of_neg a b
      rw [if_pos this, if_pos b]
      grind
    · have := Int.mul_pos a b
      rw [if_neg (by omega), if_neg (by omega)]
theorem norm_scale {m : Int} (hm : m ≠ 0) {u : T3} (h : Nz u) : norm (sc m u) = norm u := by
  obtain ⟨⟨x, hx⟩, ⟨y, hy⟩, ⟨z, hz⟩⟩ := s3_dvd u
  have n := s3_ne h
  unfold norm
  rw [s3_sc hm h]
  have n2 := Int.mul_ne_zero hm n
  show ((m * u.1).fdiv _, (m * u.2.1).fdiv _, (m * u.2.2).fdiv _) = _
  rw [fd n hx, fd n hy, fd n hz, fd (c := x) n2 (by rw [hx]; grind), fd (c := y) n2 (by rw [hy]; grind), fd (c := z) n2 (by rw [hz]; grind)]
theorem Nz.sc {m : Int} (hm : m ≠ 0) {u : T3} (h : Nz u) : Nz (sc m u) := by
  rcases h with h | h
  · exact .inl (Int.mul_ne_zero hm h)
  · exact .inr (Int.mul_ne_zero hm h)
/-- of one direction -/
def Par (u v : T3) : Prop := u.1 * v.2.1 = u.2.1 * v.1 ∧ u.1 * v.2.2 = u.2.2 * v.1 ∧ u.2.1 * v.2.2 = u.2.2 * v.2.1
theorem norm_eq {u v : T3} (hu : Nz u) (hv : Nz v) : norm u = norm v ↔ Par u v := by
  constructor
  · intro e
    rw [norm_sc hu, norm_sc hv, e]
    unfold Par sc
    generalize norm v = w
    obtain ⟨x, y, z⟩ := w
    exact ⟨by show _ * x * (_ * y) = _ * y * (_ * x); grind, by show _ * x * (_ * z) = _ * z * (_ * x); grind, by show _ * y * (_ * z) = _ * z * (_ * y); grind⟩
  · rintro ⟨h1, h2, h3⟩
    obtain ⟨a, b, c⟩ := u
    obtain ⟨x, y, z⟩ := v
    simp only at h1 h2 h3
    by_cases ha : a = 0
    · have hb : b ≠ 0 := by
        rcases hu with h | h
        · exact absurd ha h
        · exact h
      have hx : x = 0 := by
        rw [ha, Int.zero_mul] at h1
        rcases Int.mul_eq_zero.mp h1.symm with h | h
        · exact absurd h hb
        · exact h
      have hy : y ≠ 0 := by
        rcases hv with h | h
        · exact absurd hx h
        · exact h
      rw [← norm_scale hy hu, ← norm_scale hb hv]
      congr 1
      unfold sc
      refine Prod.ext ?_ (Prod.ext ?_ ?_)
      · show y * a = b * x; rw [ha, hx]; grind
      · show y * b = b * y; grind
      · show y * c = b * z; grind
    · have hx : x ≠ 0 := by
        intro hx
        have hy : y ≠ 0 := by
          rcases hv with h | h
          · exact absurd hx h
          · exact h
        rw [hx, Int.mul_zero] at h1
        rcases Int.mul_eq_zero.mp h1 with h | h
        · exact ha h
        · exact hy h
      rw [← norm_scale hx hu, ← norm_scale ha hv]
      congr 1
      unfold sc
      refine Prod.ext ?_ (Prod.ext ?_ ?_)
      · show x * a = a * x; grind
      · show x * b = a * y; grind
      · show x * c = a * z; grind
end Ma

set_option Elab.async false
set_option linter.all false
set_option maxRecDepth 100000
set_option maxHeartbeats 4000000
/-! plain mathematics, part B: points at fractions, the line through two -/
namespace Ma
abbrev Q2 := Int × Int
abbrev Pt := Q2 × Q2
structure FrP (p : Pt) : Prop where
  x : Fr p.1
  y : Fr p.2
def qless (p q : Q2) : Q2 := low (p.1 * q.2 - q.1 * p.2) (p.2 * q.2)
def qplus (p q : Q2) : Q2 := low (p.1 * q.2 + q.1 * p.2) (p.2 * q.2)
def qtimes (p q : Q2) : Q2 := low (p.1 * q.1) (p.2 * q.2)
theorem qless_spec {p q : Q2} (hp : 0 < p.2) (hq : 0 < q.2) : Fr (qless p q) ∧ (qless p q).1 * (p.2 * q.2) = (p.1 * q.2 - q.1 * p.2) * (qless p q).2 := by
  have h := low_spec (a := p.1 * q.2 - q.1 * p.2) (b := p.2 * q.2) (by have := Int.mul_pos hp hq; omega)
  exact ⟨h.1, h.2.1⟩
theorem qplus_spec {p q : Q2} (hp : 0 < p.2) (hq : 0 < q.2) : Fr (qplus p q) ∧ (qplus p q).1 * (p.2 * q.2) = (p.1 * q.2 + q.1 * p.2) * (qplus p q).2 := by
  have h := low_spec (a := p.1 * q.2 + q.1 * p.2) (b := p.2 * q.2) (by have := Int.mul_pos hp hq; omega)
  exact ⟨h.1, h.2.1⟩
theorem qtimes_spec {p q : Q2} (hp : 0 < p.2) (hq : 0 < q.2) : Fr (qtimes p q) ∧ (qtimes p q).1 * (p.2 * q.2) = (p.1 * q.1) * (qtimes p q).2 := by
  have h := low_spec (a := p.1 * q.1) (b := p.2 * q.2) (by have := Int.mul_pos hp hq; omega)
  exact ⟨h.1, h.2.1⟩
/-- three whole numbers for a point -/
def wh (p : Pt) : T3 := (p.1.1 * p.2.2, p.2.1 * p.1.2, p.1.2 * p.2.2)
def cr (u v : T3) : T3 := (u.2.1 * v.2.2 - u.2.2 * v.2.1, u.2.2 * v.1 - u.1 * v.2.2, u.1 * v.2.1 - u.2.1 * v.1)
def dot (u v : T3) : Int := u.1 * v.1 + u.2.1 * v.2.1 + u.2.2 * v.2.2
def det (u v w : T3) : Int := dot (cr u v) w
/-- what line_by makes of three fractions, ahead of lowest terms -/
def whole3 (a b c : Q2) : T3 := (a.1 * (a.2 * b.2 * c.2).fdiv a.2, b.1 * (a.2 * b.2 * c.2).fdiv b.2, c.1 * (a.2 * b.2 * c.2).fdiv c.2)
theorem whole3_eq {a b c : Q2} (ha : 0 < a.2) (hb : 0 < b.2) (hc : 0 < c.2) : whole3 a b c = (a.1 * (b.2 * c.2), b.1 * (a.2 * c.2), c.1 * (a.2 * b.2)) := by
  unfold whole3
  rw [fd (c := b.2 * c.2) (by omega) (by grind), fd (c := a.2 * c.2) (by omega) (by grind), fd (c := a.2 * b.2) (by omega) (by grind)]
def rest (p q : Pt) : Q2 := qplus (qtimes (qless p.2 q.2) p.1) (qtimes (qless q.1 p.1) p.2)
def lineT (p q : Pt) : T3 := norm (whole3 (qless p.2 q.2) (qless q.1 p.1) (-(rest p q).1, (rest p q).2))
theorem cancel {a b c : Int} (hc : c ≠ 0) (h : a * c = b * c) : a = b := Int.eq_of_mul_eq_mul_right hc h
theorem frp_ne {p q : Pt} (hp : FrP p) (hq : FrP q) (h : p ≠ q) : p.2.1 * q.2.2 - q.2.1 * p.2.2 ≠ 0 ∨ q.1.1 * p.1.2 - p.1.1 * q.1.2 ≠ 0 := by
  by_cases e1 : p.2.1 * q.2.2 - q.2.1 * p.2.2 = 0
  · by_cases e2 : q.1.1 * p.1.2 - p.1.1 * q.1.2 = 0
    · exact absurd (Prod.ext (fr_eq hp.x hq.x (by omega)) (fr_eq hp.y hq.y (by omega))) h
    · exact .inr e2
  · exact .inl e1
theorem nz_cr {p q : Pt} (hp : FrP p) (hq : FrP q) (h : p ≠ q) : Nz (cr (wh p) (wh q)) := by
  have px := hp.x.pos
  have py := hp.y.pos
  have qx := hq.x.pos
  have qy := hq.y.pos
  rcases frp_ne hp hq h with e | e
  · refine .inl ?_
    have : (cr (wh p) (wh q)).1 = p.1.2 * q.1.2 * (p.2.1 * q.2.2 - q.2.1 * p.2.2) := by unfold cr wh; grind
    rw [this]
    exact Int.mul_ne_zero (Int.mul_ne_zero (by omega) (by omega)) e
  · refine .inr ?_
    have : (cr (wh p) (wh q)).2.1 = p.2.2 * q.2.2 * (q.1.1 * p.1.2 - p.1.1 * q.1.2) := by unfold cr wh; grind
    rw [this]
    exact Int.mul_ne_zero (Int.mul_ne_zero (by omega) (by omega)) e
theorem line_pre {p q : Pt} (hp : FrP p) (hq : FrP q) (h : p ≠ q) : Nz (whole3 (qless p.2 q.2) (qless q.1 p.1) (-(rest p q).1, (rest p q).2)) ∧ Par (whole3 (qless p.2 q.2) (qless q.1 p.1) (-(rest p q).1, (rest p q).2)) (cr (wh p) (wh q)) := by
  have X0 := hp.x.pos
  have Y0 := hp.y.pos
  have U0 := hq.x.pos
  have V0 := hq.y.pos
  obtain ⟨fa, ea⟩ := qless_spec Y0 V0
  obtain ⟨fb, eb⟩ := qless_spec U0 X0
  obtain ⟨fs, es⟩ := qtimes_spec fa.pos X0
  obtain ⟨ft, et⟩ := qtimes_spec fb.pos Y0
  obtain ⟨fr, er⟩ := qplus_spec fs.pos ft.pos
  have a0 := fa.pos
  have b0 := fb.pos
  have s0 := fs.pos
  have t0 := ft.pos
  have r0 : 0 < (rest p q).2 := fr.pos
  have er : (rest p q).1 * ((qtimes (qless p.2 q.2) p.1).2 * (qtimes (qless q.1 p.1) p.2).2) = _ * (rest p q).2 := er
  have hne := frp_ne hp hq h
  rw [whole3_eq a0 b0 (by exact r0)]
  generalize qtimes (qless p.2 q.2) p.1 = s at *
  generalize qtimes (qless q.1 p.1) p.2 = t at *
  generalize rest p q = r at *
  generalize qless p.2 q.2 = a at *
  generalize qless q.1 p.1 = b at *
  obtain ⟨⟨x, X⟩, ⟨y, Y⟩⟩ := p
  obtain ⟨⟨u, U⟩, ⟨v, V⟩⟩ := q
  obtain ⟨a1, a2⟩ := a
  obtain ⟨b1, b2⟩ := b
  obtain ⟨s1, s2⟩ := s
  obtain ⟨t1, t2⟩ := t
  obtain ⟨r1, r2⟩ := r
  simp only at *
  -- r1 Y V U X = - X3 r2
  have k1 : r1 * (a2 * X * (b2 * Y)) = (a1 * x * (b2 * Y) + b1 * y * (a2 * X)) * r2 := by
    refine cancel (c := s2 * t2) (Int.mul_ne_zero (by omega) (by omega)) ?_
    have : r1 * (a2 * X * (b2 * Y)) * (s2 * t2) = (s1 * (a2 * X) * t2 * (b2 * Y) + t1 * (b2 * Y) * s2 * (a2 * X)) * r2 := by grind
    rw [this, es, et]
    grind
  have k2 : r1 * (Y * V * (U * X)) = -(x * Y * (v * U) - y * X * (u * V)) * r2 := by
    refine cancel (c := a2 * b2 * (X * Y)) (Int.mul_ne_zero (Int.mul_ne_zero (by omega) (by omega)) (Int.mul_ne_zero (by omega) (by omega))) ?_
    have : r1 * (Y * V * (U * X)) * (a2 * b2 * (X * Y)) = (a1 * (Y * V) * x * (b2 * Y) * (U * X) + b1 * (U * X) * y * (a2 * X) * (Y * V)) * r2 := by grind
    rw [this, ea, eb]
    grind
  refine ⟨?_, ?_, ?_, ?_⟩
  · rcases hne with e | e
    · refine .inl (Int.mul_ne_zero (fun z => e ?_) (Int.mul_ne_zero (by omega) (by omega)))
      rw [z, Int.zero_mul] at ea
      rcases Int.mul_eq_zero.mp ea.symm with w | w
      · exact w
      · omega
    · refine .inr (Int.mul_ne_zero (fun z => e ?_) (Int.mul_ne_zero (by omega) (by omega)))
      rw [z, Int.zero_mul] at eb
      rcases Int.mul_eq_zero.mp eb.symm with w | w
      · exact w
      · omega
  · show a1 * (b2 * r2) * (X * Y * (u * V) - x * Y * (U * V)) = b1 * (a2 * r2) * (y * X * (U * V) - X * Y * (v * U))
    have q1 : a1 * (b2 * r2) * (X * Y * (u * V) - x * Y * (U * V)) = a1 * (Y * V) * (b2 * r2) * (u * X - x * U) := by clear k1 k2 er es et ea eb; grind
    have q2 : b1 * (a2 * r2) * (y * X * (U * V) - X * Y * (v * U)) = b1 * (U * X) * (a2 * r2) * (y * V - v * Y) := by clear k1 k2 er es et ea eb; grind
    rw [q1, q2, ea, eb]
    clear k1 k2 er es et ea eb
    grind
  · show a1 * (b2 * r2) * (x * Y * (v * U) - y * X * (u * V)) = -r1 * (a2 * b2) * (y * X * (U * V) - X * Y * (v * U))
    refine cancel (c := Y * V) (Int.mul_ne_zero (by omega) (by omega)) ?_
    have : -r1 * (a2 * b2) * (y * X * (U * V) - X * Y * (v * U)) * (Y * V) = -(a2 * b2) * (y * V - v * Y) * (r1 * (Y * V * (U * X))) := by grind
    rw [this, k2]
    have : a1 * (b2 * r2) * (x * Y * (v * U) - y * X * (u * V)) * (Y * V) = a1 * (Y * V) * (b2 * r2) * (x * Y * (v * U) - y * X * (u * V)) := by grind
    rw [this, ea]
    grind
  · show b1 * (a2 * r2) * (x * Y * (v * U) - y * X * (u * V)) = -r1 * (a2 * b2) * (X * Y * (u * V) - x * Y * (U * V))
    refine cancel (c := U * X) (Int.mul_ne_zero (by omega) (by omega)) ?_
    have : -r1 * (a2 * b2) * (X * Y * (u * V) - x * Y * (U * V)) * (U * X) = -(a2 * b2) * (u * X - x * U) * (r1 * (Y * V * (U * X))) := by grind
    rw [this, k2]
    have : b1 * (a2 * r2) * (x * Y * (v * U) - y * X * (u * V)) * (U * X) = b1 * (U * X) * (a2 * r2) * (x * Y * (v * U) - y * X * (u * V)) := by grind
    rw [this, eb]
    grind
theorem line_eq {p q : Pt} (hp : FrP p) (hq : FrP q) (h : p ≠ q) : lineT p q = norm (cr (wh p) (wh q)) :=
  (norm_eq (line_pre hp hq h).1 (nz_cr hp hq h)).mpr (line_pre hp hq h).2
theorem wh_pos {p : Pt} (hp : FrP p) : 0 < (wh p).2.2 := Int.mul_pos hp.x.pos hp.y.pos
theorem line_sym {p q : Pt} (hp : FrP p) (hq : FrP q) (h : p ≠ q) : lineT q p = lineT p q := by
  rw [line_eq hp hq h, line_eq hq hp h.symm, ← norm_scale (m := -1) (by decide) (nz_cr hp hq h)]
  congr 1
  unfold sc cr
  refine Prod.ext ?_ (Prod.ext ?_ ?_) <;> (simp only; grind)
/-- p, q, r on one line -/
def Col (p q r : Pt) : Prop := det (wh p) (wh q) (wh r) = 0
instance (p q r : Pt) : Decidable (Col p q r) := by unfold Col; infer_instance
def On (l : T3) (p : Pt) : Prop := dot l (wh p) = 0
instance (l : T3) (p : Pt) : Decidable (On l p) := by unfold On; infer_instance
theorem on_line {p q : Pt} (hp : FrP p) (hq : FrP q) (h : p ≠ q) (r : Pt) : On (lineT p q) r ↔ Col p q r := by
  unfold On Col det
  rw [line_eq hp hq h]
  have n := nz_cr hp hq h
  have e := norm_sc n
  have s := s3_ne n
  generalize cr (wh p) (wh q) = u at *
  generalize s3 u = m at *
  generalize norm u = v at *
  rw [e]
  unfold dot sc
  have : (m * v.1 * (wh r).1 + m * v.2.1 * (wh r).2.1 + m * v.2.2 * (wh r).2.2) = m * (v.1 * (wh r).1 + v.2.1 * (wh r).2.1 + v.2.2 * (wh r).2.2) := by grind
  show _ ↔ m * v.1 * (wh r).1 + m * v.2.1 * (wh r).2.1 + m * v.2.2 * (wh r).2.2 = 0
  rw [this]
  exact ⟨fun z => by rw [z, Int.mul_zero], fun z => (Int.mul_eq_zero.mp z).resolve_left s⟩
theorem on_left {p q : Pt} (hp : FrP p) (hq : FrP q) (h : p ≠ q) : On (lineT p q) p := (on_line hp hq h p).mpr (by unfold Col det dot cr; grind)
theorem on_right {p q : Pt} (hp : FrP p) (hq : FrP q) (h : p ≠ q) : On (lineT p q) q := (on_line hp hq h q).mpr (by unfold Col det dot cr; grind)
/-- through two points one line -/
theorem line_same {p q r : Pt} (hp : FrP p) (hq : FrP q) (hr : FrP r) (h : p ≠ q) (h2 : p ≠ r) (c : Col p q r) : lineT p r = lineT p q := by
  rw [line_eq hp hq h, line_eq hp hr h2]
  refine (norm_eq (nz_cr hp hr h2) (nz_cr hp hq h)).mpr ?_
  unfold Col at c
  generalize wh p = a at *
  generalize wh q = b at *
  generalize wh r = d at *
  have e1 : (cr a d).1 * (cr a b).2.1 - (cr a d).2.1 * (cr a b).1 = -(det a b d * a.2.2) := by unfold det dot cr; grind
  have e2 : (cr a d).1 * (cr a b).2.2 - (cr a d).2.2 * (cr a b).1 = det a b d * a.2.1 := by unfold det dot cr; grind
  have e3 : (cr a d).2.1 * (cr a b).2.2 - (cr a d).2.2 * (cr a b).2.1 = -(det a b d * a.1) := by unfold det dot cr; grind
  rw [c, Int.zero_mul] at e1 e2 e3
  exact ⟨by omega, by omega, by omega⟩
theorem line_on {p q r : Pt} (hp : FrP p) (hq : FrP q) (hr : FrP r) (h : p ≠ q) (h2 : p ≠ r) (c : On (lineT p q) r) : lineT p r = lineT p q := line_same hp hq hr h h2 ((on_line hp hq h r).mp c)
end Ma

set_option Elab.async false
set_option linter.all false
set_option maxRecDepth 100000
set_option maxHeartbeats 4000000
/-! the grid of four times four cells (cell c: across c / 4, up c % 4): its lines as masks; a search -/
namespace Gr
/-- by the last cell of each line -/
def tb : List (List Nat) := [[], [], [], [15], [18, 20, 24], [40], [65], [129, 130, 132, 240], [258, 264, 320, 384, 292], [513, 516, 640], [1026, 1032, 1040], [2049, 2052, 2064, 2080, 2114, 3840], [4098, 4100, 4128, 4224, 5120, 6144, 4369, 4680], [8193, 8196, 8200, 8208, 8256, 8448, 10240, 9344, 8738], [16385, 16386, 16392, 16416, 16512, 16640, 18432, 16912, 17476], [32770, 32772, 32784, 32832, 33024, 33280, 33825, 34952, 61440]]
def cl (a b c : Nat) : Bool := decide ((((b / 4 : Nat) : Int) - (a / 4 : Nat)) * (((c % 4 : Nat) : Int) - (a % 4 : Nat)) = (((c / 4 : Nat) : Int) - (a / 4 : Nat)) * (((b % 4 : Nat) : Int) - (a % 4 : Nat)))
/-- a line: of any two of its cells the cells in line with them -/
def lineOk (m : Nat) : Bool := (List.range 16).all fun a => (List.range 16).all fun b => (!(m.testBit a) || !(m.testBit b) || Nat.beq a b) || (List.range 16).all fun c => m.testBit c == cl a b c
theorem tb_ok : (tb.all fun ms => ms.all lineOk) = true := by decide +kernel
def smallT : Nat → List (List Nat) → Bool
  | _, [] => true
  | k, ms :: r => (ms.all fun m => Nat.blt m (2 ^ (k + 1))) && smallT (k + 1) r
theorem tb_small : smallT 0 tb = true := by decide +kernel
theorem tb_len : tb.length = 16 := rfl
def all : List Nat := tb.flatten
def two (x : Nat) : Bool := !(Nat.beq (x &&& (x - 1)) 0)
def mono (R B m : Nat) : Bool := (Nat.beq (R &&& m) 0 && two (B &&& m)) || (Nat.beq (B &&& m) 0 && two (R &&& m))
def lf (S : Nat) : Bool := all.any fun m => Nat.beq (S &&& m) S
def bt : List (List Nat) → Nat → Nat → Nat → Bool
  | [], _, R, B => lf (R ||| B)
  | ms :: r, p, R, B => (ms.any (mono R B) || bt r (p * 2) R B) && ((ms.any (mono (R + p) B) || bt r (p * 2) (R + p) B) && (ms.any (mono R (B + p)) || bt r (p * 2) R (B + p)))
theorem bt_run : bt tb 1 0 0 = true := by decide +kernel
end Gr

set_option Elab.async false
set_option linter.all false
set_option maxRecDepth 100000
set_option maxHeartbeats 4000000
/-! the search's answer -/
namespace Gr
theorem two_ok {x : Nat} (h : two x = true) : ∃ i j, i ≠ j ∧ x.testBit i = true ∧ x.testBit j = true := by
  have hx : x &&& (x - 1) ≠ 0 := fun e => by
    unfold two at h
    rw [e] at h
    cases h
  have x0 : x ≠ 0 := fun e => hx (by rw [e]; rfl)
  obtain ⟨i, hi⟩ := Nat.exists_testBit_of_ne_zero x0
  refine Classical.byContradiction fun no => hx ?_
  have e : x = 2 ^ i := Nat.eq_of_testBit_eq fun j => by
    rw [Nat.testBit_two_pow]
    by_cases z : i = j
    · rw [decide_eq_true z, ← z]; exact hi
    · rw [decide_eq_false z]
      cases q : x.testBit j with
      | false => rfl
      | true => exact (no ⟨i, j, z, hi, q⟩).elim
  rw [e, Nat.and_two_pow_sub_one_eq_mod, Nat.mod_self]
def Mn (r b : Nat → Bool) (m : Nat) : Prop := (∃ x y, x ≠ y ∧ m.testBit x = true ∧ m.testBit y = true ∧ b x = true ∧ b y = true ∧ ∀ c, m.testBit c = true → r c = false) ∨ ∃ x y, x ≠ y ∧ m.testBit x = true ∧ m.testBit y = true ∧ r x = true ∧ r y = true ∧ ∀ c, m.testBit c = true → b c = false
def At (r : Nat → Bool) (k R : Nat) : Prop := ∀ c, R.testBit c = (decide (c < k) && r c)
theorem bit_lt {m k c : Nat} (h : m < 2 ^ k) (t : m.testBit c = true) : c < k := by
  refine Classical.byContradiction fun z => ?_
  have : m < 2 ^ c := Nat.lt_of_lt_of_le h (Nat.pow_le_pow_right (by decide) (by omega))
  rw [Nat.testBit_lt_two_pow this] at t
  cases t
theorem side {r : Nat → Bool} {k R m : Nat} (hR : At r k R) (hm : m < 2 ^ k) (h : Nat.beq (R &&& m) 0 = true) : ∀ c, m.testBit c = true → r c = false := fun c hc => by
  have e := congrArg (fun z => z.testBit c) (Nat.eq_of_beq_eq_true h)
  have e2 : (R &&& m).testBit c = false := e.trans (Nat.zero_testBit c)
  rw [Nat.testBit_and, hc, hR c, decide_eq_true (bit_lt hm hc)] at e2
  simpa using e2
theorem pair {r : Nat → Bool} {k R m : Nat} (hR : At r k R) (h : two (R &&& m) = true) : ∃ x y, x ≠ y ∧ m.testBit x = true ∧ m.testBit y = true ∧ r x = true ∧ r y = true := by
  obtain ⟨x, y, n, hx, hy⟩ := two_ok h
  rw [Nat.testBit_and, Bool.and_eq_true, hR, Bool.and_eq_true] at hx hy
  exact ⟨x, y, n, hx.2, hy.2, hx.1.2, hy.1.2⟩
theorem mono_ok {r b : Nat → Bool} {k R B m : Nat} (hR : At r k R) (hB : At b k B) (hm : m < 2 ^ k) (h : mono R B m = true) : Mn r b m := by
  unfold mono at h
  rw [Bool.or_eq_true, Bool.and_eq_true, Bool.and_eq_true] at h
  rcases h with ⟨h1, h2⟩ | ⟨h1, h2⟩
  · obtain ⟨x, y, n, mx, my, hx, hy⟩ := pair hB h2
    exact .inl ⟨x, y, n, mx, my, hx, hy, side hR hm h1⟩
  · obtain ⟨x, y, n, mx, my, hx, hy⟩ := pair hR h2
    exact .inr ⟨x, y, n, mx, my, hx, hy, side hB hm h1⟩
theorem At.lt {r : Nat → Bool} {k R : Nat} (h : At r k R) : R < 2 ^ k := Nat.lt_pow_two_of_testBit R fun i hi => by rw [h, decide_eq_false (by omega)]; rfl
theorem At.no {r : Nat → Bool} {k R : Nat} (h : At r k R) (e : r k = false) : At r (k + 1) R := fun c => by
  rw [h]
  by_cases z : c < k
  · rw [decide_eq_true z, decide_eq_true (by omega)]
  · by_cases z2 : c = k
    · rw [z2, e, Bool.and_false, Bool.and_false]
    · rw [decide_eq_false z, decide_eq_false (by omega)]
theorem At.yes {r : Nat → Bool} {k R : Nat} (h : At r k R) (e : r k = true) : At r (k + 1) (R + 2 ^ k) := fun c => by
  have l := h.lt
  rw [Nat.add_comm]
  rcases Nat.lt_trichotomy c k with z | z | z
  · rw [Nat.testBit_two_pow_add_gt z, h, decide_eq_true z, decide_eq_true (by omega)]
  · rw [z, Nat.testBit_two_pow_add_eq, h, e]
    simp
  · rw [decide_eq_false (by omega), Bool.false_and]
    exact Nat.testBit_lt_two_pow (Nat.lt_of_lt_of_le (by rw [Nat.pow_succ]; omega : 2 ^ k + R < 2 ^ (k + 1)) (Nat.pow_le_pow_right (by decide) z))
theorem small_at {k : Nat} {ms : List Nat} {l : List (List Nat)} (h : smallT k (ms :: l) = true) : (∀ m ∈ ms, m < 2 ^ (k + 1)) ∧ smallT (k + 1) l = true := by
  unfold smallT at h
  rw [Bool.and_eq_true, List.all_eq_true] at h
  exact ⟨fun m hm => Nat.le_of_ble_eq_true (h.1 m hm), h.2⟩
theorem bt_ok {r b : Nat → Bool} (dj : ∀ c, ¬ (r c = true ∧ b c = true)) : ∀ (l : List (List Nat)) (k R B : Nat), smallT k l = true → At r k R → At b k B → bt l (2 ^ k) R B = true →
    (∃ m ∈ l.flatten, Mn r b m) ∨ ∃ m ∈ all, ∀ c, c < k + l.length → (r c = true ∨ b c = true) → m.testBit c = true
  | [], k, R, B, _, hR, hB, h => by
    right
    have h' : lf (R ||| B) = true := h
    unfold lf at h'
    obtain ⟨m, hm, e⟩ := List.any_eq_true.mp h'
    refine ⟨m, hm, fun c hc hrb => ?_⟩
    have e2 := congrArg (fun z => z.testBit c) (Nat.eq_of_beq_eq_true e)
    have e3 : ((R ||| B) &&& m).testBit c = (R ||| B).testBit c := e2
    have hc' : c < k := hc
    have on : (R ||| B).testBit c = true := by
      rw [Nat.testBit_or, hR c, hB c, decide_eq_true hc']
      rcases hrb with h | h <;> rw [h] <;> simp
    rw [Nat.testBit_and, on] at e3
    simpa using e3
  | ms :: l, k, R, B, hs, hR, hB, h => by
    obtain ⟨s1, s2⟩ := small_at hs
    unfold bt at h
    rw [Bool.and_eq_true, Bool.and_eq_true, Bool.or_eq_true, Bool.or_eq_true, Bool.or_eq_true, ← Nat.pow_succ] at h
    have go : ∀ {R' B' : Nat}, At r (k + 1) R' → At b (k + 1) B' → (ms.any (mono R' B') = true ∨ bt l (2 ^ (k + 1)) R' B' = true) → (∃ m ∈ (ms :: l).flatten, Mn r b m) ∨ ∃ m ∈ all, ∀ c, c < k + (ms :: l).length → (r c = true ∨ b c = true) → m.testBit c = true := by
      intro R' B' hR' hB' hh
      rcases hh with hh | hh
      · obtain ⟨m, hm, e⟩ := List.any_eq_true.mp hh
        exact .inl ⟨m, List.mem_flatten.mpr ⟨ms, List.mem_cons_self, hm⟩, mono_ok hR' hB' (s1 m hm) e⟩
      · rcases bt_ok dj l (k + 1) R' B' s2 hR' hB' hh with ⟨m, hm, e⟩ | ⟨m, hm, e⟩
        · exact .inl ⟨m, by rw [List.flatten_cons]; exact List.mem_append_right _ hm, e⟩
        · exact .inr ⟨m, hm, fun c hc => e c (by rw [List.length_cons] at hc; omega)⟩
    cases er : r k with
    | true =>
      cases eb : b k with
      | true => exact (dj k ⟨er, eb⟩).elim
      | false => exact go (hR.yes er) (hB.no eb) h.2.1
    | false =>
      cases eb : b k with
      | true => exact go (hR.no er) (hB.yes eb) h.2.2
      | false => exact go (hR.no er) (hB.no eb) h.1
/-- two colours on some cells: a line of one colour, or all on one line -/
theorem two_colours {r b : Nat → Bool} (dj : ∀ c, ¬ (r c = true ∧ b c = true)) : (∃ m ∈ all, Mn r b m) ∨ ∃ m ∈ all, ∀ c, c < 16 → (r c = true ∨ b c = true) → m.testBit c = true := by
  have z : ∀ f : Nat → Bool, At f 0 0 := fun f c => by rw [Nat.zero_testBit, decide_eq_false (Nat.not_lt_zero c)]; rfl
  exact bt_ok dj tb 0 0 0 tb_small (z r) (z b) bt_run
theorem line_at {m : Nat} (h : m ∈ all) {a b c : Nat} (ha : a < 16) (hb : b < 16) (hc : c < 16) (ma : m.testBit a = true) (mb : m.testBit b = true) (n : a ≠ b) : m.testBit c = cl a b c := by
  obtain ⟨ms, h1, h2⟩ := List.mem_flatten.mp h
  have e := List.all_eq_true.mp (List.all_eq_true.mp tb_ok ms h1) m h2
  unfold lineOk at e
  have e1 := List.all_eq_true.mp (List.all_eq_true.mp e a (List.mem_range.mpr ha)) b (List.mem_range.mpr hb)
  have nb : Nat.beq a b = false := Bool.eq_false_iff.mpr fun z => n (Nat.eq_of_beq_eq_true z)
  rw [ma, mb, nb] at e1
  have e2 := List.all_eq_true.mp (show ((List.range 16).all fun c => m.testBit c == cl a b c) = true from e1) c (List.mem_range.mpr hc)
  exact eq_of_beq e2
end Gr

set_option Elab.async false
set_option linter.all false
set_option maxRecDepth 100000
set_option maxHeartbeats 4000000
namespace Lw
open PySem PySem.Spec PyProof.Rows L2 Pu
def px (K : PySem.W.Frag) : Px := ⟨K, fun i => He.ga K (nmF.getD i ""), fun i => He.ga K (nmC.getD i "")⟩
structure FX (K : PySem.W.Frag) (mg : Str → Option Value) : Prop where
  g : ∀ (i : Nat) (x : Str), nmF[i]? = some x → mg x = some (.ref ((px K).fa i))
  fr : ∀ (i : Nat) (x : Str), frL[i]? = some x → mg x = none
  it : ∀ (i : Nat) (x : Str) (n : Int), itL[i]? = some (x, n) → ∃ t, mg x = some (.int n t)
  ex : ∀ (i : Nat) (x : Str), nmC[i]? = some x → mg x = some (.ref ((px K).ca i)) ∧ ErrC K ((px K).ca i)
  slE : ∀ c : Nat, c < nmC.length → ErrX K ((px K).ca c)
  slM : ∀ c d : Nat, c < nmC.length → d < nmC.length → PySem.W.exmOne K (.ref ((px K).ca c)) (.ref ((px K).ca d)) = some (decide (c = d))
  dd : ∀ (i : Nat) (x : Str) (j : Nat), nmF[i]? = some x → ixF[i]? = some j → ∃ fd, FunD K x x (defArgs (top j)) (defBody (top j)) (defScope (top j)) [] [] ((px K).fa i) fd
abbrev pg : Program := PySem.Challenge.pw_linesoftwo_k35_main_lines_of_one_colour
end Lw

set_option Elab.async false
set_option linter.all false
set_option maxRecDepth 100000
set_option maxHeartbeats 4000000
namespace Lw
open PySem PySem.Spec PyProof.Rows L2 Pu
def b_is_number : DEnv → M Out := (sRet (eAnd (eIsi "int" (eVar 0)) (eNot (eIsi "bool" (eVar 0)))))
def f_is_number : List D → M D := runD 1 1 b_is_number
theorem sc_is_number : FnScope ["thing"] ["thing"] (defScope (top 5)) := ⟨rfl, rfl, rfl, by decide +kernel, rfl, by decide +kernel, by decide +kernel⟩
theorem ok_is_number {w : World} {K : PySem.W.Frag} {mg : Str → Option Value} {base : Heap} (Z : FX K mg) : OkF pg w K mg base (px K) 3 0 f_is_number := by
  obtain ⟨fd, F⟩ := Z.dd 0 _ _ rfl rfl
  have sc := sc_is_number
  refine okF_mk (K := K) (P := px K) (st := top 5) (k := 2) rfl F sc (F.bindsN (ps := ["thing"]) fun _ _ _ _ _ _ us hl => match us, hl with | [_], _ => rfl) fun cdv A outer s H E hr => ?_
  exact (sss_one (ss_ret (se_and (se_isi rfl (Z.fr 6 _ rfl) (se_var 0) rfl (Z.fr 5 _ rfl) rfl) (se_one (se_not (se_isi rfl (Z.fr 6 _ rfl) (se_var 0) rfl (Z.fr 3 _ rfl) rfl))))))
def b_is_within : DEnv → M Out := (sRet (eAnd (eCall f_is_number (aCons (eVar 0) aNil)) (eChain leD leD (eVar 1) (eVar 0) (eVar 2))))
def f_is_within : List D → M D := runD 3 3 b_is_within
theorem sc_is_within : FnScope ["thing", "least", "most"] ["thing", "least", "most"] (defScope (top 6)) := ⟨rfl, rfl, rfl, by decide +kernel, rfl, by decide +kernel, by decide +kernel⟩
theorem ok_is_within {w : World} {K : PySem.W.Frag} {mg : Str → Option Value} {base : Heap} (Z : FX K mg) : OkF pg w K mg base (px K) 4 1 f_is_within := by
  obtain ⟨fd, F⟩ := Z.dd 1 _ _ rfl rfl
  have o_is_number := ok_is_number (w := w) (base := base) Z
  have sc := sc_is_within
  refine okF_mk (K := K) (P := px K) (st := top 6) (k := 3) rfl F sc (F.bindsN (ps := ["thing", "least", "most"]) fun _ _ _ _ _ _ us hl => match us, hl with | [_, _, _], _ => rfl) fun cdv A outer s H E hr => ?_
  exact (sss_one (ss_ret (se_and (se_callF o_is_number (hr.mono (by decide)) (Z.g 0 _ rfl) rfl (sa_cons (se_var 0) sa_nil)) (se_one (se_chain op_le op_le (se_var 1) (se_var 0) (se_var 2))))))
def b_is_long : DEnv → M Out := (sRet (eAnd (eIsi "tuple" (eVar 0)) (eBin eqD (eB lenD (bCons (eVar 0) aNil)) (eVar 1))))
def f_is_long : List D → M D := runD 2 2 b_is_long
theorem sc_is_long : FnScope ["thing", "length"] ["thing", "length"] (defScope (top 7)) := ⟨rfl, rfl, rfl, by decide +kernel, rfl, by decide +kernel, by decide +kernel⟩
theorem ok_is_long {w : World} {K : PySem.W.Frag} {mg : Str → Option Value} {base : Heap} (Z : FX K mg) : OkF pg w K mg base (px K) 3 2 f_is_long := by
  obtain ⟨fd, F⟩ := Z.dd 2 _ _ rfl rfl
  have sc := sc_is_long
  refine okF_mk (K := K) (P := px K) (st := top 7) (k := 2) rfl F sc (F.bindsN (ps := ["thing", "length"]) fun _ _ _ _ _ _ us hl => match us, hl with | [_, _], _ => rfl) fun cdv A outer s H E hr => ?_
  exact (sss_one (ss_ret (se_and (se_isi rfl (Z.fr 6 _ rfl) (se_var 0) rfl (Z.fr 15 _ rfl) rfl) (se_one (se_eq hr (se_len rfl (Z.fr 7 _ rfl) (sb_cons (se_var 0) sb_nil)) (se_var 1))))))
def b_are_numbers : DEnv → M Out := (sRet (eAnd (eIsi "tuple" (eVar 0)) (eB allD (bCons (eF (fComp (iSeqD (eVar 0)) [1] (gVar 1) tYesD (eCall f_is_number (aCons (eVar 1) aNil)))) aNil))))
def f_are_numbers : List D → M D := runD 1 2 b_are_numbers
theorem sc_are_numbers : FnScope ["thing", "own"] ["thing"] (defScope (top 8)) := ⟨rfl, rfl, rfl, by decide +kernel, rfl, by decide +kernel, by decide +kernel⟩
theorem ok_are_numbers {w : World} {K : PySem.W.Frag} {mg : Str → Option Value} {base : Heap} (Z : FX K mg) : OkF pg w K mg base (px K) 4 3 f_are_numbers := by
  obtain ⟨fd, F⟩ := Z.dd 3 _ _ rfl rfl
  have o_is_number := ok_is_number (w := w) (base := base) Z
  have sc := sc_are_numbers
  refine okF_mk (K := K) (P := px K) (st := top 8) (k := 3) rfl F sc (F.bindsN (ps := ["thing"]) fun _ _ _ _ _ _ us hl => match us, hl with | [_], _ => rfl) fun cdv A outer s H E hr => ?_
  exact (sss_one (ss_ret (se_and (se_isi rfl (Z.fr 6 _ rfl) (se_var 0) rfl (Z.fr 15 _ rfl) rfl) (se_one (se_all rfl rfl (Z.fr 2 _ rfl) (sb_cons (se_f (sf_comp (own := [("own", 1)]) rfl sc.nd (si_seq (se_var 0)) (blkOk_by (own := [("own", 1)]) (by kernel_rfl)) (by decide) (fun _ _ _ _ _ => (sg_var 1 sc.nd)) (fun _ _ _ _ _ => sts_nil) (fun _ _ _ _ _ => (se_callF o_is_number (hr.mono (by decide)) (Z.g 0 _ rfl) rfl (sa_cons (se_var 1) sa_nil))))) sb_nil))))))
def b_tupled (rc : List D → M D) : DEnv → M Out := (sRet (eIf (tTr (eIsi2 "list" "tuple" (eVar 0))) (eB tupD (bCons (eF (fComp (iSeqD (eVar 0)) [1] (gVar 1) tYesD (eCall rc (aCons (eVar 1) aNil)))) aNil)) (eVar 0)))
def r_tupled : Nat → List D → M D
  | 0 => fun _ => stuck
  | n + 1 => runD 1 2 (b_tupled (r_tupled n))
def f_tupled : List D → M D := r_tupled 12
theorem sc_tupled : FnScope ["value", "own"] ["value"] (defScope (top 9)) := ⟨rfl, rfl, rfl, by decide +kernel, rfl, by decide +kernel, by decide +kernel⟩
theorem ok0_tupled {w : World} {K : PySem.W.Frag} {mg : Str → Option Value} {base : Heap} (Z : FX K mg) : OkF pg w K mg base (px K) 3 4 (fun _ => stuck) := by
  obtain ⟨fd, F⟩ := Z.dd 4 _ _ rfl rfl
  exact OkF.stk (okF_mk (K := K) (P := px K) (st := top 9) (k := 2) (u := sStk) rfl F sc_tupled (F.bindsN (ps := ["value"]) fun _ _ _ _ _ _ us hl => match us, hl with | [_], _ => rfl) fun cdv A outer s H E hr => sss_stk)
theorem okr_tupled {w : World} {K : PySem.W.Frag} {mg : Str → Option Value} {base : Heap} (Z : FX K mg) : ∀ n, OkF pg w K mg base (px K) (n + 3) 4 (r_tupled n)
  | 0 => (ok0_tupled Z).mono (by omega)
  | n + 1 => by
    have rcOk := okr_tupled (w := w) (base := base) Z n
    obtain ⟨fd, F⟩ := Z.dd 4 _ _ rfl rfl
    have sc := sc_tupled
    refine okF_mk (K := K) (P := px K) (st := top 9) (k := n + 3) rfl F sc (F.bindsN (ps := ["value"]) fun _ _ _ _ _ _ us hl => match us, hl with | [_], _ => rfl) fun cdv A outer s H E hr => ?_
    exact (sss_one (ss_ret (se_if (st_tr (se_isi2 rfl (Z.fr 6 _ rfl) (se_var 0) rfl (Z.fr 8 _ rfl) rfl rfl (Z.fr 15 _ rfl) rfl)) (se_toTup rfl (Z.fr 15 _ rfl) (sb_cons (se_f (sf_comp (own := [("own", 1)]) rfl sc.nd (si_seq (se_var 0)) (blkOk_by (own := [("own", 1)]) (by kernel_rfl)) (by decide) (fun _ _ _ _ _ => (sg_var 1 sc.nd)) (fun _ _ _ _ _ => sts_nil) (fun _ _ _ _ _ => (se_callF rcOk (hr.mono (by omega)) (Z.g 4 _ rfl) rfl (sa_cons (se_var 1) sa_nil))))) sb_nil)) (se_var 0))))
theorem ok_tupled {w : World} {K : PySem.W.Frag} {mg : Str → Option Value} {base : Heap} (Z : FX K mg) : OkF pg w K mg base (px K) 15 4 f_tupled := (okr_tupled Z 12).mono (by omega)
def b_common : DEnv → M Out := (sSeq (sPar 0 1 (aCons (eB absD (bCons (eVar 0) aNil)) (aCons (eB absD (bCons (eVar 1) aNil)) aNil))) (sSeq (sWhile (fun ρ => natAt ρ 1 + 2) (tB (eBin neD (eVar 1) (eC (.int 0)))) (sPar 0 1 (aCons (eVar 1) (aCons (eBin modD (eVar 0) (eVar 1)) aNil)))) (sRet (eVar 0))))
def f_common : List D → M D := runD 2 2 b_common
theorem sc_common : FnScope ["one", "other"] ["one", "other"] (defScope (top 10)) := ⟨rfl, rfl, rfl, by decide +kernel, rfl, by decide +kernel, by decide +kernel⟩
theorem ok_common {w : World} {K : PySem.W.Frag} {mg : Str → Option Value} {base : Heap} (Z : FX K mg) : OkF pg w K mg base (px K) 3 5 f_common := by
  obtain ⟨fd, F⟩ := Z.dd 5 _ _ rfl rfl
  have sc := sc_common
  refine okF_mk (K := K) (P := px K) (st := top 10) (k := 2) rfl F sc (F.bindsN (ps := ["one", "other"]) fun _ _ _ _ _ _ us hl => match us, hl with | [_, _], _ => rfl) fun cdv A outer s H E hr => ?_
  exact (sss_cons (ss_par 0 1 rfl sc.nd (sa_cons (se_abs rfl (Z.fr 1 _ rfl) (sb_cons (se_var 0) sb_nil)) (sa_cons (se_abs rfl (Z.fr 1 _ rfl) (sb_cons (se_var 1) sb_nil)) sa_nil))) (sss_cons (ss_while (fun ρ => natAt ρ 1 + 2) (passes_of rfl) (st_ne hr (se_var 1) se_int) (sss_one (ss_par 0 1 rfl sc.nd (sa_cons (se_var 1) (sa_cons (se_mod (se_var 0) (se_var 1)) sa_nil))))) (sss_one (ss_ret (se_var 0)))))
def b_is_set : DEnv → M Out := (sRet (eAnd (eCall f_are_numbers (aCons (eVar 0) aNil)) (eB allD (bCons (eF (fComp (iZipD (aCons (eVar 0) (aCons (eSl (eVar 0) (oSome (eC (.int 1))) oNone) aNil))) [1, 2] (gTupD 2 (gConsD (gVar 1) (gConsD (gVar 2) gNilD))) tYesD (eBin ltD (eVar 1) (eVar 2)))) aNil))))
def f_is_set : List D → M D := runD 1 3 b_is_set
theorem sc_is_set : FnScope ["thing", "near", "far"] ["thing"] (defScope (top 11)) := ⟨rfl, rfl, rfl, by decide +kernel, rfl, by decide +kernel, by decide +kernel⟩
theorem ok_is_set {w : World} {K : PySem.W.Frag} {mg : Str → Option Value} {base : Heap} (Z : FX K mg) : OkF pg w K mg base (px K) 5 6 f_is_set := by
  obtain ⟨fd, F⟩ := Z.dd 6 _ _ rfl rfl
  have o_are_numbers := ok_are_numbers (w := w) (base := base) Z
  have sc := sc_is_set
  refine okF_mk (K := K) (P := px K) (st := top 11) (k := 4) rfl F sc (F.bindsN (ps := ["thing"]) fun _ _ _ _ _ _ us hl => match us, hl with | [_], _ => rfl) fun cdv A outer s H E hr => ?_
  exact (sss_one (ss_ret (se_and (se_callF o_are_numbers (hr.mono (by decide)) (Z.g 3 _ rfl) rfl (sa_cons (se_var 0) sa_nil)) (se_one (se_all rfl rfl (Z.fr 2 _ rfl) (sb_cons (se_f (sf_comp (own := [("near", 1), ("far", 2)]) rfl sc.nd (si_zip rfl (Z.fr 16 _ rfl) (sa_cons (se_var 0) (sa_cons (se_slice (se_var 0) (so_some se_int) so_none) sa_nil))) (blkOk_by (own := [("near", 1), ("far", 2)]) (by kernel_rfl)) (by decide) (fun _ _ _ _ _ => (sg_tup rfl (sgs_cons (sg_var 1 sc.nd) (sgs_cons (sg_var 2 sc.nd) sgs_nil)))) (fun _ _ _ _ _ => sts_nil) (fun _ _ _ _ _ => (se_lt (se_var 1) (se_var 2))))) sb_nil))))))
def b_lowest : DEnv → M Out := (sSeq (sSet 2 (eCall f_common (aCons (eVar 0) (aCons (eVar 1) aNil)))) (sSeq (sSet 3 (eIf (tB (eBin ltD (eVar 1) (eC (.int 0)))) (eUn negD (eC (.int 1))) (eC (.int 1)))) (sRet (eTup (aCons (eBin fdivD (eBin mulD (eVar 3) (eVar 0)) (eVar 2)) (aCons (eBin fdivD (eBin mulD (eVar 3) (eVar 1)) (eVar 2)) aNil))))))
def f_lowest : List D → M D := runD 2 4 b_lowest
theorem sc_lowest : FnScope ["above", "below", "by", "sign"] ["above", "below"] (defScope (top 16)) := ⟨rfl, rfl, rfl, by decide +kernel, rfl, by decide +kernel, by decide +kernel⟩
theorem ok_lowest {w : World} {K : PySem.W.Frag} {mg : Str → Option Value} {base : Heap} (Z : FX K mg) : OkF pg w K mg base (px K) 4 7 f_lowest := by
  obtain ⟨fd, F⟩ := Z.dd 7 _ _ rfl rfl
  have o_common := ok_common (w := w) (base := base) Z
  have sc := sc_lowest
  refine okF_mk (K := K) (P := px K) (st := top 16) (k := 3) rfl F sc (F.bindsN (ps := ["above", "below"]) fun _ _ _ _ _ _ us hl => match us, hl with | [_, _], _ => rfl) fun cdv A outer s H E hr => ?_
  exact (sss_cons (ss_set 2 sc.nd (se_callF o_common (hr.mono (by decide)) (Z.g 5 _ rfl) rfl (sa_cons (se_var 0) (sa_cons (se_var 1) sa_nil)))) (sss_cons (ss_set 3 sc.nd (se_if (st_lt (se_var 1) se_int) (se_neg se_int) se_int)) (sss_one (ss_ret (se_tup (sa_cons (se_fdiv (se_mul (se_var 3) (se_var 0)) (se_var 2)) (sa_cons (se_fdiv (se_mul (se_var 3) (se_var 1)) (se_var 2)) sa_nil)))))))
end Lw

set_option Elab.async false
set_option linter.all false
set_option maxRecDepth 100000
set_option maxHeartbeats 4000000
namespace Lw
open PySem PySem.Spec PyProof.Rows L2 Pu
def b_is_fraction_in : DEnv → M Out := (sRet (eAnd (eCall f_is_long (aCons (eVar 0) (aCons (eC (.int 2)) aNil))) (eAnd (eCall f_are_numbers (aCons (eVar 0) aNil)) (eAnd (eBin gtD (eBin ixD (eVar 0) (eC (.int 1))) (eC (.int 0))) (eBin eqD (eCall f_common (aCons (eBin ixD (eVar 0) (eC (.int 0))) (aCons (eBin ixD (eVar 0) (eC (.int 1))) aNil))) (eC (.int 1)))))))
def f_is_fraction_in : List D → M D := runD 1 1 b_is_fraction_in
theorem sc_is_fraction_in : FnScope ["thing"] ["thing"] (defScope (top 17)) := ⟨rfl, rfl, rfl, by decide +kernel, rfl, by decide +kernel, by decide +kernel⟩
theorem ok_is_fraction_in {w : World} {K : PySem.W.Frag} {mg : Str → Option Value} {base : Heap} (Z : FX K mg) : OkF pg w K mg base (px K) 5 8 f_is_fraction_in := by
  obtain ⟨fd, F⟩ := Z.dd 8 _ _ rfl rfl
  have o_is_long := ok_is_long (w := w) (base := base) Z
  have o_are_numbers := ok_are_numbers (w := w) (base := base) Z
  have o_common := ok_common (w := w) (base := base) Z
  have sc := sc_is_fraction_in
  refine okF_mk (K := K) (P := px K) (st := top 17) (k := 4) rfl F sc (F.bindsN (ps := ["thing"]) fun _ _ _ _ _ _ us hl => match us, hl with | [_], _ => rfl) fun cdv A outer s H E hr => ?_
  exact (sss_one (ss_ret (se_and (se_callF o_is_long (hr.mono (by decide)) (Z.g 2 _ rfl) rfl (sa_cons (se_var 0) (sa_cons se_int sa_nil))) (se_and (se_callF o_are_numbers (hr.mono (by decide)) (Z.g 3 _ rfl) rfl (sa_cons (se_var 0) sa_nil)) (se_and (se_gt (se_ix (se_var 0) se_int) se_int) (se_one (se_eq hr (se_callF o_common (hr.mono (by decide)) (Z.g 5 _ rfl) rfl (sa_cons (se_ix (se_var 0) se_int) (sa_cons (se_ix (se_var 0) se_int) sa_nil))) se_int)))))))
def b_plus : DEnv → M Out := (sRet (eCall f_lowest (aCons (eBin addD (eBin mulD (eBin ixD (eVar 0) (eC (.int 0))) (eBin ixD (eVar 1) (eC (.int 1)))) (eBin mulD (eBin ixD (eVar 1) (eC (.int 0))) (eBin ixD (eVar 0) (eC (.int 1))))) (aCons (eBin mulD (eBin ixD (eVar 0) (eC (.int 1))) (eBin ixD (eVar 1) (eC (.int 1)))) aNil))))
def f_plus : List D → M D := runD 2 2 b_plus
theorem sc_plus : FnScope ["one", "other"] ["one", "other"] (defScope (top 18)) := ⟨rfl, rfl, rfl, by decide +kernel, rfl, by decide +kernel, by decide +kernel⟩
theorem ok_plus {w : World} {K : PySem.W.Frag} {mg : Str → Option Value} {base : Heap} (Z : FX K mg) : OkF pg w K mg base (px K) 5 9 f_plus := by
  obtain ⟨fd, F⟩ := Z.dd 9 _ _ rfl rfl
  have o_lowest := ok_lowest (w := w) (base := base) Z
  have sc := sc_plus
  refine okF_mk (K := K) (P := px K) (st := top 18) (k := 4) rfl F sc (F.bindsN (ps := ["one", "other"]) fun _ _ _ _ _ _ us hl => match us, hl with | [_, _], _ => rfl) fun cdv A outer s H E hr => ?_
  exact (sss_one (ss_ret (se_callF o_lowest (hr.mono (by decide)) (Z.g 7 _ rfl) rfl (sa_cons (se_add (se_mul (se_ix (se_var 0) se_int) (se_ix (se_var 1) se_int)) (se_mul (se_ix (se_var 1) se_int) (se_ix (se_var 0) se_int))) (sa_cons (se_mul (se_ix (se_var 0) se_int) (se_ix (se_var 1) se_int)) sa_nil)))))
def b_less : DEnv → M Out := (sRet (eCall f_lowest (aCons (eBin subD (eBin mulD (eBin ixD (eVar 0) (eC (.int 0))) (eBin ixD (eVar 1) (eC (.int 1)))) (eBin mulD (eBin ixD (eVar 1) (eC (.int 0))) (eBin ixD (eVar 0) (eC (.int 1))))) (aCons (eBin mulD (eBin ixD (eVar 0) (eC (.int 1))) (eBin ixD (eVar 1) (eC (.int 1)))) aNil))))
def f_less : List D → M D := runD 2 2 b_less
theorem sc_less : FnScope ["one", "other"] ["one", "other"] (defScope (top 19)) := ⟨rfl, rfl, rfl, by decide +kernel, rfl, by decide +kernel, by decide +kernel⟩
theorem ok_less {w : World} {K : PySem.W.Frag} {mg : Str → Option Value} {base : Heap} (Z : FX K mg) : OkF pg w K mg base (px K) 5 10 f_less := by
  obtain ⟨fd, F⟩ := Z.dd 10 _ _ rfl rfl
  have o_lowest := ok_lowest (w := w) (base := base) Z
  have sc := sc_less
  refine okF_mk (K := K) (P := px K) (st := top 19) (k := 4) rfl F sc (F.bindsN (ps := ["one", "other"]) fun _ _ _ _ _ _ us hl => match us, hl with | [_, _], _ => rfl) fun cdv A outer s H E hr => ?_
  exact (sss_one (ss_ret (se_callF o_lowest (hr.mono (by decide)) (Z.g 7 _ rfl) rfl (sa_cons (se_sub (se_mul (se_ix (se_var 0) se_int) (se_ix (se_var 1) se_int)) (se_mul (se_ix (se_var 1) se_int) (se_ix (se_var 0) se_int))) (sa_cons (se_mul (se_ix (se_var 0) se_int) (se_ix (se_var 1) se_int)) sa_nil)))))
def b_times : DEnv → M Out := (sRet (eCall f_lowest (aCons (eBin mulD (eBin ixD (eVar 0) (eC (.int 0))) (eBin ixD (eVar 1) (eC (.int 0)))) (aCons (eBin mulD (eBin ixD (eVar 0) (eC (.int 1))) (eBin ixD (eVar 1) (eC (.int 1)))) aNil))))
def f_times : List D → M D := runD 2 2 b_times
theorem sc_times : FnScope ["one", "other"] ["one", "other"] (defScope (top 20)) := ⟨rfl, rfl, rfl, by decide +kernel, rfl, by decide +kernel, by decide +kernel⟩
theorem ok_times {w : World} {K : PySem.W.Frag} {mg : Str → Option Value} {base : Heap} (Z : FX K mg) : OkF pg w K mg base (px K) 5 11 f_times := by
  obtain ⟨fd, F⟩ := Z.dd 11 _ _ rfl rfl
  have o_lowest := ok_lowest (w := w) (base := base) Z
  have sc := sc_times
  refine okF_mk (K := K) (P := px K) (st := top 20) (k := 4) rfl F sc (F.bindsN (ps := ["one", "other"]) fun _ _ _ _ _ _ us hl => match us, hl with | [_, _], _ => rfl) fun cdv A outer s H E hr => ?_
  exact (sss_one (ss_ret (se_callF o_lowest (hr.mono (by decide)) (Z.g 7 _ rfl) rfl (sa_cons (se_mul (se_ix (se_var 0) se_int) (se_ix (se_var 1) se_int)) (sa_cons (se_mul (se_ix (se_var 0) se_int) (se_ix (se_var 1) se_int)) sa_nil)))))
def b_is_under : DEnv → M Out := (sRet (eBin ltD (eBin mulD (eBin ixD (eVar 0) (eC (.int 0))) (eBin ixD (eVar 1) (eC (.int 1)))) (eBin mulD (eBin ixD (eVar 1) (eC (.int 0))) (eBin ixD (eVar 0) (eC (.int 1))))))
def f_is_under : List D → M D := runD 2 2 b_is_under
theorem sc_is_under : FnScope ["one", "other"] ["one", "other"] (defScope (top 21)) := ⟨rfl, rfl, rfl, by decide +kernel, rfl, by decide +kernel, by decide +kernel⟩
theorem ok_is_under {w : World} {K : PySem.W.Frag} {mg : Str → Option Value} {base : Heap} (Z : FX K mg) : OkF pg w K mg base (px K) 3 12 f_is_under := by
  obtain ⟨fd, F⟩ := Z.dd 12 _ _ rfl rfl
  have sc := sc_is_under
  refine okF_mk (K := K) (P := px K) (st := top 21) (k := 2) rfl F sc (F.bindsN (ps := ["one", "other"]) fun _ _ _ _ _ _ us hl => match us, hl with | [_, _], _ => rfl) fun cdv A outer s H E hr => ?_
  exact (sss_one (ss_ret (se_lt (se_mul (se_ix (se_var 0) se_int) (se_ix (se_var 1) se_int)) (se_mul (se_ix (se_var 1) se_int) (se_ix (se_var 0) se_int)))))
def b_compared : DEnv → M Out := (sSeq (sSet 2 (eBin subD (eBin mulD (eBin ixD (eVar 0) (eC (.int 0))) (eBin ixD (eVar 1) (eC (.int 1)))) (eBin mulD (eBin ixD (eVar 1) (eC (.int 0))) (eBin ixD (eVar 0) (eC (.int 1)))))) (sRet (eBin subD (eB intOfD (bCons (eBin gtD (eVar 2) (eC (.int 0))) aNil)) (eB intOfD (bCons (eBin ltD (eVar 2) (eC (.int 0))) aNil)))))
def f_compared : List D → M D := runD 2 3 b_compared
theorem sc_compared : FnScope ["one", "other", "rest"] ["one", "other"] (defScope (top 22)) := ⟨rfl, rfl, rfl, by decide +kernel, rfl, by decide +kernel, by decide +kernel⟩
theorem ok_compared {w : World} {K : PySem.W.Frag} {mg : Str → Option Value} {base : Heap} (Z : FX K mg) : OkF pg w K mg base (px K) 3 13 f_compared := by
  obtain ⟨fd, F⟩ := Z.dd 13 _ _ rfl rfl
  have sc := sc_compared
  refine okF_mk (K := K) (P := px K) (st := top 22) (k := 2) rfl F sc (F.bindsN (ps := ["one", "other"]) fun _ _ _ _ _ _ us hl => match us, hl with | [_, _], _ => rfl) fun cdv A outer s H E hr => ?_
  exact (sss_cons (ss_set 2 sc.nd (se_sub (se_mul (se_ix (se_var 0) se_int) (se_ix (se_var 1) se_int)) (se_mul (se_ix (se_var 1) se_int) (se_ix (se_var 0) se_int)))) (sss_one (ss_ret (se_sub (se_toInt rfl (Z.fr 5 _ rfl) (sb_cons (se_gt (se_var 2) se_int) sb_nil)) (se_toInt rfl (Z.fr 5 _ rfl) (sb_cons (se_lt (se_var 2) se_int) sb_nil))))))
def b_is_near_fraction : DEnv → M Out := (sRet (eAnd (eCall f_is_fraction_in (aCons (eVar 0) aNil)) (eBin leD (eB max2D (bCons (eB absD (bCons (eBin ixD (eVar 0) (eC (.int 0))) aNil)) (bCons (eBin ixD (eVar 0) (eC (.int 1))) aNil))) (eC (.int (1000000))))))
def f_is_near_fraction : List D → M D := runD 1 1 b_is_near_fraction
theorem sc_is_near_fraction : FnScope ["thing"] ["thing"] (defScope (top 23)) := ⟨rfl, rfl, rfl, by decide +kernel, rfl, by decide +kernel, by decide +kernel⟩
theorem ok_is_near_fraction {w : World} {K : PySem.W.Frag} {mg : Str → Option Value} {base : Heap} (Z : FX K mg) : OkF pg w K mg base (px K) 6 14 f_is_near_fraction := by
  obtain ⟨fd, F⟩ := Z.dd 14 _ _ rfl rfl
  have o_is_fraction_in := ok_is_fraction_in (w := w) (base := base) Z
  obtain ⟨t_MOST_SIZE, m_MOST_SIZE⟩ := Z.it 0 _ _ rfl
  have sc := sc_is_near_fraction
  refine okF_mk (K := K) (P := px K) (st := top 23) (k := 5) rfl F sc (F.bindsN (ps := ["thing"]) fun _ _ _ _ _ _ us hl => match us, hl with | [_], _ => rfl) fun cdv A outer s H E hr => ?_
  exact (sss_one (ss_ret (se_and (se_callF o_is_fraction_in (hr.mono (by decide)) (Z.g 8 _ rfl) rfl (sa_cons (se_var 0) sa_nil)) (se_one (se_le (se_max2 rfl rfl (Z.fr 9 _ rfl) (sb_cons (se_abs rfl (Z.fr 1 _ rfl) (sb_cons (se_ix (se_var 0) se_int) sb_nil)) (sb_cons (se_ix (se_var 0) se_int) sb_nil))) (se_gint rfl m_MOST_SIZE))))))
def b_is_point_in : DEnv → M Out := (sRet (eAnd (eCall f_is_long (aCons (eVar 0) (aCons (eC (.int 2)) aNil))) (eB allD (bCons (eF (fComp (iSeqD (eVar 0)) [1] (gVar 1) tYesD (eCall f_is_fraction_in (aCons (eVar 1) aNil)))) aNil))))
def f_is_point_in : List D → M D := runD 1 2 b_is_point_in
theorem sc_is_point_in : FnScope ["thing", "own"] ["thing"] (defScope (top 24)) := ⟨rfl, rfl, rfl, by decide +kernel, rfl, by decide +kernel, by decide +kernel⟩
theorem ok_is_point_in {w : World} {K : PySem.W.Frag} {mg : Str → Option Value} {base : Heap} (Z : FX K mg) : OkF pg w K mg base (px K) 6 15 f_is_point_in := by
  obtain ⟨fd, F⟩ := Z.dd 15 _ _ rfl rfl
  have o_is_long := ok_is_long (w := w) (base := base) Z
  have o_is_fraction_in := ok_is_fraction_in (w := w) (base := base) Z
  have sc := sc_is_point_in
  refine okF_mk (K := K) (P := px K) (st := top 24) (k := 5) rfl F sc (F.bindsN (ps := ["thing"]) fun _ _ _ _ _ _ us hl => match us, hl with | [_], _ => rfl) fun cdv A outer s H E hr => ?_
  exact (sss_one (ss_ret (se_and (se_callF o_is_long (hr.mono (by decide)) (Z.g 2 _ rfl) rfl (sa_cons (se_var 0) (sa_cons se_int sa_nil))) (se_one (se_all rfl rfl (Z.fr 2 _ rfl) (sb_cons (se_f (sf_comp (own := [("own", 1)]) rfl sc.nd (si_seq (se_var 0)) (blkOk_by (own := [("own", 1)]) (by kernel_rfl)) (by decide) (fun _ _ _ _ _ => (sg_var 1 sc.nd)) (fun _ _ _ _ _ => sts_nil) (fun _ _ _ _ _ => (se_callF o_is_fraction_in (hr.mono (by decide)) (Z.g 8 _ rfl) rfl (sa_cons (se_var 1) sa_nil))))) sb_nil))))))
end Lw

set_option Elab.async false
set_option linter.all false
set_option maxRecDepth 100000
set_option maxHeartbeats 4000000
namespace Lw
open PySem PySem.Spec PyProof.Rows L2 Pu
def b_is_ahead : DEnv → M Out := (sSeq (sSet 2 (eCall f_compared (aCons (eBin ixD (eVar 0) (eC (.int 0))) (aCons (eBin ixD (eVar 1) (eC (.int 0))) aNil)))) (sRet (eOrT (eBin ltD (eVar 2) (eC (.int 0))) (eAnd (eBin eqD (eVar 2) (eC (.int 0))) (eCall f_is_under (aCons (eBin ixD (eVar 0) (eC (.int 1))) (aCons (eBin ixD (eVar 1) (eC (.int 1))) aNil)))))))
def f_is_ahead : List D → M D := runD 2 3 b_is_ahead
theorem sc_is_ahead : FnScope ["one", "other", "way"] ["one", "other"] (defScope (top 25)) := ⟨rfl, rfl, rfl, by decide +kernel, rfl, by decide +kernel, by decide +kernel⟩
theorem ok_is_ahead {w : World} {K : PySem.W.Frag} {mg : Str → Option Value} {base : Heap} (Z : FX K mg) : OkF pg w K mg base (px K) 4 16 f_is_ahead := by
  obtain ⟨fd, F⟩ := Z.dd 16 _ _ rfl rfl
  have o_compared := ok_compared (w := w) (base := base) Z
  have o_is_under := ok_is_under (w := w) (base := base) Z
  have sc := sc_is_ahead
  refine okF_mk (K := K) (P := px K) (st := top 25) (k := 3) rfl F sc (F.bindsN (ps := ["one", "other"]) fun _ _ _ _ _ _ us hl => match us, hl with | [_, _], _ => rfl) fun cdv A outer s H E hr => ?_
  exact (sss_cons (ss_set 2 sc.nd (se_callF o_compared (hr.mono (by decide)) (Z.g 13 _ rfl) rfl (sa_cons (se_ix (se_var 0) se_int) (sa_cons (se_ix (se_var 1) se_int) sa_nil)))) (sss_one (ss_ret (se_orT (se_lt (se_var 2) se_int) (se_one (se_and (se_eq hr (se_var 2) se_int) (se_one (se_callF o_is_under (hr.mono (by decide)) (Z.g 12 _ rfl) rfl (sa_cons (se_ix (se_var 0) se_int) (sa_cons (se_ix (se_var 1) se_int) sa_nil))))))))))
def b_are_points_in : DEnv → M Out := (sSeq (sIf (tOrD (tNotD (tTr (eIsi "tuple" (eVar 0)))) (tOrD (tB (eBin ltD (eB lenD (bCons (eVar 0) aNil)) (eC (.int (3))))) (tNotD (tTr (eB allD (bCons (eF (fComp (iSeqD (eVar 0)) [1] (gVar 1) tYesD (eCall f_is_point_in (aCons (eVar 1) aNil)))) aNil)))))) (sRet (eC (.bl false))) sNext) (sRet (eB allD (bCons (eF (fComp (iZipD (aCons (eVar 0) (aCons (eSl (eVar 0) (oSome (eC (.int 1))) oNone) aNil))) [2, 3] (gTupD 2 (gConsD (gVar 2) (gConsD (gVar 3) gNilD))) tYesD (eCall f_is_ahead (aCons (eVar 2) (aCons (eVar 3) aNil))))) aNil))))
def f_are_points_in : List D → M D := runD 1 4 b_are_points_in
theorem sc_are_points_in : FnScope ["thing", "own", "one", "other"] ["thing"] (defScope (top 26)) := ⟨rfl, rfl, rfl, by decide +kernel, rfl, by decide +kernel, by decide +kernel⟩
theorem ok_are_points_in {w : World} {K : PySem.W.Frag} {mg : Str → Option Value} {base : Heap} (Z : FX K mg) : OkF pg w K mg base (px K) 7 17 f_are_points_in := by
  obtain ⟨fd, F⟩ := Z.dd 17 _ _ rfl rfl
  have o_is_point_in := ok_is_point_in (w := w) (base := base) Z
  have o_is_ahead := ok_is_ahead (w := w) (base := base) Z
  obtain ⟨t_LEAST_POINTS, m_LEAST_POINTS⟩ := Z.it 1 _ _ rfl
  have sc := sc_are_points_in
  refine okF_mk (K := K) (P := px K) (st := top 26) (k := 6) rfl F sc (F.bindsN (ps := ["thing"]) fun _ _ _ _ _ _ us hl => match us, hl with | [_], _ => rfl) fun cdv A outer s H E hr => ?_
  exact (sss_cons (ss_if (SWt.st (sw_or (st_not (st_tr (se_isi rfl (Z.fr 6 _ rfl) (se_var 0) rfl (Z.fr 15 _ rfl) rfl))) (sw_or (st_lt (se_len rfl (Z.fr 7 _ rfl) (sb_cons (se_var 0) sb_nil)) (se_gint rfl m_LEAST_POINTS)) (sw_or1 (st_not (st_tr (se_all rfl rfl (Z.fr 2 _ rfl) (sb_cons (se_f (sf_comp (own := [("own", 1)]) rfl sc.nd (si_seq (se_var 0)) (blkOk_by (own := [("own", 1)]) (by kernel_rfl)) (by decide) (fun _ _ _ _ _ => (sg_var 1 sc.nd)) (fun _ _ _ _ _ => sts_nil) (fun _ _ _ _ _ => (se_callF o_is_point_in (hr.mono (by decide)) (Z.g 15 _ rfl) rfl (sa_cons (se_var 1) sa_nil))))) sb_nil)))))))) (sss_one (ss_ret se_bl)) sss_nil) (sss_one (ss_ret (se_all rfl rfl (Z.fr 2 _ rfl) (sb_cons (se_f (sf_comp (own := [("one", 2), ("other", 3)]) rfl sc.nd (si_zip rfl (Z.fr 16 _ rfl) (sa_cons (se_var 0) (sa_cons (se_slice (se_var 0) (so_some se_int) so_none) sa_nil))) (blkOk_by (own := [("one", 2), ("other", 3)]) (by kernel_rfl)) (by decide) (fun _ _ _ _ _ => (sg_tup rfl (sgs_cons (sg_var 2 sc.nd) (sgs_cons (sg_var 3 sc.nd) sgs_nil)))) (fun _ _ _ _ _ => sts_nil) (fun _ _ _ _ _ => (se_callF o_is_ahead (hr.mono (by decide)) (Z.g 16 _ rfl) rfl (sa_cons (se_var 2) (sa_cons (se_var 3) sa_nil)))))) sb_nil)))))
def b_sure_points : DEnv → M Out := (sSeq (sSet 1 (eCall f_tupled (aCons (eVar 0) aNil))) (sSeq (sIf (tOrD (tNotD (tTr (eCall f_are_points_in (aCons (eVar 1) aNil)))) (tB (eBin gtD (eB lenD (bCons (eVar 1) aNil)) (eC (.int (30)))))) (sRaise 2) sNext) (sSeq (sIf (tNotD (tTr (eB allD (bCons (eF (fComp2 (iSeqD (eVar 1)) [2, 3] (gVar 2) tYesD (iSeqD (eVar 2)) [3] (gVar 3) tYesD (eCall f_is_near_fraction (aCons (eVar 3) aNil)))) aNil)))) (sRaise 2) sNext) (sRet (eVar 1)))))
def f_sure_points : List D → M D := runD 1 4 b_sure_points
theorem sc_sure_points : FnScope ["value", "own", "point", "part"] ["value"] (defScope (top 27)) := ⟨rfl, rfl, rfl, by decide +kernel, rfl, by decide +kernel, by decide +kernel⟩
theorem ok_sure_points {w : World} {K : PySem.W.Frag} {mg : Str → Option Value} {base : Heap} (Z : FX K mg) : OkF pg w K mg base (px K) 16 18 f_sure_points := by
  obtain ⟨fd, F⟩ := Z.dd 18 _ _ rfl rfl
  have o_tupled := ok_tupled (w := w) (base := base) Z
  have o_are_points_in := ok_are_points_in (w := w) (base := base) Z
  have o_is_near_fraction := ok_is_near_fraction (w := w) (base := base) Z
  obtain ⟨t_MOST_POINTS, m_MOST_POINTS⟩ := Z.it 2 _ _ rfl
  have sc := sc_sure_points
  refine okF_mk (K := K) (P := px K) (st := top 27) (k := 15) rfl F sc (F.bindsN (ps := ["value"]) fun _ _ _ _ _ _ us hl => match us, hl with | [_], _ => rfl) fun cdv A outer s H E hr => ?_
  exact (sss_cons (ss_set 1 sc.nd (se_callF o_tupled (hr.mono (by decide)) (Z.g 4 _ rfl) rfl (sa_cons (se_var 0) sa_nil))) (sss_cons (ss_if (SWt.st (sw_or (st_not (st_tr (se_callF o_are_points_in (hr.mono (by decide)) (Z.g 17 _ rfl) rfl (sa_cons (se_var 1) sa_nil)))) (sw_or1 (st_gt (se_len rfl (Z.fr 7 _ rfl) (sb_cons (se_var 1) sb_nil)) (se_gint rfl m_MOST_POINTS))))) (sss_one (ss_raise 2 rfl (Z.ex 2 _ rfl).2 (Z.ex 2 _ rfl).1 rfl)) sss_nil) (sss_cons (ss_if (st_not (st_tr (se_all rfl rfl (Z.fr 2 _ rfl) (sb_cons (se_f (sf_comp2 (own := [("point", 2), ("part", 3)]) (vs1 := [3]) rfl sc.nd (si_seq (se_var 1)) (blkOk_by (own := [("point", 2), ("part", 3)]) (by kernel_rfl)) (by decide) (by decide) (by decide) (fun _ _ _ _ _ => (sg_var 2 sc.nd)) (fun _ _ _ _ _ => sts_nil) (fun _ _ _ _ _ => (si_seq (se_var 2))) (fun _ _ _ _ _ => (sg_var 3 sc.nd)) (fun _ _ _ _ _ => sts_nil) (fun _ _ _ _ _ => (se_callF o_is_near_fraction (hr.mono (by decide)) (Z.g 14 _ rfl) rfl (sa_cons (se_var 3) sa_nil))))) sb_nil)))) (sss_one (ss_raise 2 rfl (Z.ex 2 _ rfl).2 (Z.ex 2 _ rfl).1 rfl)) sss_nil) (sss_one (ss_ret (se_var 1))))))
def b_line_by : DEnv → M Out := (sSeq (sSet 3 (eBin mulD (eBin mulD (eBin ixD (eVar 0) (eC (.int 1))) (eBin ixD (eVar 1) (eC (.int 1)))) (eBin ixD (eVar 2) (eC (.int 1))))) (sSeq (sSet 4 (eF (fComp (iSeqD (eTup (aCons (eVar 0) (aCons (eVar 1) (aCons (eVar 2) aNil))))) [5] (gVar 5) tYesD (eBin mulD (eBin ixD (eVar 5) (eC (.int 0))) (eBin fdivD (eVar 3) (eBin ixD (eVar 5) (eC (.int 1)))))))) (sSeq (sSet 6 (eCall f_common (aCons (eCall f_common (aCons (eBin ixD (eVar 4) (eC (.int 0))) (aCons (eBin ixD (eVar 4) (eC (.int 1))) aNil))) (aCons (eBin ixD (eVar 4) (eC (.int 2))) aNil)))) (sSeq (sSet 7 (eIf (tB (eBin neD (eBin ixD (eVar 4) (eC (.int 0))) (eC (.int 0)))) (eBin ixD (eVar 4) (eC (.int 0))) (eBin ixD (eVar 4) (eC (.int 1))))) (sSeq (sSet 6 (eIf (tB (eBin ltD (eVar 7) (eC (.int 0)))) (eUn negD (eVar 6)) (eVar 6))) (sRet (eB tupD (bCons (eF (fComp (iSeqD (eVar 4)) [5] (gVar 5) tYesD (eBin fdivD (eVar 5) (eVar 6)))) aNil))))))))
def f_line_by : List D → M D := runD 3 8 b_line_by
theorem sc_line_by : FnScope ["across", "up", "rest", "below", "whole", "own", "by", "first"] ["across", "up", "rest"] (defScope (top 29)) := ⟨rfl, rfl, rfl, by decide +kernel, rfl, by decide +kernel, by decide +kernel⟩
theorem ok_line_by {w : World} {K : PySem.W.Frag} {mg : Str → Option Value} {base : Heap} (Z : FX K mg) : OkF pg w K mg base (px K) 4 19 f_line_by := by
  obtain ⟨fd, F⟩ := Z.dd 19 _ _ rfl rfl
  have o_common := ok_common (w := w) (base := base) Z
  have sc := sc_line_by
  refine okF_mk (K := K) (P := px K) (st := top 29) (k := 3) rfl F sc (F.bindsN (ps := ["across", "up", "rest"]) fun _ _ _ _ _ _ us hl => match us, hl with | [_, _, _], _ => rfl) fun cdv A outer s H E hr => ?_
  exact (sss_cons (ss_set 3 sc.nd (se_mul (se_mul (se_ix (se_var 0) se_int) (se_ix (se_var 1) se_int)) (se_ix (se_var 2) se_int))) (sss_cons (ss_setC (own := [("own", 5)]) 4 rfl sc.nd (si_seq (se_tup (sa_cons (se_var 0) (sa_cons (se_var 1) (sa_cons (se_var 2) sa_nil))))) (blkOk_by (own := [("own", 5)]) (by kernel_rfl)) (by decide) (fun _ _ _ _ _ => (sg_var 5 sc.nd)) (fun _ _ _ _ _ => sts_nil) (fun _ _ _ _ _ => (se_mul (se_ix (se_var 5) se_int) (se_fdiv (se_var 3) (se_ix (se_var 5) se_int))))) (sss_cons (ss_set 6 sc.nd (se_callF o_common (hr.mono (by decide)) (Z.g 5 _ rfl) rfl (sa_cons (se_callF o_common (hr.mono (by decide)) (Z.g 5 _ rfl) rfl (sa_cons (se_ix (se_var 4) se_int) (sa_cons (se_ix (se_var 4) se_int) sa_nil))) (sa_cons (se_ix (se_var 4) se_int) sa_nil)))) (sss_cons (ss_set 7 sc.nd (se_if (st_ne hr (se_ix (se_var 4) se_int) se_int) (se_ix (se_var 4) se_int) (se_ix (se_var 4) se_int))) (sss_cons (ss_set 6 sc.nd (se_if (st_lt (se_var 7) se_int) (se_neg (se_var 6)) (se_var 6))) (sss_one (ss_ret (se_toTup rfl (Z.fr 15 _ rfl) (sb_cons (se_f (sf_comp (own := [("own", 5)]) rfl sc.nd (si_seq (se_var 4)) (blkOk_by (own := [("own", 5)]) (by kernel_rfl)) (by decide) (fun _ _ _ _ _ => (sg_var 5 sc.nd)) (fun _ _ _ _ _ => sts_nil) (fun _ _ _ _ _ => (se_fdiv (se_var 5) (se_var 6))))) sb_nil)))))))))
def b_line_in : DEnv → M Out := (sSeq (sPar 2 3 (aCons (eCall f_less (aCons (eBin ixD (eVar 0) (eC (.int 1))) (aCons (eBin ixD (eVar 1) (eC (.int 1))) aNil))) (aCons (eCall f_less (aCons (eBin ixD (eVar 1) (eC (.int 0))) (aCons (eBin ixD (eVar 0) (eC (.int 0))) aNil))) aNil))) (sSeq (sSet 4 (eCall f_plus (aCons (eCall f_times (aCons (eVar 2) (aCons (eBin ixD (eVar 0) (eC (.int 0))) aNil))) (aCons (eCall f_times (aCons (eVar 3) (aCons (eBin ixD (eVar 0) (eC (.int 1))) aNil))) aNil)))) (sRet (eCall f_line_by (aCons (eVar 2) (aCons (eVar 3) (aCons (eTup (aCons (eUn negD (eBin ixD (eVar 4) (eC (.int 0)))) (aCons (eBin ixD (eVar 4) (eC (.int 1))) aNil))) aNil)))))))
def f_line_in : List D → M D := runD 2 5 b_line_in
theorem sc_line_in : FnScope ["one", "other", "across", "up", "rest"] ["one", "other"] (defScope (top 30)) := ⟨rfl, rfl, rfl, by decide +kernel, rfl, by decide +kernel, by decide +kernel⟩
theorem ok_line_in {w : World} {K : PySem.W.Frag} {mg : Str → Option Value} {base : Heap} (Z : FX K mg) : OkF pg w K mg base (px K) 6 20 f_line_in := by
  obtain ⟨fd, F⟩ := Z.dd 20 _ _ rfl rfl
  have o_less := ok_less (w := w) (base := base) Z
  have o_times := ok_times (w := w) (base := base) Z
  have o_plus := ok_plus (w := w) (base := base) Z
  have o_line_by := ok_line_by (w := w) (base := base) Z
  have sc := sc_line_in
  refine okF_mk (K := K) (P := px K) (st := top 30) (k := 5) rfl F sc (F.bindsN (ps := ["one", "other"]) fun _ _ _ _ _ _ us hl => match us, hl with | [_, _], _ => rfl) fun cdv A outer s H E hr => ?_
  exact (sss_cons (ss_par 2 3 rfl sc.nd (sa_cons (se_callF o_less (hr.mono (by decide)) (Z.g 10 _ rfl) rfl (sa_cons (se_ix (se_var 0) se_int) (sa_cons (se_ix (se_var 1) se_int) sa_nil))) (sa_cons (se_callF o_less (hr.mono (by decide)) (Z.g 10 _ rfl) rfl (sa_cons (se_ix (se_var 1) se_int) (sa_cons (se_ix (se_var 0) se_int) sa_nil))) sa_nil))) (sss_cons (ss_set 4 sc.nd (se_callF o_plus (hr.mono (by decide)) (Z.g 9 _ rfl) rfl (sa_cons (se_callF o_times (hr.mono (by decide)) (Z.g 11 _ rfl) rfl (sa_cons (se_var 2) (sa_cons (se_ix (se_var 0) se_int) sa_nil))) (sa_cons (se_callF o_times (hr.mono (by decide)) (Z.g 11 _ rfl) rfl (sa_cons (se_var 3) (sa_cons (se_ix (se_var 0) se_int) sa_nil))) sa_nil)))) (sss_one (ss_ret (se_callF o_line_by (hr.mono (by decide)) (Z.g 19 _ rfl) rfl (sa_cons (se_var 2) (sa_cons (se_var 3) (sa_cons (se_tup (sa_cons (se_neg (se_ix (se_var 4) se_int)) (sa_cons (se_ix (se_var 4) se_int) sa_nil))) sa_nil))))))))
def b_height_at : DEnv → M Out := (sSeq (sPar 2 3 (aCons (eCall f_times (aCons (eTup (aCons (eBin ixD (eVar 0) (eC (.int 0))) (aCons (eC (.int 1)) aNil))) (aCons (eBin ixD (eVar 1) (eC (.int 0))) aNil))) (aCons (eCall f_times (aCons (eTup (aCons (eBin ixD (eVar 0) (eC (.int 1))) (aCons (eC (.int 1)) aNil))) (aCons (eBin ixD (eVar 1) (eC (.int 1))) aNil))) aNil))) (sRet (eCall f_plus (aCons (eCall f_plus (aCons (eVar 2) (aCons (eVar 3) aNil))) (aCons (eTup (aCons (eBin ixD (eVar 0) (eC (.int 2))) (aCons (eC (.int 1)) aNil))) aNil)))))
def f_height_at : List D → M D := runD 2 4 b_height_at
theorem sc_height_at : FnScope ["line", "point", "across", "up"] ["line", "point"] (defScope (top 31)) := ⟨rfl, rfl, rfl, by decide +kernel, rfl, by decide +kernel, by decide +kernel⟩
theorem ok_height_at {w : World} {K : PySem.W.Frag} {mg : Str → Option Value} {base : Heap} (Z : FX K mg) : OkF pg w K mg base (px K) 6 21 f_height_at := by
  obtain ⟨fd, F⟩ := Z.dd 21 _ _ rfl rfl
  have o_times := ok_times (w := w) (base := base) Z
  have o_plus := ok_plus (w := w) (base := base) Z
  have sc := sc_height_at
  refine okF_mk (K := K) (P := px K) (st := top 31) (k := 5) rfl F sc (F.bindsN (ps := ["line", "point"]) fun _ _ _ _ _ _ us hl => match us, hl with | [_, _], _ => rfl) fun cdv A outer s H E hr => ?_
  exact (sss_cons (ss_par 2 3 rfl sc.nd (sa_cons (se_callF o_times (hr.mono (by decide)) (Z.g 11 _ rfl) rfl (sa_cons (se_tup (sa_cons (se_ix (se_var 0) se_int) (sa_cons se_int sa_nil))) (sa_cons (se_ix (se_var 1) se_int) sa_nil))) (sa_cons (se_callF o_times (hr.mono (by decide)) (Z.g 11 _ rfl) rfl (sa_cons (se_tup (sa_cons (se_ix (se_var 0) se_int) (sa_cons se_int sa_nil))) (sa_cons (se_ix (se_var 1) se_int) sa_nil))) sa_nil))) (sss_one (ss_ret (se_callF o_plus (hr.mono (by decide)) (Z.g 9 _ rfl) rfl (sa_cons (se_callF o_plus (hr.mono (by decide)) (Z.g 9 _ rfl) rfl (sa_cons (se_var 2) (sa_cons (se_var 3) sa_nil))) (sa_cons (se_tup (sa_cons (se_ix (se_var 0) se_int) (sa_cons se_int sa_nil))) sa_nil))))))
def b_is_on : DEnv → M Out := (sRet (eBin eqD (eBin ixD (eCall f_height_at (aCons (eVar 0) (aCons (eVar 1) aNil))) (eC (.int 0))) (eC (.int 0))))
def f_is_on : List D → M D := runD 2 2 b_is_on
theorem sc_is_on : FnScope ["line", "point"] ["line", "point"] (defScope (top 32)) := ⟨rfl, rfl, rfl, by decide +kernel, rfl, by decide +kernel, by decide +kernel⟩
theorem ok_is_on {w : World} {K : PySem.W.Frag} {mg : Str → Option Value} {base : Heap} (Z : FX K mg) : OkF pg w K mg base (px K) 7 22 f_is_on := by
  obtain ⟨fd, F⟩ := Z.dd 22 _ _ rfl rfl
  have o_height_at := ok_height_at (w := w) (base := base) Z
  have sc := sc_is_on
  refine okF_mk (K := K) (P := px K) (st := top 32) (k := 6) rfl F sc (F.bindsN (ps := ["line", "point"]) fun _ _ _ _ _ _ us hl => match us, hl with | [_, _], _ => rfl) fun cdv A outer s H E hr => ?_
  exact (sss_one (ss_ret (se_eq hr (se_ix (se_callF o_height_at (hr.mono (by decide)) (Z.g 21 _ rfl) rfl (sa_cons (se_var 0) (sa_cons (se_var 1) sa_nil))) se_int) se_int)))
def b_lines_in : DEnv → M Out := sLines (iEnumD (aCons (eVar 0) aNil)) (gTupD 2 (gConsD (gVar 2) (gConsD (gVar 3) gNilD))) (iRng1D (aCons (eVar 2) aNil)) (gVar 4) (eCall f_line_in (aCons (eBin ixD (eVar 0) (eVar 4)) (aCons (eVar 3) aNil))) [5, 6] (gTupD 2 (gConsD (gVar 5) (gConsD (gVar 6) gNilD))) (eTup (aCons (eVar 5) (aCons (eB tupD (bCons (eVar 6) aNil)) aNil)))
def f_lines_in : List D → M D := runD 1 7 b_lines_in
theorem sc_lines_in : FnScope ["points", "found", "place", "own", "its", "line", "places"] ["points"] (defScope (top 33)) := ⟨rfl, rfl, rfl, by decide +kernel, rfl, by decide +kernel, by decide +kernel⟩
theorem ok_lines_in {w : World} {K : PySem.W.Frag} {mg : Str → Option Value} {base : Heap} (Z : FX K mg) : OkF pg w K mg base (px K) 7 23 f_lines_in := by
  obtain ⟨fd, F⟩ := Z.dd 23 _ _ rfl rfl
  have o_line_in := ok_line_in (w := w) (base := base) Z
  have sc := sc_lines_in
  refine okF_mk (K := K) (P := px K) (st := top 33) (k := 6) rfl F sc (F.bindsN (ps := ["points"]) fun _ _ _ _ _ _ us hl => match us, hl with | [_], _ => rfl) fun cdv A outer s H E hr => ?_
  exact (sss_lines (own := [("line", 5), ("places", 6)]) hr rfl sc.nd (passes_of rfl) rfl (Z.fr 13 _ rfl) rfl (Z.fr 12 _ rfl) (si_enum rfl (Z.fr 4 _ rfl) (sa_cons (se_var 0) sa_nil)) (sg_tup rfl (sgs_cons (sg_var 2 sc.nd) (sgs_cons (sg_var 3 sc.nd) sgs_nil))) (si_range1 rfl (Z.fr 11 _ rfl) (sa_cons (se_var 2) sa_nil)) (sg_var 4 sc.nd) (se_callF o_line_in (hr.mono (by decide)) (Z.g 20 _ rfl) rfl (sa_cons (se_ix (se_var 0) (se_var 4)) (sa_cons (se_var 3) sa_nil))) (by decide) (by decide) rfl rfl rfl rfl rfl rfl rfl rfl (by decide) (by decide) (by decide) (by decide) (by decide) (by decide) (by decide) (by decide) (blkOk_by (own := [("line", 5), ("places", 6)]) (by kernel_rfl)) (by decide) (fun _ _ _ _ _ => (sg_tup rfl (sgs_cons (sg_var 5 sc.nd) (sgs_cons (sg_var 6 sc.nd) sgs_nil)))) (fun _ _ _ _ _ => (se_tup (sa_cons (se_var 5) (sa_cons (se_toTup rfl (Z.fr 15 _ rfl) (sb_cons (se_var 6) sb_nil)) sa_nil)))) rfl rfl rfl (fun _ => rfl) (fun _ => rfl) rfl ⟨rfl, rfl, rfl, rfl⟩ rfl)
end Lw

set_option Elab.async false
set_option linter.all false
set_option maxRecDepth 100000
set_option maxHeartbeats 4000000
namespace Lw
open PySem PySem.Spec PyProof.Rows L2 Pu
def b_on_line : DEnv → M Out := (sRet (eB tupD (bCons (eF (fComp (iEnumD (aCons (eVar 0) aNil)) [2, 3] (gTupD 2 (gConsD (gVar 2) (gConsD (gVar 3) gNilD))) (tTr (eCall f_is_on (aCons (eVar 1) (aCons (eVar 3) aNil)))) (eVar 2))) aNil)))
def f_on_line : List D → M D := runD 2 4 b_on_line
theorem sc_on_line : FnScope ["points", "line", "place", "own"] ["points", "line"] (defScope (top 35)) := ⟨rfl, rfl, rfl, by decide +kernel, rfl, by decide +kernel, by decide +kernel⟩
theorem ok_on_line {w : World} {K : PySem.W.Frag} {mg : Str → Option Value} {base : Heap} (Z : FX K mg) : OkF pg w K mg base (px K) 8 24 f_on_line := by
  obtain ⟨fd, F⟩ := Z.dd 24 _ _ rfl rfl
  have o_is_on := ok_is_on (w := w) (base := base) Z
  have sc := sc_on_line
  refine okF_mk (K := K) (P := px K) (st := top 35) (k := 7) rfl F sc (F.bindsN (ps := ["points", "line"]) fun _ _ _ _ _ _ us hl => match us, hl with | [_, _], _ => rfl) fun cdv A outer s H E hr => ?_
  exact (sss_one (ss_ret (se_toTup rfl (Z.fr 15 _ rfl) (sb_cons (se_f (sf_comp (own := [("place", 2), ("own", 3)]) rfl sc.nd (si_enum rfl (Z.fr 4 _ rfl) (sa_cons (se_var 0) sa_nil)) (blkOk_by (own := [("place", 2), ("own", 3)]) (by kernel_rfl)) (by decide) (fun _ _ _ _ _ => (sg_tup rfl (sgs_cons (sg_var 2 sc.nd) (sgs_cons (sg_var 3 sc.nd) sgs_nil)))) (fun _ _ _ _ _ => (sts_one (st_tr (se_callF o_is_on (hr.mono (by decide)) (Z.g 22 _ rfl) rfl (sa_cons (se_var 1) (sa_cons (se_var 3) sa_nil)))))) (fun _ _ _ _ _ => (se_var 2)))) sb_nil))))
def b_are_colours_in : DEnv → M Out := (sRet (eAnd (eCall f_is_long (aCons (eVar 1) (aCons (eVar 0) aNil))) (eB allD (bCons (eF (fComp (iSeqD (eVar 1)) [2] (gVar 2) tYesD (eCall f_is_within (aCons (eVar 2) (aCons (eC (.int 0)) (aCons (eC (.int 1)) aNil)))))) aNil))))
def f_are_colours_in : List D → M D := runD 2 3 b_are_colours_in
theorem sc_are_colours_in : FnScope ["many", "thing", "own"] ["many", "thing"] (defScope (top 38)) := ⟨rfl, rfl, rfl, by decide +kernel, rfl, by decide +kernel, by decide +kernel⟩
theorem ok_are_colours_in {w : World} {K : PySem.W.Frag} {mg : Str → Option Value} {base : Heap} (Z : FX K mg) : OkF pg w K mg base (px K) 5 25 f_are_colours_in := by
  obtain ⟨fd, F⟩ := Z.dd 25 _ _ rfl rfl
  have o_is_long := ok_is_long (w := w) (base := base) Z
  have o_is_within := ok_is_within (w := w) (base := base) Z
  have sc := sc_are_colours_in
  refine okF_mk (K := K) (P := px K) (st := top 38) (k := 4) rfl F sc (F.bindsN (ps := ["many", "thing"]) fun _ _ _ _ _ _ us hl => match us, hl with | [_, _], _ => rfl) fun cdv A outer s H E hr => ?_
  exact (sss_one (ss_ret (se_and (se_callF o_is_long (hr.mono (by decide)) (Z.g 2 _ rfl) rfl (sa_cons (se_var 1) (sa_cons (se_var 0) sa_nil))) (se_one (se_all rfl rfl (Z.fr 2 _ rfl) (sb_cons (se_f (sf_comp (own := [("own", 2)]) rfl sc.nd (si_seq (se_var 1)) (blkOk_by (own := [("own", 2)]) (by kernel_rfl)) (by decide) (fun _ _ _ _ _ => (sg_var 2 sc.nd)) (fun _ _ _ _ _ => sts_nil) (fun _ _ _ _ _ => (se_callF o_is_within (hr.mono (by decide)) (Z.g 1 _ rfl) rfl (sa_cons (se_var 2) (sa_cons se_int (sa_cons se_int sa_nil))))))) sb_nil))))))
def b_sure_coloured : DEnv → M Out := (sSeq (sSet 2 (eCall f_sure_points (aCons (eVar 0) aNil))) (sSeq (sSet 3 (eCall f_tupled (aCons (eVar 1) aNil))) (sSeq (sIf (tNotD (tTr (eCall f_are_colours_in (aCons (eB lenD (bCons (eVar 2) aNil)) (aCons (eVar 3) aNil))))) (sRaise 2) sNext) (sRet (eTup (aCons (eVar 2) (aCons (eVar 3) aNil)))))))
def f_sure_coloured : List D → M D := runD 2 4 b_sure_coloured
theorem sc_sure_coloured : FnScope ["points", "colours", "own", "told"] ["points", "colours"] (defScope (top 39)) := ⟨rfl, rfl, rfl, by decide +kernel, rfl, by decide +kernel, by decide +kernel⟩
theorem ok_sure_coloured {w : World} {K : PySem.W.Frag} {mg : Str → Option Value} {base : Heap} (Z : FX K mg) : OkF pg w K mg base (px K) 17 26 f_sure_coloured := by
  obtain ⟨fd, F⟩ := Z.dd 26 _ _ rfl rfl
  have o_sure_points := ok_sure_points (w := w) (base := base) Z
  have o_tupled := ok_tupled (w := w) (base := base) Z
  have o_are_colours_in := ok_are_colours_in (w := w) (base := base) Z
  have sc := sc_sure_coloured
  refine okF_mk (K := K) (P := px K) (st := top 39) (k := 16) rfl F sc (F.bindsN (ps := ["points", "colours"]) fun _ _ _ _ _ _ us hl => match us, hl with | [_, _], _ => rfl) fun cdv A outer s H E hr => ?_
  exact (sss_cons (ss_set 2 sc.nd (se_callF o_sure_points (hr.mono (by decide)) (Z.g 18 _ rfl) rfl (sa_cons (se_var 0) sa_nil))) (sss_cons (ss_set 3 sc.nd (se_callF o_tupled (hr.mono (by decide)) (Z.g 4 _ rfl) rfl (sa_cons (se_var 1) sa_nil))) (sss_cons (ss_if (st_not (st_tr (se_callF o_are_colours_in (hr.mono (by decide)) (Z.g 25 _ rfl) rfl (sa_cons (se_len rfl (Z.fr 7 _ rfl) (sb_cons (se_var 2) sb_nil)) (sa_cons (se_var 3) sa_nil))))) (sss_one (ss_raise 2 rfl (Z.ex 2 _ rfl).2 (Z.ex 2 _ rfl).1 rfl)) sss_nil) (sss_one (ss_ret (se_tup (sa_cons (se_var 2) (sa_cons (se_var 3) sa_nil))))))))
def b_one_colour_in : DEnv → M Out := (sSeq (sSet 2 (eF (fSort (eF (fComp (iSeqD (eCall f_lines_in (aCons (eVar 0) aNil))) [3, 4] (gTupD 2 (gConsD (gVar 3) (gConsD (gVar 4) gNilD))) tYesD (eVar 4)))))) (sRet (eF (fComp (iSeqD (eVar 2)) [5] (gVar 5) (tB (eBin eqD (eUn lenSet2 (eF (fComp (iSeqD (eVar 5)) [6] (gVar 6) tYesD (eBin ixD (eVar 1) (eVar 6))))) (eC (.int 1)))) (eTup (aCons (eBin ixD (eVar 1) (eBin ixD (eVar 5) (eC (.int 0)))) (aCons (eVar 5) aNil)))))))
def f_one_colour_in : List D → M D := runD 2 7 b_one_colour_in
theorem sc_one_colour_in : FnScope ["points", "colours", "rows", "line", "places", "own", "place"] ["points", "colours"] (defScope (top 40)) := ⟨rfl, rfl, rfl, by decide +kernel, rfl, by decide +kernel, by decide +kernel⟩
theorem ok_one_colour_in {w : World} {K : PySem.W.Frag} {mg : Str → Option Value} {base : Heap} (Z : FX K mg) : OkF pg w K mg base (px K) 8 27 f_one_colour_in := by
  obtain ⟨fd, F⟩ := Z.dd 27 _ _ rfl rfl
  have o_lines_in := ok_lines_in (w := w) (base := base) Z
  have sc := sc_one_colour_in
  refine okF_mk (K := K) (P := px K) (st := top 40) (k := 7) rfl F sc (F.bindsN (ps := ["points", "colours"]) fun _ _ _ _ _ _ us hl => match us, hl with | [_, _], _ => rfl) fun cdv A outer s H E hr => ?_
  exact (sss_cons (ss_set 2 sc.nd (se_f (sf_sorted hr rfl (Z.fr 13 _ rfl) (se_f (sf_comp (own := [("line", 3), ("places", 4)]) rfl sc.nd (si_seq (se_callF o_lines_in (hr.mono (by decide)) (Z.g 23 _ rfl) rfl (sa_cons (se_var 0) sa_nil))) (blkOk_by (own := [("line", 3), ("places", 4)]) (by kernel_rfl)) (by decide) (fun _ _ _ _ _ => (sg_tup rfl (sgs_cons (sg_var 3 sc.nd) (sgs_cons (sg_var 4 sc.nd) sgs_nil)))) (fun _ _ _ _ _ => sts_nil) (fun _ _ _ _ _ => (se_var 4))))))) (sss_one (ss_ret (se_f (sf_comp (own := [("own", 5)]) rfl sc.nd (si_seq (se_var 2)) (blkOk_by (own := [("own", 5)]) (by kernel_rfl)) (by decide) (fun _ _ _ _ _ => (sg_var 5 sc.nd)) (fun _ _ _ _ _ => (sts_one (st_eq hr (se_lenSetI hr rfl rfl (Z.fr 7 _ rfl) rfl (Z.fr 12 _ rfl) (se_f (sf_comp (own := [("place", 6)]) rfl sc.nd (si_seq (se_var 5)) (blkOk_by (own := [("place", 6)]) (by kernel_rfl)) (by decide) (fun _ _ _ _ _ => (sg_var 6 sc.nd)) (fun _ _ _ _ _ => sts_nil) (fun _ _ _ _ _ => (se_ix (se_var 1) (se_var 6)))))) se_int))) (fun _ _ _ _ _ => (se_tup (sa_cons (se_ix (se_var 1) (se_ix (se_var 5) se_int)) (sa_cons (se_var 5) sa_nil)))))))))
def b_is_one_colour_in : DEnv → M Out := (sSeq (sIf (tOrD (tNotD (tTr (eCall f_is_long (aCons (eVar 2) (aCons (eC (.int 2)) aNil))))) (tOrD (tNotD (tTr (eCall f_is_number (aCons (eBin ixD (eVar 2) (eC (.int 0))) aNil)))) (tOrD (tNotD (tTr (eCall f_is_set (aCons (eBin ixD (eVar 2) (eC (.int 1))) aNil)))) (tB (eBin ltD (eB lenD (bCons (eBin ixD (eVar 2) (eC (.int 1))) aNil)) (eC (.int 2))))))) (sRet (eC (.bl false))) sNext) (sSeq (sIf (tNotD (tTr (eB allD (bCons (eF (fComp (iSeqD (eBin ixD (eVar 2) (eC (.int 1)))) [3] (gVar 3) tYesD (eChain leD ltD (eC (.int 0)) (eVar 3) (eB lenD (bCons (eVar 0) aNil))))) aNil)))) (sRet (eC (.bl false))) sNext) (sSeq (sSet 4 (eCall f_line_in (aCons (eBin ixD (eVar 0) (eBin ixD (eBin ixD (eVar 2) (eC (.int 1))) (eC (.int 0)))) (aCons (eBin ixD (eVar 0) (eBin ixD (eBin ixD (eVar 2) (eC (.int 1))) (eC (.int 1)))) aNil)))) (sRet (eAnd (eBin eqD (eCall f_on_line (aCons (eVar 0) (aCons (eVar 4) aNil))) (eBin ixD (eVar 2) (eC (.int 1)))) (eB allD (bCons (eF (fComp (iSeqD (eBin ixD (eVar 2) (eC (.int 1)))) [3] (gVar 3) tYesD (eBin eqD (eBin ixD (eVar 1) (eVar 3)) (eBin ixD (eVar 2) (eC (.int 0)))))) aNil)))))))
def f_is_one_colour_in : List D → M D := runD 3 5 b_is_one_colour_in
theorem sc_is_one_colour_in : FnScope ["points", "colours", "thing", "place", "line"] ["points", "colours", "thing"] (defScope (top 41)) := ⟨rfl, rfl, rfl, by decide +kernel, rfl, by decide +kernel, by decide +kernel⟩
theorem ok_is_one_colour_in {w : World} {K : PySem.W.Frag} {mg : Str → Option Value} {base : Heap} (Z : FX K mg) : OkF pg w K mg base (px K) 9 28 f_is_one_colour_in := by
  obtain ⟨fd, F⟩ := Z.dd 28 _ _ rfl rfl
  have o_is_long := ok_is_long (w := w) (base := base) Z
  have o_is_number := ok_is_number (w := w) (base := base) Z
  have o_is_set := ok_is_set (w := w) (base := base) Z
  have o_line_in := ok_line_in (w := w) (base := base) Z
  have o_on_line := ok_on_line (w := w) (base := base) Z
  have sc := sc_is_one_colour_in
  refine okF_mk (K := K) (P := px K) (st := top 41) (k := 8) rfl F sc (F.bindsN (ps := ["points", "colours", "thing"]) fun _ _ _ _ _ _ us hl => match us, hl with | [_, _, _], _ => rfl) fun cdv A outer s H E hr => ?_
  exact (sss_cons (ss_if (SWt.st (sw_or (st_not (st_tr (se_callF o_is_long (hr.mono (by decide)) (Z.g 2 _ rfl) rfl (sa_cons (se_var 2) (sa_cons se_int sa_nil))))) (sw_or (st_not (st_tr (se_callF o_is_number (hr.mono (by decide)) (Z.g 0 _ rfl) rfl (sa_cons (se_ix (se_var 2) se_int) sa_nil)))) (sw_or (st_not (st_tr (se_callF o_is_set (hr.mono (by decide)) (Z.g 6 _ rfl) rfl (sa_cons (se_ix (se_var 2) se_int) sa_nil)))) (sw_or1 (st_lt (se_len rfl (Z.fr 7 _ rfl) (sb_cons (se_ix (se_var 2) se_int) sb_nil)) se_int)))))) (sss_one (ss_ret se_bl)) sss_nil) (sss_cons (ss_if (st_not (st_tr (se_all rfl rfl (Z.fr 2 _ rfl) (sb_cons (se_f (sf_comp (own := [("place", 3)]) rfl sc.nd (si_seq (se_ix (se_var 2) se_int)) (blkOk_by (own := [("place", 3)]) (by kernel_rfl)) (by decide) (fun _ _ _ _ _ => (sg_var 3 sc.nd)) (fun _ _ _ _ _ => sts_nil) (fun _ _ _ _ _ => (se_chain op_le op_lt se_int (se_var 3) (se_len rfl (Z.fr 7 _ rfl) (sb_cons (se_var 0) sb_nil)))))) sb_nil)))) (sss_one (ss_ret se_bl)) sss_nil) (sss_cons (ss_set 4 sc.nd (se_callF o_line_in (hr.mono (by decide)) (Z.g 20 _ rfl) rfl (sa_cons (se_ix (se_var 0) (se_ix (se_ix (se_var 2) se_int) se_int)) (sa_cons (se_ix (se_var 0) (se_ix (se_ix (se_var 2) se_int) se_int)) sa_nil)))) (sss_one (ss_ret (se_and (se_eq hr (se_callF o_on_line (hr.mono (by decide)) (Z.g 24 _ rfl) rfl (sa_cons (se_var 0) (sa_cons (se_var 4) sa_nil))) (se_ix (se_var 2) se_int)) (se_one (se_all rfl rfl (Z.fr 2 _ rfl) (sb_cons (se_f (sf_comp (own := [("place", 3)]) rfl sc.nd (si_seq (se_ix (se_var 2) se_int)) (blkOk_by (own := [("place", 3)]) (by kernel_rfl)) (by decide) (fun _ _ _ _ _ => (sg_var 3 sc.nd)) (fun _ _ _ _ _ => sts_nil) (fun _ _ _ _ _ => (se_eq hr (se_ix (se_var 1) (se_var 3)) (se_ix (se_var 2) se_int))))) sb_nil)))))))))
def b_one_colour_lines : DEnv → M Out := (sSeq (sAsg (gTupD 2 (gConsD (gVar 2) (gConsD (gVar 3) gNilD))) (eCall f_sure_coloured (aCons (eVar 0) (aCons (eVar 1) aNil)))) (sRet (eB tupD (bCons (eCall f_one_colour_in (aCons (eVar 2) (aCons (eVar 3) aNil))) aNil))))
def f_one_colour_lines : List D → M D := runD 2 4 b_one_colour_lines
theorem sc_one_colour_lines : FnScope ["points", "colours", "own", "told"] ["points", "colours"] (defScope (top 42)) := ⟨rfl, rfl, rfl, by decide +kernel, rfl, by decide +kernel, by decide +kernel⟩
theorem ok_one_colour_lines {w : World} {K : PySem.W.Frag} {mg : Str → Option Value} {base : Heap} (Z : FX K mg) : OkF pg w K mg base (px K) 18 29 f_one_colour_lines := by
  obtain ⟨fd, F⟩ := Z.dd 29 _ _ rfl rfl
  have o_sure_coloured := ok_sure_coloured (w := w) (base := base) Z
  have o_one_colour_in := ok_one_colour_in (w := w) (base := base) Z
  have sc := sc_one_colour_lines
  refine okF_mk (K := K) (P := px K) (st := top 42) (k := 17) rfl F sc (F.bindsN (ps := ["points", "colours"]) fun _ _ _ _ _ _ us hl => match us, hl with | [_, _], _ => rfl) fun cdv A outer s H E hr => ?_
  exact (sss_cons (ss_asg (se_callF o_sure_coloured (hr.mono (by decide)) (Z.g 26 _ rfl) rfl (sa_cons (se_var 0) (sa_cons (se_var 1) sa_nil))) (sg_tup rfl (sgs_cons (sg_var 2 sc.nd) (sgs_cons (sg_var 3 sc.nd) sgs_nil)))) (sss_one (ss_ret (se_toTup rfl (Z.fr 15 _ rfl) (sb_cons (se_callF o_one_colour_in (hr.mono (by decide)) (Z.g 27 _ rfl) rfl (sa_cons (se_var 2) (sa_cons (se_var 3) sa_nil))) sb_nil)))))
def b_first_one_colour : DEnv → M Out := (sSeq (sAsg (gTupD 2 (gConsD (gVar 2) (gConsD (gVar 3) gNilD))) (eCall f_sure_coloured (aCons (eVar 0) (aCons (eVar 1) aNil)))) (sSeq (sSet 4 (eCall f_one_colour_in (aCons (eVar 2) (aCons (eVar 3) aNil)))) (sSeq (sIf (tB (eBin eqD (eVar 4) (eF (fLst aNil)))) (sRaise 0) sNext) (sRet (eBin ixD (eVar 4) (eC (.int 0)))))))
def f_first_one_colour : List D → M D := runD 2 5 b_first_one_colour
theorem sc_first_one_colour : FnScope ["points", "colours", "own", "told", "found"] ["points", "colours"] (defScope (top 43)) := ⟨rfl, rfl, rfl, by decide +kernel, rfl, by decide +kernel, by decide +kernel⟩
theorem ok_first_one_colour {w : World} {K : PySem.W.Frag} {mg : Str → Option Value} {base : Heap} (Z : FX K mg) : OkF pg w K mg base (px K) 18 30 f_first_one_colour := by
  obtain ⟨fd, F⟩ := Z.dd 30 _ _ rfl rfl
  have o_sure_coloured := ok_sure_coloured (w := w) (base := base) Z
  have o_one_colour_in := ok_one_colour_in (w := w) (base := base) Z
  have sc := sc_first_one_colour
  refine okF_mk (K := K) (P := px K) (st := top 43) (k := 17) rfl F sc (F.bindsN (ps := ["points", "colours"]) fun _ _ _ _ _ _ us hl => match us, hl with | [_, _], _ => rfl) fun cdv A outer s H E hr => ?_
  exact (sss_cons (ss_asg (se_callF o_sure_coloured (hr.mono (by decide)) (Z.g 26 _ rfl) rfl (sa_cons (se_var 0) (sa_cons (se_var 1) sa_nil))) (sg_tup rfl (sgs_cons (sg_var 2 sc.nd) (sgs_cons (sg_var 3 sc.nd) sgs_nil)))) (sss_cons (ss_set 4 sc.nd (se_callF o_one_colour_in (hr.mono (by decide)) (Z.g 27 _ rfl) rfl (sa_cons (se_var 2) (sa_cons (se_var 3) sa_nil)))) (sss_cons (ss_if (st_eq hr (se_var 4) (se_f (sf_lst sa_nil))) (sss_one (ss_raise 0 rfl (Z.ex 0 _ rfl).2 (Z.ex 0 _ rfl).1 rfl)) sss_nil) (sss_one (ss_ret (se_ix (se_var 4) se_int))))))
def b_is_one_colour : DEnv → M Out := (sSeq (sAsg (gTupD 2 (gConsD (gVar 3) (gConsD (gVar 4) gNilD))) (eCall f_sure_coloured (aCons (eVar 0) (aCons (eVar 1) aNil)))) (sRet (eCall f_is_one_colour_in (aCons (eVar 3) (aCons (eVar 4) (aCons (eVar 2) aNil))))))
def f_is_one_colour : List D → M D := runD 3 5 b_is_one_colour
theorem sc_is_one_colour : FnScope ["points", "colours", "thing", "own", "told"] ["points", "colours", "thing"] (defScope (top 44)) := ⟨rfl, rfl, rfl, by decide +kernel, rfl, by decide +kernel, by decide +kernel⟩
theorem ok_is_one_colour {w : World} {K : PySem.W.Frag} {mg : Str → Option Value} {base : Heap} (Z : FX K mg) : OkF pg w K mg base (px K) 18 31 f_is_one_colour := by
  obtain ⟨fd, F⟩ := Z.dd 31 _ _ rfl rfl
  have o_sure_coloured := ok_sure_coloured (w := w) (base := base) Z
  have o_is_one_colour_in := ok_is_one_colour_in (w := w) (base := base) Z
  have sc := sc_is_one_colour
  refine okF_mk (K := K) (P := px K) (st := top 44) (k := 17) rfl F sc (F.bindsN (ps := ["points", "colours", "thing"]) fun _ _ _ _ _ _ us hl => match us, hl with | [_, _, _], _ => rfl) fun cdv A outer s H E hr => ?_
  exact (sss_cons (ss_asg (se_callF o_sure_coloured (hr.mono (by decide)) (Z.g 26 _ rfl) rfl (sa_cons (se_var 0) (sa_cons (se_var 1) sa_nil))) (sg_tup rfl (sgs_cons (sg_var 3 sc.nd) (sgs_cons (sg_var 4 sc.nd) sgs_nil)))) (sss_one (ss_ret (se_callF o_is_one_colour_in (hr.mono (by decide)) (Z.g 28 _ rfl) rfl (sa_cons (se_var 3) (sa_cons (se_var 4) (sa_cons (se_var 2) sa_nil)))))))
end Lw

set_option Elab.async false
set_option linter.all false
set_option maxRecDepth 100000
set_option maxHeartbeats 4000000
namespace Lw
open PySem PySem.Spec PyProof.Rows L2 Pu
def b_colour_counts : DEnv → M Out := (sSeq (sAsg (gTupD 2 (gConsD (gVar 2) (gConsD (gVar 3) gNilD))) (eCall f_sure_coloured (aCons (eVar 0) (aCons (eVar 1) aNil)))) (sSeq (sSet 4 (eF (fComp (iSeqD (eCall f_one_colour_in (aCons (eVar 2) (aCons (eVar 3) aNil)))) [5, 6] (gTupD 2 (gConsD (gVar 5) (gConsD (gVar 6) gNilD))) tYesD (eVar 5)))) (sRet (eTup (aCons (eCount (eVar 4) (eC (.int 0))) (aCons (eCount (eVar 4) (eC (.int 1))) (aCons (eBin subD (eB lenD (bCons (eCall f_lines_in (aCons (eVar 2) aNil)) aNil)) (eB lenD (bCons (eVar 4) aNil))) aNil)))))))
def f_colour_counts : List D → M D := runD 2 7 b_colour_counts
theorem sc_colour_counts : FnScope ["points", "colours", "own", "told", "alone", "colour", "places"] ["points", "colours"] (defScope (top 45)) := ⟨rfl, rfl, rfl, by decide +kernel, rfl, by decide +kernel, by decide +kernel⟩
theorem ok_colour_counts {w : World} {K : PySem.W.Frag} {mg : Str → Option Value} {base : Heap} (Z : FX K mg) : OkF pg w K mg base (px K) 18 32 f_colour_counts := by
  obtain ⟨fd, F⟩ := Z.dd 32 _ _ rfl rfl
  have o_sure_coloured := ok_sure_coloured (w := w) (base := base) Z
  have o_one_colour_in := ok_one_colour_in (w := w) (base := base) Z
  have o_lines_in := ok_lines_in (w := w) (base := base) Z
  have sc := sc_colour_counts
  refine okF_mk (K := K) (P := px K) (st := top 45) (k := 17) rfl F sc (F.bindsN (ps := ["points", "colours"]) fun _ _ _ _ _ _ us hl => match us, hl with | [_, _], _ => rfl) fun cdv A outer s H E hr => ?_
  exact (sss_cons (ss_asg (se_callF o_sure_coloured (hr.mono (by decide)) (Z.g 26 _ rfl) rfl (sa_cons (se_var 0) (sa_cons (se_var 1) sa_nil))) (sg_tup rfl (sgs_cons (sg_var 2 sc.nd) (sgs_cons (sg_var 3 sc.nd) sgs_nil)))) (sss_cons (ss_setC (own := [("colour", 5), ("places", 6)]) 4 rfl sc.nd (si_seq (se_callF o_one_colour_in (hr.mono (by decide)) (Z.g 27 _ rfl) rfl (sa_cons (se_var 2) (sa_cons (se_var 3) sa_nil)))) (blkOk_by (own := [("colour", 5), ("places", 6)]) (by kernel_rfl)) (by decide) (fun _ _ _ _ _ => (sg_tup rfl (sgs_cons (sg_var 5 sc.nd) (sgs_cons (sg_var 6 sc.nd) sgs_nil)))) (fun _ _ _ _ _ => sts_nil) (fun _ _ _ _ _ => (se_var 5))) (sss_one (ss_ret (se_tup (sa_cons (se_count (se_var 4) se_int) (sa_cons (se_count (se_var 4) se_int) (sa_cons (se_sub (se_len rfl (Z.fr 7 _ rfl) (sb_cons (se_callF o_lines_in (hr.mono (by decide)) (Z.g 23 _ rfl) rfl (sa_cons (se_var 2) sa_nil)) sb_nil)) (se_len rfl (Z.fr 7 _ rfl) (sb_cons (se_var 4) sb_nil))) sa_nil))))))))
def b_fewest_alone : DEnv → M Out := (sSeq (sSet 1 (eCall f_sure_points (aCons (eVar 0) aNil))) (sSeq (sIf (tB (eBin gtD (eB lenD (bCons (eVar 1) aNil)) (eC (.int (10))))) (sRaise 1) sNext) (sSeq (sSet 2 (eF (fComp (iSeqD (eCall f_lines_in (aCons (eVar 1) aNil))) [3, 4] (gTupD 2 (gConsD (gVar 3) (gConsD (gVar 4) gNilD))) tYesD (eVar 4)))) (sSeq (sPar 5 6 (aCons (eB lenD (bCons (eVar 2) aNil)) (aCons (eF (fLst (aCons (eF (fLst (aCons (eC (.int 0)) aNil))) aNil))) aNil))) (sSeq (sFor (iRng1D (aCons (eBin subD (eB lenD (bCons (eVar 1) aNil)) (eC (.int 1))) aNil)) (gVar 7) (sSet 6 (eF (fComp2 (iSeqD (eVar 6)) [8, 9] (gVar 8) tYesD (iSeqD (eTup (aCons (eC (.int 0)) (aCons (eC (.int 1)) aNil)))) [9] (gVar 9) tYesD (eBin addD (eVar 8) (eF (fLst (aCons (eVar 9) aNil)))))))) (sSeq (sFor (iSeqD (eVar 6)) (gVar 10) (sSet 5 (eB min2D (bCons (eVar 5) (bCons (eB lenD (bCons (eF (fComp (iSeqD (eVar 2)) [11] (gVar 11) (tB (eBin eqD (eUn lenSet2 (eF (fComp (iSeqD (eVar 11)) [12] (gVar 12) tYesD (eBin ixD (eVar 10) (eVar 12))))) (eC (.int 1)))) (eVar 11))) aNil)) aNil))))) (sRet (eVar 5))))))))
def f_fewest_alone : List D → M D := runD 1 13 b_fewest_alone
theorem sc_fewest_alone : FnScope ["points", "own", "rows", "line", "places", "best", "all_colours", "turn", "told", "colour", "colours", "row", "place"] ["points"] (defScope (top 46)) := ⟨rfl, rfl, rfl, by decide +kernel, rfl, by decide +kernel, by decide +kernel⟩
theorem ok_fewest_alone {w : World} {K : PySem.W.Frag} {mg : Str → Option Value} {base : Heap} (Z : FX K mg) : OkF pg w K mg base (px K) 17 33 f_fewest_alone := by
  obtain ⟨fd, F⟩ := Z.dd 33 _ _ rfl rfl
  have o_sure_points := ok_sure_points (w := w) (base := base) Z
  have o_lines_in := ok_lines_in (w := w) (base := base) Z
  obtain ⟨t_MOST_COLOURED, m_MOST_COLOURED⟩ := Z.it 3 _ _ rfl
  have sc := sc_fewest_alone
  refine okF_mk (K := K) (P := px K) (st := top 46) (k := 16) rfl F sc (F.bindsN (ps := ["points"]) fun _ _ _ _ _ _ us hl => match us, hl with | [_], _ => rfl) fun cdv A outer s H E hr => ?_
  exact (sss_cons (ss_set 1 sc.nd (se_callF o_sure_points (hr.mono (by decide)) (Z.g 18 _ rfl) rfl (sa_cons (se_var 0) sa_nil))) (sss_cons (ss_if (st_gt (se_len rfl (Z.fr 7 _ rfl) (sb_cons (se_var 1) sb_nil)) (se_gint rfl m_MOST_COLOURED)) (sss_one (ss_raise 1 rfl (Z.ex 1 _ rfl).2 (Z.ex 1 _ rfl).1 rfl)) sss_nil) (sss_cons (ss_setC (own := [("line", 3), ("places", 4)]) 2 rfl sc.nd (si_seq (se_callF o_lines_in (hr.mono (by decide)) (Z.g 23 _ rfl) rfl (sa_cons (se_var 1) sa_nil))) (blkOk_by (own := [("line", 3), ("places", 4)]) (by kernel_rfl)) (by decide) (fun _ _ _ _ _ => (sg_tup rfl (sgs_cons (sg_var 3 sc.nd) (sgs_cons (sg_var 4 sc.nd) sgs_nil)))) (fun _ _ _ _ _ => sts_nil) (fun _ _ _ _ _ => (se_var 4))) (sss_cons (ss_par 5 6 rfl sc.nd (sa_cons (se_len rfl (Z.fr 7 _ rfl) (sb_cons (se_var 2) sb_nil)) (sa_cons (se_f (sf_lst (sa_cons (se_f (sf_lst (sa_cons se_int sa_nil))) sa_nil))) sa_nil))) (sss_cons (ss_for (passes_of rfl) rfl (si_range1 rfl (Z.fr 11 _ rfl) (sa_cons (se_sub (se_len rfl (Z.fr 7 _ rfl) (sb_cons (se_var 1) sb_nil)) se_int) sa_nil)) (sg_var 7 sc.nd) (sss_one (ss_setC2 (own := [("told", 8), ("colour", 9)]) (vs1 := [9]) 6 rfl sc.nd (si_seq (se_var 6)) (blkOk_by (own := [("told", 8), ("colour", 9)]) (by kernel_rfl)) (by decide) (by decide) (by decide) (fun _ _ _ _ _ => (sg_var 8 sc.nd)) (fun _ _ _ _ _ => sts_nil) (fun _ _ _ _ _ => (si_seq (se_tup (sa_cons se_int (sa_cons se_int sa_nil))))) (fun _ _ _ _ _ => (sg_var 9 sc.nd)) (fun _ _ _ _ _ => sts_nil) (fun _ _ _ _ _ => (se_add (se_var 8) (se_f (sf_lst (sa_cons (se_var 9) sa_nil)))))))) (sss_cons (ss_for (passes_of rfl) rfl (si_seq (se_var 6)) (sg_var 10 sc.nd) (sss_one (ss_set 5 sc.nd (se_min2 rfl rfl (Z.fr 10 _ rfl) (sb_cons (se_var 5) (sb_cons (se_len rfl (Z.fr 7 _ rfl) (sb_cons (se_f (sf_comp (own := [("row", 11)]) rfl sc.nd (si_seq (se_var 2)) (blkOk_by (own := [("row", 11)]) (by kernel_rfl)) (by decide) (fun _ _ _ _ _ => (sg_var 11 sc.nd)) (fun _ _ _ _ _ => (sts_one (st_eq hr (se_lenSetI hr rfl rfl (Z.fr 7 _ rfl) rfl (Z.fr 12 _ rfl) (se_f (sf_comp (own := [("place", 12)]) rfl sc.nd (si_seq (se_var 11)) (blkOk_by (own := [("place", 12)]) (by kernel_rfl)) (by decide) (fun _ _ _ _ _ => (sg_var 12 sc.nd)) (fun _ _ _ _ _ => sts_nil) (fun _ _ _ _ _ => (se_ix (se_var 10) (se_var 12)))))) se_int))) (fun _ _ _ _ _ => (se_var 11)))) sb_nil)) sb_nil)))))) (sss_one (ss_ret (se_var 5)))))))))
def b__law_box : DEnv → M Out := (sSeq (sSet 2 (eIf (tB (eBin ltD (eVar 1) (eB lenD (bCons (eVar 0) aNil)))) (eBin ixD (eVar 0) (eVar 1)) (eC (.int 0)))) (sRet (eF (fLst (aCons (eBin mulD (eB absD (bCons (eVar 2) aNil)) (eB intOfD (bCons (eBin geD (eB absD (bCons (eVar 2) aNil)) (eBin powD (eC (.int 10)) (eC (.int 18)))) aNil))) (aCons (eBin addD (eBin addD (eBin modD (eB intOfD (bCons (eVar 2) aNil)) (eC (.int 2305843009213693951))) (eBin mulD (eC (.int 39373)) (eVar 1))) (eC (.int 26302035))) (aCons (eC (.int 0)) aNil)))))))
def f__law_box : List D → M D := runD 2 3 b__law_box
theorem sc__law_box : FnScope ["script", "k", "bit_so"] ["script", "k"] (defScope (top 48)) := ⟨rfl, rfl, rfl, by decide +kernel, rfl, by decide +kernel, by decide +kernel⟩
theorem ok__law_box {w : World} {K : PySem.W.Frag} {mg : Str → Option Value} {base : Heap} (Z : FX K mg) : OkF pg w K mg base (px K) 3 34 f__law_box := by
  obtain ⟨fd, F⟩ := Z.dd 34 _ _ rfl rfl
  have sc := sc__law_box
  refine okF_mk (K := K) (P := px K) (st := top 48) (k := 2) rfl F sc (F.bindsN (ps := ["script", "k"]) fun _ _ _ _ _ _ us hl => match us, hl with | [_, _], _ => rfl) fun cdv A outer s H E hr => ?_
  exact (sss_cons (ss_set 2 sc.nd (se_if (st_lt (se_var 1) (se_len rfl (Z.fr 7 _ rfl) (sb_cons (se_var 0) sb_nil))) (se_ix (se_var 0) (se_var 1)) se_int)) (sss_one (ss_ret (se_f (sf_lst (sa_cons (se_mul (se_abs rfl (Z.fr 1 _ rfl) (sb_cons (se_var 2) sb_nil)) (se_toInt rfl (Z.fr 5 _ rfl) (sb_cons (se_ge (se_abs rfl (Z.fr 1 _ rfl) (sb_cons (se_var 2) sb_nil)) (se_pow se_int se_int)) sb_nil))) (sa_cons (se_add (se_add (se_mod (se_toInt rfl (Z.fr 5 _ rfl) (sb_cons (se_var 2) sb_nil)) se_int) (se_mul se_int (se_var 1))) se_int) (sa_cons se_int sa_nil))))))))
def b__law_take : DEnv → M Out := (sSeq (sIf (tB (eBin gtD (eBin ixD (eVar 0) (eC (.int 0))) (eC (.int 0)))) (sSeq (sSet 2 (eBin modD (eB intOfD (bCons (eBin ixD (eVar 0) (eC (.int 0))) aNil)) (eVar 1))) (sSeq (sPut 0 (eBin fdivD (eBin ixD (eVar 0) (eC (.int 0))) (eVar 1)) (eC (.int 0))) (sRet (eVar 2)))) sNext) (sSeq (sPut 0 (eBin addD (eBin ixD (eVar 0) (eC (.int 2))) (eC (.int 1))) (eC (.int 2))) (sSeq (sSet 3 (eBin modD (eB intOfD (bCons (eBin mulD (eBin addD (eBin ixD (eVar 0) (eC (.int 1))) (eBin mulD (eC (.int 48271)) (eBin ixD (eVar 0) (eC (.int 2))))) (eBin addD (eC (.int 39373)) (eBin ixD (eVar 0) (eC (.int 2))))) aNil)) (eC (.int 2147483647)))) (sSeq (sSet 4 (eBin addD (eBin modD (eB intOfD (bCons (eVar 3) aNil)) (eC (.int 40009))) (eC (.int 7)))) (sSeq (sSet 5 (eBin modD (eB intOfD (bCons (eBin mulD (eBin addD (eBin addD (eVar 3) (eBin ixD (eVar 0) (eC (.int 2)))) (eBin fdivD (eBin ixD (eVar 0) (eC (.int 1))) (eC (.int 1000003)))) (eVar 4)) aNil)) (eC (.int 2147483629)))) (sRet (eBin modD (eB intOfD (bCons (eBin fdivD (eBin modD (eB intOfD (bCons (eBin addD (eBin mulD (eVar 5) (eC (.int 48271))) (eVar 3)) aNil)) (eC (.int 2147483587))) (eC (.int 64))) aNil)) (eVar 1))))))))
def f__law_take : List D → M D := runD 2 6 b__law_take
theorem sc__law_take : FnScope ["tin", "below_so", "drawn_so", "once_so", "wide_so", "twice_so"] ["tin", "below_so"] (defScope (top 49)) := ⟨rfl, rfl, rfl, by decide +kernel, rfl, by decide +kernel, by decide +kernel⟩
theorem ok__law_take {w : World} {K : PySem.W.Frag} {mg : Str → Option Value} {base : Heap} (Z : FX K mg) : OkF pg w K mg base (px K) 3 35 f__law_take := by
  obtain ⟨fd, F⟩ := Z.dd 35 _ _ rfl rfl
  have sc := sc__law_take
  refine okF_mk (K := K) (P := px K) (st := top 49) (k := 2) rfl F sc (F.bindsN (ps := ["tin", "below_so"]) fun _ _ _ _ _ _ us hl => match us, hl with | [_, _], _ => rfl) fun cdv A outer s H E hr => ?_
  exact (sss_cons (ss_if (st_gt (se_ix (se_var 0) se_int) se_int) (sss_cons (ss_set 2 sc.nd (se_mod (se_toInt rfl (Z.fr 5 _ rfl) (sb_cons (se_ix (se_var 0) se_int) sb_nil)) (se_var 1))) (sss_cons (ss_put 0 rfl (se_fdiv (se_ix (se_var 0) se_int) (se_var 1)) se_int) (sss_one (ss_ret (se_var 2))))) sss_nil) (sss_cons (ss_put 0 rfl (se_add (se_ix (se_var 0) se_int) se_int) se_int) (sss_cons (ss_set 3 sc.nd (se_mod (se_toInt rfl (Z.fr 5 _ rfl) (sb_cons (se_mul (se_add (se_ix (se_var 0) se_int) (se_mul se_int (se_ix (se_var 0) se_int))) (se_add se_int (se_ix (se_var 0) se_int))) sb_nil)) se_int)) (sss_cons (ss_set 4 sc.nd (se_add (se_mod (se_toInt rfl (Z.fr 5 _ rfl) (sb_cons (se_var 3) sb_nil)) se_int) se_int)) (sss_cons (ss_set 5 sc.nd (se_mod (se_toInt rfl (Z.fr 5 _ rfl) (sb_cons (se_mul (se_add (se_add (se_var 3) (se_ix (se_var 0) se_int)) (se_fdiv (se_ix (se_var 0) se_int) se_int)) (se_var 4)) sb_nil)) se_int)) (sss_one (ss_ret (se_mod (se_toInt rfl (Z.fr 5 _ rfl) (sb_cons (se_fdiv (se_mod (se_toInt rfl (Z.fr 5 _ rfl) (sb_cons (se_add (se_mul (se_var 5) se_int) (se_var 3)) sb_nil)) se_int) se_int) sb_nil)) (se_var 1)))))))))
def b__law_cells : DEnv → M Out := (sSeq (sOwn 2 (fOr (fLstOf (eSl (eVar 0) oNone (oSome (eVar 1)))) (fLst (aCons (eC (.int 0)) aNil)))) (sSeq (sFor (iEnumD (aCons (eSl (eVar 0) (oSome (eVar 1)) (oSome (eC (.int 63)))) aNil)) (gTupD 2 (gConsD (gVar 3) (gConsD (gVar 4) gNilD))) (sSeq (sSet 5 (eBin modD (eB intOfD (bCons (eVar 3) aNil)) (eVar 1))) (sPut 2 (eBin addD (eBin ixD (eVar 2) (eVar 5)) (eBin mulD (eVar 4) (eBin addD (eVar 3) (eC (.int 2))))) (eVar 5)))) (sFrz 2 (sRet (eVar 2)))))
def f__law_cells : List D → M D := runD 2 6 b__law_cells
theorem sc__law_cells : FnScope ["script", "most_so", "cells_so", "k", "bit_so", "at_so"] ["script", "most_so"] (defScope (top 50)) := ⟨rfl, rfl, rfl, by decide +kernel, rfl, by decide +kernel, by decide +kernel⟩
theorem ok__law_cells {w : World} {K : PySem.W.Frag} {mg : Str → Option Value} {base : Heap} (Z : FX K mg) : OkF pg w K mg base (px K) 3 36 f__law_cells := by
  obtain ⟨fd, F⟩ := Z.dd 36 _ _ rfl rfl
  have sc := sc__law_cells
  refine okF_mk (K := K) (P := px K) (st := top 50) (k := 2) rfl F sc (F.bindsN (ps := ["script", "most_so"]) fun _ _ _ _ _ _ us hl => match us, hl with | [_, _], _ => rfl) fun cdv A outer s H E hr => ?_
  exact (sss_cons (ss_own 2 sc.nd (sf_or (sf_toLst rfl (Z.fr 8 _ rfl) (se_slice (se_var 0) so_none (so_some (se_var 1)))) (sf_lst (sa_cons se_int sa_nil)))) (sss_cons (ss_for (passes_of rfl) rfl (si_enum rfl (Z.fr 4 _ rfl) (sa_cons (se_slice (se_var 0) (so_some (se_var 1)) (so_some se_int)) sa_nil)) (sg_tup rfl (sgs_cons (sg_var 3 sc.nd) (sgs_cons (sg_var 4 sc.nd) sgs_nil))) (sss_cons (ss_set 5 sc.nd (se_mod (se_toInt rfl (Z.fr 5 _ rfl) (sb_cons (se_var 3) sb_nil)) (se_var 1))) (sss_one (ss_put 2 rfl (se_add (se_ix (se_var 2) (se_var 5)) (se_mul (se_var 4) (se_add (se_var 3) se_int))) (se_var 5))))) (ss_frz 2 (sss_one (ss_ret (se_var 2))))))
def b__law_of : DEnv → M Out := (sRet (eBin ixD (eVar 1) (eCall f__law_take (aCons (eVar 0) (aCons (eB lenD (bCons (eVar 1) aNil)) aNil)))))
def f__law_of : List D → M D := runD 2 2 b__law_of
theorem sc__law_of : FnScope ["tin", "goods_so"] ["tin", "goods_so"] (defScope (top 51)) := ⟨rfl, rfl, rfl, by decide +kernel, rfl, by decide +kernel, by decide +kernel⟩
theorem ok__law_of {w : World} {K : PySem.W.Frag} {mg : Str → Option Value} {base : Heap} (Z : FX K mg) : OkF pg w K mg base (px K) 4 37 f__law_of := by
  obtain ⟨fd, F⟩ := Z.dd 37 _ _ rfl rfl
  have o__law_take := ok__law_take (w := w) (base := base) Z
  have sc := sc__law_of
  refine okF_mk (K := K) (P := px K) (st := top 51) (k := 3) rfl F sc (F.bindsN (ps := ["tin", "goods_so"]) fun _ _ _ _ _ _ us hl => match us, hl with | [_, _], _ => rfl) fun cdv A outer s H E hr => ?_
  exact (sss_one (ss_ret (se_ix (se_var 1) (se_callF o__law_take (hr.mono (by decide)) (Z.g 35 _ rfl) rfl (sa_cons (se_var 0) (sa_cons (se_len rfl (Z.fr 7 _ rfl) (sb_cons (se_var 1) sb_nil)) sa_nil))))))
def b__law_mixed (rc : List D → M D) : DEnv → M Out := (sSeq (sIf (tNotD (tTr (eIsi2 "list" "tuple" (eVar 1)))) (sRet (eVar 1)) sNext) (sSeq (sSet 2 (eF (fComp (iSeqD (eVar 1)) [3] (gVar 3) tYesD (eCall rc (aCons (eVar 0) (aCons (eVar 3) aNil)))))) (sRet (eIf (tB (eBin eqD (eCall f__law_take (aCons (eVar 0) (aCons (eC (.int 2)) aNil))) (eC (.int 0)))) (eVar 2) (eB tupD (bCons (eVar 2) aNil))))))
def r__law_mixed : Nat → List D → M D
  | 0 => fun _ => stuck
  | n + 1 => runD 2 4 (b__law_mixed (r__law_mixed n))
def f__law_mixed : List D → M D := r__law_mixed 12
theorem sc__law_mixed : FnScope ["tin", "matter", "row_so", "bit"] ["tin", "matter"] (defScope (top 52)) := ⟨rfl, rfl, rfl, by decide +kernel, rfl, by decide +kernel, by decide +kernel⟩
theorem ok0__law_mixed {w : World} {K : PySem.W.Frag} {mg : Str → Option Value} {base : Heap} (Z : FX K mg) : OkF pg w K mg base (px K) 4 38 (fun _ => stuck) := by
  obtain ⟨fd, F⟩ := Z.dd 38 _ _ rfl rfl
  exact OkF.stk (okF_mk (K := K) (P := px K) (st := top 52) (k := 3) (u := sStk) rfl F sc__law_mixed (F.bindsN (ps := ["tin", "matter"]) fun _ _ _ _ _ _ us hl => match us, hl with | [_, _], _ => rfl) fun cdv A outer s H E hr => sss_stk)
theorem okr__law_mixed {w : World} {K : PySem.W.Frag} {mg : Str → Option Value} {base : Heap} (Z : FX K mg) : ∀ n, OkF pg w K mg base (px K) (n + 4) 38 (r__law_mixed n)
  | 0 => (ok0__law_mixed Z).mono (by omega)
  | n + 1 => by
    have rcOk := okr__law_mixed (w := w) (base := base) Z n
    obtain ⟨fd, F⟩ := Z.dd 38 _ _ rfl rfl
    have o__law_take := ok__law_take (w := w) (base := base) Z
    have sc := sc__law_mixed
    refine okF_mk (K := K) (P := px K) (st := top 52) (k := n + 4) rfl F sc (F.bindsN (ps := ["tin", "matter"]) fun _ _ _ _ _ _ us hl => match us, hl with | [_, _], _ => rfl) fun cdv A outer s H E hr => ?_
    exact (sss_cons (ss_if (st_not (st_tr (se_isi2 rfl (Z.fr 6 _ rfl) (se_var 1) rfl (Z.fr 8 _ rfl) rfl rfl (Z.fr 15 _ rfl) rfl))) (sss_one (ss_ret (se_var 1))) sss_nil) (sss_cons (ss_setC (own := [("bit", 3)]) 2 rfl sc.nd (si_seq (se_var 1)) (blkOk_by (own := [("bit", 3)]) (by kernel_rfl)) (by decide) (fun _ _ _ _ _ => (sg_var 3 sc.nd)) (fun _ _ _ _ _ => sts_nil) (fun _ _ _ _ _ => (se_callF rcOk (hr.mono (by omega)) (Z.g 38 _ rfl) rfl (sa_cons (se_var 0) (sa_cons (se_var 3) sa_nil))))) (sss_one (ss_ret (se_if (st_eq hr (se_callF o__law_take (hr.mono (by omega)) (Z.g 35 _ rfl) rfl (sa_cons (se_var 0) (sa_cons se_int sa_nil))) se_int) (se_var 2) (se_toTup rfl (Z.fr 15 _ rfl) (sb_cons (se_var 2) sb_nil)))))))
theorem ok__law_mixed {w : World} {K : PySem.W.Frag} {mg : Str → Option Value} {base : Heap} (Z : FX K mg) : OkF pg w K mg base (px K) 16 38 f__law_mixed := (okr__law_mixed Z 12).mono (by omega)
def b__law_same (rc : List D → M D) : DEnv → M Out := (sSeq (sIf (tTr (eIsi2 "list" "tuple" (eVar 1))) (sSeq (sIf (tOrD (tB (eBin neD (eIsi "list" (eVar 0)) (eIsi "list" (eVar 1)))) (tB (eBin neD (eIsi "tuple" (eVar 0)) (eIsi "tuple" (eVar 1))))) (sRet (eC (.bl false))) sNext) (sRet (eAnd (eBin eqD (eB lenD (bCons (eVar 0) aNil)) (eB lenD (bCons (eVar 1) aNil))) (eB allD (bCons (eF (fComp (iZipD (aCons (eVar 0) (aCons (eVar 1) aNil))) [2, 3] (gTupD 2 (gConsD (gVar 2) (gConsD (gVar 3) gNilD))) tYesD (eCall rc (aCons (eVar 2) (aCons (eVar 3) aNil))))) aNil))))) sNext) (sSeq (sIf (tB (eUn isNonD (eVar 1))) (sRet (eUn isNonD (eVar 0))) sNext) (sSeq (sIf (tTr (eIsi2 "bool" "str" (eVar 1))) (sRet (eAnd (eBin eqD (eIsi "bool" (eVar 0)) (eIsi "bool" (eVar 1))) (eAnd (eBin eqD (eIsi "str" (eVar 0)) (eIsi "str" (eVar 1))) (eBin eqD (eVar 0) (eVar 1))))) sNext) (sRet (eAnd (eIsi "int" (eVar 0)) (eAnd (eNot (eIsi "bool" (eVar 0))) (eBin eqD (eVar 0) (eVar 1))))))))
def r__law_same : Nat → List D → M D
  | 0 => fun _ => stuck
  | n + 1 => runD 2 4 (b__law_same (r__law_same n))
def f__law_same : List D → M D := r__law_same 12
theorem sc__law_same : FnScope ["got", "due", "mine", "its"] ["got", "due"] (defScope (top 53)) := ⟨rfl, rfl, rfl, by decide +kernel, rfl, by decide +kernel, by decide +kernel⟩
theorem ok0__law_same {w : World} {K : PySem.W.Frag} {mg : Str → Option Value} {base : Heap} (Z : FX K mg) : OkF pg w K mg base (px K) 3 39 (fun _ => stuck) := by
  obtain ⟨fd, F⟩ := Z.dd 39 _ _ rfl rfl
  exact OkF.stk (okF_mk (K := K) (P := px K) (st := top 53) (k := 2) (u := sStk) rfl F sc__law_same (F.bindsN (ps := ["got", "due"]) fun _ _ _ _ _ _ us hl => match us, hl with | [_, _], _ => rfl) fun cdv A outer s H E hr => sss_stk)
theorem okr__law_same {w : World} {K : PySem.W.Frag} {mg : Str → Option Value} {base : Heap} (Z : FX K mg) : ∀ n, OkF pg w K mg base (px K) (n + 3) 39 (r__law_same n)
  | 0 => (ok0__law_same Z).mono (by omega)
  | n + 1 => by
    have rcOk := okr__law_same (w := w) (base := base) Z n
    obtain ⟨fd, F⟩ := Z.dd 39 _ _ rfl rfl
    have sc := sc__law_same
    refine okF_mk (K := K) (P := px K) (st := top 53) (k := n + 3) rfl F sc (F.bindsN (ps := ["got", "due"]) fun _ _ _ _ _ _ us hl => match us, hl with | [_, _], _ => rfl) fun cdv A outer s H E hr => ?_
    exact (sss_cons (ss_if (st_tr (se_isi2 rfl (Z.fr 6 _ rfl) (se_var 1) rfl (Z.fr 8 _ rfl) rfl rfl (Z.fr 15 _ rfl) rfl)) (sss_cons (ss_if (SWt.st (sw_or (st_ne hr (se_isi rfl (Z.fr 6 _ rfl) (se_var 0) rfl (Z.fr 8 _ rfl) rfl) (se_isi rfl (Z.fr 6 _ rfl) (se_var 1) rfl (Z.fr 8 _ rfl) rfl)) (sw_or1 (st_ne hr (se_isi rfl (Z.fr 6 _ rfl) (se_var 0) rfl (Z.fr 15 _ rfl) rfl) (se_isi rfl (Z.fr 6 _ rfl) (se_var 1) rfl (Z.fr 15 _ rfl) rfl))))) (sss_one (ss_ret se_bl)) sss_nil) (sss_one (ss_ret (se_and (se_eq hr (se_len rfl (Z.fr 7 _ rfl) (sb_cons (se_var 0) sb_nil)) (se_len rfl (Z.fr 7 _ rfl) (sb_cons (se_var 1) sb_nil))) (se_one (se_all rfl rfl (Z.fr 2 _ rfl) (sb_cons (se_f (sf_comp (own := [("mine", 2), ("its", 3)]) rfl sc.nd (si_zip rfl (Z.fr 16 _ rfl) (sa_cons (se_var 0) (sa_cons (se_var 1) sa_nil))) (blkOk_by (own := [("mine", 2), ("its", 3)]) (by kernel_rfl)) (by decide) (fun _ _ _ _ _ => (sg_tup rfl (sgs_cons (sg_var 2 sc.nd) (sgs_cons (sg_var 3 sc.nd) sgs_nil)))) (fun _ _ _ _ _ => sts_nil) (fun _ _ _ _ _ => (se_callF rcOk (hr.mono (by omega)) (Z.g 39 _ rfl) rfl (sa_cons (se_var 2) (sa_cons (se_var 3) sa_nil)))))) sb_nil))))))) sss_nil) (sss_cons (ss_if (st_isN (se_var 1)) (sss_one (ss_ret (se_isN (se_var 0)))) sss_nil) (sss_cons (ss_if (st_tr (se_isi2 rfl (Z.fr 6 _ rfl) (se_var 1) rfl (Z.fr 3 _ rfl) rfl rfl (Z.fr 14 _ rfl) rfl)) (sss_one (ss_ret (se_and (se_eq hr (se_isi rfl (Z.fr 6 _ rfl) (se_var 0) rfl (Z.fr 3 _ rfl) rfl) (se_isi rfl (Z.fr 6 _ rfl) (se_var 1) rfl (Z.fr 3 _ rfl) rfl)) (se_and (se_eq hr (se_isi rfl (Z.fr 6 _ rfl) (se_var 0) rfl (Z.fr 14 _ rfl) rfl) (se_isi rfl (Z.fr 6 _ rfl) (se_var 1) rfl (Z.fr 14 _ rfl) rfl)) (se_one (se_eq hr (se_var 0) (se_var 1))))))) sss_nil) (sss_one (ss_ret (se_and (se_isi rfl (Z.fr 6 _ rfl) (se_var 0) rfl (Z.fr 5 _ rfl) rfl) (se_and (se_not (se_isi rfl (Z.fr 6 _ rfl) (se_var 0) rfl (Z.fr 3 _ rfl) rfl)) (se_one (se_eq hr (se_var 0) (se_var 1))))))))))
theorem ok__law_same {w : World} {K : PySem.W.Frag} {mg : Str → Option Value} {base : Heap} (Z : FX K mg) : OkF pg w K mg base (px K) 15 39 f__law_same := (okr__law_same Z 12).mono (by omega)
end Lw

set_option Elab.async false
set_option linter.all false
set_option maxRecDepth 100000
set_option maxHeartbeats 4000000
namespace Lw
open PySem PySem.Spec PyProof.Rows L2 Pu
def b__law_unmarked : DEnv → M Out := (sRet (eIf (tAndD (tTr (eIsi "list" (eVar 0))) (tAndD (tB (eBin gtD (eB lenD (bCons (eVar 0) aNil)) (eC (.int 0)))) (tTr (eIsi "str" (eBin ixD (eVar 0) (eC (.int 0))))))) (eF (fLst (aCons (eC (.str "told")) (aCons (eC (.str "a mark")) aNil)))) (eVar 0)))
def f__law_unmarked : List D → M D := runD 1 1 b__law_unmarked
theorem sc__law_unmarked : FnScope ["told_so"] ["told_so"] (defScope (top 54)) := ⟨rfl, rfl, rfl, by decide +kernel, rfl, by decide +kernel, by decide +kernel⟩
theorem ok__law_unmarked {w : World} {K : PySem.W.Frag} {mg : Str → Option Value} {base : Heap} (Z : FX K mg) : OkF pg w K mg base (px K) 3 40 f__law_unmarked := by
  obtain ⟨fd, F⟩ := Z.dd 40 _ _ rfl rfl
  have sc := sc__law_unmarked
  refine okF_mk (K := K) (P := px K) (st := top 54) (k := 2) rfl F sc (F.bindsN (ps := ["told_so"]) fun _ _ _ _ _ _ us hl => match us, hl with | [_], _ => rfl) fun cdv A outer s H E hr => ?_
  exact (sss_one (ss_ret (se_if (SWt.st (sw_and (st_tr (se_isi rfl (Z.fr 6 _ rfl) (se_var 0) rfl (Z.fr 8 _ rfl) rfl)) (sw_and (st_gt (se_len rfl (Z.fr 7 _ rfl) (sb_cons (se_var 0) sb_nil)) se_int) (sw_and1 (st_tr (se_isi rfl (Z.fr 6 _ rfl) (se_ix (se_var 0) se_int) rfl (Z.fr 14 _ rfl) rfl)))))) (se_f (sf_lst (sa_cons se_str (sa_cons se_str sa_nil)))) (se_var 0))))
def tblL : List (Nat × (List D → M D)) := ([(30, f_first_one_colour)] : List (Nat × (List D → M D)))
theorem ok_tbl {w : World} {K : PySem.W.Frag} {mg : Str → Option Value} {base : Heap} (Z : FX K mg) : ∀ n Fn, lookF n tblL = some Fn → OkF pg w K mg base (px K) 18 n Fn :=
  lookF_ok (Q := fun n F => OkF pg w K mg base (px K) 18 n F) (l := tblL) (⟨(ok_first_one_colour Z).mono (by decide), trivial⟩)
def b__law_call : DEnv → M Out := (sSeq (sIf (tB (eBin eqD (eB lenD (bCons (eVar 1) aNil)) (eC (.int 1)))) (sRet (eCallL 0 (fun n => lookF n tblL) (aCons (eBin ixD (eVar 1) (eC (.int 0))) aNil))) sNext) (sSeq (sIf (tB (eBin eqD (eB lenD (bCons (eVar 1) aNil)) (eC (.int 2)))) (sRet (eCallL 0 (fun n => lookF n tblL) (aCons (eBin ixD (eVar 1) (eC (.int 0))) (aCons (eBin ixD (eVar 1) (eC (.int 1))) aNil)))) sNext) (sSeq (sIf (tB (eBin eqD (eB lenD (bCons (eVar 1) aNil)) (eC (.int 3)))) (sRet (eCallL 0 (fun n => lookF n tblL) (aCons (eBin ixD (eVar 1) (eC (.int 0))) (aCons (eBin ixD (eVar 1) (eC (.int 1))) (aCons (eBin ixD (eVar 1) (eC (.int 2))) aNil))))) sNext) (sSeq (sIf (tB (eBin eqD (eB lenD (bCons (eVar 1) aNil)) (eC (.int 4)))) (sRet (eCallL 0 (fun n => lookF n tblL) (aCons (eBin ixD (eVar 1) (eC (.int 0))) (aCons (eBin ixD (eVar 1) (eC (.int 1))) (aCons (eBin ixD (eVar 1) (eC (.int 2))) (aCons (eBin ixD (eVar 1) (eC (.int 3))) aNil)))))) sNext) (sRet (eCallL 0 (fun n => lookF n tblL) (aCons (eBin ixD (eVar 1) (eC (.int 0))) (aCons (eBin ixD (eVar 1) (eC (.int 1))) (aCons (eBin ixD (eVar 1) (eC (.int 2))) (aCons (eBin ixD (eVar 1) (eC (.int 3))) (aCons (eBin ixD (eVar 1) (eC (.int 4))) aNil)))))))))))
def f__law_call : List D → M D := runD 2 2 b__law_call
theorem sc__law_call : FnScope ["door_so", "goods_so"] ["door_so", "goods_so"] (defScope (top 55)) := ⟨rfl, rfl, rfl, by decide +kernel, rfl, by decide +kernel, by decide +kernel⟩
theorem ok__law_call {w : World} {K : PySem.W.Frag} {mg : Str → Option Value} {base : Heap} (Z : FX K mg) : OkF pg w K mg base (px K) 19 41 f__law_call := by
  obtain ⟨fd, F⟩ := Z.dd 41 _ _ rfl rfl
  have o_tbl := ok_tbl (w := w) (base := base) Z
  have sc := sc__law_call
  refine okF_mk (K := K) (P := px K) (st := top 55) (k := 18) rfl F sc (F.bindsN (ps := ["door_so", "goods_so"]) fun _ _ _ _ _ _ us hl => match us, hl with | [_, _], _ => rfl) fun cdv A outer s H E hr => ?_
  exact (sss_cons (ss_if (st_eq hr (se_len rfl (Z.fr 7 _ rfl) (sb_cons (se_var 1) sb_nil)) se_int) (sss_one (ss_ret (se_callL 0 o_tbl (hr.mono (by decide)) (sa_cons (se_ix (se_var 1) se_int) sa_nil)))) sss_nil) (sss_cons (ss_if (st_eq hr (se_len rfl (Z.fr 7 _ rfl) (sb_cons (se_var 1) sb_nil)) se_int) (sss_one (ss_ret (se_callL 0 o_tbl (hr.mono (by decide)) (sa_cons (se_ix (se_var 1) se_int) (sa_cons (se_ix (se_var 1) se_int) sa_nil))))) sss_nil) (sss_cons (ss_if (st_eq hr (se_len rfl (Z.fr 7 _ rfl) (sb_cons (se_var 1) sb_nil)) se_int) (sss_one (ss_ret (se_callL 0 o_tbl (hr.mono (by decide)) (sa_cons (se_ix (se_var 1) se_int) (sa_cons (se_ix (se_var 1) se_int) (sa_cons (se_ix (se_var 1) se_int) sa_nil)))))) sss_nil) (sss_cons (ss_if (st_eq hr (se_len rfl (Z.fr 7 _ rfl) (sb_cons (se_var 1) sb_nil)) se_int) (sss_one (ss_ret (se_callL 0 o_tbl (hr.mono (by decide)) (sa_cons (se_ix (se_var 1) se_int) (sa_cons (se_ix (se_var 1) se_int) (sa_cons (se_ix (se_var 1) se_int) (sa_cons (se_ix (se_var 1) se_int) sa_nil))))))) sss_nil) (sss_one (ss_ret (se_callL 0 o_tbl (hr.mono (by decide)) (sa_cons (se_ix (se_var 1) se_int) (sa_cons (se_ix (se_var 1) se_int) (sa_cons (se_ix (se_var 1) se_int) (sa_cons (se_ix (se_var 1) se_int) (sa_cons (se_ix (se_var 1) se_int) sa_nil))))))))))))
def b__law_slip : DEnv → M Out := (sSeq (sSlip [(2, 2, "unfit"), (0, 3, "can not"), (1, 4, "many")] (sDrop (eCall f__law_call (aCons (eVar 0) (aCons (eVar 1) aNil))))) (sRet (eC (.str "told"))))
def f__law_slip : List D → M D := runD 2 5 b__law_slip
theorem sc__law_slip : FnScope ["door_so", "goods_so", "slip_so", "slip_c", "slip_m"] ["door_so", "goods_so"] (defScope (top 56)) := ⟨rfl, rfl, rfl, by decide +kernel, rfl, by decide +kernel, by decide +kernel⟩
theorem ok__law_slip {w : World} {K : PySem.W.Frag} {mg : Str → Option Value} {base : Heap} (Z : FX K mg) : OkF pg w K mg base (px K) 20 42 f__law_slip := by
  obtain ⟨fd, F⟩ := Z.dd 42 _ _ rfl rfl
  have o__law_call := ok__law_call (w := w) (base := base) Z
  have sc := sc__law_slip
  refine okF_mk (K := K) (P := px K) (st := top 56) (k := 19) rfl F sc (F.bindsN (ps := ["door_so", "goods_so"]) fun _ _ _ _ _ _ us hl => match us, hl with | [_, _], _ => rfl) fun cdv A outer s H E hr => ?_
  exact (sss_cons (ss_slip (ls := [(2, 2, "unfit"), (0, 3, "can not"), (1, 4, "many")]) rfl sc.nd rfl (Z.fr 6 _ rfl) rfl (Z.fr 0 _ rfl) (fun c hc => Z.slE c (((by decide : ∀ c ∈ ([2, 0, 1] : List Nat), c < nmC.length)) c hc)) (fun c hc l hl => Z.slM c l.1 (((by decide : ∀ c ∈ ([2, 0, 1] : List Nat), c < nmC.length)) c hc) (((by decide : ∀ c ∈ ([2, 0, 1] : List Nat), c < nmC.length)) l.1 (List.mem_map_of_mem hl))) (fun _ _ _ => (sss_one (ss_drop (se_callF o__law_call (hr.mono (by decide)) (Z.g 41 _ rfl) rfl (sa_cons (se_var 0) (sa_cons (se_var 1) sa_nil)))))) (.cons rfl (by decide) (Z.ex 2 _ rfl).1 rfl (by decide) (by decide) rfl (.cons rfl (by decide) (Z.ex 0 _ rfl).1 rfl (by decide) (by decide) rfl (.cons rfl (by decide) (Z.ex 1 _ rfl).1 rfl (by decide) (by decide) rfl .nil)))) (sss_one (ss_ret se_str)))
def b__law_gcd : DEnv → M Out := (sSeq (sPar 0 1 (aCons (eB absD (bCons (eVar 0) aNil)) (aCons (eB absD (bCons (eVar 1) aNil)) aNil))) (sSeq (sFor (iRng1D (aCons (eC (.int 9000)) aNil)) (gVar 2) (sSeq (sIf (tB (eBin eqD (eVar 1) (eC (.int 0)))) sBreak sNext) (sPar 0 1 (aCons (eVar 1) (aCons (eBin modD (eVar 0) (eVar 1)) aNil))))) (sRet (eVar 0))))
def f__law_gcd : List D → M D := runD 2 3 b__law_gcd
theorem sc__law_gcd : FnScope ["one", "two", "lap"] ["one", "two"] (defScope (top 57)) := ⟨rfl, rfl, rfl, by decide +kernel, rfl, by decide +kernel, by decide +kernel⟩
theorem ok__law_gcd {w : World} {K : PySem.W.Frag} {mg : Str → Option Value} {base : Heap} (Z : FX K mg) : OkF pg w K mg base (px K) 3 43 f__law_gcd := by
  obtain ⟨fd, F⟩ := Z.dd 43 _ _ rfl rfl
  have sc := sc__law_gcd
  refine okF_mk (K := K) (P := px K) (st := top 57) (k := 2) rfl F sc (F.bindsN (ps := ["one", "two"]) fun _ _ _ _ _ _ us hl => match us, hl with | [_, _], _ => rfl) fun cdv A outer s H E hr => ?_
  exact (sss_cons (ss_par 0 1 rfl sc.nd (sa_cons (se_abs rfl (Z.fr 1 _ rfl) (sb_cons (se_var 0) sb_nil)) (sa_cons (se_abs rfl (Z.fr 1 _ rfl) (sb_cons (se_var 1) sb_nil)) sa_nil))) (sss_cons (ss_for (passes_of rfl) rfl (si_range1 rfl (Z.fr 11 _ rfl) (sa_cons se_int sa_nil)) (sg_var 2 sc.nd) (sss_cons (ss_if (st_eq hr (se_var 1) se_int) (sss_one ss_break) sss_nil) (sss_one (ss_par 0 1 rfl sc.nd (sa_cons (se_var 1) (sa_cons (se_mod (se_var 0) (se_var 1)) sa_nil)))))) (sss_one (ss_ret (se_var 0)))))
def b__law_heard : DEnv → M Out := (sSeq (sSet 2 (eCall f__law_slip (aCons (eVar 0) (aCons (eVar 1) aNil)))) (sRet (eIf (tB (eBin inD (eVar 2) (eTup (aCons (eC (.str "unfit")) (aCons (eC (.str "can not")) (aCons (eC (.str "many")) (aCons (eC (.str "odd")) aNil))))))) (eF (fLst (aCons (eVar 2) (aCons (eC (.bl true)) aNil)))) (eCall f__law_unmarked (aCons (eCall f__law_call (aCons (eVar 0) (aCons (eVar 1) aNil))) aNil)))))
def f__law_heard : List D → M D := runD 2 3 b__law_heard
theorem sc__law_heard : FnScope ["door_so", "goods_so", "slip_so"] ["door_so", "goods_so"] (defScope (top 58)) := ⟨rfl, rfl, rfl, by decide +kernel, rfl, by decide +kernel, by decide +kernel⟩
theorem ok__law_heard {w : World} {K : PySem.W.Frag} {mg : Str → Option Value} {base : Heap} (Z : FX K mg) : OkF pg w K mg base (px K) 21 44 f__law_heard := by
  obtain ⟨fd, F⟩ := Z.dd 44 _ _ rfl rfl
  have o__law_slip := ok__law_slip (w := w) (base := base) Z
  have o__law_call := ok__law_call (w := w) (base := base) Z
  have o__law_unmarked := ok__law_unmarked (w := w) (base := base) Z
  have sc := sc__law_heard
  refine okF_mk (K := K) (P := px K) (st := top 58) (k := 20) rfl F sc (F.bindsN (ps := ["door_so", "goods_so"]) fun _ _ _ _ _ _ us hl => match us, hl with | [_, _], _ => rfl) fun cdv A outer s H E hr => ?_
  exact (sss_cons (ss_set 2 sc.nd (se_callF o__law_slip (hr.mono (by decide)) (Z.g 42 _ rfl) rfl (sa_cons (se_var 0) (sa_cons (se_var 1) sa_nil)))) (sss_one (ss_ret (se_if (st_in hr (se_var 2) (se_tup (sa_cons se_str (sa_cons se_str (sa_cons se_str (sa_cons se_str sa_nil)))))) (se_f (sf_lst (sa_cons (se_var 2) (sa_cons se_bl sa_nil)))) (se_callF o__law_unmarked (hr.mono (by decide)) (Z.g 40 _ rfl) rfl (sa_cons (se_callF o__law_call (hr.mono (by decide)) (Z.g 41 _ rfl) rfl (sa_cons (se_var 0) (sa_cons (se_var 1) sa_nil))) sa_nil))))))
def b__law_cut : DEnv → M Out := (sSeq (sSet 2 (eCall f__law_gcd (aCons (eVar 0) (aCons (eVar 1) aNil)))) (sSeq (sSet 2 (eIf (tB (eBin gtD (eVar 1) (eC (.int 0)))) (eVar 2) (eBin subD (eC (.int 0)) (eVar 2)))) (sRet (eTup (aCons (eBin fdivD (eVar 0) (eVar 2)) (aCons (eBin fdivD (eVar 1) (eVar 2)) aNil))))))
def f__law_cut : List D → M D := runD 2 3 b__law_cut
theorem sc__law_cut : FnScope ["over_so", "under_so", "both_so"] ["over_so", "under_so"] (defScope (top 59)) := ⟨rfl, rfl, rfl, by decide +kernel, rfl, by decide +kernel, by decide +kernel⟩
theorem ok__law_cut {w : World} {K : PySem.W.Frag} {mg : Str → Option Value} {base : Heap} (Z : FX K mg) : OkF pg w K mg base (px K) 4 45 f__law_cut := by
  obtain ⟨fd, F⟩ := Z.dd 45 _ _ rfl rfl
  have o__law_gcd := ok__law_gcd (w := w) (base := base) Z
  have sc := sc__law_cut
  refine okF_mk (K := K) (P := px K) (st := top 59) (k := 3) rfl F sc (F.bindsN (ps := ["over_so", "under_so"]) fun _ _ _ _ _ _ us hl => match us, hl with | [_, _], _ => rfl) fun cdv A outer s H E hr => ?_
  exact (sss_cons (ss_set 2 sc.nd (se_callF o__law_gcd (hr.mono (by decide)) (Z.g 43 _ rfl) rfl (sa_cons (se_var 0) (sa_cons (se_var 1) sa_nil)))) (sss_cons (ss_set 2 sc.nd (se_if (st_gt (se_var 1) se_int) (se_var 2) (se_sub se_int (se_var 2)))) (sss_one (ss_ret (se_tup (sa_cons (se_fdiv (se_var 0) (se_var 2)) (sa_cons (se_fdiv (se_var 1) (se_var 2)) sa_nil)))))))
def b__law_under : DEnv → M Out := (sRet (eBin ltD (eBin mulD (eBin ixD (eVar 0) (eC (.int 0))) (eBin ixD (eVar 1) (eC (.int 1)))) (eBin mulD (eBin ixD (eVar 1) (eC (.int 0))) (eBin ixD (eVar 0) (eC (.int 1))))))
def f__law_under : List D → M D := runD 2 2 b__law_under
theorem sc__law_under : FnScope ["one", "two"] ["one", "two"] (defScope (top 60)) := ⟨rfl, rfl, rfl, by decide +kernel, rfl, by decide +kernel, by decide +kernel⟩
theorem ok__law_under {w : World} {K : PySem.W.Frag} {mg : Str → Option Value} {base : Heap} (Z : FX K mg) : OkF pg w K mg base (px K) 3 46 f__law_under := by
  obtain ⟨fd, F⟩ := Z.dd 46 _ _ rfl rfl
  have sc := sc__law_under
  refine okF_mk (K := K) (P := px K) (st := top 60) (k := 2) rfl F sc (F.bindsN (ps := ["one", "two"]) fun _ _ _ _ _ _ us hl => match us, hl with | [_, _], _ => rfl) fun cdv A outer s H E hr => ?_
  exact (sss_one (ss_ret (se_lt (se_mul (se_ix (se_var 0) se_int) (se_ix (se_var 1) se_int)) (se_mul (se_ix (se_var 1) se_int) (se_ix (se_var 0) se_int)))))
def b__law_in_order : DEnv → M Out := (sSeq (sSet 1 (eF (fLst aNil))) (sSeq (sFor (iSeqD (eVar 0)) (gVar 2) (sIf (tB (eBin notInD (eVar 2) (eVar 1))) (sSeq (sSet 3 (eB lenD (bCons (eF (fComp (iSeqD (eVar 1)) [4] (gVar 4) (tOrD (tTr (eCall f__law_under (aCons (eBin ixD (eVar 4) (eC (.int 0))) (aCons (eBin ixD (eVar 2) (eC (.int 0))) aNil)))) (tAndD (tB (eBin eqD (eBin ixD (eVar 4) (eC (.int 0))) (eBin ixD (eVar 2) (eC (.int 0))))) (tTr (eCall f__law_under (aCons (eBin ixD (eVar 4) (eC (.int 1))) (aCons (eBin ixD (eVar 2) (eC (.int 1))) aNil)))))) (eVar 4))) aNil))) (sSet 1 (eBin addD (eBin addD (eSl (eVar 1) oNone (oSome (eVar 3))) (eF (fLst (aCons (eVar 2) aNil)))) (eSl (eVar 1) (oSome (eVar 3)) oNone)))) sNext)) (sRet (eB tupD (bCons (eVar 1) aNil)))))
def f__law_in_order : List D → M D := runD 1 5 b__law_in_order
theorem sc__law_in_order : FnScope ["points_so", "found", "own", "k", "its"] ["points_so"] (defScope (top 61)) := ⟨rfl, rfl, rfl, by decide +kernel, rfl, by decide +kernel, by decide +kernel⟩
theorem ok__law_in_order {w : World} {K : PySem.W.Frag} {mg : Str → Option Value} {base : Heap} (Z : FX K mg) : OkF pg w K mg base (px K) 4 47 f__law_in_order := by
  obtain ⟨fd, F⟩ := Z.dd 47 _ _ rfl rfl
  have o__law_under := ok__law_under (w := w) (base := base) Z
  have sc := sc__law_in_order
  refine okF_mk (K := K) (P := px K) (st := top 61) (k := 3) rfl F sc (F.bindsN (ps := ["points_so"]) fun _ _ _ _ _ _ us hl => match us, hl with | [_], _ => rfl) fun cdv A outer s H E hr => ?_
  exact (sss_cons (ss_set 1 sc.nd (se_f (sf_lst sa_nil))) (sss_cons (ss_for (passes_of rfl) rfl (si_seq (se_var 0)) (sg_var 2 sc.nd) (sss_one (ss_if (st_notIn hr (se_var 2) (se_var 1)) (sss_cons (ss_set 3 sc.nd (se_len rfl (Z.fr 7 _ rfl) (sb_cons (se_f (sf_comp (own := [("its", 4)]) rfl sc.nd (si_seq (se_var 1)) (blkOk_by (own := [("its", 4)]) (by kernel_rfl)) (by decide) (fun _ _ _ _ _ => (sg_var 4 sc.nd)) (fun _ _ _ _ _ => (sts_one (SWt.st (sw_or (st_tr (se_callF o__law_under (hr.mono (by decide)) (Z.g 46 _ rfl) rfl (sa_cons (se_ix (se_var 4) se_int) (sa_cons (se_ix (se_var 2) se_int) sa_nil)))) (sw_or1 (SWt.st (sw_and (st_eq hr (se_ix (se_var 4) se_int) (se_ix (se_var 2) se_int)) (sw_and1 (st_tr (se_callF o__law_under (hr.mono (by decide)) (Z.g 46 _ rfl) rfl (sa_cons (se_ix (se_var 4) se_int) (sa_cons (se_ix (se_var 2) se_int) sa_nil)))))))))))) (fun _ _ _ _ _ => (se_var 4)))) sb_nil))) (sss_one (ss_set 1 sc.nd (se_add (se_add (se_slice (se_var 1) so_none (so_some (se_var 3))) (se_f (sf_lst (sa_cons (se_var 2) sa_nil)))) (se_slice (se_var 1) (so_some (se_var 3)) so_none))))) sss_nil))) (sss_one (ss_ret (se_toTup rfl (Z.fr 15 _ rfl) (sb_cons (se_var 1) sb_nil))))))
end Lw

set_option Elab.async false
set_option linter.all false
set_option maxRecDepth 100000
set_option maxHeartbeats 4000000
namespace Lw
open PySem PySem.Spec PyProof.Rows L2 Pu
def b__law_spread_out : DEnv → M Out := (sSeq (sSet 1 (eC (.int 1))) (sSeq (sFor (iSeqD (eVar 0)) (gTupD 2 (gConsD (gVar 2) (gConsD (gVar 3) gNilD))) (sSeq (sSet 1 (eBin fdivD (eBin mulD (eVar 1) (eBin ixD (eVar 2) (eC (.int 1)))) (eCall f__law_gcd (aCons (eVar 1) (aCons (eBin ixD (eVar 2) (eC (.int 1))) aNil))))) (sSet 1 (eBin fdivD (eBin mulD (eVar 1) (eBin ixD (eVar 3) (eC (.int 1)))) (eCall f__law_gcd (aCons (eVar 1) (aCons (eBin ixD (eVar 3) (eC (.int 1))) aNil))))))) (sRet (eF (fComp (iSeqD (eVar 0)) [2, 3] (gTupD 2 (gConsD (gVar 2) (gConsD (gVar 3) gNilD))) tYesD (eTup (aCons (eBin mulD (eBin ixD (eVar 2) (eC (.int 0))) (eBin fdivD (eVar 1) (eBin ixD (eVar 2) (eC (.int 1))))) (aCons (eBin mulD (eBin ixD (eVar 3) (eC (.int 0))) (eBin fdivD (eVar 1) (eBin ixD (eVar 3) (eC (.int 1))))) aNil))))))))
def f__law_spread_out : List D → M D := runD 1 4 b__law_spread_out
theorem sc__law_spread_out : FnScope ["points_so", "by_so", "x", "y"] ["points_so"] (defScope (top 62)) := ⟨rfl, rfl, rfl, by decide +kernel, rfl, by decide +kernel, by decide +kernel⟩
theorem ok__law_spread_out {w : World} {K : PySem.W.Frag} {mg : Str → Option Value} {base : Heap} (Z : FX K mg) : OkF pg w K mg base (px K) 4 48 f__law_spread_out := by
  obtain ⟨fd, F⟩ := Z.dd 48 _ _ rfl rfl
  have o__law_gcd := ok__law_gcd (w := w) (base := base) Z
  have sc := sc__law_spread_out
  refine okF_mk (K := K) (P := px K) (st := top 62) (k := 3) rfl F sc (F.bindsN (ps := ["points_so"]) fun _ _ _ _ _ _ us hl => match us, hl with | [_], _ => rfl) fun cdv A outer s H E hr => ?_
  exact (sss_cons (ss_set 1 sc.nd se_int) (sss_cons (ss_for (passes_of rfl) rfl (si_seq (se_var 0)) (sg_tup rfl (sgs_cons (sg_var 2 sc.nd) (sgs_cons (sg_var 3 sc.nd) sgs_nil))) (sss_cons (ss_set 1 sc.nd (se_fdiv (se_mul (se_var 1) (se_ix (se_var 2) se_int)) (se_callF o__law_gcd (hr.mono (by decide)) (Z.g 43 _ rfl) rfl (sa_cons (se_var 1) (sa_cons (se_ix (se_var 2) se_int) sa_nil))))) (sss_one (ss_set 1 sc.nd (se_fdiv (se_mul (se_var 1) (se_ix (se_var 3) se_int)) (se_callF o__law_gcd (hr.mono (by decide)) (Z.g 43 _ rfl) rfl (sa_cons (se_var 1) (sa_cons (se_ix (se_var 3) se_int) sa_nil)))))))) (sss_one (ss_ret (se_f (sf_comp (own := [("x", 2), ("y", 3)]) rfl sc.nd (si_seq (se_var 0)) (blkOk_by (own := [("x", 2), ("y", 3)]) (by kernel_rfl)) (by decide) (fun _ _ _ _ _ => (sg_tup rfl (sgs_cons (sg_var 2 sc.nd) (sgs_cons (sg_var 3 sc.nd) sgs_nil)))) (fun _ _ _ _ _ => sts_nil) (fun _ _ _ _ _ => (se_tup (sa_cons (se_mul (se_ix (se_var 2) se_int) (se_fdiv (se_var 1) (se_ix (se_var 2) se_int))) (sa_cons (se_mul (se_ix (se_var 3) se_int) (se_fdiv (se_var 1) (se_ix (se_var 3) se_int))) sa_nil))))))))))
def b__law_lines : DEnv → M Out := (sSeq (sParFE 1 2 (fLst aNil) (eCall f__law_spread_out (aCons (eVar 0) aNil))) (sSeq (sFor (iEnumD (aCons (eVar 2) aNil)) (gTupD 2 (gConsD (gVar 3) (gConsD (gTupD 2 (gConsD (gVar 4) (gConsD (gVar 5) gNilD))) gNilD))) (sFor (iRng2D (aCons (eBin addD (eVar 3) (eC (.int 1))) (aCons (eB lenD (bCons (eVar 2) aNil)) aNil))) (gVar 6) (sSeq (sAsg (gTupD 2 (gConsD (gVar 7) (gConsD (gVar 8) gNilD))) (eTup (aCons (eBin subD (eBin ixD (eBin ixD (eVar 2) (eVar 6)) (eC (.int 0))) (eVar 4)) (aCons (eBin subD (eBin ixD (eBin ixD (eVar 2) (eVar 6)) (eC (.int 1))) (eVar 5)) aNil)))) (sSeq (sSet 9 (eB tupD (bCons (eF (fComp (iEnumD (aCons (eVar 2) aNil)) [10, 11, 12] (gTupD 2 (gConsD (gVar 10) (gConsD (gTupD 2 (gConsD (gVar 11) (gConsD (gVar 12) gNilD))) gNilD))) (tB (eBin eqD (eBin mulD (eVar 7) (eBin subD (eVar 12) (eVar 5))) (eBin mulD (eVar 8) (eBin subD (eVar 11) (eVar 4))))) (eVar 10))) aNil))) (sIf (tB (eBin eqD (eSl (eVar 9) oNone (oSome (eC (.int 2)))) (eTup (aCons (eVar 3) (aCons (eVar 6) aNil))))) (sApp 1 (eVar 9)) sNext))))) (sFrz 1 (sRet (eF (fSort (eVar 1)))))))
def f__law_lines : List D → M D := runD 1 13 b__law_lines
theorem sc__law_lines : FnScope ["points_so", "found", "spots_so", "j", "a", "b", "k", "c", "d", "row_so", "m", "x", "y"] ["points_so"] (defScope (top 63)) := ⟨rfl, rfl, rfl, by decide +kernel, rfl, by decide +kernel, by decide +kernel⟩
theorem ok__law_lines {w : World} {K : PySem.W.Frag} {mg : Str → Option Value} {base : Heap} (Z : FX K mg) : OkF pg w K mg base (px K) 5 49 f__law_lines := by
  obtain ⟨fd, F⟩ := Z.dd 49 _ _ rfl rfl
  have o__law_spread_out := ok__law_spread_out (w := w) (base := base) Z
  have sc := sc__law_lines
  refine okF_mk (K := K) (P := px K) (st := top 63) (k := 4) rfl F sc (F.bindsN (ps := ["points_so"]) fun _ _ _ _ _ _ us hl => match us, hl with | [_], _ => rfl) fun cdv A outer s H E hr => ?_
  exact (sss_cons (ss_parFE 1 2 rfl sc.nd (sf_lst sa_nil) (se_callF o__law_spread_out (hr.mono (by decide)) (Z.g 48 _ rfl) rfl (sa_cons (se_var 0) sa_nil))) (sss_cons (ss_for (passes_of rfl) rfl (si_enum rfl (Z.fr 4 _ rfl) (sa_cons (se_var 2) sa_nil)) (sg_tup rfl (sgs_cons (sg_var 3 sc.nd) (sgs_cons (sg_tup rfl (sgs_cons (sg_var 4 sc.nd) (sgs_cons (sg_var 5 sc.nd) sgs_nil))) sgs_nil))) (sss_one (ss_for (passes_of rfl) rfl (si_range2 rfl (Z.fr 11 _ rfl) (sa_cons (se_add (se_var 3) se_int) (sa_cons (se_len rfl (Z.fr 7 _ rfl) (sb_cons (se_var 2) sb_nil)) sa_nil))) (sg_var 6 sc.nd) (sss_cons (ss_asg (se_tup (sa_cons (se_sub (se_ix (se_ix (se_var 2) (se_var 6)) se_int) (se_var 4)) (sa_cons (se_sub (se_ix (se_ix (se_var 2) (se_var 6)) se_int) (se_var 5)) sa_nil))) (sg_tup rfl (sgs_cons (sg_var 7 sc.nd) (sgs_cons (sg_var 8 sc.nd) sgs_nil)))) (sss_cons (ss_set 9 sc.nd (se_toTup rfl (Z.fr 15 _ rfl) (sb_cons (se_f (sf_comp (own := [("m", 10), ("x", 11), ("y", 12)]) rfl sc.nd (si_enum rfl (Z.fr 4 _ rfl) (sa_cons (se_var 2) sa_nil)) (blkOk_by (own := [("m", 10), ("x", 11), ("y", 12)]) (by kernel_rfl)) (by decide) (fun _ _ _ _ _ => (sg_tup rfl (sgs_cons (sg_var 10 sc.nd) (sgs_cons (sg_tup rfl (sgs_cons (sg_var 11 sc.nd) (sgs_cons (sg_var 12 sc.nd) sgs_nil))) sgs_nil)))) (fun _ _ _ _ _ => (sts_one (st_eq hr (se_mul (se_var 7) (se_sub (se_var 12) (se_var 5))) (se_mul (se_var 8) (se_sub (se_var 11) (se_var 4)))))) (fun _ _ _ _ _ => (se_var 10)))) sb_nil))) (sss_one (ss_if (st_eq hr (se_slice (se_var 9) so_none (so_some se_int)) (se_tup (sa_cons (se_var 3) (sa_cons (se_var 6) sa_nil)))) (sss_one (ss_app 1 rfl (se_var 9))) sss_nil))))))) (ss_frz 1 (sss_one (ss_ret (se_f (sf_sorted hr rfl (Z.fr 13 _ rfl) (se_var 1))))))))
def b__law_points : DEnv → M Out := (sSeq (sSet 3 (eCall f__law_of (aCons (eVar 0) (aCons (eF (fLst (aCons (eC (.int 1)) (aCons (eC (.int 1)) (aCons (eC (.int 1)) (aCons (eC (.int 2)) (aCons (eC (.int 3)) aNil))))))) aNil)))) (sSeq (sOwn 4 (fLst aNil)) (sSeq (sFor (iRng1D (aCons (eC (.int 400)) aNil)) (gVar 5) (sSeq (sIf (tB (eBin eqD (eB lenD (bCons (eVar 4) aNil)) (eVar 1))) sBreak sNext) (sSeq (sSet 6 (eTup (aCons (eCall f__law_cut (aCons (eCall f__law_take (aCons (eVar 0) (aCons (eVar 2) aNil))) (aCons (eVar 3) aNil))) (aCons (eCall f__law_cut (aCons (eCall f__law_take (aCons (eVar 0) (aCons (eVar 2) aNil))) (aCons (eC (.int 1)) aNil))) aNil)))) (sIf (tB (eBin notInD (eVar 6) (eVar 4))) (sApp 4 (eVar 6)) sNext)))) (sFrz 4 (sRet (eCall f__law_in_order (aCons (eVar 4) aNil)))))))
def f__law_points : List D → M D := runD 3 7 b__law_points
theorem sc__law_points : FnScope ["tin", "many_so", "wide_so", "b", "found", "lap", "own"] ["tin", "many_so", "wide_so"] (defScope (top 64)) := ⟨rfl, rfl, rfl, by decide +kernel, rfl, by decide +kernel, by decide +kernel⟩
theorem ok__law_points {w : World} {K : PySem.W.Frag} {mg : Str → Option Value} {base : Heap} (Z : FX K mg) : OkF pg w K mg base (px K) 5 50 f__law_points := by
  obtain ⟨fd, F⟩ := Z.dd 50 _ _ rfl rfl
  have o__law_of := ok__law_of (w := w) (base := base) Z
  have o__law_take := ok__law_take (w := w) (base := base) Z
  have o__law_cut := ok__law_cut (w := w) (base := base) Z
  have o__law_in_order := ok__law_in_order (w := w) (base := base) Z
  have sc := sc__law_points
  refine okF_mk (K := K) (P := px K) (st := top 64) (k := 4) rfl F sc (F.bindsN (ps := ["tin", "many_so", "wide_so"]) fun _ _ _ _ _ _ us hl => match us, hl with | [_, _, _], _ => rfl) fun cdv A outer s H E hr => ?_
  exact (sss_cons (ss_set 3 sc.nd (se_callF o__law_of (hr.mono (by decide)) (Z.g 37 _ rfl) rfl (sa_cons (se_var 0) (sa_cons (se_f (sf_lst (sa_cons se_int (sa_cons se_int (sa_cons se_int (sa_cons se_int (sa_cons se_int sa_nil))))))) sa_nil)))) (sss_cons (ss_own 4 sc.nd (sf_lst sa_nil)) (sss_cons (ss_for (passes_of rfl) rfl (si_range1 rfl (Z.fr 11 _ rfl) (sa_cons se_int sa_nil)) (sg_var 5 sc.nd) (sss_cons (ss_if (st_eq hr (se_len rfl (Z.fr 7 _ rfl) (sb_cons (se_var 4) sb_nil)) (se_var 1)) (sss_one ss_break) sss_nil) (sss_cons (ss_set 6 sc.nd (se_tup (sa_cons (se_callF o__law_cut (hr.mono (by decide)) (Z.g 45 _ rfl) rfl (sa_cons (se_callF o__law_take (hr.mono (by decide)) (Z.g 35 _ rfl) rfl (sa_cons (se_var 0) (sa_cons (se_var 2) sa_nil))) (sa_cons (se_var 3) sa_nil))) (sa_cons (se_callF o__law_cut (hr.mono (by decide)) (Z.g 45 _ rfl) rfl (sa_cons (se_callF o__law_take (hr.mono (by decide)) (Z.g 35 _ rfl) rfl (sa_cons (se_var 0) (sa_cons (se_var 2) sa_nil))) (sa_cons se_int sa_nil))) sa_nil)))) (sss_one (ss_if (st_notIn hr (se_var 6) (se_var 4)) (sss_one (ss_app 4 rfl (se_var 6))) sss_nil))))) (ss_frz 4 (sss_one (ss_ret (se_callF o__law_in_order (hr.mono (by decide)) (Z.g 47 _ rfl) rfl (sa_cons (se_var 4) sa_nil))))))))
def b__law_parts : DEnv → M Out := (sSeq (sSet 1 (eF (fLst (aCons (eTup aNil) aNil)))) (sSeq (sFor (iSeqD (eVar 0)) (gVar 2) (sSet 1 (eBin addD (eVar 1) (eF (fComp (iSeqD (eVar 1)) [3] (gVar 3) tYesD (eBin addD (eVar 3) (eTup (aCons (eVar 2) aNil)))))))) (sRet (eVar 1))))
def f__law_parts : List D → M D := runD 1 4 b__law_parts
theorem sc__law_parts : FnScope ["row_so", "found", "own", "its"] ["row_so"] (defScope (top 65)) := ⟨rfl, rfl, rfl, by decide +kernel, rfl, by decide +kernel, by decide +kernel⟩
theorem ok__law_parts {w : World} {K : PySem.W.Frag} {mg : Str → Option Value} {base : Heap} (Z : FX K mg) : OkF pg w K mg base (px K) 3 51 f__law_parts := by
  obtain ⟨fd, F⟩ := Z.dd 51 _ _ rfl rfl
  have sc := sc__law_parts
  refine okF_mk (K := K) (P := px K) (st := top 65) (k := 2) rfl F sc (F.bindsN (ps := ["row_so"]) fun _ _ _ _ _ _ us hl => match us, hl with | [_], _ => rfl) fun cdv A outer s H E hr => ?_
  exact (sss_cons (ss_set 1 sc.nd (se_f (sf_lst (sa_cons (se_tup sa_nil) sa_nil)))) (sss_cons (ss_for (passes_of rfl) rfl (si_seq (se_var 0)) (sg_var 2 sc.nd) (sss_one (ss_set 1 sc.nd (se_add (se_var 1) (se_f (sf_comp (own := [("its", 3)]) rfl sc.nd (si_seq (se_var 1)) (blkOk_by (own := [("its", 3)]) (by kernel_rfl)) (by decide) (fun _ _ _ _ _ => (sg_var 3 sc.nd)) (fun _ _ _ _ _ => sts_nil) (fun _ _ _ _ _ => (se_add (se_var 3) (se_tup (sa_cons (se_var 2) sa_nil)))))))))) (sss_one (ss_ret (se_var 1)))))
def b__law_right : DEnv → M Out := (sSeq (sSet 1 (eCall f__law_points (aCons (eVar 0) (aCons (eBin addD (eC (.int 3)) (eCall f__law_take (aCons (eVar 0) (aCons (eC (.int 10)) aNil)))) (aCons (eCall f__law_of (aCons (eVar 0) (aCons (eF (fLst (aCons (eC (.int 2)) (aCons (eC (.int 3)) (aCons (eC (.int 4)) aNil))))) aNil))) aNil))))) (sSeq (sIf (tB (eBin ltD (eB lenD (bCons (eVar 1) aNil)) (eC (.int 3)))) (sRet (eC (.bl true))) sNext) (sSeq (sSet 2 (eB lenD (bCons (eVar 1) aNil))) (sSeq (sSet 3 (eCall f__law_take (aCons (eVar 0) (aCons (eC (.int 5)) aNil)))) (sSeq (sSet 4 (eB tupD (bCons (eF (fComp (iSeqD (eVar 1)) [5] (gVar 5) tYesD (eCall f__law_take (aCons (eVar 0) (aCons (eC (.int 2)) aNil))))) aNil))) (sSeq (sIf (tB (eBin eqD (eVar 3) (eC (.int 0)))) (sSet 4 (eBin repD (eTup (aCons (eCall f__law_take (aCons (eVar 0) (aCons (eC (.int 2)) aNil))) aNil)) (eVar 2))) sNext) (sSeq (sSet 6 (eCall f__law_lines (aCons (eVar 1) aNil))) (sSeq (sSet 7 (eF (fComp (iSeqD (eVar 6)) [5] (gVar 5) (tB (eBin eqD (eUn lenSet2 (eF (fComp (iSeqD (eVar 5)) [8] (gVar 8) tYesD (eBin ixD (eVar 4) (eVar 8))))) (eC (.int 1)))) (eTup (aCons (eBin ixD (eVar 4) (eBin ixD (eVar 5) (eC (.int 0)))) (aCons (eVar 5) aNil)))))) (sSeq (sIf (tNotD (tTr (eCall f__law_same (aCons (eF (fLst (aCons (eCall f_one_colour_lines (aCons (eCall f__law_mixed (aCons (eVar 0) (aCons (eVar 1) aNil))) (aCons (eVar 4) aNil))) (aCons (eCall f__law_heard (aCons (eC (.fn 30)) (aCons (eTup (aCons (eVar 1) (aCons (eCall f__law_mixed (aCons (eVar 0) (aCons (eVar 4) aNil))) aNil))) aNil))) aNil)))) (aCons (eF (fLst (aCons (eB tupD (bCons (eVar 7) aNil)) (aCons (eIf (tB (eBin neD (eVar 7) (eF (fLst aNil)))) (eBin ixD (eVar 7) (eC (.int 0))) (eF (fLst (aCons (eC (.str "can not")) (aCons (eC (.bl true)) aNil))))) aNil)))) aNil))))) (sRet (eC (.bl false))) sNext) (sSeq (sIf (tOrD (tAndD (tB (eBin gtD (eB lenD (bCons (eVar 6) aNil)) (eC (.int 1)))) (tB (eBin eqD (eVar 7) (eF (fLst aNil))))) (tAndD (tB (eBin eqD (eB lenD (bCons (eVar 6) aNil)) (eC (.int 1)))) (tB (eBin neD (eBin neD (eVar 7) (eF (fLst aNil))) (eBin eqD (eUn lenSet2 (eVar 4)) (eC (.int 1))))))) (sRet (eC (.bl false))) sNext) (sSeq (sSet 9 (eF (fComp (iSeqD (eVar 7)) [5, 10] (gTupD 2 (gConsD (gVar 5) (gConsD (gVar 10) gNilD))) tYesD (eVar 5)))) (sSeq (sIf (tNotD (tTr (eCall f__law_same (aCons (eCall f_colour_counts (aCons (eVar 1) (aCons (eVar 4) aNil))) (aCons (eTup (aCons (eCount (eVar 9) (eC (.int 0))) (aCons (eCount (eVar 9) (eC (.int 1))) (aCons (eBin subD (eB lenD (bCons (eVar 6) aNil)) (eB lenD (bCons (eVar 7) aNil))) aNil)))) aNil))))) (sRet (eC (.bl false))) sNext) (sSeq (sIf (tB (eBin neD (eF (fComp (iSeqD (eVar 7)) [5] (gVar 5) (tNotD (tTr (eCall f_is_one_colour (aCons (eVar 1) (aCons (eVar 4) (aCons (eVar 5) aNil)))))) (eVar 5))) (eF (fLst aNil)))) (sRet (eC (.bl false))) sNext) (sSeq (sSet 5 (eCall f__law_of (aCons (eVar 0) (aCons (eVar 6) aNil)))) (sSeq (sSet 8 (eCall f__law_take (aCons (eVar 0) (aCons (eC (.int 2)) aNil)))) (sSeq (sSet 11 (eF (fLst (aCons (eCall f_is_one_colour (aCons (eVar 1) (aCons (eVar 4) (aCons (eTup (aCons (eVar 8) (aCons (eVar 5) aNil))) aNil)))) (aCons (eCall f_is_one_colour (aCons (eVar 1) (aCons (eVar 4) (aCons (eTup (aCons (eVar 8) (aCons (eSl (eVar 5) oNone (oSome (eUn negD (eC (.int 1))))) aNil))) aNil)))) (aCons (eCall f_is_one_colour (aCons (eVar 1) (aCons (eVar 4) (aCons (eF (fLst (aCons (eVar 8) (aCons (eVar 5) aNil)))) aNil)))) (aCons (eCall f_is_one_colour (aCons (eVar 1) (aCons (eVar 4) (aCons (eTup (aCons (eVar 8) (aCons (eBin addD (eVar 5) (eTup (aCons (eVar 2) aNil))) aNil))) aNil)))) aNil))))))) (sSeq (sIf (tNotD (tTr (eCall f__law_same (aCons (eVar 11) (aCons (eF (fLst (aCons (eBin inD (eTup (aCons (eVar 8) (aCons (eVar 5) aNil))) (eVar 7)) (aCons (eC (.bl false)) (aCons (eC (.bl false)) (aCons (eC (.bl false)) aNil)))))) aNil))))) (sRet (eC (.bl false))) sNext) (sSeq (sSet 12 (eSl (eVar 1) oNone (oSome (eC (.int 6))))) (sSeq (sIf (tB (eBin ltD (eB lenD (bCons (eVar 12) aNil)) (eC (.int 3)))) (sRet (eC (.bl true))) sNext) (sSeq (sSet 13 (eCall f__law_lines (aCons (eVar 12) aNil))) (sSeq (sSet 14 (eB lenD (bCons (eVar 13) aNil))) (sSeq (sFor (iSeqD (eCall f__law_parts (aCons (eF (fRg1 (eB lenD (bCons (eVar 12) aNil)))) aNil))) (gVar 15) (sSet 14 (eB min2D (bCons (eVar 14) (bCons (eB lenD (bCons (eF (fComp (iSeqD (eVar 13)) [10] (gVar 10) (tB (eBin eqD (eUn lenSet2 (eF (fComp (iSeqD (eVar 10)) [8] (gVar 8) tYesD (eB intOfD (bCons (eBin inD (eVar 8) (eVar 15)) aNil))))) (eC (.int 1)))) (eVar 10))) aNil)) aNil))))) (sRet (eAnd (eCall f__law_same (aCons (eCall f_fewest_alone (aCons (eVar 12) aNil)) (aCons (eVar 14) aNil))) (eBin eqD (eBin gtD (eVar 14) (eC (.int 0))) (eBin gtD (eB lenD (bCons (eVar 13) aNil)) (eC (.int 1))))))))))))))))))))))))))))
def f__law_right : List D → M D := runD 1 16 b__law_right
theorem sc__law_right : FnScope ["tin", "points_so", "many_so", "kind_so", "colours_so", "own", "rows_so", "due", "k", "alone_so", "its", "got", "few_so", "lines_so", "best_so", "told_so"] ["tin"] (defScope (top 66)) := ⟨rfl, rfl, rfl, by decide +kernel, rfl, by decide +kernel, by decide +kernel⟩
theorem ok__law_right {w : World} {K : PySem.W.Frag} {mg : Str → Option Value} {base : Heap} (Z : FX K mg) : OkF pg w K mg base (px K) 22 52 f__law_right := by
  obtain ⟨fd, F⟩ := Z.dd 52 _ _ rfl rfl
  have o__law_take := ok__law_take (w := w) (base := base) Z
  have o__law_of := ok__law_of (w := w) (base := base) Z
  have o__law_points := ok__law_points (w := w) (base := base) Z
  have o__law_lines := ok__law_lines (w := w) (base := base) Z
  have o__law_mixed := ok__law_mixed (w := w) (base := base) Z
  have o_one_colour_lines := ok_one_colour_lines (w := w) (base := base) Z
  have o__law_heard := ok__law_heard (w := w) (base := base) Z
  have o__law_same := ok__law_same (w := w) (base := base) Z
  have o_colour_counts := ok_colour_counts (w := w) (base := base) Z
  have o_is_one_colour := ok_is_one_colour (w := w) (base := base) Z
  have o__law_parts := ok__law_parts (w := w) (base := base) Z
  have o_fewest_alone := ok_fewest_alone (w := w) (base := base) Z
  have sc := sc__law_right
  refine okF_mk (K := K) (P := px K) (st := top 66) (k := 21) rfl F sc (F.bindsN (ps := ["tin"]) fun _ _ _ _ _ _ us hl => match us, hl with | [_], _ => rfl) fun cdv A outer s H E hr => ?_
  exact (sss_cons (ss_set 1 sc.nd (se_callF o__law_points (hr.mono (by decide)) (Z.g 50 _ rfl) rfl (sa_cons (se_var 0) (sa_cons (se_add se_int (se_callF o__law_take (hr.mono (by decide)) (Z.g 35 _ rfl) rfl (sa_cons (se_var 0) (sa_cons se_int sa_nil)))) (sa_cons (se_callF o__law_of (hr.mono (by decide)) (Z.g 37 _ rfl) rfl (sa_cons (se_var 0) (sa_cons (se_f (sf_lst (sa_cons se_int (sa_cons se_int (sa_cons se_int sa_nil))))) sa_nil))) sa_nil))))) (sss_cons (ss_if (st_lt (se_len rfl (Z.fr 7 _ rfl) (sb_cons (se_var 1) sb_nil)) se_int) (sss_one (ss_ret se_bl)) sss_nil) (sss_cons (ss_set 2 sc.nd (se_len rfl (Z.fr 7 _ rfl) (sb_cons (se_var 1) sb_nil))) (sss_cons (ss_set 3 sc.nd (se_callF o__law_take (hr.mono (by decide)) (Z.g 35 _ rfl) rfl (sa_cons (se_var 0) (sa_cons se_int sa_nil)))) (sss_cons (ss_set 4 sc.nd (se_toTup rfl (Z.fr 15 _ rfl) (sb_cons (se_f (sf_comp (own := [("own", 5)]) rfl sc.nd (si_seq (se_var 1)) (blkOk_by (own := [("own", 5)]) (by kernel_rfl)) (by decide) (fun _ _ _ _ _ => (sg_var 5 sc.nd)) (fun _ _ _ _ _ => sts_nil) (fun _ _ _ _ _ => (se_callF o__law_take (hr.mono (by decide)) (Z.g 35 _ rfl) rfl (sa_cons (se_var 0) (sa_cons se_int sa_nil)))))) sb_nil))) (sss_cons (ss_if (st_eq hr (se_var 3) se_int) (sss_one (ss_set 4 sc.nd (se_rep (se_tup (sa_cons (se_callF o__law_take (hr.mono (by decide)) (Z.g 35 _ rfl) rfl (sa_cons (se_var 0) (sa_cons se_int sa_nil))) sa_nil)) (se_var 2)))) sss_nil) (sss_cons (ss_set 6 sc.nd (se_callF o__law_lines (hr.mono (by decide)) (Z.g 49 _ rfl) rfl (sa_cons (se_var 1) sa_nil))) (sss_cons (ss_setC (own := [("own", 5)]) 7 rfl sc.nd (si_seq (se_var 6)) (blkOk_by (own := [("own", 5)]) (by kernel_rfl)) (by decide) (fun _ _ _ _ _ => (sg_var 5 sc.nd)) (fun _ _ _ _ _ => (sts_one (st_eq hr (se_lenSetI hr rfl rfl (Z.fr 7 _ rfl) rfl (Z.fr 12 _ rfl) (se_f (sf_comp (own := [("k", 8)]) rfl sc.nd (si_seq (se_var 5)) (blkOk_by (own := [("k", 8)]) (by kernel_rfl)) (by decide) (fun _ _ _ _ _ => (sg_var 8 sc.nd)) (fun _ _ _ _ _ => sts_nil) (fun _ _ _ _ _ => (se_ix (se_var 4) (se_var 8)))))) se_int))) (fun _ _ _ _ _ => (se_tup (sa_cons (se_ix (se_var 4) (se_ix (se_var 5) se_int)) (sa_cons (se_var 5) sa_nil))))) (sss_cons (ss_if (st_not (st_tr (se_callF o__law_same (hr.mono (by decide)) (Z.g 39 _ rfl) rfl (sa_cons (se_f (sf_lst (sa_cons (se_callF o_one_colour_lines (hr.mono (by decide)) (Z.g 29 _ rfl) rfl (sa_cons (se_callF o__law_mixed (hr.mono (by decide)) (Z.g 38 _ rfl) rfl (sa_cons (se_var 0) (sa_cons (se_var 1) sa_nil))) (sa_cons (se_var 4) sa_nil))) (sa_cons (se_callF o__law_heard (hr.mono (by decide)) (Z.g 44 _ rfl) rfl (sa_cons (se_fn (i := 30) rfl (Z.g 30 _ rfl)) (sa_cons (se_tup (sa_cons (se_var 1) (sa_cons (se_callF o__law_mixed (hr.mono (by decide)) (Z.g 38 _ rfl) rfl (sa_cons (se_var 0) (sa_cons (se_var 4) sa_nil))) sa_nil))) sa_nil))) sa_nil)))) (sa_cons (se_f (sf_lst (sa_cons (se_toTup rfl (Z.fr 15 _ rfl) (sb_cons (se_var 7) sb_nil)) (sa_cons (se_if (st_ne hr (se_var 7) (se_f (sf_lst sa_nil))) (se_ix (se_var 7) se_int) (se_f (sf_lst (sa_cons se_str (sa_cons se_bl sa_nil))))) sa_nil)))) sa_nil))))) (sss_one (ss_ret se_bl)) sss_nil) (sss_cons (ss_if (SWt.st (sw_or (SWt.st (sw_and (st_gt (se_len rfl (Z.fr 7 _ rfl) (sb_cons (se_var 6) sb_nil)) se_int) (sw_and1 (st_eq hr (se_var 7) (se_f (sf_lst sa_nil)))))) (sw_or1 (SWt.st (sw_and (st_eq hr (se_len rfl (Z.fr 7 _ rfl) (sb_cons (se_var 6) sb_nil)) se_int) (sw_and1 (st_ne hr (se_ne hr (se_var 7) (se_f (sf_lst sa_nil))) (se_eq hr (se_lenSetI hr rfl rfl (Z.fr 7 _ rfl) rfl (Z.fr 12 _ rfl) (se_var 4)) se_int)))))))) (sss_one (ss_ret se_bl)) sss_nil) (sss_cons (ss_setC (own := [("own", 5), ("its", 10)]) 9 rfl sc.nd (si_seq (se_var 7)) (blkOk_by (own := [("own", 5), ("its", 10)]) (by kernel_rfl)) (by decide) (fun _ _ _ _ _ => (sg_tup rfl (sgs_cons (sg_var 5 sc.nd) (sgs_cons (sg_var 10 sc.nd) sgs_nil)))) (fun _ _ _ _ _ => sts_nil) (fun _ _ _ _ _ => (se_var 5))) (sss_cons (ss_if (st_not (st_tr (se_callF o__law_same (hr.mono (by decide)) (Z.g 39 _ rfl) rfl (sa_cons (se_callF o_colour_counts (hr.mono (by decide)) (Z.g 32 _ rfl) rfl (sa_cons (se_var 1) (sa_cons (se_var 4) sa_nil))) (sa_cons (se_tup (sa_cons (se_count (se_var 9) se_int) (sa_cons (se_count (se_var 9) se_int) (sa_cons (se_sub (se_len rfl (Z.fr 7 _ rfl) (sb_cons (se_var 6) sb_nil)) (se_len rfl (Z.fr 7 _ rfl) (sb_cons (se_var 7) sb_nil))) sa_nil)))) sa_nil))))) (sss_one (ss_ret se_bl)) sss_nil) (sss_cons (ss_if (st_ne hr (se_f (sf_comp (own := [("own", 5)]) rfl sc.nd (si_seq (se_var 7)) (blkOk_by (own := [("own", 5)]) (by kernel_rfl)) (by decide) (fun _ _ _ _ _ => (sg_var 5 sc.nd)) (fun _ _ _ _ _ => (sts_one (st_not (st_tr (se_callF o_is_one_colour (hr.mono (by decide)) (Z.g 31 _ rfl) rfl (sa_cons (se_var 1) (sa_cons (se_var 4) (sa_cons (se_var 5) sa_nil)))))))) (fun _ _ _ _ _ => (se_var 5)))) (se_f (sf_lst sa_nil))) (sss_one (ss_ret se_bl)) sss_nil) (sss_cons (ss_set 5 sc.nd (se_callF o__law_of (hr.mono (by decide)) (Z.g 37 _ rfl) rfl (sa_cons (se_var 0) (sa_cons (se_var 6) sa_nil)))) (sss_cons (ss_set 8 sc.nd (se_callF o__law_take (hr.mono (by decide)) (Z.g 35 _ rfl) rfl (sa_cons (se_var 0) (sa_cons se_int sa_nil)))) (sss_cons (ss_set 11 sc.nd (se_f (sf_lst (sa_cons (se_callF o_is_one_colour (hr.mono (by decide)) (Z.g 31 _ rfl) rfl (sa_cons (se_var 1) (sa_cons (se_var 4) (sa_cons (se_tup (sa_cons (se_var 8) (sa_cons (se_var 5) sa_nil))) sa_nil)))) (sa_cons (se_callF o_is_one_colour (hr.mono (by decide)) (Z.g 31 _ rfl) rfl (sa_cons (se_var 1) (sa_cons (se_var 4) (sa_cons (se_tup (sa_cons (se_var 8) (sa_cons (se_slice (se_var 5) so_none (so_some (se_neg se_int))) sa_nil))) sa_nil)))) (sa_cons (se_callF o_is_one_colour (hr.mono (by decide)) (Z.g 31 _ rfl) rfl (sa_cons (se_var 1) (sa_cons (se_var 4) (sa_cons (se_f (sf_lst (sa_cons (se_var 8) (sa_cons (se_var 5) sa_nil)))) sa_nil)))) (sa_cons (se_callF o_is_one_colour (hr.mono (by decide)) (Z.g 31 _ rfl) rfl (sa_cons (se_var 1) (sa_cons (se_var 4) (sa_cons (se_tup (sa_cons (se_var 8) (sa_cons (se_add (se_var 5) (se_tup (sa_cons (se_var 2) sa_nil))) sa_nil))) sa_nil)))) sa_nil))))))) (sss_cons (ss_if (st_not (st_tr (se_callF o__law_same (hr.mono (by decide)) (Z.g 39 _ rfl) rfl (sa_cons (se_var 11) (sa_cons (se_f (sf_lst (sa_cons (se_in hr (se_tup (sa_cons (se_var 8) (sa_cons (se_var 5) sa_nil))) (se_var 7)) (sa_cons se_bl (sa_cons se_bl (sa_cons se_bl sa_nil)))))) sa_nil))))) (sss_one (ss_ret se_bl)) sss_nil) (sss_cons (ss_set 12 sc.nd (se_slice (se_var 1) so_none (so_some se_int))) (sss_cons (ss_if (st_lt (se_len rfl (Z.fr 7 _ rfl) (sb_cons (se_var 12) sb_nil)) se_int) (sss_one (ss_ret se_bl)) sss_nil) (sss_cons (ss_set 13 sc.nd (se_callF o__law_lines (hr.mono (by decide)) (Z.g 49 _ rfl) rfl (sa_cons (se_var 12) sa_nil))) (sss_cons (ss_set 14 sc.nd (se_len rfl (Z.fr 7 _ rfl) (sb_cons (se_var 13) sb_nil))) (sss_cons (ss_for (passes_of rfl) rfl (si_seq (se_callF o__law_parts (hr.mono (by decide)) (Z.g 51 _ rfl) rfl (sa_cons (se_f (sf_listRg1 rfl rfl (Z.fr 8 _ rfl) rfl (Z.fr 11 _ rfl) (se_len rfl (Z.fr 7 _ rfl) (sb_cons (se_var 12) sb_nil)))) sa_nil))) (sg_var 15 sc.nd) (sss_one (ss_set 14 sc.nd (se_min2 rfl rfl (Z.fr 10 _ rfl) (sb_cons (se_var 14) (sb_cons (se_len rfl (Z.fr 7 _ rfl) (sb_cons (se_f (sf_comp (own := [("its", 10)]) rfl sc.nd (si_seq (se_var 13)) (blkOk_by (own := [("its", 10)]) (by kernel_rfl)) (by decide) (fun _ _ _ _ _ => (sg_var 10 sc.nd)) (fun _ _ _ _ _ => (sts_one (st_eq hr (se_lenSetI hr rfl rfl (Z.fr 7 _ rfl) rfl (Z.fr 12 _ rfl) (se_f (sf_comp (own := [("k", 8)]) rfl sc.nd (si_seq (se_var 10)) (blkOk_by (own := [("k", 8)]) (by kernel_rfl)) (by decide) (fun _ _ _ _ _ => (sg_var 8 sc.nd)) (fun _ _ _ _ _ => sts_nil) (fun _ _ _ _ _ => (se_toInt rfl (Z.fr 5 _ rfl) (sb_cons (se_in hr (se_var 8) (se_var 15)) sb_nil)))))) se_int))) (fun _ _ _ _ _ => (se_var 10)))) sb_nil)) sb_nil)))))) (sss_one (ss_ret (se_and (se_callF o__law_same (hr.mono (by decide)) (Z.g 39 _ rfl) rfl (sa_cons (se_callF o_fewest_alone (hr.mono (by decide)) (Z.g 33 _ rfl) rfl (sa_cons (se_var 12) sa_nil)) (sa_cons (se_var 14) sa_nil))) (se_one (se_eq hr (se_gt (se_var 14) se_int) (se_gt (se_len rfl (Z.fr 7 _ rfl) (sb_cons (se_var 13) sb_nil)) se_int))))))))))))))))))))))))))))
def l1_law : DEnv → M Out := (sSet 1 (eCall f__law_box (aCons (eCall f__law_cells (aCons (eVar 0) (aCons (eC (.int 1)) aNil))) (aCons (eC (.int 0)) aNil))))
def q1 : DEnv → M Out := (sSet 2 (eTup (aCons (eTup (aCons (eTup (aCons (eC (.int 0)) (aCons (eC (.int 1)) aNil))) (aCons (eTup (aCons (eC (.int 0)) (aCons (eC (.int 1)) aNil))) aNil))) (aCons (eTup (aCons (eTup (aCons (eC (.int 0)) (aCons (eC (.int 1)) aNil))) (aCons (eTup (aCons (eC (.int 1)) (aCons (eC (.int 1)) aNil))) aNil))) (aCons (eTup (aCons (eTup (aCons (eC (.int 1)) (aCons (eC (.int 1)) aNil))) (aCons (eTup (aCons (eC (.int 0)) (aCons (eC (.int 1)) aNil))) aNil))) (aCons (eTup (aCons (eTup (aCons (eC (.int 1)) (aCons (eC (.int 1)) aNil))) (aCons (eTup (aCons (eC (.int 1)) (aCons (eC (.int 1)) aNil))) aNil))) aNil))))))
def q2 : DEnv → M Out := (sSet 3 (eF (fLst (aCons (eCall f_one_colour_lines (aCons (eVar 2) (aCons (eTup (aCons (eC (.int 0)) (aCons (eC (.int 1)) (aCons (eC (.int 1)) (aCons (eC (.int 0)) aNil))))) aNil))) (aCons (eCall f_first_one_colour (aCons (eVar 2) (aCons (eTup (aCons (eC (.int 0)) (aCons (eC (.int 0)) (aCons (eC (.int 1)) (aCons (eC (.int 1)) aNil))))) aNil))) (aCons (eCall f_colour_counts (aCons (eVar 2) (aCons (eTup (aCons (eC (.int 0)) (aCons (eC (.int 1)) (aCons (eC (.int 1)) (aCons (eC (.int 0)) aNil))))) aNil))) (aCons (eCall f_fewest_alone (aCons (eVar 2) aNil)) aNil)))))))
def q3 : DEnv → M Out := (sIf (tNotD (tTr (eCall f__law_same (aCons (eVar 3) (aCons (eF (fLst (aCons (eTup (aCons (eTup (aCons (eC (.int 0)) (aCons (eTup (aCons (eC (.int 0)) (aCons (eC (.int 3)) aNil))) aNil))) (aCons (eTup (aCons (eC (.int 1)) (aCons (eTup (aCons (eC (.int 1)) (aCons (eC (.int 2)) aNil))) aNil))) aNil))) (aCons (eTup (aCons (eC (.int 0)) (aCons (eTup (aCons (eC (.int 0)) (aCons (eC (.int 1)) aNil))) aNil))) (aCons (eTup (aCons (eC (.int 1)) (aCons (eC (.int 1)) (aCons (eC (.int 4)) aNil)))) (aCons (eC (.int 2)) aNil)))))) aNil))))) (sRet (eC (.bl false))) sNext)
def q4 : DEnv → M Out := (sRet (eB allD (bCons (eF (fComp (iRng1D (aCons (eC (.int 4)) aNil)) [4] (gVar 4) tYesD (eCall f__law_right (aCons (eVar 1) aNil)))) aNil)))
def l2_law : DEnv → M Out := (sSeq q1 (sSeq q2 (sSeq q3 q4)))
theorem sc_law : FnScope ["script", "tin", "square", "got", "lap"] ["script"] (defScope (top 67)) := ⟨rfl, rfl, rfl, by decide +kernel, rfl, by decide +kernel, by decide +kernel⟩
theorem ok_law {w : World} {K : PySem.W.Frag} {mg : Str → Option Value} {base : Heap} (Z : FX K mg) {fd : FuncData} (F : FunD K "law" "law" (defArgs (top 67)) (defBody (top 67)) (defScope (top 67)) [] [] ((px K).fa 53) fd) (good : Pu.Good 5 1 l1_law l2_law) : FnOk pg w K mg base (L2.CX pg w) 23 ((px K).fa 53) fd ["script"] (spLaw (px K)) := by
  have o__law_cells := ok__law_cells (w := w) (base := base) Z
  have o__law_box := ok__law_box (w := w) (base := base) Z
  have o_one_colour_lines := ok_one_colour_lines (w := w) (base := base) Z
  have o_first_one_colour := ok_first_one_colour (w := w) (base := base) Z
  have o_colour_counts := ok_colour_counts (w := w) (base := base) Z
  have o_fewest_alone := ok_fewest_alone (w := w) (base := base) Z
  have o__law_same := ok__law_same (w := w) (base := base) Z
  have o__law_right := ok__law_right (w := w) (base := base) Z
  have sc := sc_law
  refine law_ok (K := K) (P := px K) (i := 1) (st := top 67) (k := 22) rfl (fun_of F) sc rfl (fun cdv A outer s H E hr => ⟨?_, ?_⟩) good
  · exact (ss_set 1 sc.nd (se_callF o__law_box (hr.mono (by decide)) (Z.g 34 _ rfl) rfl (sa_cons (se_callF o__law_cells (hr.mono (by decide)) (Z.g 36 _ rfl) rfl (sa_cons (se_var 0) (sa_cons se_int sa_nil))) (sa_cons se_int sa_nil))))
  · exact (sss_cons (ss_set 2 sc.nd (se_tup (sa_cons (se_tup (sa_cons (se_tup (sa_cons se_int (sa_cons se_int sa_nil))) (sa_cons (se_tup (sa_cons se_int (sa_cons se_int sa_nil))) sa_nil))) (sa_cons (se_tup (sa_cons (se_tup (sa_cons se_int (sa_cons se_int sa_nil))) (sa_cons (se_tup (sa_cons se_int (sa_cons se_int sa_nil))) sa_nil))) (sa_cons (se_tup (sa_cons (se_tup (sa_cons se_int (sa_cons se_int sa_nil))) (sa_cons (se_tup (sa_cons se_int (sa_cons se_int sa_nil))) sa_nil))) (sa_cons (se_tup (sa_cons (se_tup (sa_cons se_int (sa_cons se_int sa_nil))) (sa_cons (se_tup (sa_cons se_int (sa_cons se_int sa_nil))) sa_nil))) sa_nil)))))) (sss_cons (ss_set 3 sc.nd (se_f (sf_lst (sa_cons (se_callF o_one_colour_lines (hr.mono (by decide)) (Z.g 29 _ rfl) rfl (sa_cons (se_var 2) (sa_cons (se_tup (sa_cons se_int (sa_cons se_int (sa_cons se_int (sa_cons se_int sa_nil))))) sa_nil))) (sa_cons (se_callF o_first_one_colour (hr.mono (by decide)) (Z.g 30 _ rfl) rfl (sa_cons (se_var 2) (sa_cons (se_tup (sa_cons se_int (sa_cons se_int (sa_cons se_int (sa_cons se_int sa_nil))))) sa_nil))) (sa_cons (se_callF o_colour_counts (hr.mono (by decide)) (Z.g 32 _ rfl) rfl (sa_cons (se_var 2) (sa_cons (se_tup (sa_cons se_int (sa_cons se_int (sa_cons se_int (sa_cons se_int sa_nil))))) sa_nil))) (sa_cons (se_callF o_fewest_alone (hr.mono (by decide)) (Z.g 33 _ rfl) rfl (sa_cons (se_var 2) sa_nil)) sa_nil))))))) (sss_cons (ss_if (st_not (st_tr (se_callF o__law_same (hr.mono (by decide)) (Z.g 39 _ rfl) rfl (sa_cons (se_var 3) (sa_cons (se_f (sf_lst (sa_cons (se_tup (sa_cons (se_tup (sa_cons se_int (sa_cons (se_tup (sa_cons se_int (sa_cons se_int sa_nil))) sa_nil))) (sa_cons (se_tup (sa_cons se_int (sa_cons (se_tup (sa_cons se_int (sa_cons se_int sa_nil))) sa_nil))) sa_nil))) (sa_cons (se_tup (sa_cons se_int (sa_cons (se_tup (sa_cons se_int (sa_cons se_int sa_nil))) sa_nil))) (sa_cons (se_tup (sa_cons se_int (sa_cons se_int (sa_cons se_int sa_nil)))) (sa_cons se_int sa_nil)))))) sa_nil))))) (sss_one (ss_ret se_bl)) sss_nil) (sss_one (ss_ret (se_all rfl rfl (Z.fr 2 _ rfl) (sb_cons (se_f (sf_comp (own := [("lap", 4)]) rfl sc.nd (si_range1 rfl (Z.fr 11 _ rfl) (sa_cons se_int sa_nil)) (blkOk_by (own := [("lap", 4)]) (by kernel_rfl)) (by decide) (fun _ _ _ _ _ => (sg_var 4 sc.nd)) (fun _ _ _ _ _ => sts_nil) (fun _ _ _ _ _ => (se_callF o__law_right (hr.mono (by decide)) (Z.g 52 _ rfl) rfl (sa_cons (se_var 1) sa_nil))))) sb_nil)))))))
end Lw

set_option Elab.async false
set_option linter.all false
set_option maxRecDepth 100000
set_option maxHeartbeats 0
namespace Lw
open PySem PySem.Spec PyProof.Rows L2 Pu
theorem getD_of {l : List Str} {i : Nat} {x : Str} (h : l[i]? = some x) : l.getD i "" = x := by
  rw [List.getD_eq_getElem?_getD, h]
  rfl
theorem fx_of {K : PySem.W.Frag} {h : Heap} {mg : Str → Option Value} (X : K.In h) (G : h.Ns mainGlobals mg) (c : He.SaysD fa fn K) (cx : xb K = true) : FX K mg := by
  have fact : ∀ {f : He.Fa}, f ∈ fa → f.ok K = true := fun {f} hf => by
    obtain ⟨i, hi⟩ := List.mem_iff_getElem?.mp hf
    exact c.fact i hi
  obtain ⟨x1, x2⟩ := He.ba cx
  have ca : ∀ (i : Nat) (x : Str), nmC[i]? = some x → (px K).ca i = He.ga K x := fun i x h => congrArg (He.ga K) (getD_of h)
  refine ⟨fun i x hi => ?_, fun i x hi => ?_, fun i x n hi => ?_, fun i x hi => ?_, fun c hc => ?_, fun c d hc hd => ?_, fun i x j hi hj => ?_⟩
  · have e : (px K).fa i = He.ga K x := congrArg (He.ga K) (getD_of hi)
    rw [e]
    exact He.glo_ok X G (fact (List.mem_append_left _ (List.mem_map_of_mem (List.mem_of_getElem? hi))))
  · exact He.free_ok X G (fact (List.mem_append_right _ (List.mem_append_left _ (List.mem_map_of_mem (List.mem_of_getElem? hi)))))
  · exact He.int_ok X G (fact (List.mem_append_right _ (List.mem_append_right _ (List.mem_append_left _ (List.mem_map.mpr ⟨(x, n), List.mem_of_getElem? hi, rfl⟩)))))
  · have m := List.mem_of_getElem? hi
    have f1 := fact (List.mem_append_right _ (List.mem_append_right _ (List.mem_append_right _ (List.mem_append_left _ (List.mem_map_of_mem m)))))
    have f2 := fact (List.mem_append_right _ (List.mem_append_right _ (List.mem_append_right _ (List.mem_append_right _ (List.mem_map_of_mem m)))))
    obtain ⟨e1, e2, e3, e4⟩ := He.exc_ok f2
    rw [ca i x hi]
    exact ⟨He.glo_ok X G f1, e1, e2, e3, e4⟩
  · exact excCB_ok (List.all_eq_true.mp x1 c (List.mem_range.mpr hc))
  · exact of_decide_eq_true (List.all_eq_true.mp (List.all_eq_true.mp x2 c (List.mem_range.mpr hc)) d (List.mem_range.mpr hd))
  · have hz : fn[i]? = some (mkD x j) := by
      unfold fn
      rw [List.getElem?_map, (List.getElem?_zip_eq_some (z := (x, j))).mpr ⟨hi, hj⟩]
      rfl
    obtain ⟨fd, F⟩ := c.def_ i hz
    have e : (px K).fa i = He.ga K x := congrArg (He.ga K) (getD_of hi)
    rw [e]
    exact ⟨fd, F⟩
end Lw

set_option Elab.async false
set_option linter.all false
set_option maxRecDepth 100000
set_option maxHeartbeats 4000000
/-! typed: what the defs about fractions, points, lines compute -/
namespace Lw
open PySem PySem.Spec PyProof.Rows L2 Pu Ma
def fr (p : Q2) : D := .tup [.int p.1, .int p.2]
def pt (p : Pt) : D := .tup [fr p.1, fr p.2]
def tr (u : T3) : D := .tup [.int u.1, .int u.2.1, .int u.2.2]
theorem ne0 (n : Int) (b : Bx) : neD (.int n) (.int 0) b = .ok (.bl (!decide (n = 0))) b := by
  show (pure (D.bl (!(n == 0))) : M D) b = _
  rw [show (n == 0) = decide (n = 0) from rfl]
  rfl
theorem eqI (n m : Int) (b : Bx) : eqD (.int n) (.int m) b = .ok (.bl (decide (n = m))) b := rfl
theorem common_loop (b : Bx) : ∀ (n m fuel : Nat), n + 1 ≤ fuel → whileL (tB (eBin neD (eVar 1) (eC (.int 0)))) (sPar 0 1 (aCons (eVar 1) (aCons (eBin modD (eVar 0) (eVar 1)) aNil))) fuel [some (.int m), some (.int n)] b = .ok (.nx [some (.int (Nat.gcd m n)), some (.int 0)]) b := by
  intro n
  induction n using Nat.strongRecOn with
  | ind n ih =>
    intro m fuel hf
    obtain ⟨f, rfl⟩ : ∃ f, fuel = f + 1 := ⟨fuel - 1, by omega⟩
    by_cases z : n = 0
    · subst z
      rw [Nat.gcd_zero_right]
      exact v_while0 (v_tB (v_bin (v_var rfl) v_c rfl))
    · have hn : 0 < n := Nat.pos_of_ne_zero z
      have nz : (n : Int) ≠ 0 := by omega
      refine v_whileS (v_tB (v_bin (v_var rfl) v_c ((ne0 _ _).trans (by rw [decide_eq_false nz]; rfl)))) (v_par (v_acons (v_var rfl) rfl (v_acons (v_bin (v_var rfl) (v_var rfl) (mod_ok nz _)) rfl v_nil))) ?_
      show whileL _ _ f [some (.int n), some (.int ((m : Int).fmod n))] b = _
      rw [Int.fmod_eq_emod_of_nonneg _ (by omega), ← Int.natCast_emod, ih (m % n) (Nat.mod_lt _ hn) n f (by have := Nat.mod_lt m hn; omega)]
      rw [Nat.gcd_comm m n, Nat.gcd_rec n m, Nat.gcd_comm]
theorem abs_eq (a : Int) : (if a < 0 then -a else a) = (a.natAbs : Int) := by
  split <;> omega
theorem abs_ok (a : Int) (b : Bx) : absD [.int a] b = .ok (.int a.natAbs) b := by
  show (pure (D.int (if a < 0 then -a else a)) : M D) b = _
  rw [abs_eq]
  rfl
theorem common_ok (a c : Int) (b : Bx) : f_common [.int a, .int c] b = .ok (.int (Int.gcd a c : Nat)) b := by
  refine v_run (b1 := b) rfl (v_seq (ρ' := [some (.int a.natAbs), some (.int c.natAbs)]) (b1 := b) ?_ (v_seq (ρ' := [some (.int (Nat.gcd a.natAbs c.natAbs)), some (.int 0)]) (b1 := b) ?_ (v_ret (v_var rfl) rfl)))
  · exact v_par (v_acons (v_b (v_bcons (v_var rfl) v_nil) (abs_ok a b)) rfl (v_acons (v_b (v_bcons (v_var rfl) v_nil) (abs_ok c b)) rfl v_nil))
  · exact common_loop b c.natAbs a.natAbs _ (by show _ ≤ (c.natAbs : Int).natAbs + 2; omega)
theorem lowest_ok {a c : Int} {n : Nat} (hc : c ≠ 0) (sc : Bd n c) (hn : n ≤ 9000) (b : Bx) : f_lowest [.int a, .int c] b = .ok (fr (low a c)) b := by
  have g0 : Int.gcd a c ≠ 0 := fun z => hc (Int.gcd_eq_zero_iff.mp z).2
  have gi : ((Int.gcd a c : Nat) : Int) ≠ 0 := by omega
  have gs : Bd n (Int.gcd a c : Nat) := sc.le (by
    have := Int.natAbs_dvd_natAbs.mpr (Int.gcd_dvd_right a c)
    exact Nat.le_of_dvd (by omega) this)
  have sg : eIf (tB (eBin ltD (eVar 1) (eC (.int 0)))) (eUn negD (eC (.int 1))) (eC (.int 1)) [some (.int a), some (.int c), some (.int (Int.gcd a c : Nat)), none] b = .ok (.int (if c < 0 then -1 else 1)) b := by
    by_cases z : c < 0
    · rw [if_pos z]
      exact v_eifT (v_tB (v_bin (v_var rfl) v_c rfl)) (decide_eq_true z) rfl
    · rw [if_neg z]
      exact v_eifF (v_tB (v_bin (v_var rfl) v_c rfl)) (decide_eq_false z) rfl
  have sm : (if c < 0 then -1 else 1 : Int).natAbs < 2 ^ 64 := by split <;> decide
  refine v_run rfl (v_seq (v_set (v_call (v_acons (v_var rfl) rfl (v_acons (v_var rfl) rfl v_nil)) (common_ok a c b)) rfl) (v_seq (v_set sg rfl) (v_ret (v_tup (v_acons (v_bin (v_bin (v_var rfl) (v_var rfl) (mul_okL sm _)) (v_var rfl) (fdiv_bd gi gs _)) rfl (v_acons (v_bin (v_bin (v_var rfl) (v_var rfl) (mul_okL sm _)) (v_var rfl) (fdiv_bd gi gs _)) rfl v_nil)) (Nat.le_of_ble_eq_true rfl)) rfl)))
structure QB (n : Nat) (q : Q2) : Prop where
  pos : 0 < q.2
  b1 : Bd n q.1
  b2 : Bd n q.2
theorem QB.mono {n m : Nat} {q : Q2} (h : QB n q) (l : n ≤ m) : QB m q := ⟨h.pos, h.b1.mono l, h.b2.mono l⟩
theorem low_bd {a c : Int} {n : Nat} (hc : c ≠ 0) (ha : Bd n a) (hb : Bd n c) : QB n (low a c) := by
  obtain ⟨f, _, g, g0, e1, e2⟩ := low_spec (a := a) hc
  have k : ∀ {x y : Int}, x = g * y → y.natAbs ≤ x.natAbs := fun {x y} e => by
    rw [e, Int.natAbs_mul]
    exact Nat.le_mul_of_pos_left _ (by omega)
  exact ⟨f.pos, ha.le (k e1), hb.le (k e2)⟩
theorem less_ok {p q : Q2} {n : Nat} (hp : QB n p) (hq : QB n q) (hn : n ≤ 4000) (b : Bx) : f_less [fr p, fr q] b = .ok (fr (qless p q)) b ∧ QB (n + n + 1) (qless p q) := by
  have d0 : p.2 * q.2 ≠ 0 := by have := Int.mul_pos hp.pos hq.pos; omega
  refine ⟨?_, low_bd d0 ((hp.b1.mul hq.b2).sub (hq.b1.mul hp.b2)) ((hp.b2.mul hq.b2).mono (by omega))⟩
  exact v_run rfl (v_ret (v_call (v_acons (v_bin (v_bin (v_bin (v_var rfl) v_c rfl) (v_bin (v_var rfl) v_c rfl) (mul_bd hp.b1 hq.b2 _)) (v_bin (v_bin (v_var rfl) v_c rfl) (v_bin (v_var rfl) v_c rfl) (mul_bd hq.b1 hp.b2 _)) rfl) rfl (v_acons (v_bin (v_bin (v_var rfl) v_c rfl) (v_bin (v_var rfl) v_c rfl) (mul_bd hp.b2 hq.b2 _)) rfl v_nil)) (lowest_ok d0 (hp.b2.mul hq.b2) (by omega) b)) rfl)
theorem plus_ok {p q : Q2} {n : Nat} (hp : QB n p) (hq : QB n q) (hn : n ≤ 4000) (b : Bx) : f_plus [fr p, fr q] b = .ok (fr (qplus p q)) b ∧ QB (n + n + 1) (qplus p q) := by
  have d0 : p.2 * q.2 ≠ 0 := by have := Int.mul_pos hp.pos hq.pos; omega
  refine ⟨?_, low_bd d0 ((hp.b1.mul hq.b2).add (hq.b1.mul hp.b2)) ((hp.b2.mul hq.b2).mono (by omega))⟩
  exact v_run rfl (v_ret (v_call (v_acons (v_bin (v_bin (v_bin (v_var rfl) v_c rfl) (v_bin (v_var rfl) v_c rfl) (mul_bd hp.b1 hq.b2 _)) (v_bin (v_bin (v_var rfl) v_c rfl) (v_bin (v_var rfl) v_c rfl) (mul_bd hq.b1 hp.b2 _)) rfl) rfl (v_acons (v_bin (v_bin (v_var rfl) v_c rfl) (v_bin (v_var rfl) v_c rfl) (mul_bd hp.b2 hq.b2 _)) rfl v_nil)) (lowest_ok d0 (hp.b2.mul hq.b2) (by omega) b)) rfl)
theorem times_ok {p q : Q2} {n : Nat} (hp : QB n p) (hq : QB n q) (hn : n ≤ 4000) (b : Bx) : f_times [fr p, fr q] b = .ok (fr (qtimes p q)) b ∧ QB (n + n) (qtimes p q) := by
  have d0 : p.2 * q.2 ≠ 0 := by have := Int.mul_pos hp.pos hq.pos; omega
  refine ⟨?_, low_bd d0 (hp.b1.mul hq.b1) (hp.b2.mul hq.b2)⟩
  exact v_run rfl (v_ret (v_call (v_acons (v_bin (v_bin (v_var rfl) v_c rfl) (v_bin (v_var rfl) v_c rfl) (mul_bd hp.b1 hq.b1 _)) rfl (v_acons (v_bin (v_bin (v_var rfl) v_c rfl) (v_bin (v_var rfl) v_c rfl) (mul_bd hp.b2 hq.b2 _)) rfl v_nil)) (lowest_ok d0 (hp.b2.mul hq.b2) (by omega) b)) rfl)
end Lw

set_option Elab.async false
set_option linter.all false
set_option maxRecDepth 100000
set_option maxHeartbeats 4000000
/-! typed: order, turns, lines -/
namespace Lw
open PySem PySem.Spec PyProof.Rows L2 Pu Ma
theorem lt_ok (i j : Int) (b : Bx) : ltD (.int i) (.int j) b = .ok (.bl (decide (i < j))) b := rfl
theorem is_under_ok {p q : Q2} {n : Nat} (hp : QB n p) (hq : QB n q) (hn : n ≤ 4000) (b : Bx) : f_is_under [fr p, fr q] b = .ok (.bl (decide (p.1 * q.2 < q.1 * p.2))) b :=
  v_run rfl (v_ret (v_bin (v_bin (v_bin (v_var rfl) v_c rfl) (v_bin (v_var rfl) v_c rfl) (mul_bd hp.b1 hq.b2 _)) (v_bin (v_bin (v_var rfl) v_c rfl) (v_bin (v_var rfl) v_c rfl) (mul_bd hq.b1 hp.b2 _)) rfl) rfl)
def sgn (r : Int) : Int := (if decide (0 < r) = true then 1 else 0) - (if decide (r < 0) = true then 1 else 0)
theorem sgn_zero (r : Int) : sgn r = 0 ↔ r = 0 := by
  unfold sgn
  by_cases a : 0 < r <;> by_cases c : r < 0 <;> simp [a, c] <;> omega
theorem sgn_neg (r : Int) : sgn r < 0 ↔ r < 0 := by
  unfold sgn
  by_cases a : 0 < r <;> by_cases c : r < 0 <;> simp [a, c] <;> omega
theorem compared_ok {p q : Q2} {n : Nat} (hp : QB n p) (hq : QB n q) (hn : n ≤ 4000) (b : Bx) : f_compared [fr p, fr q] b = .ok (.int (sgn (p.1 * q.2 - q.1 * p.2))) b :=
  v_run rfl (v_seq (v_set (v_bin (v_bin (v_bin (v_var rfl) v_c rfl) (v_bin (v_var rfl) v_c rfl) (mul_bd hp.b1 hq.b2 _)) (v_bin (v_bin (v_var rfl) v_c rfl) (v_bin (v_var rfl) v_c rfl) (mul_bd hq.b1 hp.b2 _)) rfl) rfl) (v_ret (v_bin (v_b (v_bcons (v_bin (v_var rfl) v_c rfl) v_nil) rfl) (v_b (v_bcons (v_bin (v_var rfl) v_c rfl) v_nil) rfl) rfl) rfl))
structure PB (n : Nat) (p : Pt) : Prop where
  x : QB n p.1
  y : QB n p.2
theorem PB.mono {n m : Nat} {p : Pt} (h : PB n p) (l : n ≤ m) : PB m p := ⟨h.x.mono l, h.y.mono l⟩
def ahead (p q : Pt) : Bool := decide (p.1.1 * q.1.2 < q.1.1 * p.1.2) || (decide (p.1.1 * q.1.2 = q.1.1 * p.1.2) && decide (p.2.1 * q.2.2 < q.2.1 * p.2.2))
theorem is_ahead_ok {p q : Pt} {n : Nat} (hp : PB n p) (hq : PB n q) (hn : n ≤ 4000) (b : Bx) : f_is_ahead [pt p, pt q] b = .ok (.bl (ahead p q)) b := by
  refine v_run rfl (v_seq (v_set (v_call (v_acons (v_bin (v_var rfl) v_c rfl) rfl (v_acons (v_bin (v_var rfl) v_c rfl) rfl v_nil)) (compared_ok hp.x hq.x hn b)) rfl) (v_ret (y := .bl (ahead p q)) (d := .bl (ahead p q)) ?_ rfl))
  unfold ahead
  by_cases a : p.1.1 * q.1.2 < q.1.1 * p.1.2
  · rw [decide_eq_true a, Bool.true_or]
    refine v_orTT (b1 := b) (v_bin (v_var rfl) v_c ((lt_ok _ _ _).trans ?_)) rfl
    rw [decide_eq_true ((sgn_neg _).mpr (by omega))]
  · rw [decide_eq_false a, Bool.false_or]
    refine v_orTF (b1 := b) (b2 := b) (d := .bl false) (v_bin (v_var rfl) v_c ((lt_ok _ _ _).trans ?_)) rfl ?_
    · rw [decide_eq_false (fun z => a (by have := (sgn_neg _).mp z; omega))]
    · by_cases c : p.1.1 * q.1.2 = q.1.1 * p.1.2
      · rw [decide_eq_true c, Bool.true_and]
        refine v_andT (b1 := b) (v_bin (v_var rfl) v_c ((eqI _ _ _).trans ?_)) (v_call (v_acons (v_bin (v_var rfl) v_c rfl) rfl (v_acons (v_bin (v_var rfl) v_c rfl) rfl v_nil)) (is_under_ok hp.y hq.y hn b))
        rw [decide_eq_true ((sgn_zero _).mpr (by omega))]
      · rw [decide_eq_false c, Bool.false_and]
        refine v_andF (v_bin (v_var rfl) v_c ((eqI _ _ _).trans ?_))
        rw [decide_eq_false (fun z => c (by have := (sgn_zero _).mp z; omega))]
def turnT (p q r : Pt) : Int := sgn ((qtimes (qless q.1 p.1) (qless r.2 p.2)).1 * (qtimes (qless q.2 p.2) (qless r.1 p.1)).2 - (qtimes (qless q.2 p.2) (qless r.1 p.1)).1 * (qtimes (qless q.1 p.1) (qless r.2 p.2)).2)
theorem s3_bd {n : Nat} {u : T3} (h : Nz u) (h1 : Bd n u.1) (h2 : Bd n u.2.1) : Bd n (s3 u) := by
  have d := s3_dvd u
  rcases h with h | h
  · exact h1.le (Nat.le_of_dvd (Int.natAbs_pos.mpr h) (Int.natAbs_dvd_natAbs.mpr d.1))
  · exact h2.le (Nat.le_of_dvd (Int.natAbs_pos.mpr h) (Int.natAbs_dvd_natAbs.mpr d.2.1))
theorem line_by_ok {a c e : Q2} {n : Nat} (ha : QB n a) (hc : QB n c) (he : QB n e) (hn : n ≤ 1000) (nz : Nz (whole3 a c e)) (b : Bx) : f_line_by [fr a, fr c, fr e] b = .ok (tr (norm (whole3 a c e))) b := by
  let w := whole3 a c e
  let bel := a.2 * c.2 * e.2
  have hw := whole3_eq ha.pos hc.pos he.pos
  have w1 : Bd (n + (n + n)) w.1 := by show Bd _ (whole3 a c e).1; rw [hw]; exact ha.b1.mul (hc.b2.mul he.b2)
  have w2 : Bd (n + (n + n)) w.2.1 := by show Bd _ (whole3 a c e).2.1; rw [hw]; exact hc.b1.mul (ha.b2.mul he.b2)
  have q1 : bel.fdiv a.2 = c.2 * e.2 := fd (by have := ha.pos; omega) (by show a.2 * c.2 * e.2 = _; grind)
  have q2 : bel.fdiv c.2 = a.2 * e.2 := fd (by have := hc.pos; omega) (by show a.2 * c.2 * e.2 = _; grind)
  have q3 : bel.fdiv e.2 = a.2 * c.2 := fd (by have := he.pos; omega) (by show a.2 * c.2 * e.2 = _; grind)
  have s0 := s3_ne nz
  have sb := s3_bd nz w1 w2
  have lst : ∀ x ∈ [a, c, e], Bd n x.2 ∧ x.2 ≠ 0 ∧ Bd n x.1 ∧ Bd (n + n) (bel.fdiv x.2) := by
    have := ha.pos
    have := hc.pos
    have := he.pos
    intro x hx
    simp only [List.mem_cons, List.not_mem_nil, or_false] at hx
    rcases hx with rfl | rfl | rfl
    · exact ⟨ha.b2, by omega, ha.b1, by rw [q1]; exact hc.b2.mul he.b2⟩
    · exact ⟨hc.b2, by omega, hc.b1, by rw [q2]; exact ha.b2.mul he.b2⟩
    · exact ⟨he.b2, by omega, he.b1, by rw [q3]; exact ha.b2.mul hc.b2⟩
  let ρ0 : DEnv := [some (fr a), some (fr c), some (fr e), some (.int bel), none, none, none, none]
  have c1 : fComp (iSeqD (eTup (aCons (eVar 0) (aCons (eVar 1) (aCons (eVar 2) aNil))))) [5] (gVar 5) tYesD (eBin mulD (eBin ixD (eVar 5) (eC (.int 0))) (eBin fdivD (eVar 3) (eBin ixD (eVar 5) (eC (.int 1))))) ρ0 b = .ok [.int w.1, .int w.2.1, .int w.2.2] b := by
    refine v_comp (ds := [a, c, e].map fr) (b1 := b) ?_ (Nat.le_of_ble_eq_true rfl) ?_
    · unfold iSeqD
      rw [bindA, v_tup (ds := [fr a, fr c, fr e]) (v_acons (v_var rfl) rfl (v_acons (v_var rfl) rfl (v_acons (v_var rfl) rfl v_nil))) (Nat.le_of_ble_eq_true rfl)]
      rfl
    · exact comp_map fr (fun x => .int (x.1 * bel.fdiv x.2)) [a, c, e] fun x hx => by
        obtain ⟨z1, z2, z3, z4⟩ := lst x hx
        exact ⟨_, rfl, v_bin (v_bin (v_var rfl) v_c rfl) (v_bin (v_var rfl) (v_bin (v_var rfl) v_c rfl) (fdiv_bd z2 z1 _)) (mul_bd z3 z4 _), rfl⟩
  let ρ1 : DEnv := [some (fr a), some (fr c), some (fr e), some (.int bel), some (.lst [.int w.1, .int w.2.1, .int w.2.2]), none, some (.int (g3 w)), some (.int (f3 w))]
  have c2 : eIf (tB (eBin neD (eBin ixD (eVar 4) (eC (.int 0))) (eC (.int 0)))) (eBin ixD (eVar 4) (eC (.int 0))) (eBin ixD (eVar 4) (eC (.int 1))) [some (fr a), some (fr c), some (fr e), some (.int bel), some (.lst [.int w.1, .int w.2.1, .int w.2.2]), none, some (.int (g3 w)), none] b = .ok (.int (f3 w)) b := by
    unfold f3
    by_cases z : w.1 = 0
    · rw [if_neg (by omega)]
      exact v_eifF (v_tB (v_bin (v_bin (v_var rfl) v_c rfl) v_c (ne0 _ _))) (by rw [decide_eq_true z]; rfl) (v_bin (v_var rfl) v_c rfl)
    · rw [if_pos z]
      exact v_eifT (v_tB (v_bin (v_bin (v_var rfl) v_c rfl) v_c (ne0 _ _))) (by rw [decide_eq_false z]; rfl) (v_bin (v_var rfl) v_c rfl)
  have c3 : eIf (tB (eBin ltD (eVar 7) (eC (.int 0)))) (eUn negD (eVar 6)) (eVar 6) ρ1 b = .ok (.int (s3 w)) b := by
    unfold s3
    by_cases z : f3 w < 0
    · rw [if_pos z]
      exact v_eifT (v_tB (v_bin (v_var rfl) v_c rfl)) (decide_eq_true z) (v_un (v_var rfl) rfl)
    · rw [if_neg z]
      exact v_eifF (v_tB (v_bin (v_var rfl) v_c rfl)) (decide_eq_false z) (v_var rfl)
  have c4 : fComp (iSeqD (eVar 4)) [5] (gVar 5) tYesD (eBin fdivD (eVar 5) (eVar 6)) (ρ1.set 6 (some (.int (s3 w)))) b = .ok [.int (norm w).1, .int (norm w).2.1, .int (norm w).2.2] b := by
    refine v_comp (ds := [w.1, w.2.1, w.2.2].map D.int) (b1 := b) rfl (Nat.le_of_ble_eq_true rfl) ?_
    exact comp_map D.int (fun x => .int (x.fdiv (s3 w))) [w.1, w.2.1, w.2.2] fun x hx => ⟨_, rfl, v_bin (v_var rfl) (v_var rfl) (fdiv_bd s0 sb _), rfl⟩
  refine v_run rfl (v_seq (v_set (v_bin (v_bin (v_bin (v_var rfl) v_c rfl) (v_bin (v_var rfl) v_c rfl) (mul_bd ha.b2 hc.b2 _)) (v_bin (v_var rfl) v_c rfl) (mul_bd (ha.b2.mul hc.b2) he.b2 _)) rfl) (v_seq (v_set (v_f c1) rfl) (v_seq (v_set (v_call (v_acons (v_call (v_acons (v_bin (v_var rfl) v_c rfl) rfl (v_acons (v_bin (v_var rfl) v_c rfl) rfl v_nil)) (common_ok _ _ b)) rfl (v_acons (v_bin (v_var rfl) v_c rfl) rfl v_nil)) (common_ok _ _ b)) rfl) (v_seq (v_set c2 rfl) (v_seq (v_set c3 rfl) (v_ret (v_b (v_bcons (v_f c4) v_nil) rfl) rfl))))))
theorem line_in_ok {p q : Pt} {n : Nat} (hp : PB n p) (hq : PB n q) (fp : FrP p) (fq : FrP q) (h : p ≠ q) (hn : n ≤ 20) (b : Bx) : f_line_in [pt p, pt q] b = .ok (tr (lineT p q)) b := by
  obtain ⟨e1, k1⟩ := less_ok hp.y hq.y (by omega) b
  obtain ⟨e2, k2⟩ := less_ok hq.x hp.x (by omega) b
  obtain ⟨e3, k3⟩ := times_ok k1 (hp.x.mono (m := n + n + 1) (by omega)) (by omega) b
  obtain ⟨e4, k4⟩ := times_ok k2 (hp.y.mono (m := n + n + 1) (by omega)) (by omega) b
  obtain ⟨e5, k5⟩ := plus_ok k3 k4 (by omega) b
  have nz := (line_pre fp fq h).1
  have k6 : QB (n + n + 1 + (n + n + 1) + (n + n + 1 + (n + n + 1)) + 1) (-(rest p q).1, (rest p q).2) := ⟨k5.pos, k5.b1.neg, k5.b2⟩
  exact v_run rfl (v_seq (v_par (v_acons (v_call (v_acons (v_bin (v_var rfl) v_c rfl) rfl (v_acons (v_bin (v_var rfl) v_c rfl) rfl v_nil)) e1) rfl (v_acons (v_call (v_acons (v_bin (v_var rfl) v_c rfl) rfl (v_acons (v_bin (v_var rfl) v_c rfl) rfl v_nil)) e2) rfl v_nil)))
    (v_seq (v_set (v_call (v_acons (v_call (v_acons (v_var rfl) rfl (v_acons (v_bin (v_var rfl) v_c rfl) rfl v_nil)) e3) rfl (v_acons (v_call (v_acons (v_var rfl) rfl (v_acons (v_bin (v_var rfl) v_c rfl) rfl v_nil)) e4) rfl v_nil)) e5) rfl)
      (v_ret (v_call (v_acons (v_var rfl) rfl (v_acons (v_var rfl) rfl (v_acons (v_tup (v_acons (v_un (v_bin (v_var rfl) v_c rfl) rfl) rfl (v_acons (v_bin (v_var rfl) v_c rfl) rfl v_nil)) (Nat.le_of_ble_eq_true rfl)) rfl v_nil))) (line_by_ok (k1.mono (by omega)) (k2.mono (by omega)) k6 (by omega) nz b)) rfl)))
end Lw

set_option Elab.async false
set_option linter.all false
set_option maxRecDepth 100000
set_option maxHeartbeats 4000000
/-! typed: the lines of points -/
namespace Ma
/-- two lists in one strict order, of the same members -/
theorem sorted_ext {α : Type} {R : α → α → Prop} (ir : ∀ a, ¬ R a a) (tr : ∀ a b c, R a b → R b c → R a c) : ∀ {l m : List α}, l.Pairwise R → m.Pairwise R → (∀ x, x ∈ l ↔ x ∈ m) → l = m
  | [], [], _, _, _ => rfl
  | [], y :: m, _, _, h => absurd ((h y).mpr List.mem_cons_self) (by simp)
  | x :: l, [], _, _, h => absurd ((h x).mp List.mem_cons_self) (by simp)
  | x :: l, y :: m, hl, hm, h => by
    obtain ⟨hx, hl⟩ := List.pairwise_cons.mp hl
    obtain ⟨hy, hm2⟩ := List.pairwise_cons.mp hm
    have e : x = y := by
      rcases List.mem_cons.mp ((h x).mp List.mem_cons_self) with e | e
      · exact e
      · rcases List.mem_cons.mp ((h y).mpr List.mem_cons_self) with e' | e'
        · exact e'.symm
        · exact absurd (tr _ _ _ (hy x e) (hx y e')) (ir y)
    subst e
    have t : l = m := sorted_ext ir tr hl hm2 fun z => by
      constructor
      · intro hz
        rcases List.mem_cons.mp ((h z).mp (List.mem_cons_of_mem _ hz)) with e | e
        · subst e; exact absurd (hx z hz) (ir z)
        · exact e
      · intro hz
        rcases List.mem_cons.mp ((h z).mpr (List.mem_cons_of_mem _ hz)) with e | e
        · subst e; exact absurd (hy z hz) (ir z)
        · exact e
    rw [t]
theorem ints_ext {l m : List Int} (hl : l.Pairwise (· < ·)) (hm : m.Pairwise (· < ·)) (h : ∀ x, x ∈ l ↔ x ∈ m) : l = m :=
  sorted_ext (fun a => Int.lt_irrefl a) (fun a b c => Int.lt_trans) hl hm h
end Ma
namespace Pu
theorem insL_perm {α : Type} (le : α → α → Bool) (x : α) : ∀ xs : List α, (insL le x xs).Perm (x :: xs)
  | [] => List.Perm.refl _
  | y :: ys => by
    rw [insL]
    split
    · exact List.Perm.refl _
    · exact ((insL_perm le x ys).cons y).trans (List.Perm.swap x y ys)
theorem isort_perm {α : Type} (le : α → α → Bool) : ∀ xs : List α, (isort le xs).Perm xs
  | [] => List.Perm.refl _
  | x :: xs => (insL_perm le x _).trans ((isort_perm le xs).cons x)
theorem getT_mem {T : Tbl} {k v : List Int} (nd : (T.map Prod.fst).Nodup) (h : (k, v) ∈ T) : getT T k = v := by
  induction T with
  | nil => cases h
  | cons kv T ih =>
    obtain ⟨k', v'⟩ := kv
    rw [List.map_cons, List.nodup_cons] at nd
    rw [getT]
    rcases List.mem_cons.mp h with e | e
    · cases e; rw [if_pos rfl]
    · rw [if_neg (fun z => nd.1 (by rw [show (k', v').1 = k from z]; exact List.mem_map_of_mem e))]
      exact ih nd.2 e
theorem getT_no {T : Tbl} {k : List Int} (h : k ∉ T.map Prod.fst) : getT T k = [] := by
  induction T with
  | nil => rfl
  | cons kv T ih =>
    obtain ⟨k', v'⟩ := kv
    rw [List.map_cons, List.mem_cons, not_or] at h
    rw [getT, if_neg (fun z => h.1 z.symm)]
    exact ih h.2
theorem hasT_iff {T : Tbl} {k : List Int} : hasT T k = true ↔ k ∈ T.map Prod.fst := by
  unfold hasT
  rw [List.any_eq_true, List.mem_map]
  constructor
  · rintro ⟨x, hx, e⟩
    exact ⟨x, hx, of_decide_eq_true e⟩
  · rintro ⟨x, hx, e⟩
    exact ⟨x, hx, decide_eq_true e⟩
theorem putT_keys {T : Tbl} {k v : List Int} (nd : (T.map Prod.fst).Nodup) : ((putT T k v).map Prod.fst).Nodup := by
  unfold putT
  split
  · have : (repT T k v).map Prod.fst = T.map Prod.fst := by
      unfold repT
      rw [List.map_map]
      apply List.map_congr_left
      intro a _
      show (if a.1 = k then (a.1, v) else a).1 = a.1
      split <;> rfl
    rw [this]
    exact nd
  · rename_i h
    rw [List.map_append, List.map_cons, List.map_nil]
    rw [List.nodup_append]
    refine ⟨nd, by simp, fun a ha c hc => ?_⟩
    rw [List.mem_singleton] at hc
    subst hc
    rintro rfl
    exact h (hasT_iff.mpr ha)
theorem putT_mem {T : Tbl} {k v k' v' : List Int} : (k', v') ∈ putT T k v ↔ (k' = k ∧ v' = v) ∨ (k' ≠ k ∧ (k', v') ∈ T) := by
  unfold putT
  split
  · rename_i h
    obtain ⟨kv, hkv, e⟩ := List.mem_map.mp (hasT_iff.mp h)
    unfold repT
    rw [List.mem_map]
    constructor
    · rintro ⟨a, ha, ea⟩
      split at ea
      · rename_i z
        cases ea
        exact .inl ⟨z, rfl⟩
      · rename_i z
        subst ea
        exact .inr ⟨z, ha⟩
    · rintro (⟨rfl, rfl⟩ | ⟨n, hm⟩)
      · exact ⟨kv, hkv, by rw [if_pos e, e]⟩
      · exact ⟨_, hm, by rw [if_neg n]⟩
  · rename_i h
    rw [List.mem_append, List.mem_singleton]
    have nk : ∀ {v'}, (k, v') ∉ T := fun {v'} z => h (hasT_iff.mpr (List.mem_map_of_mem z))
    constructor
    · rintro (z | z)
      · refine .inr ⟨?_, z⟩
        rintro rfl
        exact nk z
      · cases z
        exact .inl ⟨rfl, rfl⟩
    · rintro (⟨rfl, rfl⟩ | ⟨_, z⟩)
      · exact .inr rfl
      · exact .inl z
end Pu

set_option Elab.async false
set_option linter.all false
set_option maxRecDepth 100000
set_option maxHeartbeats 4000000
/-! typed: the lines of points, gathered -/
namespace Lw
open PySem PySem.Spec PyProof.Rows L2 Pu Ma
def p0 : Pt := ((0, 1), (0, 1))
abbrev gp (P : List Pt) (i : Nat) : Pt := P.getD i p0
def key (u : T3) : List Int := [u.1, u.2.1, u.2.2]
def ln (P : List Pt) (i j : Nat) : T3 := lineT (gp P i) (gp P j)
theorem key_inj {u v : T3} (h : key u = key v) : u = v := by
  unfold key at h
  injection h with h1 h
  injection h with h2 h
  injection h with h3 h
  exact Prod.ext h1 (Prod.ext h2 h3)
/-- points, each of so many figures, no two the same -/
structure Pts (n : Nat) (P : List Pt) : Prop where
  fr : ∀ p ∈ P, FrP p
  bd : ∀ p ∈ P, PB n p
  nd : P.Nodup
theorem gp_get {P : List Pt} {i : Nat} (h : i < P.length) : P[i]? = some (gp P i) := by
  rw [List.getElem?_eq_getElem h]
  show _ = some (P.getD i p0)
  rw [List.getD_eq_getElem?_getD, List.getElem?_eq_getElem h]
  rfl
theorem gp_mem {P : List Pt} {i : Nat} (h : i < P.length) : gp P i ∈ P := List.mem_of_getElem? (gp_get h)
theorem gp_ne {P : List Pt} (nd : P.Nodup) {i j : Nat} (hi : i < P.length) (hj : j < P.length) (h : i ≠ j) : gp P i ≠ gp P j := fun e => by
  have h1 := gp_get hi
  have h2 := gp_get hj
  rw [e] at h1
  rw [List.getElem?_eq_getElem hi] at h1
  rw [List.getElem?_eq_getElem hj] at h2
  have e3 : P[i] = P[j] := (Option.some.inj h1).trans (Option.some.inj h2).symm
  exact h ((List.getElem_inj nd).mp e3)
structure LT (P : List Pt) (S : Nat → Nat → Prop) (T : Tbl) : Prop where
  nd : (T.map Prod.fst).Nodup
  pw : ∀ k v, (k, v) ∈ T → v.Pairwise (· < ·)
  val : ∀ k v, (k, v) ∈ T → ∀ x : Int, x ∈ v ↔ ∃ i j : Nat, S i j ∧ (x = i ∨ x = j) ∧ k = key (ln P i j)
  all : ∀ i j, S i j → key (ln P i j) ∈ T.map Prod.fst
  ne : ∀ k v, (k, v) ∈ T → ∃ i j, S i j ∧ k = key (ln P i j)
theorem LT.get {P : List Pt} {S : Nat → Nat → Prop} {T : Tbl} (L : LT P S T) (k : List Int) : (getT T k).Pairwise (· < ·) ∧ ∀ x : Int, x ∈ getT T k ↔ ∃ i j : Nat, S i j ∧ (x = i ∨ x = j) ∧ k = key (ln P i j) := by
  by_cases h : k ∈ T.map Prod.fst
  · obtain ⟨⟨k', v⟩, hm, rfl⟩ := List.mem_map.mp h
    rw [show getT T (k', v).1 = v from getT_mem L.nd hm]
    exact ⟨L.pw _ _ hm, L.val _ _ hm⟩
  · rw [getT_no h]
    refine ⟨List.Pairwise.nil, fun x => ⟨fun z => (by cases z), ?_⟩⟩
    rintro ⟨i, j, s, _, rfl⟩
    exact absurd (L.all i j s) h
theorem LT.put {P : List Pt} {S : Nat → Nat → Prop} {T : Tbl} (L : LT P S T) (i j : Nat) : LT P (fun a c => S a c ∨ (a = i ∧ c = j)) (putT T (key (ln P i j)) (usort (getT T (key (ln P i j)) ++ [(i : Int), (j : Int)]))) := by
  obtain ⟨g1, g2⟩ := L.get (key (ln P i j))
  refine ⟨putT_keys L.nd, fun k v h => ?_, fun k v h x => ?_, fun a c h => ?_, fun k v h => ?_⟩
  · rcases putT_mem.mp h with ⟨rfl, rfl⟩ | ⟨_, h⟩
    · exact usort_pw _
    · exact L.pw k v h
  · rcases putT_mem.mp h with ⟨rfl, rfl⟩ | ⟨n, h⟩
    · rw [usort_mem, List.mem_append, g2]
      simp only [List.mem_cons, List.not_mem_nil, or_false]
      constructor
      · rintro (⟨a, c, s, hx, e⟩ | hx)
        · exact ⟨a, c, .inl s, hx, e⟩
        · exact ⟨i, j, .inr ⟨rfl, rfl⟩, hx, rfl⟩
      · rintro ⟨a, c, s | ⟨rfl, rfl⟩, hx, e⟩
        · exact .inl ⟨a, c, s, hx, e⟩
        · exact .inr hx
    · rw [L.val k v h]
      constructor
      · rintro ⟨a, c, s, hx, e⟩
        exact ⟨a, c, .inl s, hx, e⟩
      · rintro ⟨a, c, s | ⟨rfl, rfl⟩, hx, e⟩
        · exact ⟨a, c, s, hx, e⟩
        · exact absurd e n
  · rcases h with h | ⟨rfl, rfl⟩
    · obtain ⟨⟨k, v⟩, hm, e⟩ := List.mem_map.mp (L.all a c h)
      by_cases z : k = key (ln P i j)
      · rw [← e, show (k, v).1 = key (ln P i j) from z]
        exact List.mem_map.mpr ⟨_, putT_mem.mpr (.inl ⟨rfl, rfl⟩), rfl⟩
      · exact List.mem_map.mpr ⟨(k, v), putT_mem.mpr (.inr ⟨z, hm⟩), e⟩
    · exact List.mem_map.mpr ⟨_, putT_mem.mpr (.inl ⟨rfl, rfl⟩), rfl⟩
  · rcases putT_mem.mp h with ⟨rfl, rfl⟩ | ⟨n, h⟩
    · exact ⟨i, j, .inr ⟨rfl, rfl⟩, rfl⟩
    · obtain ⟨a, c, s, e⟩ := L.ne k v h
      exact ⟨a, c, .inl s, e⟩
theorem LT.congr {P : List Pt} {S S' : Nat → Nat → Prop} {T : Tbl} (L : LT P S T) (h : ∀ i j, S i j ↔ S' i j) : LT P S' T := by
  have e : S = S' := funext fun i => funext fun j => propext (h i j)
  rw [← e]
  exact L
theorem asc_len {n : Nat} : ∀ {l : List Int} {a : Nat}, l.Pairwise (· < ·) → (∀ x ∈ l, (a : Int) ≤ x ∧ x < n) → l.length ≤ n - a
  | [], _, _, _ => Nat.zero_le _
  | x :: l, a, hp, h => by
    obtain ⟨h1, h2⟩ := List.pairwise_cons.mp hp
    have hx := h x List.mem_cons_self
    have ih := asc_len (n := n) (l := l) (a := x.toNat + 1) h2 fun y hy => by
      have q1 := h1 y hy
      have q2 := h y (List.mem_cons_of_mem _ hy)
      omega
    rw [List.length_cons]
    omega
theorem putT_len (T : Tbl) (k v : List Int) : (putT T k v).length ≤ T.length + 1 := by
  unfold putT
  split
  · unfold repT
    rw [List.length_map]
    omega
  · rw [List.length_append]
    exact Nat.le_refl _
section
variable {P : List Pt} {n : Nat} {b : Bx}
abbrev fLn : DEnv → M D := eCall f_line_in (aCons (eBin ixD (eVar 0) (eVar 4)) (aCons (eVar 3) aNil))
theorem ix_pts (e : D) {i : Nat} (h : i < P.length) (b : Bx) : ixD (.tup (P.map pt)) (.int (i : Int)) b = .ok (pt (gp P i)) b := by
  have e1 : atI (P.map pt) (i : Int) = some (pt (gp P i)) := by
    unfold atI ixN
    rw [if_pos (by omega), if_pos (by rw [List.length_map]; omega)]
    show (P.map pt)[(i : Int).toNat]? = _
    rw [Int.toNat_natCast, List.getElem?_map, gp_get h]
    rfl
  show (match atI (P.map pt) (i : Int) with | some d => pure d | none => stuck : M D) b = _
  rw [e1]
  rfl
theorem inner (hP : Pts 20 P) (hl : P.length ≤ 30) {pl : Nat} (hpl : pl < P.length) : ∀ (l : List Nat) (S : Nat → Nat → Prop) (T : Tbl) (e4 e5 e6 : Option D), (∀ i ∈ l, i < pl) → (∀ i j, S i j → i < P.length ∧ j < P.length) → LT P S T → T.length + l.length < 10000 →
    ∃ T' e4' e5', lnInner (gVar 4) fLn (l.map fun i : Nat => D.int (i : Int)) [some (.tup (P.map pt)), none, some (.int pl), some (pt (gp P pl)), e4, e5, e6] T b = .ok ([some (.tup (P.map pt)), none, some (.int pl), some (pt (gp P pl)), e4', e5', e6], T') b ∧ LT P (fun i j => S i j ∨ (i ∈ l ∧ j = pl)) T' ∧ T'.length ≤ T.length + l.length
  | [], S, T, e4, e5, e6, _, _, L, _ => ⟨T, e4, e5, rfl, L.congr fun i j => by simp, Nat.le_refl _⟩
  | i :: l, S, T, e4, e5, e6, hi, hS, L, hT => by
    have hi0 := hi i List.mem_cons_self
    have hil : i < P.length := by omega
    rw [List.length_cons] at hT
    obtain ⟨g1, g2⟩ := L.get (key (ln P i pl))
    have gl : (getT T (key (ln P i pl))).length ≤ P.length - 0 := asc_len g1 fun x hx => by
      obtain ⟨a, c, s, hx, _⟩ := (g2 x).mp hx
      have := hS a c s
      omega
    have L1 := L.put i pl
    have len1 := putT_len T (key (ln P i pl)) (usort (getT T (key (ln P i pl)) ++ [(i : Int), (pl : Int)]))
    obtain ⟨T', e4', e5', e, L2, len2⟩ := inner hP hl hpl l _ _ (some (.int (i : Int))) (some (tr (ln P i pl))) e6 (fun a ha => hi a (List.mem_cons_of_mem _ ha)) (fun a c h => by
      rcases h with h | ⟨rfl, rfl⟩
      · exact hS a c h
      · exact ⟨hil, hpl⟩) L1 (by omega)
    refine ⟨T', e4', e5', ?_, L2.congr fun a c => ?_, by rw [List.length_cons]; omega⟩
    · have el : fLn [some (.tup (P.map pt)), none, some (.int pl), some (pt (gp P pl)), some (.int (i : Int)), e5, e6] b = .ok (tr (ln P i pl)) b :=
        v_call (v_acons (v_bin (v_var rfl) (v_var rfl) (ix_pts (.non) hil b)) rfl (v_acons (v_var rfl) rfl v_nil)) (line_in_ok (hP.bd _ (gp_mem hil)) (hP.bd _ (gp_mem hpl)) (hP.fr _ (gp_mem hil)) (hP.fr _ (gp_mem hpl)) (gp_ne hP.nd hil hpl (by omega)) (by omega) b)
      have ep : lnPut [some (.tup (P.map pt)), none, some (.int pl), some (pt (gp P pl)), some (.int (i : Int)), some (tr (ln P i pl)), e6] T b = .ok (putT T (key (ln P i pl)) (usort (getT T (key (ln P i pl)) ++ [(i : Int), (pl : Int)]))) b := by
        show (if (getT T (key (ln P i pl))).length < 60 ∧ T.length < 100000 then _ else _ : M Tbl) b = _
        rw [if_pos ⟨by omega, by omega⟩]
        rfl
      rw [List.map_cons, lnInner]
      show (fLn [some (.tup (P.map pt)), none, some (.int pl), some (pt (gp P pl)), some (.int (i : Int)), e5, e6] >>= fun l' => chk l' >>= fun l' => lnPut ([some (.tup (P.map pt)), none, some (.int (pl : Int)), some (pt (gp P pl)), some (.int (i : Int)), e5, e6].set 5 (some l')) T >>= fun T' => lnInner (gVar 4) fLn (l.map fun i : Nat => D.int (i : Int)) ([some (.tup (P.map pt)), none, some (.int (pl : Int)), some (pt (gp P pl)), some (.int (i : Int)), e5, e6].set 5 (some l')) T') b = _
      rw [bindA, el, okB, show chk (tr (ln P i pl)) = pure (tr (ln P i pl)) from rfl, bindA, pureA, okB]
      show ((lnPut [some (.tup (P.map pt)), none, some (.int (pl : Int)), some (pt (gp P pl)), some (.int (i : Int)), some (tr (ln P i pl)), e6] T) >>= _) b = _
      rw [bindA, ep, okB]
      exact e
    · simp only [List.mem_cons]
      constructor
      · rintro ((h | ⟨rfl, rfl⟩) | ⟨h, rfl⟩)
        · exact .inl h
        · exact .inr ⟨.inl rfl, rfl⟩
        · exact .inr ⟨.inr h, rfl⟩
      · rintro (h | ⟨rfl | h, rfl⟩)
        · exact .inl (.inl h)
        · exact .inl (.inr ⟨rfl, rfl⟩)
        · exact .inr ⟨h, rfl⟩
theorem outer (hP : Pts 20 P) (hl : P.length ≤ 30) : ∀ (m k : Nat) (T : Tbl) (e2 e3 e4 e5 e6 : Option D), k + m = P.length → LT P (fun i j => i < j ∧ j < k) T → T.length ≤ 100 * k →
    ∃ T' e2' e3' e4' e5', lnOuter (gTupD 2 (gConsD (gVar 2) (gConsD (gVar 3) gNilD))) (iRng1D (aCons (eVar 2) aNil)) (gVar 4) fLn (enumFrom k ((P.drop k).map pt)) [some (.tup (P.map pt)), none, e2, e3, e4, e5, e6] T b = .ok ([some (.tup (P.map pt)), none, e2', e3', e4', e5', e6], T') b ∧ LT P (fun i j => i < j ∧ j < P.length) T'
  | 0, k, T, e2, e3, e4, e5, e6, hk, L, _ => by
    have e : P.drop k = [] := List.drop_eq_nil_of_le (by omega)
    rw [e]
    refine ⟨T, e2, e3, e4, e5, rfl, ?_⟩
    have : k = P.length := by omega
    subst this
    exact L
  | m + 1, k, T, e2, e3, e4, e5, e6, hk, L, hT => by
    have hkl : k < P.length := by omega
    have ed : P.drop k = gp P k :: P.drop (k + 1) := by
      rw [List.drop_eq_getElem_cons hkl]
      have := gp_get hkl
      rw [List.getElem?_eq_getElem hkl] at this
      rw [Option.some.inj this]
    obtain ⟨T1, e4', e5', i1, L1, len1⟩ := inner (b := b) hP hl hkl (List.range k) _ T e4 e5 e6 (fun i hi => List.mem_range.mp hi) (fun i j h => ⟨by omega, by omega⟩) L (by rw [List.length_range]; omega)
    rw [List.length_range] at len1
    have L2 : LT P (fun i j => i < j ∧ j < k + 1) T1 := L1.congr fun i j => by
      rw [List.mem_range]
      omega
    obtain ⟨T', a2, a3, a4, a5, o1, L3⟩ := outer hP hl m (k + 1) T1 (some (.int (k : Int))) (some (pt (gp P k))) e4' e5' e6 (by omega) L2 (by omega)
    refine ⟨T', a2, a3, a4, a5, ?_, L3⟩
    rw [ed, List.map_cons, enumFrom, lnOuter]
    show (iRng1D (aCons (eVar 2) aNil) [some (.tup (P.map pt)), none, some (.int (k : Int)), some (pt (gp P k)), e4, e5, e6] >>= fun js => lnInner (gVar 4) fLn js [some (.tup (P.map pt)), none, some (.int (k : Int)), some (pt (gp P k)), e4, e5, e6] T >>= fun r => lnOuter _ _ _ _ (enumFrom (k + 1) ((P.drop (k + 1)).map pt)) r.1 r.2) b = _
    have er : iRng1D (aCons (eVar 2) aNil) [some (.tup (P.map pt)), none, some (.int (k : Int)), some (pt (gp P k)), e4, e5, e6] b = .ok ((List.range k).map fun i : Nat => D.int (i : Int)) b := by
      show (if (k : Int).natAbs < 2 ^ 40 then pure (rangeD 0 (k : Int).toNat) else stuck : M (List D)) b = _
      rw [if_pos (by omega)]
      show Res.ok (rangeD 0 (k : Int).toNat) b = _
      unfold rangeD
      rw [Int.toNat_natCast]
      congr 1
      apply List.map_congr_left
      intro i _
      rw [Int.zero_add]
    rw [bindA, er, okB, bindA, i1, okB]
    exact o1
end
end Lw

set_option Elab.async false
set_option linter.all false
set_option maxRecDepth 100000
set_option maxHeartbeats 4000000
/-! typed: lines_in -/
namespace Lw
open PySem PySem.Spec PyProof.Rows L2 Pu Ma
def places (P : List Pt) (u : T3) : List Nat := (List.range P.length).filter fun i => decide (On u (gp P i))
def rowI (v : List Nat) : List Int := v.map Int.ofNat
def lpD (kv : List Int × List Int) : D := .tup [.tup (kv.1.map D.int), .tup (kv.2.map D.int)]
structure LinesOk (P : List Pt) (T : Tbl) : Prop where
  nd : (T.map Prod.fst).Nodup
  mem : ∀ k v, (k, v) ∈ T → ∃ i j, i < j ∧ j < P.length ∧ k = key (ln P i j) ∧ v = rowI (places P (ln P i j))
  all : ∀ i j, i < j → j < P.length → (key (ln P i j), rowI (places P (ln P i j))) ∈ T
theorem rowI_pw {P : List Pt} {u : T3} : (rowI (places P u)).Pairwise (· < ·) := by
  unfold rowI places
  rw [List.pairwise_map]
  refine (List.Pairwise.filter _ List.pairwise_lt_range).imp ?_
  intro a c h
  exact Int.ofNat_lt.mpr h
theorem places_mem {P : List Pt} {u : T3} {i : Nat} : i ∈ places P u ↔ i < P.length ∧ On u (gp P i) := by
  unfold places
  rw [List.mem_filter, List.mem_range]
  simp
theorem rowI_mem {P : List Pt} {u : T3} {x : Int} : x ∈ rowI (places P u) ↔ ∃ i : Nat, x = i ∧ i < P.length ∧ On u (gp P i) := by
  unfold rowI
  rw [List.mem_map]
  constructor
  · rintro ⟨i, hi, rfl⟩
    exact ⟨i, rfl, places_mem.mp hi⟩
  · rintro ⟨i, rfl, h⟩
    exact ⟨i, places_mem.mpr h, rfl⟩
theorem lines_of_LT {P : List Pt} {n : Nat} (hP : Pts n P) {T : Tbl} (L : LT P (fun i j => i < j ∧ j < P.length) T) : LinesOk P T := by
  have pl : ∀ k v, (k, v) ∈ T → ∀ i j, i < j → j < P.length → k = key (ln P i j) → v = rowI (places P (ln P i j)) := fun k v h i j hij hj e => by
    refine ints_ext (L.pw k v h) rowI_pw fun x => ?_
    rw [L.val k v h, rowI_mem]
    have hi : i < P.length := by omega
    have fi := hP.fr _ (gp_mem hi)
    have fj := hP.fr _ (gp_mem hj)
    have nij := gp_ne hP.nd hi hj (by omega)
    constructor
    · rintro ⟨a, c, ⟨hac, hc⟩, hx, e2⟩
      have eu : ln P i j = ln P a c := key_inj (e.symm.trans e2)
      have ha : a < P.length := by omega
      have fa := hP.fr _ (gp_mem ha)
      have fc := hP.fr _ (gp_mem hc)
      have nac := gp_ne hP.nd ha hc (by omega)
      rw [eu]
      rcases hx with rfl | rfl
      · exact ⟨a, rfl, ha, on_left fa fc nac⟩
      · exact ⟨c, rfl, hc, on_right fa fc nac⟩
    · rintro ⟨m, rfl, hm, on⟩
      by_cases z : m = i
      · subst z
        exact ⟨m, j, ⟨hij, hj⟩, .inl rfl, e⟩
      · have fm := hP.fr _ (gp_mem hm)
        have nim := gp_ne hP.nd hi hm (by omega)
        have el : ln P i m = ln P i j := line_on fi fj fm nij nim on
        rcases Nat.lt_or_ge i m with lt | ge
        · exact ⟨i, m, ⟨lt, hm⟩, .inr rfl, by rw [el]; exact e⟩
        · have es : ln P m i = ln P i m := line_sym fi fm nim
          exact ⟨m, i, ⟨by omega, hi⟩, .inl rfl, by rw [es, el]; exact e⟩
  refine ⟨L.nd, fun k v h => ?_, fun i j hij hj => ?_⟩
  · obtain ⟨i, j, ⟨hij, hj⟩, e⟩ := L.ne k v h
    exact ⟨i, j, hij, hj, e, pl k v h i j hij hj e⟩
  · obtain ⟨⟨k, v⟩, hm, e⟩ := List.mem_map.mp (L.all i j ⟨hij, hj⟩)
    have e : k = key (ln P i j) := e
    rw [← pl k v hm i j hij hj e, ← e]
    exact hm
/-! ### sorting rows of whole numbers -/
theorem alike_ints : ∀ (xs ys : List Int), PySem.W.alikeAll (D.pys (xs.map D.int)) (D.pys (ys.map D.int)) = true
  | [], ys => by rw [List.map_nil, D.pys, PySem.W.alikeAll]
  | x :: xs, [] => by rw [List.map_nil, List.map_cons, D.pys, D.pys, PySem.W.alikeAll]
  | x :: xs, y :: ys => by
    rw [List.map_cons, List.map_cons, D.pys, D.pys, PySem.W.alikeAll, alike_ints xs ys, D.py, D.py, PySem.W.alike]
    rfl
theorem oks_ints : ∀ (n : Nat) (xs : List Int), D.oks n (xs.map D.int) = true
  | n, [] => by rw [List.map_nil]; cases n <;> rfl
  | n, x :: xs => by
    rw [List.map_cons, D.oks, oks_ints n xs, Bool.and_true]
    cases n <;> rfl
theorem pys_map {α : Type} (f : α → D) : ∀ xs : List α, D.pys (xs.map f) = xs.map fun x => (f x).py
  | [] => by rw [List.map_nil, D.pys]; rfl
  | x :: xs => by rw [List.map_cons, D.pys, pys_map f xs]; rfl
theorem oks_all {α : Type} (n : Nat) (f : α → D) : ∀ xs : List α, (∀ x ∈ xs, (f x).ok n = true) → D.oks n (xs.map f) = true
  | [], _ => by rw [List.map_nil]; cases n <;> rfl
  | x :: xs, h => by
    rw [List.map_cons, D.oks, oks_all n f xs (fun y hy => h y (List.mem_cons_of_mem _ hy)), h x List.mem_cons_self]
    rfl
theorem sort_ok {α : Type} {f : α → D} {xs : List α} (ok : ∀ x ∈ xs, (f x).ok deep = true) (al : ∀ x ∈ xs, ∀ y ∈ xs, PySem.W.alike (f x).py (f y).py = true) (tp : ∀ x ∈ xs, tupB (f x).py = true) (b : Bx) : sortF1 (.lst (xs.map f)) b = .ok (isort ltoD (xs.map f)) b := by
  show (if (D.oks deep (xs.map f) && sortB (D.pys (xs.map f))) = true then pure (isort ltoD (xs.map f)) else stuck : M (List D)) b = _
  have sb : sortB (D.pys (xs.map f)) = true := by
    rw [pys_map]
    unfold sortB alikeB
    rw [Bool.and_eq_true, Bool.or_eq_true]
    refine ⟨List.all_eq_true.mpr fun x hx => List.all_eq_true.mpr fun y hy => ?_, .inl (List.all_eq_true.mpr fun x hx => ?_)⟩
    · obtain ⟨a, ha, rfl⟩ := List.mem_map.mp hx
      obtain ⟨c, hc, rfl⟩ := List.mem_map.mp hy
      exact al a ha c hc
    · obtain ⟨a, ha, rfl⟩ := List.mem_map.mp hx
      exact tp a ha
  rw [if_pos (by rw [oks_all _ f xs ok, sb]; rfl)]
  rfl
theorem lpD_ok (kv : List Int × List Int) : (lpD kv).ok deep = true := by
  unfold lpD
  show D.ok (58 + 1 + 1) (.tup [.tup (kv.1.map D.int), .tup (kv.2.map D.int)]) = true
  rw [D.ok, D.oks, D.oks, D.oks, D.ok, D.ok, oks_ints, oks_ints]
  rfl
theorem lpD_alike (a c : List Int × List Int) : PySem.W.alike (lpD a).py (lpD c).py = true := by
  unfold lpD
  rw [D.py, D.py, PySem.W.alike, D.pys, D.pys, D.pys, D.pys, D.pys, PySem.W.alikeAll, PySem.W.alikeAll, D.py, D.py, D.py, D.py, PySem.W.alike, PySem.W.alike, alike_ints, alike_ints, PySem.W.alikeAll]
  rfl
theorem LinesOk.perm {P : List Pt} {T T' : Tbl} (h : LinesOk P T) (p : T'.Perm T) : LinesOk P T' :=
  ⟨(p.map Prod.fst).nodup_iff.mpr h.nd, fun k v m => h.mem k v (p.subset m), fun i j a c => p.symm.subset (h.all i j a c)⟩
theorem lines_in_ok {P : List Pt} (hP : Pts 20 P) (hl : P.length ≤ 30) (b : Bx) : ∃ T, LinesOk P T ∧ f_lines_in [.tup (P.map pt)] b = .ok (.lst (T.map lpD)) b := by
  have L0 : LT P (fun i j => i < j ∧ j < 0) [] := ⟨List.Pairwise.nil, fun k v h => (by cases h), fun k v h => (by cases h), fun i j h => absurd h.2 (Nat.not_lt_zero _), fun k v h => (by cases h)⟩
  obtain ⟨T, a2, a3, a4, a5, o1, L1⟩ := outer (b := b) hP hl P.length 0 [] none none none none none (by omega) L0 (Nat.zero_le _)
  have ok := lines_of_LT hP L1
  refine ⟨isort (fun a c => ltoD (lpD a) (lpD c)) T, ok.perm (isort_perm _ _), ?_⟩
  have lenT : T.length < 100000 := by
    have h1 : ∀ kv ∈ T, ∃ i ∈ List.range 30, ∃ j ∈ List.range 30, kv = (key (ln P i j), rowI (places P (ln P i j))) := fun kv hkv => by
      obtain ⟨i, j, hij, hj, e1, e2⟩ := ok.mem kv.1 kv.2 hkv
      exact ⟨i, List.mem_range.mpr (by omega), j, List.mem_range.mpr (by omega), Prod.ext e1 e2⟩
    have nd : T.Nodup := by
      have := ok.nd
      exact List.Pairwise.imp (fun {a c} h e => h (by rw [e])) (List.pairwise_map.mp this)
    have sub : T ⊆ ((List.range 30).flatMap fun i => (List.range 30).map fun j => (key (ln P i j), rowI (places P (ln P i j)))) := fun kv hkv => by
      obtain ⟨i, hi, j, hj, e⟩ := h1 kv hkv
      exact List.mem_flatMap.mpr ⟨i, hi, List.mem_map.mpr ⟨j, hj, e.symm⟩⟩
    have := List.Nodup.length_le_of_subset nd sub
    have e : ((List.range 30).flatMap fun i => (List.range 30).map fun j => (key (ln P i j), rowI (places P (ln P i j)))).length = 900 := by
      rw [List.length_flatMap]
      simp only [List.length_map, List.length_range]
      decide +kernel
    omega
  have ec : fComp (fun _ => pure (T.map itemD)) [5, 6] (gTupD 2 (gConsD (gVar 5) (gConsD (gVar 6) gNilD))) tYesD (eTup (aCons (eVar 5) (aCons (eB tupD (bCons (eVar 6) aNil)) aNil))) [some (.tup (P.map pt)), none, a2, a3, a4, a5, none] b = .ok (T.map lpD) b :=
    v_comp (ds := T.map itemD) (b1 := b) rfl (by rw [List.length_map]; exact lenT) (comp_map itemD lpD T fun kv _ => ⟨_, rfl, v_tup (v_acons (v_var rfl) rfl (v_acons (v_b (v_bcons (v_var rfl) v_nil) rfl) rfl v_nil)) (Nat.le_of_ble_eq_true rfl), rfl⟩)
  have es : eEndT [5, 6] (gTupD 2 (gConsD (gVar 5) (gConsD (gVar 6) gNilD))) (eTup (aCons (eVar 5) (aCons (eB tupD (bCons (eVar 6) aNil)) aNil))) T [some (.tup (P.map pt)), none, a2, a3, a4, a5, none] b = .ok (.lst (isort ltoD (T.map lpD))) b := by
    refine v_f (b1 := b) ?_
    unfold fSort
    rw [bindA, v_f ec, okB]
    exact sort_ok (fun x _ => lpD_ok x) (fun x _ y _ => lpD_alike x y) (fun x _ => rfl) b
  refine v_run (b1 := b) rfl ?_
  show (iEnumD (aCons (eVar 0) aNil) (startD 7 [.tup (P.map pt)]) >>= fun ds => lnOuter (gTupD 2 (gConsD (gVar 2) (gConsD (gVar 3) gNilD))) (iRng1D (aCons (eVar 2) aNil)) (gVar 4) fLn ds (startD 7 [.tup (P.map pt)]) [] >>= fun r => eEndT [5, 6] (gTupD 2 (gConsD (gVar 5) (gConsD (gVar 6) gNilD))) (eTup (aCons (eVar 5) (aCons (eB tupD (bCons (eVar 6) aNil)) aNil))) r.2 r.1 >>= fun d => (pure (Out.rt (strip d)) : M Out)) b = _
  rw [bindA, show iEnumD (aCons (eVar 0) aNil) (startD 7 [.tup (P.map pt)]) b = .ok (enumFrom 0 (P.map pt)) b from rfl, okB, bindA]
  rw [List.drop_zero] at o1
  rw [show lnOuter (gTupD 2 (gConsD (gVar 2) (gConsD (gVar 3) gNilD))) (iRng1D (aCons (eVar 2) aNil)) (gVar 4) fLn (enumFrom 0 (P.map pt)) (startD 7 [.tup (P.map pt)]) [] b = _ from o1, okB, bindA, es, okB]
  show Res.ok (Out.rt (.lst (isort ltoD (T.map lpD)))) b = _
  rw [← isort_map lpD (fun a c => rfl)]
end Lw

set_option Elab.async false
set_option linter.all false
set_option maxRecDepth 100000
set_option maxHeartbeats 4000000
/-! typed: what is passed in: tuples for lists; POINTS -/
namespace Lw
open PySem PySem.Spec PyProof.Rows L2 Pu Ma
mutual
/-- x is y with lists in the place of some tuples -/
inductive Mx : Nat → D → D → Prop
  | int (n : Nat) (i : Int) : Mx n (.int i) (.int i)
  | tup {n : Nat} {xs ys : List D} (h : Mxs n xs ys) (l : ys.length ≤ 40) : Mx (n + 1) (.tup xs) (.tup ys)
  | lst {n : Nat} {xs ys : List D} (h : Mxs n xs ys) (l : ys.length ≤ 40) : Mx (n + 1) (.lst xs) (.tup ys)
inductive Mxs : Nat → List D → List D → Prop
  | nil {n : Nat} : Mxs n [] []
  | cons {n : Nat} {x y : D} {xs ys : List D} (h : Mx n x y) (t : Mxs n xs ys) : Mxs n (x :: xs) (y :: ys)
end
theorem Mxs.len : ∀ {n : Nat} {xs ys : List D}, Mxs n xs ys → xs.length = ys.length
  | _, _, _, .nil => rfl
  | _, _, _, .cons _ t => by rw [List.length_cons, List.length_cons, t.len]
theorem Mx.chk {n : Nat} {x y : D} (h : Mx n x y) : Pu.chk x = pure x ∧ Pu.chk y = pure y := by
  cases h <;> exact ⟨rfl, rfl⟩
theorem comp_rel {vs : List Nat} {kk : D → DEnv → Option DEnv} {f : DEnv → M D} {ρ : DEnv} {b : Bx} {n : Nat} (hf : ∀ x y, Mx n x y → ∃ ρ1, kk x (wipeD ρ vs) = some ρ1 ∧ f ρ1 b = .ok y b) : ∀ {xs ys : List D}, Mxs n xs ys → compL vs kk tYesD f ρ xs b = .ok ys b
  | _, _, .nil => rfl
  | _, _, .cons (x := x) (y := y) (xs := xs) (ys := ys) h t => by
    obtain ⟨ρ1, h1, h2⟩ := hf x y h
    have ih := comp_rel hf t
    exact comp_cons (c := true) (y := y) h1 rfl (fun _ => ⟨b, b, ys, h2, h.chk.2, ih, rfl⟩) fun c => (by cases c)
theorem tupled_ok (b : Bx) : ∀ (n m : Nat) (x y : D), Mx n x y → n < m → r_tupled m [x] b = .ok y b := by
  intro n
  induction n with
  | zero =>
    intro m x y h hm
    obtain ⟨m, rfl⟩ : ∃ k, m = k + 1 := ⟨m - 1, by omega⟩
    cases h with
    | int i => exact v_run rfl (v_ret (v_eifF (b1 := b) (c := false) rfl rfl (v_var rfl)) rfl)
  | succ n ih =>
    intro m x y h hm
    obtain ⟨m, rfl⟩ : ∃ k, m = k + 1 := ⟨m - 1, by omega⟩
    have go : ∀ {xs ys : List D} {ρ : DEnv}, iSeqD (eVar 0) ρ b = .ok xs b → ys.length ≤ 40 → Mxs n xs ys → (∀ x, gVar 1 x (wipeD ρ [1]) = some ((wipeD ρ [1]).set 1 (some x)) ∧ ((wipeD ρ [1]).set 1 (some x))[1]? = some (some x)) →
        eB tupD (bCons (eF (fComp (iSeqD (eVar 0)) [1] (gVar 1) tYesD (eCall (r_tupled m) (aCons (eVar 1) aNil)))) aNil) ρ b = .ok (.tup ys) b := fun {xs ys ρ} e l h g => by
      refine v_b (v_bcons (v_f (v_comp e (by have := h.len; omega) (comp_rel (n := n) (fun x y hxy => ⟨_, (g x).1, v_call (v_acons (v_var (g x).2) hxy.chk.1 v_nil) (ih m x y hxy (by omega))⟩) h))) v_nil) rfl
    cases h with
    | int i => exact v_run rfl (v_ret (v_eifF (b1 := b) (c := false) rfl rfl (v_var rfl)) rfl)
    | tup h l => exact v_run rfl (v_ret (v_eifT (b1 := b) (c := true) rfl rfl (go rfl l h fun x => ⟨rfl, rfl⟩)) rfl)
    | lst h l => exact v_run rfl (v_ret (v_eifT (b1 := b) (c := true) rfl rfl (go rfl l h fun x => ⟨rfl, rfl⟩)) rfl)
/-! ### a drawn variant -/
mutual
inductive Pl : Nat → D → Prop
  | int (n : Nat) (i : Int) : Pl n (.int i)
  | tup {n : Nat} {ys : List D} (h : Pls n ys) (l : ys.length ≤ 40) : Pl (n + 1) (.tup ys)
inductive Pls : Nat → List D → Prop
  | nil {n : Nat} : Pls n []
  | cons {n : Nat} {y : D} {ys : List D} (h : Pl n y) (t : Pls n ys) : Pls n (y :: ys)
end
def cost : Nat → Nat
  | 0 => 0
  | n + 1 => 1 + 40 * cost n
theorem Pl.chk {n : Nat} {y : D} (h : Pl n y) : Pu.chk y = pure y := by cases h <;> rfl
theorem take_law {c : Nat} {b : Bx} {n : Int} (h : Vb c b) (hc : c < 2 ^ 60) (hn : 0 < n) (hl : n < 2 ^ 63) : ∃ r b', 0 ≤ r ∧ r < n ∧ Vb (c + 1) b' ∧ f__law_take [.box, .int n] b = .ok (.int r) b' := take_ev h hc hn hl
theorem mixed_ok : ∀ (n m : Nat) (y : D) (c : Nat) (b : Bx), Pl n y → n < m → Vb c b → c + cost n < 2 ^ 60 → ∃ x b', r__law_mixed m [.box, y] b = .ok x b' ∧ Mx n x y ∧ Vb (c + cost n) b' := by
  intro n
  induction n with
  | zero =>
    intro m y c b h hm V hc
    obtain ⟨m, rfl⟩ : ∃ k, m = k + 1 := ⟨m - 1, by omega⟩
    cases h with
    | int i => exact ⟨_, b, v_run rfl (v_seqR (v_ifT (b1 := b) (c := true) rfl rfl (v_ret (v_var rfl) rfl))), .int _ _, V⟩
  | succ n ih =>
    intro m y c b h hm V hc
    obtain ⟨m, rfl⟩ : ∃ k, m = k + 1 := ⟨m - 1, by omega⟩
    have hc : c + (1 + 40 * cost n) < 2 ^ 60 := hc
    cases h with
    | int i => exact ⟨_, b, v_run rfl (v_seqR (v_ifT (b1 := b) (c := true) rfl rfl (v_ret (v_var rfl) rfl))), .int _ _, V.mono (by show c ≤ c + (1 + 40 * cost n); omega)⟩
    | @tup _ ys h l =>
      have go : ∀ (zs : List D) (c : Nat) (b : Bx), Pls n zs → Vb c b → c + zs.length * cost n < 2 ^ 60 → ∃ xs b', compL [3] (gVar 3) tYesD (eCall (r__law_mixed m) (aCons (eVar 0) (aCons (eVar 3) aNil))) [some .box, some (.tup ys), none, none] zs b = .ok xs b' ∧ Mxs n xs zs ∧ Vb (c + zs.length * cost n) b' := by
        intro zs
        induction zs with
        | nil => exact fun c b _ V _ => ⟨[], b, rfl, .nil, by rw [List.length_nil, Nat.zero_mul]; exact V⟩
        | cons z zs ihz =>
          intro c b h V hc
          rw [List.length_cons, Nat.succ_mul] at hc ⊢
          cases h with
          | cons hz ht =>
            obtain ⟨x, b1, e1, m1, V1⟩ := ih m z c b hz (by omega) V (by omega)
            obtain ⟨xs, b2, e2, m2, V2⟩ := ihz (c + cost n) b1 ht V1 (by omega)
            refine ⟨x :: xs, b2, comp_cons (c := true) (y := x) rfl rfl (fun _ => ⟨b1, b2, xs, v_call (v_acons (v_var rfl) rfl (v_acons (v_var rfl) hz.chk v_nil)) e1, m1.chk.1, e2, rfl⟩) fun c => (by cases c), .cons m1 m2, ?_⟩
            rw [show c + (zs.length * cost n + cost n) = c + cost n + zs.length * cost n by omega]
            exact V2
      have hm : ys.length * cost n ≤ 40 * cost n := Nat.mul_le_mul_right _ l
      obtain ⟨xs, b1, e1, m1, V1⟩ := go ys c b h V (by omega)
      obtain ⟨r, b2, r0, r1, V2, e2⟩ := take_law (n := 2) V1 (by omega) (by decide) (by decide)
      have s1 : b__law_mixed (r__law_mixed m) (startD 4 [.box, .tup ys]) b = .ok (.rt (if r = 0 then .lst xs else .tup xs)) b2 := by
        refine v_seq (b1 := b) (ρ' := [some .box, some (.tup ys), none, none]) rfl (v_seq (b1 := b1) (ρ' := [some .box, some (.tup ys), some (.lst xs), none]) (v_set (v_f (v_comp (b1 := b) rfl (by omega) e1)) rfl) ?_)
        have et : tB (eBin eqD (eCall f__law_take (aCons (eVar 0) (aCons (eC (.int 2)) aNil))) (eC (.int 0))) [some .box, some (.tup ys), some (.lst xs), none] b1 = .ok (decide (r = 0)) b2 := v_tB (v_bin (v_call (v_acons (v_var rfl) rfl (v_acons v_c rfl v_nil)) e2) v_c rfl)
        by_cases z : r = 0
        · rw [if_pos z]
          exact v_ret (v_eifT et (decide_eq_true z) (v_var rfl)) rfl
        · rw [if_neg z]
          exact v_ret (v_eifF et (decide_eq_false z) (v_b (v_bcons (v_var rfl) v_nil) rfl)) rfl
      refine ⟨_, b2, v_run rfl s1, ?_, V2.mono (by show c + ys.length * cost n + 1 ≤ c + (1 + 40 * cost n); omega)⟩
      split
      · exact .lst m1 l
      · exact .tup m1 l
end Lw

set_option Elab.async false
set_option linter.all false
set_option maxRecDepth 100000
set_option maxHeartbeats 4000000
/-! typed: POINTS are let through -/
namespace Lw
open PySem PySem.Spec PyProof.Rows L2 Pu Ma
structure Nr (q : Q2) : Prop where
  f : Fr q
  a : q.1.natAbs ≤ 1000000
  b : q.2 ≤ 1000000
theorem Nr.qb {q : Q2} (h : Nr q) : QB 20 q := by
  have := h.f.pos
  have := h.a
  have := h.b
  exact ⟨h.f.pos, by unfold Bd; omega, by unfold Bd; omega⟩
structure VP (P : List Pt) : Prop where
  x : ∀ p ∈ P, Nr p.1
  y : ∀ p ∈ P, Nr p.2
  asc : P.Pairwise fun p q => ahead p q = true
  lo : 3 ≤ P.length
  hi : P.length ≤ 30
theorem ahead_irr (p : Pt) : ahead p p = false := by
  unfold ahead
  rw [decide_eq_false (Int.lt_irrefl _), decide_eq_false (Int.lt_irrefl _), Bool.and_false, Bool.or_false]
theorem VP.pts {P : List Pt} (h : VP P) : Pts 20 P :=
  ⟨fun p hp => ⟨(h.x p hp).f, (h.y p hp).f⟩, fun p hp => ⟨(h.x p hp).qb, (h.y p hp).qb⟩, h.asc.imp fun {p q} a e => by rw [e, ahead_irr] at a; cases a⟩
theorem long2 (p : Q2) (b : Bx) : f_is_long [fr p, .int 2] b = .ok (.bl true) b := by kernel_rfl
theorem nums2 (p : Q2) (b : Bx) : f_are_numbers [fr p] b = .ok (.bl true) b := by kernel_rfl
theorem is_fraction_ok {p : Q2} (h : Fr p) (b : Bx) : f_is_fraction_in [fr p] b = .ok (.bl true) b := by
  refine v_run rfl (v_ret (d := .bl true) (v_andT (v_call (v_acons (v_var rfl) rfl (v_acons v_c rfl v_nil)) (long2 p b)) (v_andT (v_call (v_acons (v_var rfl) rfl v_nil) (nums2 p b)) (v_andT (b1 := b) (v_bin (v_bin (v_var rfl) v_c rfl) v_c ?_) (v_bin (v_call (v_acons (v_bin (v_var rfl) v_c rfl) rfl (v_acons (v_bin (v_var rfl) v_c rfl) rfl v_nil)) (common_ok _ _ b)) v_c ?_)))) rfl)
  · show Res.ok (D.bl (decide ((0 : Int) < p.2))) b = _
    rw [decide_eq_true h.pos]
  · show Res.ok (D.bl (decide (((Int.gcd p.1 p.2 : Nat) : Int) = 1))) b = _
    rw [h.cop]
    rfl
theorem is_near_ok {p : Q2} (h : Nr p) (b : Bx) : f_is_near_fraction [fr p] b = .ok (.bl true) b := by
  refine v_run rfl (v_ret (d := .bl true) (v_andT (v_call (v_acons (v_var rfl) rfl v_nil) (is_fraction_ok h.f b)) (v_bin (v_b (v_bcons (v_b (v_bcons (v_bin (v_var rfl) v_c rfl) v_nil) (abs_ok _ b)) (v_bcons (v_bin (v_var rfl) v_c rfl) v_nil)) rfl) v_c ?_)) rfl)
  show Res.ok (D.bl (decide (maxI (p.1.natAbs : Int) p.2 ≤ 1000000))) b = _
  have := h.a
  have := h.b
  rw [decide_eq_true (by unfold maxI; split <;> omega)]
theorem bools_map : ∀ bs : List Bool, boolsOf (bs.map D.bl) = some bs
  | [] => rfl
  | x :: xs => by
    rw [List.map_cons, boolsOf, bools_map xs]
    rfl
theorem all_ok (bs : List Bool) (b : Bx) : allD [.lst (bs.map D.bl)] b = .ok (.bl (bs.all id)) b := by
  show onBools (fun bs => .bl (bs.all id)) (.lst (bs.map D.bl)) b = _
  unfold onBools D.lseq
  simp only [bools_map]
  rfl
/-- all([.. for ..]) -/
theorem v_all {α : Type} {its : DEnv → M (List D)} {vs : List Nat} {kk : D → DEnv → Option DEnv} {f : DEnv → M D} {ρ : DEnv} {b : Bx} (enc : α → D) (p : α → Bool) (xs : List α) (hi : its ρ b = .ok (xs.map enc) b) (hl : xs.length < 100000)
    (h : ∀ x ∈ xs, ∃ ρ1, kk (enc x) (wipeD ρ vs) = some ρ1 ∧ f ρ1 b = .ok (.bl (p x)) b) : eB allD (bCons (eF (fComp its vs kk tYesD f)) aNil) ρ b = .ok (.bl (xs.all p)) b := by
  have e := comp_map (b := b) (vs := vs) (kk := kk) (f := f) (ρ := ρ) enc (fun x => .bl (p x)) xs fun x hx => by
    obtain ⟨ρ1, h1, h2⟩ := h x hx
    exact ⟨ρ1, h1, h2, rfl⟩
  have e2 : xs.map (fun x => D.bl (p x)) = (xs.map p).map D.bl := by rw [List.map_map]; rfl
  rw [e2] at e
  refine v_b (v_bcons (v_f (v_comp hi (by rw [List.length_map]; exact hl) e)) v_nil) ((all_ok _ b).trans ?_)
  rw [List.all_map]
  rfl
theorem is_point_ok {p : Pt} (h : FrP p) (b : Bx) : f_is_point_in [pt p] b = .ok (.bl true) b := by
  have e : f_is_long [pt p, .int 2] b = .ok (.bl true) b := by kernel_rfl
  refine v_run rfl (v_ret (d := .bl true) (v_andT (v_call (v_acons (v_var rfl) rfl (v_acons v_c rfl v_nil)) e) (v_all fr (fun _ => true) [p.1, p.2] rfl (Nat.le_of_ble_eq_true rfl) fun x hx => ⟨_, rfl, v_call (v_acons (v_var rfl) rfl v_nil) (is_fraction_ok ?_ b)⟩)) rfl)
  simp only [List.mem_cons, List.not_mem_nil, or_false] at hx
  rcases hx with rfl | rfl
  · exact h.x
  · exact h.y
def prD (z : Pt × Pt) : D := .tup [pt z.1, pt z.2]
theorem zip_pts : ∀ (P R : List Pt), zipD (P.map pt) (R.map pt) = (P.zip R).map prD
  | [], _ => rfl
  | p :: P, [] => rfl
  | p :: P, r :: R => by
    rw [List.map_cons, List.map_cons, zipD, zip_pts P R]
    rfl
theorem cut1 (xs : List D) : Pu.cutD xs (some 1) none = xs.drop 1 := by
  unfold Pu.cutD
  rw [HT.sIx_none, show (some (1 : Int)) = some ((1 : Nat) : Int) from rfl, HT.sIx_nat]
  by_cases h : 1 ≤ xs.length
  · rw [Nat.min_eq_left h]
    exact List.take_of_length_le (by rw [List.length_drop]; omega)
  · have : xs = [] := List.eq_nil_of_length_eq_zero (by omega)
    subst this
    rfl
theorem zip_tail {P : List Pt} (h : P.Pairwise fun p q => ahead p q = true) : ∀ z ∈ P.zip (P.drop 1), ahead z.1 z.2 = true := by
  induction P with
  | nil => intro z hz; cases hz
  | cons p P ih =>
    obtain ⟨h1, h2⟩ := List.pairwise_cons.mp h
    intro z hz
    cases P with
    | nil => cases hz
    | cons q P =>
      rw [List.drop_succ_cons, List.drop_zero, List.zip_cons_cons] at hz
      rcases List.mem_cons.mp hz with rfl | hz
      · exact h1 q List.mem_cons_self
      · exact ih h2 z (by rw [List.drop_succ_cons, List.drop_zero]; exact hz)
theorem are_points_ok {P : List Pt} (h : VP P) (b : Bx) : f_are_points_in [.tup (P.map pt)] b = .ok (.bl true) b := by
  have lo := h.lo
  have hi := h.hi
  have t1 : tOrD (tNotD (tTr (eIsi "tuple" (eVar 0)))) (tOrD (tB (eBin ltD (eB lenD (bCons (eVar 0) aNil)) (eC (.int (3))))) (tNotD (tTr (eB allD (bCons (eF (fComp (iSeqD (eVar 0)) [1] (gVar 1) tYesD (eCall f_is_point_in (aCons (eVar 1) aNil)))) aNil))))) (startD 4 [.tup (P.map pt)]) b = .ok false b := by
    refine v_tOrF (b1 := b) rfl (v_tOrF (b1 := b) (v_tB (v_bin (v_b (v_bcons (v_var rfl) v_nil) rfl) v_c ?_)) (v_tNot (c := true) (v_tTr (b1 := b) (v_all pt (fun _ => true) P rfl (by omega) fun x hx => ⟨_, rfl, v_call (v_acons (v_var rfl) rfl v_nil) (is_point_ok ⟨(h.x x hx).f, (h.y x hx).f⟩ b)⟩) ?_)))
    · show Res.ok (D.bl (decide (((P.map pt).length : Int) < 3))) b = _
      rw [List.length_map, decide_eq_false (by omega)]
    · rw [List.all_eq_true.mpr fun _ _ => rfl]
      rfl
  have z1 : iZipD (aCons (eVar 0) (aCons (eSl (eVar 0) (oSome (eC (.int 1))) oNone) aNil)) (startD 4 [.tup (P.map pt)]) b = .ok ((P.zip (P.drop 1)).map prD) b := by
    unfold iZipD
    rw [bindA, v_acons (v_var rfl) rfl (v_acons (d := .tup (Pu.cutD (P.map pt) (some 1) none)) rfl rfl v_nil), okB]
    show Res.ok (zipD (P.map pt) (Pu.cutD (P.map pt) (some 1) none)) b = _
    rw [cut1, ← List.map_drop, zip_pts]
  refine v_run rfl (v_seq (v_ifF t1 rfl rfl) (v_ret (v_all prD (fun z => ahead z.1 z.2) (P.zip (P.drop 1)) z1 (by rw [List.length_zip]; omega) fun z hz => ⟨_, rfl, v_call (v_acons (v_var rfl) rfl (v_acons (v_var rfl) rfl v_nil)) (is_ahead_ok (h.pts.bd _ (List.of_mem_zip hz).1) (h.pts.bd _ (List.mem_of_mem_drop (List.of_mem_zip hz).2)) (by omega) b)⟩) ?_))
  rw [List.all_eq_true.mpr fun z hz => zip_tail h.asc z hz]
  rfl
end Lw

set_option Elab.async false
set_option linter.all false
set_option maxRecDepth 100000
set_option maxHeartbeats 4000000
/-! typed: sure_points; rows in order -/
namespace Lw
open PySem PySem.Spec PyProof.Rows L2 Pu Ma
theorem comp2_map {α : Type} {vs vs1 : List Nat} {k k1 : D → DEnv → Option DEnv} {fs1 : DEnv → M (List D)} {t1 : DEnv → M Bool} {f : DEnv → M D} {ρ : DEnv} {b : Bx} (enc : α → D) (g : α → List D) : ∀ (xs : List α), (∀ x ∈ xs, ∃ ρ1 ds1, k (enc x) (wipeD ρ vs) = some ρ1 ∧ fs1 ρ1 b = .ok ds1 b ∧ ds1.length < 1000 ∧ compL vs1 k1 t1 f ρ1 ds1 b = .ok (g x) b) → compL2 vs k tYesD fs1 vs1 k1 t1 f ρ (xs.map enc) b = .ok (xs.flatMap g) b
  | [], _ => rfl
  | x :: xs, h => by
    obtain ⟨ρ1, ds1, h1, h2, h3, h4⟩ := h x List.mem_cons_self
    have ih := comp2_map (vs := vs) (vs1 := vs1) (k := k) (k1 := k1) (fs1 := fs1) (t1 := t1) (f := f) (ρ := ρ) (b := b) enc g xs fun y hy => h y (List.mem_cons_of_mem _ hy)
    rw [List.map_cons, compL2, h1]
    show (noX (tYesD ρ1) >>= fun c => if c = true then noX (fs1 ρ1) >>= fun ds1 => if ds1.length < 1000 then compL vs1 k1 t1 f ρ1 ds1 >>= fun ys => compL2 vs k tYesD fs1 vs1 k1 t1 f ρ (xs.map enc) >>= fun zs => pure (ys ++ zs) else stuck else compL2 vs k tYesD fs1 vs1 k1 t1 f ρ (xs.map enc)) b = _
    rw [bindA, show noX (tYesD ρ1) b = .ok true b from rfl, okB, if_pos rfl, bindA, show noX (fs1 ρ1) b = .ok ds1 b by unfold noX; rw [h2], okB, if_pos h3, bindA, h4, okB, bindA, ih, okB]
    rfl
theorem sure_points_ok {P : List Pt} {x : D} {n : Nat} (h : VP P) (m : Mx n x (.tup (P.map pt))) (hn : n < 12) (b : Bx) : f_sure_points [x] b = .ok (.tup (P.map pt)) b := by
  have lo := h.lo
  have hi := h.hi
  have e1 : f_tupled [x] b = .ok (.tup (P.map pt)) b := tupled_ok b n 12 x _ m hn
  have c1 : tOrD (tNotD (tTr (eCall f_are_points_in (aCons (eVar 1) aNil)))) (tB (eBin gtD (eB lenD (bCons (eVar 1) aNil)) (eC (.int (30))))) [some x, some (.tup (P.map pt)), none, none] b = .ok false b := by
    refine v_tOrF (b1 := b) (v_tNot (c := true) (v_tTr (b1 := b) (v_call (v_acons (v_var rfl) rfl v_nil) (are_points_ok h b)) rfl)) (v_tB (v_bin (v_b (v_bcons (v_var rfl) v_nil) rfl) v_c ?_))
    show Res.ok (D.bl (decide ((30 : Int) < ((P.map pt).length : Int)))) b = _
    rw [List.length_map, decide_eq_false (by omega)]
  have c2 : compL2 [2, 3] (gVar 2) tYesD (iSeqD (eVar 2)) [3] (gVar 3) tYesD (eCall f_is_near_fraction (aCons (eVar 3) aNil)) [some x, some (.tup (P.map pt)), none, none] (P.map pt) b = .ok (P.flatMap fun _ => [D.bl true, D.bl true]) b :=
    comp2_map pt (fun _ => [D.bl true, D.bl true]) P fun p hp => ⟨_, [fr p.1, fr p.2], rfl, rfl, Nat.le_of_ble_eq_true rfl, comp_map fr (fun _ => D.bl true) [p.1, p.2] fun q hq => ⟨_, rfl, v_call (v_acons (v_var rfl) rfl v_nil) (is_near_ok (by
      simp only [List.mem_cons, List.not_mem_nil, or_false] at hq
      rcases hq with rfl | rfl
      · exact h.x p hp
      · exact h.y p hp) b), rfl⟩⟩
  have e2 : (P.flatMap fun _ => [D.bl true, D.bl true]) = (P.flatMap fun _ => [true, true]).map D.bl := by
    rw [List.map_flatMap]
    rfl
  have c3 : tNotD (tTr (eB allD (bCons (eF (fComp2 (iSeqD (eVar 1)) [2, 3] (gVar 2) tYesD (iSeqD (eVar 2)) [3] (gVar 3) tYesD (eCall f_is_near_fraction (aCons (eVar 3) aNil)))) aNil))) [some x, some (.tup (P.map pt)), none, none] b = .ok false b := by
    refine v_tNot (c := true) (v_tTr (d := .bl true) (b1 := b) (v_b (v_bcons (v_f (b1 := b) (ds := (P.flatMap fun _ => [true, true]).map D.bl) ?_) v_nil) ((all_ok _ b).trans ?_)) rfl)
    · unfold fComp2
      rw [bindA, show iSeqD (eVar 1) [some x, some (.tup (P.map pt)), none, none] b = .ok (P.map pt) b from rfl, okB, if_pos (by rw [List.length_map]; omega), c2, e2]
    · rw [List.all_eq_true.mpr fun c hc => by
        obtain ⟨_, _, h⟩ := List.mem_flatMap.mp hc
        simp only [List.mem_cons, List.not_mem_nil, or_false] at h
        rcases h with rfl | rfl <;> rfl]
  exact v_run rfl (v_seq (b1 := b) (ρ' := [some x, some (.tup (P.map pt)), none, none]) (v_set (v_call (v_acons (v_var rfl) m.chk.1 v_nil) e1) rfl) (v_seq (v_ifF c1 rfl rfl) (v_seq (v_ifF c3 rfl rfl) (v_ret (v_var rfl) rfl))))
/-! ### rows of whole numbers, in Python's order -/
def rowD (v : List Int) : D := .tup (v.map D.int)
def toks (v : List Int) : List (Int ⊕ List Nat) := PySem.W.keyToks (rowD v).py
theorem toks_nil : toks [] = [.inl 0] := by
  unfold toks rowD
  rw [List.map_nil, D.py, D.pys, PySem.W.keyToks, PySem.W.keyToksAll]
theorem toks_cons (a : Int) (v : List Int) : toks (a :: v) = .inl 1 :: .inl a :: toks v := by
  unfold toks rowD
  rw [List.map_cons, D.py, D.py, D.pys, PySem.W.keyToks, PySem.W.keyToks, PySem.W.keyToksAll, D.py, PySem.W.keyToks]
  rfl
theorem toks_inj : ∀ {v w : List Int}, toks v = toks w → v = w
  | [], [], _ => rfl
  | [], c :: w, h => by
    rw [toks_nil, toks_cons] at h
    injection h with h1 _
    cases h1
  | a :: v, [], h => by
    rw [toks_nil, toks_cons] at h
    injection h with h1 _
    cases h1
  | a :: v, c :: w, h => by
    rw [toks_cons, toks_cons] at h
    injection h with _ h
    injection h with h1 h
    cases h1
    rw [toks_inj h]
/-- v stands ahead of w -/
def RL (v w : List Int) : Prop := PyProof.Rows.lexLt PyProof.Rows.itemOrd (toks v) (toks w) = true
theorem rl_irr (v : List Int) : ¬ RL v v := fun h => by
  have := (PyProof.Rows.listOrd PyProof.Rows.itemOrd).irrefl (toks v)
  have h : (PyProof.Rows.listOrd PyProof.Rows.itemOrd).blt (toks v) (toks v) = true := h
  rw [this] at h
  cases h
theorem rl_trans (u v w : List Int) (h1 : RL u v) (h2 : RL v w) : RL u w := (PyProof.Rows.listOrd PyProof.Rows.itemOrd).trans _ _ _ h1 h2
theorem rl_total {v w : List Int} (h : v ≠ w) : RL v w ∨ RL w v := by
  by_cases a : RL v w
  · exact .inl a
  · by_cases c : RL w v
    · exact .inr c
    · refine absurd (toks_inj ((PyProof.Rows.listOrd PyProof.Rows.itemOrd).total _ _ ?_ ?_)) h
      · exact Bool.eq_false_iff.mpr a
      · exact Bool.eq_false_iff.mpr c
theorem lto_rows (v w : List Int) : ltoD (rowD v) (rowD w) = true ↔ ¬ RL w v := by
  show (!PyProof.Rows.lexLt PyProof.Rows.itemOrd (toks w) (toks v)) = true ↔ _
  unfold RL
  cases PyProof.Rows.lexLt PyProof.Rows.itemOrd (toks w) (toks v) <;> simp
theorem rl_cons {a : Int} {v w : List Int} (h : RL v w) : RL (a :: v) (a :: w) := by
  unfold RL
  rw [toks_cons, toks_cons]
  exact (PySem.W.lex_pre [.inl 1, .inl a] _ _).trans h
theorem rl_lt {a c : Int} {v w : List Int} (h : a < c) : RL (a :: v) (c :: w) := by
  unfold RL
  rw [toks_cons, toks_cons]
  refine (PySem.W.lex_pre [.inl 1] _ _).trans ?_
  show (PyProof.Rows.itemLt (.inl a) (.inl c) || _) = true
  rw [show PyProof.Rows.itemLt (.inl a) (.inl c) = decide (a < c) from rfl, decide_eq_true h]
  rfl
/-- sorted: any list in order, of the same rows -/
theorem sort_rows {xs ys : List (List Int)} (nd : xs.Nodup) (hy : ys.Pairwise RL) (h : ∀ x, x ∈ xs ↔ x ∈ ys) : isort ltoD (xs.map rowD) = ys.map rowD := by
  rw [← isort_map (le := ltoD) (le' := fun a c => ltoD (rowD a) (rowD c)) rowD (fun a c => rfl)]
  congr 1
  have tl : PySem.W.TotalLe fun a c : List Int => ltoD (rowD a) (rowD c) := PySem.W.sortLe_total (PyProof.Rows.listOrd PyProof.Rows.itemOrd) false fun v : List Int => toks v
  have pm := isort_perm (fun a c => ltoD (rowD a) (rowD c)) xs
  have nd2 : (isort (fun a c => ltoD (rowD a) (rowD c)) xs).Nodup := pm.nodup_iff.mpr nd
  refine sorted_ext rl_irr rl_trans ?_ hy fun x => pm.mem_iff.trans (h x)
  refine List.Pairwise.imp₂ (R := fun a c => ltoD (rowD a) (rowD c) = true) (S := fun a c => a ≠ c) ?_ (isort_pw tl xs) nd2
  intro a c h1 h2
  rcases rl_total h2 with r | r
  · exact r
  · exact absurd r ((lto_rows a c).mp h1)
end Lw

set_option Elab.async false
set_option linter.all false
set_option maxRecDepth 100000
set_option maxHeartbeats 4000000
/-! typed: the law's own lines, part 1 -/
namespace Lw
open PySem PySem.Spec PyProof.Rows L2 Pu Ma
abbrev gcB : DEnv → M Out := sSeq (sIf (tB (eBin eqD (eVar 1) (eC (.int 0)))) sBreak sNext) (sPar 0 1 (aCons (eVar 1) (aCons (eBin modD (eVar 0) (eVar 1)) aNil)))
theorem gc_stop (m : Nat) (e : Option D) (d : D) (ds : List D) (b : Bx) : forL (gVar 2) gcB (d :: ds) [some (.int m), some (.int 0), e] b = .ok (.nx [some (.int m), some (.int 0), some d]) b := rfl
theorem gc_go {m n : Nat} (h : n ≠ 0) (e : Option D) (d : D) (ds : List D) (b : Bx) : forL (gVar 2) gcB (d :: ds) [some (.int m), some (.int n), e] b = forL (gVar 2) gcB ds [some (.int n), some (.int ((m % n : Nat) : Int)), some d] b := by
  have nz : (n : Int) ≠ 0 := by omega
  have em : ((m % n : Nat) : Int) = (m : Int).fmod n := by rw [Int.fmod_eq_emod_of_nonneg _ (by omega), ← Int.natCast_emod]
  refine v_forC (ρ1 := [some (.int m), some (.int n), some d]) (b1 := b) rfl (v_seq (b1 := b) (ρ' := [some (.int m), some (.int n), some d]) (v_ifF (c := false) (b1 := b) (v_tB (v_bin (v_var rfl) v_c ((eqI _ _ _).trans ?_))) rfl rfl) (v_par (v_acons (v_var rfl) rfl (v_acons (v_bin (v_var rfl) (v_var rfl) (mod_ok nz _)) rfl v_nil)))) ?_
  · rw [decide_eq_false nz]
  · rw [← em]
    rfl
theorem gc_for (b : Bx) : ∀ (s m n : Nat) (e : Option D) (ds : List D), n < 2 ^ s → 2 * s + 1 ≤ ds.length → ∃ e', forL (gVar 2) gcB ds [some (.int m), some (.int n), e] b = .ok (.nx [some (.int (Nat.gcd m n)), some (.int 0), e']) b
  | 0, m, n, e, ds, hn, hl => by
    have z : n = 0 := by omega
    subst z
    cases ds with
    | nil => cases hl
    | cons d ds => exact ⟨some d, by rw [Nat.gcd_zero_right]; exact gc_stop m e d ds b⟩
  | s + 1, m, n, e, ds, hn, hl => by
    rw [Nat.pow_succ] at hn
    cases ds with
    | nil => cases hl
    | cons d ds =>
      cases ds with
      | nil => rw [List.length_singleton] at hl; omega
      | cons d2 ds =>
        rw [List.length_cons, List.length_cons] at hl
        by_cases z : n = 0
        · subst z
          exact ⟨some d, by rw [Nat.gcd_zero_right]; exact gc_stop m e d _ b⟩
        · rw [gc_go z]
          have r1 := Nat.mod_lt m (Nat.pos_of_ne_zero z)
          by_cases z2 : m % n = 0
          · refine ⟨some d2, ?_⟩
            rw [z2]
            refine (gc_stop n (some d) d2 ds b).trans ?_
            rw [Nat.gcd_comm m n, Nat.gcd_rec n m, z2, Nat.gcd_zero_left]
          · rw [gc_go z2]
            have lt : n % (m % n) < 2 ^ s := by
              rcases Nat.lt_or_ge (2 ^ s) (m % n) with h | h
              · have e1 : n % (m % n) = n - m % n := by
                  rw [Nat.mod_eq_sub_mod (Nat.le_of_lt r1), Nat.mod_eq_of_lt (by omega)]
                omega
              · exact Nat.lt_of_lt_of_le (Nat.mod_lt n (Nat.pos_of_ne_zero z2)) h
            obtain ⟨e', q⟩ := gc_for b s (m % n) (n % (m % n)) (some d2) ds lt (by omega)
            refine ⟨e', q.trans ?_⟩
            rw [Nat.gcd_comm m n, Nat.gcd_rec n m, Nat.gcd_comm (m % n) n, Nat.gcd_comm n (m % n), Nat.gcd_rec (m % n) n, Nat.gcd_comm]
theorem law_gcd_ok {a c : Int} {s : Nat} (hc : Bd s c) (hs : s ≤ 4000) (b : Bx) : f__law_gcd [.int a, .int c] b = .ok (.int (Int.gcd a c : Nat)) b := by
  have e1 : iRng1D (aCons (eC (.int 9000)) aNil) [some (.int a.natAbs), some (.int c.natAbs), none] b = .ok (rangeD 0 9000) b := rfl
  obtain ⟨e', q⟩ := gc_for b s a.natAbs c.natAbs none (rangeD 0 9000) hc (by unfold rangeD; rw [List.length_map, List.length_range]; omega)
  refine v_run (b1 := b) rfl (v_seq (ρ' := [some (.int a.natAbs), some (.int c.natAbs), none]) (b1 := b) (v_par (v_acons (v_b (v_bcons (v_var rfl) v_nil) (abs_ok a b)) rfl (v_acons (v_b (v_bcons (v_var rfl) v_nil) (abs_ok c b)) rfl v_nil))) (v_seq (ρ' := [some (.int (Nat.gcd a.natAbs c.natAbs)), some (.int 0), e']) (b1 := b) ?_ (v_ret (v_var rfl) rfl)))
  show (iRng1D (aCons (eC (.int 9000)) aNil) [some (.int a.natAbs), some (.int c.natAbs), none] >>= fun ds => forL (gVar 2) gcB ds [some (.int a.natAbs), some (.int c.natAbs), none]) b = _
  rw [bindA, e1, okB]
  exact q
def lc (a d : Int) : Int := (a * d).fdiv (Int.gcd a d : Nat)
theorem lc_spec {a d : Int} (ha : 0 < a) (hd : 0 < d) : 0 < lc a d ∧ a ∣ lc a d ∧ d ∣ lc a d ∧ (lc a d).natAbs ≤ (a * d).natAbs := by
  have g0 : (0 : Int) < (Int.gcd a d : Nat) := by
    have : Int.gcd a d ≠ 0 := fun z => by have := (Int.gcd_eq_zero_iff.mp z).1; omega
    omega
  obtain ⟨x, hx⟩ := Int.gcd_dvd_left a d
  obtain ⟨y, hy⟩ := Int.gcd_dvd_right a d
  unfold lc
  generalize (Int.gcd a d : Int) = g at *
  have x0 : 0 < x := by
    rcases Int.lt_trichotomy x 0 with h | h | h
    · have := Int.mul_neg_of_pos_of_neg g0 h; omega
    · rw [h, Int.mul_zero] at hx; omega
    · exact h
  have y0 : 0 < y := by
    rcases Int.lt_trichotomy y 0 with h | h | h
    · have := Int.mul_neg_of_pos_of_neg g0 h; omega
    · rw [h, Int.mul_zero] at hy; omega
    · exact h
  have e : (a * d).fdiv g = g * x * y := fd (by omega) (by rw [hx, hy]; grind)
  rw [e]
  refine ⟨Int.mul_pos (Int.mul_pos g0 x0) y0, ⟨y, by rw [hx]⟩, ⟨x, by rw [hy]; grind⟩, ?_⟩
  have : a * d = g * x * y * g := by rw [hx, hy]; grind
  rw [this, Int.natAbs_mul (g * x * y)]
  exact Nat.le_mul_of_pos_right _ (by omega)
/-- a point, all whole numbers over B -/
def sp (B : Int) (p : Pt) : Int × Int := (p.1.1 * B.fdiv p.1.2, p.2.1 * B.fdiv p.2.2)
def prI (z : Int × Int) : D := .tup [.int z.1, .int z.2]
abbrev spB : DEnv → M Out := sSeq (sSet 1 (eBin fdivD (eBin mulD (eVar 1) (eBin ixD (eVar 2) (eC (.int 1)))) (eCall f__law_gcd (aCons (eVar 1) (aCons (eBin ixD (eVar 2) (eC (.int 1))) aNil))))) (sSet 1 (eBin fdivD (eBin mulD (eVar 1) (eBin ixD (eVar 3) (eC (.int 1)))) (eCall f__law_gcd (aCons (eVar 1) (aCons (eBin ixD (eVar 3) (eC (.int 1))) aNil)))))
theorem gcd_ne {a d : Int} (hd : 0 < d) : ((Int.gcd a d : Nat) : Int) ≠ 0 := fun z => by
  have : Int.gcd a d = 0 := by omega
  have := (Int.gcd_eq_zero_iff.mp this).2
  omega
theorem gcd_bd {n : Nat} {a d : Int} (hd : 0 < d) (h : Bd n d) : Bd n (Int.gcd a d : Nat) := h.le (Nat.le_of_dvd (by omega) (Int.natAbs_dvd_natAbs.mpr (Int.gcd_dvd_right a d)))
theorem sp_for (b : Bx) (x0 : D) : ∀ (P : List Pt) (B : Int) (n : Nat) (e2 e3 : Option D), (∀ p ∈ P, QB 20 p.1 ∧ QB 20 p.2) → 0 < B → Bd n B → n + 40 * P.length ≤ 3000 → ∃ (B' : Int) (e2' e3' : Option D), forL (gTupD 2 (gConsD (gVar 2) (gConsD (gVar 3) gNilD))) spB (P.map pt) [some x0, some (.int B), e2, e3] b = .ok (.nx [some x0, some (.int B'), e2', e3']) b ∧ 0 < B' ∧ B ∣ B' ∧ (∀ p ∈ P, p.1.2 ∣ B' ∧ p.2.2 ∣ B') ∧ Bd (n + 40 * P.length) B'
  | [], B, n, e2, e3, _, h0, hb, _ => ⟨B, e2, e3, rfl, h0, Int.dvd_refl _, fun _ h => (by cases h), hb⟩
  | p :: P, B, n, e2, e3, hp, h0, hb, hn => by
    rw [List.length_cons] at hn
    obtain ⟨qx, qy⟩ := hp p List.mem_cons_self
    obtain ⟨a1, a2, a3, a4⟩ := lc_spec h0 qx.pos
    have hb1 : Bd (n + 20) (lc B p.1.2) := (hb.mul qx.b2).le a4
    obtain ⟨c1, c2, c3, c4⟩ := lc_spec a1 qy.pos
    have hb2 : Bd (n + 20 + 20) (lc (lc B p.1.2) p.2.2) := (hb1.mul qy.b2).le c4
    obtain ⟨B', e2', e3', q, k0, k1, k2, k3⟩ := sp_for b x0 P (lc (lc B p.1.2) p.2.2) (n + 20 + 20) (some (fr p.1)) (some (fr p.2)) (fun r hr => hp r (List.mem_cons_of_mem _ hr)) c1 hb2 (by omega)
    refine ⟨B', e2', e3', v_forC (ρ2 := [some x0, some (.int (lc (lc B p.1.2) p.2.2)), some (fr p.1), some (fr p.2)]) (b1 := b) rfl ?_ q, k0, Int.dvd_trans (Int.dvd_trans a2 c2) k1, fun r hr => ?_, ?_⟩
    · refine v_seq (ρ' := [some x0, some (.int (lc B p.1.2)), some (fr p.1), some (fr p.2)]) (b1 := b) ?_ ?_
      · exact v_set (v_bin (v_bin (v_var rfl) (v_bin (v_var rfl) v_c rfl) (mul_bd hb qx.b2 _)) (v_call (v_acons (v_var rfl) rfl (v_acons (v_bin (v_var rfl) v_c rfl) rfl v_nil)) (law_gcd_ok qx.b2 (by omega) b)) (fdiv_bd (gcd_ne qx.pos) (gcd_bd qx.pos qx.b2) _)) rfl
      · exact v_set (v_bin (v_bin (v_var rfl) (v_bin (v_var rfl) v_c rfl) (mul_bd hb1 qy.b2 _)) (v_call (v_acons (v_var rfl) rfl (v_acons (v_bin (v_var rfl) v_c rfl) rfl v_nil)) (law_gcd_ok qy.b2 (by omega) b)) (fdiv_bd (gcd_ne qy.pos) (gcd_bd qy.pos qy.b2) _)) rfl
    · rcases List.mem_cons.mp hr with rfl | hr
      · exact ⟨Int.dvd_trans (Int.dvd_trans a3 c2) k1, Int.dvd_trans c3 k1⟩
      · exact k2 r hr
    · rw [List.length_cons, show n + 40 * (P.length + 1) = n + 20 + 20 + 40 * P.length by omega]
      exact k3
theorem dvd_quot {d B : Int} {n : Nat} (hd : 0 < d) (hB : 0 < B) (h : d ∣ B) (hb : Bd n B) : 0 < B.fdiv d ∧ d * B.fdiv d = B ∧ Bd n (B.fdiv d) := by
  obtain ⟨x, hx⟩ := h
  have e : B.fdiv d = x := fd (by omega) hx
  rw [e]
  have x0 : 0 < x := by
    rcases Int.lt_trichotomy x 0 with h | h | h
    · have := Int.mul_neg_of_pos_of_neg hd h; omega
    · rw [h, Int.mul_zero] at hx; omega
    · exact h
  refine ⟨x0, hx.symm, hb.le ?_⟩
  rw [hx, Int.natAbs_mul]
  exact Nat.le_mul_of_pos_left _ (by omega)
theorem spread_ok {P : List Pt} (hp : ∀ p ∈ P, QB 20 p.1 ∧ QB 20 p.2) (hl : P.length ≤ 60) (b : Bx) : ∃ B : Int, 0 < B ∧ (∀ p ∈ P, p.1.2 ∣ B ∧ p.2.2 ∣ B) ∧ Bd 2500 B ∧ f__law_spread_out [.tup (P.map pt)] b = .ok (.lst ((P.map (sp B)).map prI)) b := by
  obtain ⟨B, e2, e3, q, k0, _, k2, k3⟩ := sp_for b (.tup (P.map pt)) P 1 1 none none hp (by decide) (by unfold Bd; decide) (by omega)
  have kb : Bd 2500 B := k3.mono (by omega)
  refine ⟨B, k0, k2, kb, ?_⟩
  refine v_run (b1 := b) rfl (v_seq (ρ' := [some (.tup (P.map pt)), some (.int 1), none, none]) (b1 := b) rfl (v_seq (b1 := b) (ρ' := [some (.tup (P.map pt)), some (.int B), e2, e3]) q (v_ret (v_f (b1 := b) (ds := (P.map (sp B)).map prI) ?_) rfl)))
  rw [List.map_map]
  refine v_comp (b1 := b) (ds := P.map pt) rfl (by rw [List.length_map]; omega) (comp_map pt (prI ∘ sp B) P fun p hpm => ⟨_, rfl, ?_, rfl⟩)
  obtain ⟨qx, qy⟩ := hp p hpm
  obtain ⟨dx, dy⟩ := k2 p hpm
  have zx := dvd_quot qx.pos k0 dx kb
  have zy := dvd_quot qy.pos k0 dy kb
  have px := qx.pos
  have py := qy.pos
  exact v_tup (v_acons (v_bin (v_bin (v_var rfl) v_c rfl) (v_bin (v_var rfl) (v_bin (v_var rfl) v_c rfl) (fdiv_bd (by omega) qx.b2 _)) (mul_bd qx.b1 zx.2.2 _)) rfl (v_acons (v_bin (v_bin (v_var rfl) v_c rfl) (v_bin (v_var rfl) (v_bin (v_var rfl) v_c rfl) (fdiv_bd (by omega) qy.b2 _)) (mul_bd qy.b1 zy.2.2 _)) rfl v_nil)) (Nat.le_of_ble_eq_true rfl)
end Lw

set_option Elab.async false
set_option linter.all false
set_option maxRecDepth 100000
set_option maxHeartbeats 4000000
/-! typed: the law's own lines, part 2 -/
namespace Lw
open PySem PySem.Spec PyProof.Rows L2 Pu Ma
/-! ### == of rows -/
theorem eqvs_ints : ∀ v w : List Int, D.eqvs (v.map D.int) (w.map D.int) = decide (v = w)
  | [], [] => rfl
  | [], c :: w => rfl
  | a :: v, [] => rfl
  | a :: v, c :: w => by
    rw [List.map_cons, List.map_cons, D.eqvs, eqvs_ints v w, D.eqv]
    by_cases h : a = c
    · by_cases h2 : v = w
      · simp [h, h2]
      · simp [h, h2]
    · simp [h]
theorem rowD_ok (v : List Int) : (rowD v).ok deep = true := by
  show D.ok (59 + 1) (.tup (v.map D.int)) = true
  rw [D.ok, oks_ints]
theorem eq_rows (v w : List Int) (b : Bx) : eqD (rowD v) (rowD w) b = .ok (.bl (decide (v = w))) b := by
  show (if ((rowD v).ok deep && (rowD w).ok deep) = true then pure (.bl (D.eqv (rowD v) (rowD w))) else stuck : M D) b = _
  rw [if_pos (by rw [rowD_ok, rowD_ok]; rfl)]
  show Res.ok (D.bl (D.eqv (.tup (v.map D.int)) (.tup (w.map D.int)))) b = _
  rw [D.eqv, eqvs_ints]
theorem cut2 (xs : List D) : Pu.cutD xs none (some 2) = xs.take 2 := by
  unfold Pu.cutD
  rw [HT.sIx_none, show (some (2 : Int)) = some ((2 : Nat) : Int) from rfl, HT.sIx_nat, List.drop_zero, Nat.sub_zero]
  by_cases h : 2 ≤ xs.length
  · rw [Nat.min_eq_left h]
  · rw [Nat.min_eq_right (by omega), List.take_of_length_le (Nat.le_refl _), List.take_of_length_le (by omega)]
theorem enum_map {α : Type} (f : α → D) (z : α) : ∀ (xs : List α) (k : Nat), enumFrom k (xs.map f) = (List.range xs.length).map fun i => .tup [.int ((k + i : Nat) : Int), f (xs.getD i z)]
  | [], _ => rfl
  | x :: xs, k => by
    rw [List.map_cons, enumFrom, enum_map f z xs (k + 1), List.length_cons, List.range_succ_eq_map, List.map_cons, List.map_map]
    congr 1
    apply List.map_congr_left
    intro i _
    show D.tup [.int ((k + 1 + i : Nat) : Int), f (xs.getD i z)] = .tup [.int ((k + (i + 1) : Nat) : Int), f ((x :: xs).getD (i + 1) z)]
    rw [show k + 1 + i = k + (i + 1) by omega]
    rfl
/-! ### rows of places -/
def row (P : List Pt) (j k : Nat) : List Nat := places P (ln P j k)
def rowsJ (P : List Pt) (j : Nat) (ks : List Nat) : List (List Int) := ks.filterMap fun k => if (row P j k).take 2 = [j, k] then some (rowI (row P j k)) else none
def from_ (j n : Nat) : List Nat := (List.range (n - (j + 1))).map fun i => j + 1 + i
def rowsL (P : List Pt) : List (List Int) := (List.range P.length).flatMap fun j => rowsJ P j (from_ j P.length)
/-- on one line, by whole numbers over B -/
theorem col_spots {P : List Pt} (hP : ∀ p ∈ P, FrP p) (nd : P.Nodup) {B : Int} (h0 : 0 < B) (hB : ∀ p ∈ P, p.1.2 ∣ B ∧ p.2.2 ∣ B) {j k m : Nat} (hj : j < P.length) (hk : k < P.length) (hm : m < P.length) (hjk : j ≠ k) :
    ((sp B (gp P k)).1 - (sp B (gp P j)).1) * ((sp B (gp P m)).2 - (sp B (gp P j)).2) = ((sp B (gp P k)).2 - (sp B (gp P j)).2) * ((sp B (gp P m)).1 - (sp B (gp P j)).1) ↔ On (ln P j k) (gp P m) := by
  have fj := hP _ (gp_mem hj)
  have fk := hP _ (gp_mem hk)
  have fm := hP _ (gp_mem hm)
  rw [show On (ln P j k) (gp P m) ↔ _ from on_line fj fk (gp_ne nd hj hk hjk) _]
  unfold Col
  have key : ∀ {p : Pt}, FrP p → (p.1.2 ∣ B ∧ p.2.2 ∣ B) → (sp B p).1 * (wh p).2.2 = B * (wh p).1 ∧ (sp B p).2 * (wh p).2.2 = B * (wh p).2.1 := fun {p} f d => by
    have zx := (dvd_quot (n := B.natAbs) f.x.pos h0 d.1 (by unfold Bd; exact Nat.lt_two_pow_self)).2.1
    have zy := (dvd_quot (n := B.natAbs) f.y.pos h0 d.2 (by unfold Bd; exact Nat.lt_two_pow_self)).2.1
    unfold sp wh
    simp only
    generalize B.fdiv p.1.2 = u at *
    generalize B.fdiv p.2.2 = v at *
    exact ⟨by rw [← zx]; grind, by rw [← zy]; grind⟩
  obtain ⟨a1, a2⟩ := key fj (hB _ (gp_mem hj))
  obtain ⟨c1, c2⟩ := key fk (hB _ (gp_mem hk))
  obtain ⟨e1, e2⟩ := key fm (hB _ (gp_mem hm))
  have wj := wh_pos fj
  have wk := wh_pos fk
  have wm := wh_pos fm
  generalize sp B (gp P j) = s at *
  generalize sp B (gp P k) = t at *
  generalize sp B (gp P m) = r at *
  generalize wh (gp P j) = u at *
  generalize wh (gp P k) = v at *
  generalize wh (gp P m) = w at *
  obtain ⟨s1, s2⟩ := s
  obtain ⟨t1, t2⟩ := t
  obtain ⟨r1, r2⟩ := r
  obtain ⟨u1, u2, u3⟩ := u
  obtain ⟨v1, v2, v3⟩ := v
  obtain ⟨w1, w2, w3⟩ := w
  simp only at *
  have main : ((t1 - s1) * (r2 - s2) - (t2 - s2) * (r1 - s1)) * (u3 * v3 * w3) = B * B * det (u1, u2, u3) (v1, v2, v3) (w1, w2, w3) := by
    have x1 : (t1 * v3) * (r2 * w3) * u3 = B * v1 * (B * w2) * u3 := by rw [c1, e2]
    have x2 : (t1 * v3) * (s2 * u3) * w3 = B * v1 * (B * u2) * w3 := by rw [c1, a2]
    have x3 : (s1 * u3) * (r2 * w3) * v3 = B * u1 * (B * w2) * v3 := by rw [a1, e2]
    have x4 : (t2 * v3) * (r1 * w3) * u3 = B * v2 * (B * w1) * u3 := by rw [c2, e1]
    have x5 : (t2 * v3) * (s1 * u3) * w3 = B * v2 * (B * u1) * w3 := by rw [c2, a1]
    have x6 : (s2 * u3) * (r1 * w3) * v3 = B * u2 * (B * w1) * v3 := by rw [a2, e1]
    unfold det dot cr
    simp only
    clear a1 a2 c1 c2 e1 e2
    grind
  constructor
  · intro h
    have z : ((t1 - s1) * (r2 - s2) - (t2 - s2) * (r1 - s1)) = 0 := by omega
    rw [z, Int.zero_mul] at main
    rcases Int.mul_eq_zero.mp main.symm with h | h
    · rcases Int.mul_eq_zero.mp h with h | h <;> omega
    · exact h
  · intro h
    rw [h, Int.mul_zero] at main
    rcases Int.mul_eq_zero.mp main with h | h
    · omega
    · rcases Int.mul_eq_zero.mp h with h | h
      · rcases Int.mul_eq_zero.mp h with h | h <;> omega
      · omega
abbrev llB : DEnv → M Out := sSeq (sAsg (gTupD 2 (gConsD (gVar 7) (gConsD (gVar 8) gNilD))) (eTup (aCons (eBin subD (eBin ixD (eBin ixD (eVar 2) (eVar 6)) (eC (.int 0))) (eVar 4)) (aCons (eBin subD (eBin ixD (eBin ixD (eVar 2) (eVar 6)) (eC (.int 1))) (eVar 5)) aNil)))) (sSeq (sSet 9 (eB tupD (bCons (eF (fComp (iEnumD (aCons (eVar 2) aNil)) [10, 11, 12] (gTupD 2 (gConsD (gVar 10) (gConsD (gTupD 2 (gConsD (gVar 11) (gConsD (gVar 12) gNilD))) gNilD))) (tB (eBin eqD (eBin mulD (eVar 7) (eBin subD (eVar 12) (eVar 5))) (eBin mulD (eVar 8) (eBin subD (eVar 11) (eVar 4))))) (eVar 10))) aNil))) (sIf (tB (eBin eqD (eSl (eVar 9) oNone (oSome (eC (.int 2)))) (eTup (aCons (eVar 3) (aCons (eVar 6) aNil))))) (sApp 1 (eVar 9)) sNext))
structure LwP (P : List Pt) (B : Int) : Prop where
  f : ∀ p ∈ P, FrP p
  q : ∀ p ∈ P, QB 20 p.1 ∧ QB 20 p.2
  nd : P.Nodup
  l : P.length ≤ 60
  h0 : 0 < B
  hB : ∀ p ∈ P, p.1.2 ∣ B ∧ p.2.2 ∣ B
  bd : Bd 2500 B
theorem LwP.sb {P : List Pt} {B : Int} (h : LwP P B) {p : Pt} (hp : p ∈ P) : Bd 2520 (sp B p).1 ∧ Bd 2520 (sp B p).2 := by
  obtain ⟨qx, qy⟩ := h.q p hp
  obtain ⟨dx, dy⟩ := h.hB p hp
  exact ⟨(qx.b1.mul (dvd_quot qx.pos h.h0 dx h.bd).2.2).mono (by omega), (qy.b1.mul (dvd_quot qy.pos h.h0 dy h.bd).2.2).mono (by omega)⟩
abbrev spt (P : List Pt) (B : Int) (i : Nat) : Int × Int := sp B (gp P i)
def spots (P : List Pt) (B : Int) : D := .lst ((P.map (sp B)).map prI)
theorem ix_spots {P : List Pt} {B : Int} {i : Nat} (h : i < P.length) (b : Bx) : ixD (spots P B) (.int (i : Int)) b = .ok (prI (spt P B i)) b := by
  have e1 : atI ((P.map (sp B)).map prI) (i : Int) = some (prI (spt P B i)) := by
    unfold atI ixN
    rw [if_pos (by omega), if_pos (by rw [List.length_map, List.length_map]; omega)]
    show ((P.map (sp B)).map prI)[(i : Int).toNat]? = _
    rw [Int.toNat_natCast, List.getElem?_map, List.getElem?_map, gp_get h]
    rfl
  show (match atI ((P.map (sp B)).map prI) (i : Int) with | some d => pure d | none => stuck : M D) b = _
  rw [e1]
  rfl
theorem getD_map {α β : Type} (f : α → β) (xs : List α) (i : Nat) (z : α) : (xs.map f).getD i (f z) = f (xs.getD i z) := by
  rw [List.getD_eq_getElem?_getD, List.getD_eq_getElem?_getD, List.getElem?_map]
  cases xs[i]? <;> rfl
theorem enum_spots {P : List Pt} {B : Int} (k : Nat) : enumFrom k ((P.map (sp B)).map prI) = (List.range P.length).map fun i => .tup [.int ((k + i : Nat) : Int), prI (spt P B i)] := by
  rw [enum_map prI (sp B p0), List.length_map]
  apply List.map_congr_left
  intro i _
  rw [getD_map]
section
variable {P : List Pt} {B : Int} {b : Bx}
theorem ll_step (h : LwP P B) {j k : Nat} (hj : j < P.length) (hk : k < P.length) (hjk : j < k) (F : List D) (hF : F.length < 100000) (x0 : D) (e7 e8 e9 : Option D) :
    llB [some x0, some (.own F), some (spots P B), some (.int j), some (.int (spt P B j).1), some (.int (spt P B j).2), some (.int k), e7, e8, e9, none, none, none] b =
      .ok (.nx [some x0, some (.own (F ++ ((if (row P j k).take 2 = [j, k] then some (rowI (row P j k)) else none).toList.map rowD))), some (spots P B), some (.int j), some (.int (spt P B j).1), some (.int (spt P B j).2), some (.int k), some (.int ((spt P B k).1 - (spt P B j).1)), some (.int ((spt P B k).2 - (spt P B j).2)), some (rowD (rowI (row P j k))), none, none, none]) b := by
  obtain ⟨bj1, bj2⟩ := h.sb (gp_mem hj)
  obtain ⟨bk1, bk2⟩ := h.sb (gp_mem hk)
  let ρ1 : DEnv := [some x0, some (.own F), some (spots P B), some (.int j), some (.int (spt P B j).1), some (.int (spt P B j).2), some (.int k), some (.int ((spt P B k).1 - (spt P B j).1)), some (.int ((spt P B k).2 - (spt P B j).2)), e9, none, none, none]
  have s1 : sAsg (gTupD 2 (gConsD (gVar 7) (gConsD (gVar 8) gNilD))) (eTup (aCons (eBin subD (eBin ixD (eBin ixD (eVar 2) (eVar 6)) (eC (.int 0))) (eVar 4)) (aCons (eBin subD (eBin ixD (eBin ixD (eVar 2) (eVar 6)) (eC (.int 1))) (eVar 5)) aNil))) [some x0, some (.own F), some (spots P B), some (.int j), some (.int (spt P B j).1), some (.int (spt P B j).2), some (.int k), e7, e8, e9, none, none, none] b = .ok (.nx ρ1) b := by
    unfold sAsg
    rw [bindA, v_tup (v_acons (v_bin (v_bin (v_bin (v_var rfl) (v_var rfl) (ix_spots hk b)) v_c rfl) (v_var rfl) rfl) rfl (v_acons (v_bin (v_bin (v_bin (v_var rfl) (v_var rfl) (ix_spots hk b)) v_c rfl) (v_var rfl) rfl) rfl v_nil)) (Nat.le_of_ble_eq_true rfl), okB]
    rfl
  have c1 : fComp (iEnumD (aCons (eVar 2) aNil)) [10, 11, 12] (gTupD 2 (gConsD (gVar 10) (gConsD (gTupD 2 (gConsD (gVar 11) (gConsD (gVar 12) gNilD))) gNilD))) (tB (eBin eqD (eBin mulD (eVar 7) (eBin subD (eVar 12) (eVar 5))) (eBin mulD (eVar 8) (eBin subD (eVar 11) (eVar 4))))) (eVar 10) ρ1 b = .ok ((row P j k).map fun i : Nat => D.int (i : Int)) b := by
    refine v_comp (b1 := b) (ds := (List.range P.length).map fun i => .tup [.int ((0 + i : Nat) : Int), prI (spt P B i)]) ?_ (by rw [List.length_map, List.length_range]; have := h.l; omega) ?_
    · rw [← enum_spots]
      rfl
    · refine comp_filter (fun i : Nat => .tup [.int ((0 + i : Nat) : Int), prI (spt P B i)]) (fun i : Nat => D.int (i : Int)) (fun i => decide (On (ln P j k) (gp P i))) (List.range P.length) fun i hi => ?_
      have hi := List.mem_range.mp hi
      obtain ⟨bi1, bi2⟩ := h.sb (gp_mem hi)
      refine ⟨_, rfl, v_tB (v_bin (v_bin (v_var rfl) (v_bin (v_var rfl) (v_var rfl) rfl) (mul_bd (bk1.sub bj1) (bi2.sub bj2) _)) (v_bin (v_var rfl) (v_bin (v_var rfl) (v_var rfl) rfl) (mul_bd (bk2.sub bj2) (bi1.sub bj1) _)) ((eqI _ _ _).trans ?_)), fun _ => ⟨(Pu.v_var rfl).trans ?_, rfl⟩⟩
      · congr 2
        exact decide_eq_decide.mpr (col_spots h.f h.nd h.h0 h.hB hj hk hi (by omega))
      · rw [Nat.zero_add]
  have er : (row P j k).map (fun i : Nat => D.int (i : Int)) = (rowI (row P j k)).map D.int := by
    unfold rowI
    rw [List.map_map]
    rfl
  have e2 : sSet 9 (eB tupD (bCons (eF (fComp (iEnumD (aCons (eVar 2) aNil)) [10, 11, 12] (gTupD 2 (gConsD (gVar 10) (gConsD (gTupD 2 (gConsD (gVar 11) (gConsD (gVar 12) gNilD))) gNilD))) (tB (eBin eqD (eBin mulD (eVar 7) (eBin subD (eVar 12) (eVar 5))) (eBin mulD (eVar 8) (eBin subD (eVar 11) (eVar 4))))) (eVar 10))) aNil)) ρ1 b = .ok (.nx (ρ1.set 9 (some (rowD (rowI (row P j k)))))) b := by
    refine v_set (d := rowD (rowI (row P j k))) (v_b (v_bcons (v_f c1) v_nil) ?_) rfl
    rw [er]
    rfl
  have t1 : tB (eBin eqD (eSl (eVar 9) oNone (oSome (eC (.int 2)))) (eTup (aCons (eVar 3) (aCons (eVar 6) aNil)))) (ρ1.set 9 (some (rowD (rowI (row P j k))))) b = .ok (decide ((row P j k).take 2 = [j, k])) b := by
    have es : eSl (eVar 9) oNone (oSome (eC (.int 2))) (ρ1.set 9 (some (rowD (rowI (row P j k))))) b = .ok (rowD ((rowI (row P j k)).take 2)) b := by
      show Res.ok (D.tup (Pu.cutD ((rowI (row P j k)).map D.int) none (some 2))) b = _
      rw [cut2, ← List.map_take]
      rfl
    refine v_tB (v_bin es (v_tup (v_acons (v_var rfl) rfl (v_acons (v_var rfl) rfl v_nil)) (Nat.le_of_ble_eq_true rfl)) ((eq_rows _ [(j : Int), (k : Int)] b).trans ?_))
    congr 2
    refine decide_eq_decide.mpr ?_
    unfold rowI
    rw [← List.map_take, show [(j : Int), (k : Int)] = [j, k].map Int.ofNat from rfl, List.map_inj_right (fun a c e => Int.ofNat.inj e)]
  refine v_seq s1 (v_seq e2 ?_)
  by_cases z : (row P j k).take 2 = [j, k]
  · rw [if_pos z]
    refine v_ifT t1 (decide_eq_true z) ?_
    show (eVar 9 (ρ1.set 9 (some (rowD (rowI (row P j k))))) >>= fun d => Pu.chk d >>= fun d => if F.length < 100000 then pure (Out.nx ((ρ1.set 9 (some (rowD (rowI (row P j k))))).set 1 (some (.own (F ++ [d]))))) else (stuck : M Out)) b = _
    rw [bindA, v_var (d := rowD (rowI (row P j k))) rfl, okB, show Pu.chk (rowD (rowI (row P j k))) = pure (rowD (rowI (row P j k))) from rfl, bindA, pureA, okB, if_pos hF]
    rfl
  · rw [if_neg z]
    refine v_ifF t1 (decide_eq_false z) ?_
    show Res.ok (Out.nx (ρ1.set 9 (some (rowD (rowI (row P j k)))))) b = _
    rw [Option.toList_none, List.map_nil, List.append_nil]
    rfl
theorem ll_inner (h : LwP P B) {j : Nat} (hj : j < P.length) (x0 : D) : ∀ (ks : List Nat) (F : List D) (e6 e7 e8 e9 : Option D), (∀ k ∈ ks, j < k ∧ k < P.length) → F.length + ks.length < 100000 → ∃ e6' e7' e8' e9', forL (gVar 6) llB (ks.map fun k : Nat => D.int (k : Int)) [some x0, some (.own F), some (spots P B), some (.int j), some (.int (spt P B j).1), some (.int (spt P B j).2), e6, e7, e8, e9, none, none, none] b =
      .ok (.nx [some x0, some (.own (F ++ (rowsJ P j ks).map rowD)), some (spots P B), some (.int j), some (.int (spt P B j).1), some (.int (spt P B j).2), e6', e7', e8', e9', none, none, none]) b
  | [], F, e6, e7, e8, e9, _, _ => ⟨e6, e7, e8, e9, by
    have e0 : F ++ (rowsJ P j []).map rowD = F := by
      unfold rowsJ
      rw [List.filterMap_nil, List.map_nil, List.append_nil]
    rw [e0]
    rfl⟩
  | k :: ks, F, e6, e7, e8, e9, hk, hl => by
    rw [List.length_cons] at hl
    obtain ⟨k1, k2⟩ := hk k List.mem_cons_self
    have st := ll_step (b := b) h hj k2 k1 F (by omega) x0 e7 e8 e9
    obtain ⟨a6, a7, a8, a9, q⟩ := ll_inner h hj x0 ks (F ++ ((if (row P j k).take 2 = [j, k] then some (rowI (row P j k)) else none).toList.map rowD)) (some (.int k)) (some (.int ((spt P B k).1 - (spt P B j).1))) (some (.int ((spt P B k).2 - (spt P B j).2))) (some (rowD (rowI (row P j k)))) (fun m hm => hk m (List.mem_cons_of_mem _ hm)) (by
      rw [List.length_append, List.length_map]
      split
      · show F.length + 1 + ks.length < 100000; omega
      · show F.length + 0 + ks.length < 100000; omega)
    refine ⟨a6, a7, a8, a9, v_forC rfl st (q.trans ?_)⟩
    have e : rowsJ P j (k :: ks) = (if (row P j k).take 2 = [j, k] then some (rowI (row P j k)) else none).toList ++ rowsJ P j ks := by
      unfold rowsJ
      rw [List.filterMap_cons]
      split
      · rename_i e; rw [e]; rfl
      · rename_i e; rw [e]; rfl
    rw [e, List.map_append, List.append_assoc]
end
end Lw

set_option Elab.async false
set_option linter.all false
set_option maxRecDepth 100000
set_option maxHeartbeats 4000000
/-! typed: the law's own lines, part 3; both ways the same rows -/
namespace Lw
open PySem PySem.Spec PyProof.Rows L2 Pu Ma
section
variable {P : List Pt} {B : Int} {b : Bx}
theorem rowsJ_len (P : List Pt) (j : Nat) (ks : List Nat) : (rowsJ P j ks).length ≤ ks.length := List.length_filterMap_le _ _
theorem from_len (j n : Nat) : (from_ j n).length = n - (j + 1) := by
  unfold from_
  rw [List.length_map, List.length_range]
theorem from_mem {j n k : Nat} : k ∈ from_ j n ↔ j < k ∧ k < n := by
  unfold from_
  rw [List.mem_map]
  constructor
  · rintro ⟨i, hi, rfl⟩
    have := List.mem_range.mp hi
    omega
  · rintro ⟨h1, h2⟩
    exact ⟨k - (j + 1), List.mem_range.mpr (by omega), by omega⟩
theorem ll_outer (h : LwP P B) (x0 : D) : ∀ (js : List Nat) (F : List D) (e3 e4 e5 e6 e7 e8 e9 : Option D), (∀ j ∈ js, j < P.length) → F.length + 100 * js.length < 50000 → ∃ e3' e4' e5' e6' e7' e8' e9', forL (gTupD 2 (gConsD (gVar 3) (gConsD (gTupD 2 (gConsD (gVar 4) (gConsD (gVar 5) gNilD))) gNilD))) (sFor (iRng2D (aCons (eBin addD (eVar 3) (eC (.int 1))) (aCons (eB lenD (bCons (eVar 2) aNil)) aNil))) (gVar 6) llB) (js.map fun j : Nat => D.tup [.int (j : Int), prI (spt P B j)]) [some x0, some (.own F), some (spots P B), e3, e4, e5, e6, e7, e8, e9, none, none, none] b =
      .ok (.nx [some x0, some (.own (F ++ (js.flatMap fun j => rowsJ P j (from_ j P.length)).map rowD)), some (spots P B), e3', e4', e5', e6', e7', e8', e9', none, none, none]) b
  | [], F, e3, e4, e5, e6, e7, e8, e9, _, _ => ⟨e3, e4, e5, e6, e7, e8, e9, by
    have e0 : F ++ (([] : List Nat).flatMap fun j => rowsJ P j (from_ j P.length)).map rowD = F := by
      rw [List.flatMap_nil, List.map_nil, List.append_nil]
    rw [e0]
    rfl⟩
  | j :: js, F, e3, e4, e5, e6, e7, e8, e9, hj, hl => by
    rw [List.length_cons] at hl
    have j1 := hj j List.mem_cons_self
    have hl60 := h.l
    have fl := from_len j P.length
    have rl := rowsJ_len P j (from_ j P.length)
    obtain ⟨a6, a7, a8, a9, q⟩ := ll_inner (b := b) h j1 x0 (from_ j P.length) F e6 e7 e8 e9 (fun k hk => from_mem.mp hk) (by omega)
    obtain ⟨c3, c4, c5, c6, c7, c8, c9, q2⟩ := ll_outer h x0 js (F ++ (rowsJ P j (from_ j P.length)).map rowD) (some (.int j)) (some (.int (spt P B j).1)) (some (.int (spt P B j).2)) a6 a7 a8 a9 (fun m hm => hj m (List.mem_cons_of_mem _ hm)) (by
      rw [List.length_append, List.length_map]
      omega)
    refine ⟨c3, c4, c5, c6, c7, c8, c9, v_forC (b1 := b) rfl ?_ (q2.trans ?_)⟩
    · show (iRng2D (aCons (eBin addD (eVar 3) (eC (.int 1))) (aCons (eB lenD (bCons (eVar 2) aNil)) aNil)) [some x0, some (.own F), some (spots P B), some (.int (j : Int)), some (.int (spt P B j).1), some (.int (spt P B j).2), e6, e7, e8, e9, none, none, none] >>= fun ds => forL (gVar 6) llB ds [some x0, some (.own F), some (spots P B), some (.int (j : Int)), some (.int (spt P B j).1), some (.int (spt P B j).2), e6, e7, e8, e9, none, none, none]) b = _
      have er : iRng2D (aCons (eBin addD (eVar 3) (eC (.int 1))) (aCons (eB lenD (bCons (eVar 2) aNil)) aNil)) [some x0, some (.own F), some (spots P B), some (.int (j : Int)), some (.int (spt P B j).1), some (.int (spt P B j).2), e6, e7, e8, e9, none, none, none] b = .ok ((from_ j P.length).map fun k : Nat => D.int (k : Int)) b := by
        show (if ((j : Int) + 1).natAbs < 2 ^ 40 ∧ ((((P.map (sp B)).map prI).length : Nat) : Int).natAbs < 2 ^ 40 then pure (rangeD ((j : Int) + 1) ((((P.map (sp B)).map prI).length : Nat) - ((j : Int) + 1)).toNat) else stuck : M (List D)) b = _
        rw [List.length_map, List.length_map, if_pos ⟨by omega, by omega⟩]
        show Res.ok (rangeD ((j : Int) + 1) ((P.length : Int) - ((j : Int) + 1)).toNat) b = _
        congr 1
        unfold rangeD from_
        rw [List.map_map, show ((P.length : Int) - ((j : Int) + 1)).toNat = P.length - (j + 1) by omega]
        apply List.map_congr_left
        intro i _
        show D.int ((j : Int) + 1 + (i : Int)) = D.int ((j + 1 + i : Nat) : Int)
        congr 1
      rw [bindA, er, okB]
      exact q
    · rw [List.flatMap_cons, List.map_append, List.append_assoc]
/-! ### rows in order -/
theorem rowsJ_mem {j : Nat} {ks : List Nat} {v : List Int} : v ∈ rowsJ P j ks ↔ ∃ k ∈ ks, (row P j k).take 2 = [j, k] ∧ v = rowI (row P j k) := by
  unfold rowsJ
  rw [List.mem_filterMap]
  constructor
  · rintro ⟨k, hk, e⟩
    split at e
    · rename_i z
      cases e
      exact ⟨k, hk, z, rfl⟩
    · cases e
  · rintro ⟨k, hk, z, rfl⟩
    exact ⟨k, hk, by rw [if_pos z]⟩
theorem take2 {l : List Nat} {j k : Nat} (h : l.take 2 = [j, k]) : ∃ r, l = j :: k :: r := by
  cases l with
  | nil => cases h
  | cons a l =>
    cases l with
    | nil => cases h
    | cons c l =>
      cases h
      exact ⟨l, rfl⟩
theorem rowsL_mem {v : List Int} : v ∈ rowsL P ↔ ∃ j k, j < k ∧ k < P.length ∧ (row P j k).take 2 = [j, k] ∧ v = rowI (row P j k) := by
  unfold rowsL
  rw [List.mem_flatMap]
  constructor
  · rintro ⟨j, hj, h⟩
    obtain ⟨k, hk, z, e⟩ := rowsJ_mem.mp h
    obtain ⟨h1, h2⟩ := from_mem.mp hk
    exact ⟨j, k, h1, h2, z, e⟩
  · rintro ⟨j, k, h1, h2, z, e⟩
    exact ⟨j, List.mem_range.mpr (by omega), rowsJ_mem.mpr ⟨k, from_mem.mpr ⟨h1, h2⟩, z, e⟩⟩
theorem rowI_cons2 {l : List Nat} {j k : Nat} (h : l.take 2 = [j, k]) : ∃ r, rowI l = (j : Int) :: (k : Int) :: r := by
  obtain ⟨r, rfl⟩ := take2 h
  exact ⟨rowI r, rfl⟩
theorem rowsL_pw : (rowsL P).Pairwise RL := by
  unfold rowsL
  rw [List.pairwise_flatMap]
  refine ⟨fun j hj => ?_, ?_⟩
  · unfold rowsJ
    rw [List.pairwise_filterMap]
    have pf : (from_ j P.length).Pairwise (· < ·) := by
      unfold from_
      rw [List.pairwise_map]
      exact List.pairwise_lt_range.imp fun h => by omega
    refine pf.imp ?_
    intro k m hkm v hv w hw
    split at hv
    · rename_i z
      cases hv
      split at hw
      · rename_i z2
        cases hw
        obtain ⟨r, e⟩ := rowI_cons2 z
        obtain ⟨r2, e2⟩ := rowI_cons2 z2
        rw [e, e2]
        exact rl_cons (rl_lt (by omega))
      · cases hw
    · cases hv
  · refine List.pairwise_lt_range.imp ?_
    intro j m hjm v hv w hw
    obtain ⟨k, _, z, rfl⟩ := rowsJ_mem.mp hv
    obtain ⟨k2, _, z2, rfl⟩ := rowsJ_mem.mp hw
    obtain ⟨r, e⟩ := rowI_cons2 z
    obtain ⟨r2, e2⟩ := rowI_cons2 z2
    rw [e, e2]
    exact rl_lt (by omega)
theorem nodup_of_pw {l : List (List Int)} (h : l.Pairwise RL) : l.Nodup := h.imp fun {a c} r e => by
  subst e
  exact rl_irr a r
theorem alike_rows (v w : List Int) : PySem.W.alike (rowD v).py (rowD w).py = true := by
  unfold rowD
  rw [D.py, D.py, PySem.W.alike, alike_ints]
theorem sort_id {xs : List (List Int)} (h : xs.Pairwise RL) (ne : ∀ v ∈ xs, v ≠ []) (b : Bx) : sortF1 (.lst (xs.map rowD)) b = .ok (xs.map rowD) b := by
  rw [sort_ok (fun x _ => rowD_ok x) (fun x _ y _ => alike_rows x y) (fun x hx => by
    cases x with
    | nil => exact absurd rfl (ne _ hx)
    | cons a v => rfl) b, sort_rows (nodup_of_pw h) h fun x => Iff.rfl]
theorem sort_to {xs ys : List (List Int)} (nd : xs.Nodup) (h : ys.Pairwise RL) (e : ∀ x, x ∈ xs ↔ x ∈ ys) (ne : ∀ v ∈ ys, v ≠ []) (b : Bx) : sortF1 (.lst (xs.map rowD)) b = .ok (ys.map rowD) b := by
  rw [sort_ok (fun x _ => rowD_ok x) (fun x _ y _ => alike_rows x y) (fun x hx => by
    cases x with
    | nil => exact absurd rfl (ne _ ((e _).mp hx))
    | cons a v => rfl) b, sort_rows nd h e]
theorem rowsL_ne : ∀ v ∈ rowsL P, v ≠ [] := fun v hv => by
  obtain ⟨j, k, _, _, z, rfl⟩ := rowsL_mem.mp hv
  obtain ⟨r, e⟩ := rowI_cons2 z
  rw [e]
  exact List.cons_ne_nil _ _
theorem law_lines_ok (hf : ∀ p ∈ P, FrP p) (hq : ∀ p ∈ P, QB 20 p.1 ∧ QB 20 p.2) (nd : P.Nodup) (hl : P.length ≤ 60) (b : Bx) : f__law_lines [.tup (P.map pt)] b = .ok (.lst ((rowsL P).map rowD)) b := by
  obtain ⟨B, h0, hB, bd, e1⟩ := spread_ok hq hl b
  have h : LwP P B := ⟨hf, hq, nd, hl, h0, hB, bd⟩
  obtain ⟨c3, c4, c5, c6, c7, c8, c9, q⟩ := ll_outer (b := b) h (.tup (P.map pt)) (List.range P.length) [] none none none none none none none (fun j hj => List.mem_range.mp hj) (by rw [List.length_range, List.length_nil]; omega)
  have s1 : sParFE 1 2 (fLst aNil) (eCall f__law_spread_out (aCons (eVar 0) aNil)) (startD 13 [.tup (P.map pt)]) b = .ok (.nx [some (.tup (P.map pt)), some (.own []), some (spots P B), none, none, none, none, none, none, none, none, none, none]) b := by
    unfold sParFE
    rw [bindA, v_lst v_nil (Nat.zero_le _), okB, bindA, v_call (v_acons (v_var rfl) rfl v_nil) e1, okB]
    rfl
  refine v_run (b1 := b) rfl (v_seq s1 (v_seq (b1 := b) (ρ' := [some (.tup (P.map pt)), some (.own ((rowsL P).map rowD)), some (spots P B), c3, c4, c5, c6, c7, c8, c9, none, none, none]) ?_ ?_))
  · show (iEnumD (aCons (eVar 2) aNil) [some (.tup (P.map pt)), some (.own []), some (spots P B), none, none, none, none, none, none, none, none, none, none] >>= fun ds => forL (gTupD 2 (gConsD (gVar 3) (gConsD (gTupD 2 (gConsD (gVar 4) (gConsD (gVar 5) gNilD))) gNilD))) (sFor (iRng2D (aCons (eBin addD (eVar 3) (eC (.int 1))) (aCons (eB lenD (bCons (eVar 2) aNil)) aNil))) (gVar 6) llB) ds [some (.tup (P.map pt)), some (.own []), some (spots P B), none, none, none, none, none, none, none, none, none, none]) b = _
    have ee : iEnumD (aCons (eVar 2) aNil) [some (.tup (P.map pt)), some (.own []), some (spots P B), none, none, none, none, none, none, none, none, none, none] b = .ok ((List.range P.length).map fun j : Nat => D.tup [.int (j : Int), prI (spt P B j)]) b := by
      show Res.ok (enumFrom 0 ((P.map (sp B)).map prI)) b = _
      rw [enum_spots]
      congr 1
      apply List.map_congr_left
      intro i _
      rw [Nat.zero_add]
    rw [bindA, ee, okB]
    exact q
  · show sRet (eF (fSort (eVar 1))) [some (.tup (P.map pt)), some (.lst ((rowsL P).map rowD)), some (spots P B), c3, c4, c5, c6, c7, c8, c9, none, none, none] b = _
    refine v_ret (v_f (b1 := b) (ds := (rowsL P).map rowD) ?_) rfl
    unfold fSort
    rw [bindA, v_var (d := .lst ((rowsL P).map rowD)) rfl, okB]
    exact sort_id rowsL_pw rowsL_ne b
/-! ### both ways the same rows -/
theorem rows_T {n : Nat} (hP : Pts n P) {T : Tbl} (L : LinesOk P T) : (T.map Prod.snd).Nodup ∧ ∀ v, v ∈ T.map Prod.snd ↔ v ∈ rowsL P := by
  -- the first two of a line
  have two : ∀ i j, i < j → j < P.length → ∃ a c r, places P (ln P i j) = a :: c :: r ∧ a < c ∧ c < P.length ∧ ln P a c = ln P i j := fun i j hij hj => by
    have hi : i < P.length := by omega
    have fi := hP.fr _ (gp_mem hi)
    have fj := hP.fr _ (gp_mem hj)
    have nij := gp_ne hP.nd hi hj (by omega)
    have pw : (places P (ln P i j)).Pairwise (· < ·) := List.Pairwise.filter _ List.pairwise_lt_range
    have mi : i ∈ places P (ln P i j) := places_mem.mpr ⟨hi, on_left fi fj nij⟩
    have mj : j ∈ places P (ln P i j) := places_mem.mpr ⟨hj, on_right fi fj nij⟩
    cases e : places P (ln P i j) with
    | nil => rw [e] at mi; cases mi
    | cons a l =>
      cases l with
      | nil =>
        rw [e] at mi mj
        have := List.mem_singleton.mp mi
        have := List.mem_singleton.mp mj
        omega
      | cons c r =>
        rw [e] at pw
        have hac : a < c := (List.pairwise_cons.mp pw).1 c List.mem_cons_self
        have ma : a ∈ places P (ln P i j) := by rw [e]; exact List.mem_cons_self
        have mc : c ∈ places P (ln P i j) := by rw [e]; exact List.mem_cons_of_mem _ List.mem_cons_self
        obtain ⟨ha, oa⟩ := places_mem.mp ma
        obtain ⟨hc, oc⟩ := places_mem.mp mc
        refine ⟨a, c, r, rfl, hac, hc, ?_⟩
        have fa := hP.fr _ (gp_mem ha)
        have fc := hP.fr _ (gp_mem hc)
        -- ln i a, ln i c
        by_cases z : a = i
        · subst z
          exact line_on fi fj fc nij (gp_ne hP.nd hi hc (by omega)) oc
        · have nia := gp_ne hP.nd hi ha (fun w => z w.symm)
          have e1 : ln P i a = ln P i j := line_on fi fj fa nij nia oa
          have e2 : ln P a i = ln P i j := (line_sym fi fa nia).trans e1
          by_cases z2 : c = i
          · subst z2
            exact e2
          · have nai := gp_ne hP.nd ha hi z
            have nac := gp_ne hP.nd ha hc (by omega)
            exact (line_on fa fi fc nai nac (by rw [show lineT (gp P a) (gp P i) = ln P i j from e2]; exact oc)).trans e2
  refine ⟨?_, fun v => ?_⟩
  · rw [List.Nodup, List.pairwise_map]
    refine List.Pairwise.imp_of_mem ?_ (List.pairwise_map.mp L.nd)
    rintro ⟨k1, v1⟩ ⟨k2, v2⟩ m1 m2 ne e
    obtain ⟨i, j, hij, hj, ek, ev⟩ := L.mem k1 v1 m1
    obtain ⟨i2, j2, hij2, hj2, ek2, ev2⟩ := L.mem k2 v2 m2
    obtain ⟨a, c, r, e1, hac, hc, e3⟩ := two i j hij hj
    obtain ⟨a2, c2, r2, e12, hac2, hc2, e32⟩ := two i2 j2 hij2 hj2
    have e : v1 = v2 := e
    rw [ev, ev2, e1, e12] at e
    unfold rowI at e
    rw [List.map_cons, List.map_cons, List.map_cons, List.map_cons] at e
    injection e with q1 q
    injection q with q2 _
    have q1 : a = a2 := Int.ofNat.inj q1
    have q2 : c = c2 := Int.ofNat.inj q2
    subst q1
    subst q2
    exact ne (by show k1 = k2; rw [ek, ek2, ← e3, ← e32])
  · rw [List.mem_map, rowsL_mem]
    constructor
    · rintro ⟨⟨k, v'⟩, hm, rfl⟩
      obtain ⟨i, j, hij, hj, _, ev⟩ := L.mem k v' hm
      obtain ⟨a, c, r, e1, hac, hc, e3⟩ := two i j hij hj
      refine ⟨a, c, hac, hc, ?_, ?_⟩
      · unfold row
        rw [e3, e1]
        rfl
      · show v' = _
        unfold row
        rw [e3, ev]
    · rintro ⟨j, k, hjk, hk, _, rfl⟩
      exact ⟨_, L.all j k hjk hk, rfl⟩
end
end Lw

set_option Elab.async false
set_option linter.all false
set_option maxRecDepth 100000
set_option maxHeartbeats 4000000
/-! typed: placed; same; what is told of lines -/
namespace Ma
/-- turning neither way is lying on one line -/
theorem turn_col {p q r : Pt} (hp : FrP p) (hq : FrP q) (hr : FrP r) : (qtimes (qless q.1 p.1) (qless r.2 p.2)).1 * (qtimes (qless q.2 p.2) (qless r.1 p.1)).2 - (qtimes (qless q.2 p.2) (qless r.1 p.1)).1 * (qtimes (qless q.1 p.1) (qless r.2 p.2)).2 = 0 ↔ Col p q r := by
  have X0 := hp.x.pos
  have Y0 := hp.y.pos
  have U0 := hq.x.pos
  have V0 := hq.y.pos
  have R0 := hr.x.pos
  have S0 := hr.y.pos
  obtain ⟨fa, ea⟩ := qless_spec U0 X0
  obtain ⟨fb, eb⟩ := qless_spec S0 Y0
  obtain ⟨fc, ec⟩ := qless_spec V0 Y0
  obtain ⟨fd, ed⟩ := qless_spec R0 X0
  obtain ⟨fs, es⟩ := qtimes_spec fa.pos fb.pos
  obtain ⟨ft, et⟩ := qtimes_spec fc.pos fd.pos
  have a0 := fa.pos
  have b0 := fb.pos
  have c0 := fc.pos
  have d0 := fd.pos
  have s0 := fs.pos
  have t0 := ft.pos
  unfold Col
  generalize qtimes (qless q.1 p.1) (qless r.2 p.2) = s at *
  generalize qtimes (qless q.2 p.2) (qless r.1 p.1) = t at *
  generalize qless q.1 p.1 = a at *
  generalize qless r.2 p.2 = b at *
  generalize qless q.2 p.2 = c at *
  generalize qless r.1 p.1 = d at *
  obtain ⟨⟨x, X⟩, ⟨y, Y⟩⟩ := p
  obtain ⟨⟨u, U⟩, ⟨v, V⟩⟩ := q
  obtain ⟨⟨i, R⟩, ⟨j, S⟩⟩ := r
  obtain ⟨a1, a2⟩ := a
  obtain ⟨b1, b2⟩ := b
  obtain ⟨c1, c2⟩ := c
  obtain ⟨d1, d2⟩ := d
  obtain ⟨s1, s2⟩ := s
  obtain ⟨t1, t2⟩ := t
  simp only at *
  have hdet : det (wh ((x, X), y, Y)) (wh ((u, U), v, V)) (wh ((i, R), j, S)) = (u * X - x * U) * (j * Y - y * S) * (V * R) - (v * Y - y * V) * (i * X - x * R) * (U * S) := by
    unfold det dot cr wh
    clear ea eb ec ed es et
    simp only
    grind
  rw [hdet]
  have k1 : (s1 * t2 - t1 * s2) * (a2 * b2 * (c2 * d2)) = (a1 * b1 * (c2 * d2) - c1 * d1 * (a2 * b2)) * (s2 * t2) := by
    have e1 : (s1 * t2 - t1 * s2) * (a2 * b2 * (c2 * d2)) = s1 * (a2 * b2) * t2 * (c2 * d2) - t1 * (c2 * d2) * s2 * (a2 * b2) := by clear ea eb ec ed es et; grind
    rw [e1, es, et]
    clear ea eb ec ed es et
    grind
  have k2 : (a1 * b1 * (c2 * d2) - c1 * d1 * (a2 * b2)) * (U * X * (S * Y) * (V * R)) = ((u * X - x * U) * (j * Y - y * S) * (V * R) - (v * Y - y * V) * (i * X - x * R) * (U * S)) * (a2 * b2 * (c2 * d2)) := by
    have e1 : (a1 * b1 * (c2 * d2) - c1 * d1 * (a2 * b2)) * (U * X * (S * Y) * (V * R)) = a1 * (U * X) * (b1 * (S * Y)) * (c2 * d2) * (V * R) - c1 * (V * Y) * (d1 * (R * X)) * (a2 * b2) * (U * S) := by clear ea eb ec ed es et k1; grind
    rw [e1, ea, eb, ec, ed]
    clear ea eb ec ed es et k1
    grind
  have n1 : a2 * b2 * (c2 * d2) ≠ 0 := Int.mul_ne_zero (Int.mul_ne_zero (by omega) (by omega)) (Int.mul_ne_zero (by omega) (by omega))
  have n2 : s2 * t2 ≠ 0 := Int.mul_ne_zero (by omega) (by omega)
  have n3 : U * X * (S * Y) * (V * R) ≠ 0 := Int.mul_ne_zero (Int.mul_ne_zero (Int.mul_ne_zero (by omega) (by omega)) (Int.mul_ne_zero (by omega) (by omega))) (Int.mul_ne_zero (by omega) (by omega))
  constructor
  · intro h
    rw [h, Int.zero_mul] at k1
    have z := (Int.mul_eq_zero.mp k1.symm).resolve_right n2
    rw [z, Int.zero_mul] at k2
    exact (Int.mul_eq_zero.mp k2.symm).resolve_right n1
  · intro h
    rw [h, Int.zero_mul] at k2
    have z := (Int.mul_eq_zero.mp k2).resolve_right n3
    rw [z, Int.zero_mul] at k1
    exact (Int.mul_eq_zero.mp k1).resolve_right n1
end Ma
namespace Lw
open PySem PySem.Spec PyProof.Rows L2 Pu Ma
/-! ### == of plain data -/
mutual
theorem eqv_refl : ∀ d : D, d.ok n = true → D.eqv d d = true
  | .non, _ => by rw [D.eqv]
  | .bl b, _ => by rw [D.eqv]; exact beq_self_eq_true b
  | .int i, _ => by rw [D.eqv]; exact beq_self_eq_true i
  | .str x, _ => by rw [D.eqv]; exact beq_self_eq_true x
  | .tup xs, h => by
    rw [D.eqv]
    cases n with
    | zero => cases h
    | succ n => exact eqvs_refl xs (by simpa [D.ok] using h)
  | .lst xs, h => by
    rw [D.eqv]
    cases n with
    | zero => cases h
    | succ n => exact eqvs_refl xs (by simpa [D.ok] using h)
  | .own xs, h => by
    rw [D.eqv]
    cases n with
    | zero => cases h
    | succ n => exact eqvs_refl xs (by simpa [D.ok] using h)
  | .box, h => by cases n <;> cases h
  | .fn i, h => by cases n <;> cases h
  | .ty i, h => by cases n <;> cases h
  | .fro i, h => by cases n <;> cases h
  | .mdc i, h => by cases n <;> cases h
theorem eqvs_refl : ∀ ds : List D, D.oks n ds = true → D.eqvs ds ds = true
  | [], _ => by rw [D.eqvs]
  | d :: ds, h => by
    have q : d.ok n = true ∧ D.oks n ds = true := by simpa [D.oks] using h
    rw [D.eqvs, eqv_refl d q.1, eqvs_refl ds q.2]
    rfl
end
theorem ne_refl {d : D} (h : d.ok deep = true) (b : Bx) : neD d d b = .ok (.bl false) b := by
  show (if (d.ok deep && d.ok deep) = true then pure (.bl (!D.eqv d d)) else stuck : M D) b = _
  rw [if_pos (by rw [h]; rfl)]
  show Res.ok (D.bl (!D.eqv d d)) b = _
  rw [eqv_refl d h]
  rfl
theorem eq_refl {d : D} (h : d.ok deep = true) (b : Bx) : eqD d d b = .ok (.bl true) b := by
  show (if (d.ok deep && d.ok deep) = true then pure (.bl (D.eqv d d)) else stuck : M D) b = _
  rw [if_pos (by rw [h]; rfl)]
  show Res.ok (D.bl (D.eqv d d)) b = _
  rw [eqv_refl d h]
/-! ### plain data: whole numbers in tuples and lists -/
mutual
inductive Pn : Nat → D → Prop
  | int (n : Nat) (i : Int) : Pn n (.int i)
  | bl (n : Nat) (c : Bool) : Pn n (.bl c)
  | str (n : Nat) (x : Str) (h : PyData.strOk x = true) : Pn n (.str x)
  | non (n : Nat) : Pn n .non
  | tup {n : Nat} {ys : List D} (h : Pns n ys) (l : ys.length < 90000) : Pn (n + 1) (.tup ys)
  | lst {n : Nat} {ys : List D} (h : Pns n ys) (l : ys.length < 90000) : Pn (n + 1) (.lst ys)
inductive Pns : Nat → List D → Prop
  | nil {n : Nat} : Pns n []
  | cons {n : Nat} {y : D} {ys : List D} (h : Pn n y) (t : Pns n ys) : Pns n (y :: ys)
end
theorem Pns.of {α : Type} {n : Nat} (f : α → D) : ∀ xs : List α, (∀ x ∈ xs, Pn n (f x)) → Pns n (xs.map f)
  | [], _ => .nil
  | x :: xs, h => .cons (h x List.mem_cons_self) (Pns.of f xs fun y hy => h y (List.mem_cons_of_mem _ hy))
theorem Pn.chk {n : Nat} {y : D} (h : Pn n y) : Pu.chk y = pure y := by cases h <;> rfl
theorem zip_same : ∀ ys : List D, zipD ys ys = ys.map fun y => .tup [y, y]
  | [] => rfl
  | y :: ys => by
    rw [zipD, zip_same ys]
    rfl
theorem same_bl (F : List D → M D) (c : Bool) (b : Bx) : runD 2 4 (b__law_same F) [.bl c, .bl c] b = .ok (.bl true) b := by
  cases c <;> kernel_rfl
theorem same_non (F : List D → M D) (b : Bx) : runD 2 4 (b__law_same F) [.non, .non] b = .ok (.bl true) b := by kernel_rfl
theorem same_str (F : List D → M D) (x : Str) (h : PyData.strOk x = true) (b : Bx) : runD 2 4 (b__law_same F) [.str x, .str x] b = .ok (.bl true) b := by
  refine v_run rfl (v_seq (v_ifF (c := false) (b1 := b) rfl rfl rfl) (v_seq (v_ifF (c := false) (b1 := b) rfl rfl rfl) (v_seqR (v_ifT (c := true) (b1 := b) rfl rfl (v_ret (d := .bl true) (v_andT (b1 := b) rfl (v_andT (b1 := b) rfl (v_bin (v_var rfl) (v_var rfl) (eq_refl (d := .str x) h b)))) rfl)))))
theorem same_ok (b : Bx) : ∀ (n m : Nat) (y : D), Pn n y → n < m → r__law_same m [y, y] b = .ok (.bl true) b := by
  intro n
  induction n with
  | zero =>
    intro m y h hm
    obtain ⟨m, rfl⟩ : ∃ k, m = k + 1 := ⟨m - 1, by omega⟩
    cases h with
    | bl _ c => exact same_bl _ c b
    | str _ x h => exact same_str _ x h b
    | non => exact same_non _ b
    | int _ i =>
      refine v_run (b1 := b) rfl (v_seq (b1 := b) (ρ' := [some (.int i), some (.int i), none, none]) rfl (v_seq (b1 := b) (ρ' := [some (.int i), some (.int i), none, none]) rfl (v_seq (b1 := b) (ρ' := [some (.int i), some (.int i), none, none]) rfl (v_ret (d := .bl true) (v_andT (b1 := b) rfl (v_andT (b1 := b) rfl (v_bin (v_var rfl) (v_var rfl) ((eqI i i b).trans ?_)))) rfl))))
      rw [decide_eq_true rfl]
  | succ n ih =>
    intro m y h hm
    obtain ⟨m, rfl⟩ : ∃ k, m = k + 1 := ⟨m - 1, by omega⟩
    have mem : ∀ {ys : List D}, Pns n ys → ∀ y ∈ ys, Pn n y := fun {ys} h => by
      induction ys with
      | nil => intro y hy; cases hy
      | cons z zs ihz =>
        cases h with
        | cons h t =>
          intro y hy
          rcases List.mem_cons.mp hy with rfl | hy
          · exact h
          · exact ihz t y hy
    have go : ∀ {ys : List D} {x : D} {ρ : DEnv}, ρ = [some x, some x, none, none] → Pu.chk x = pure x → lenD [x] b = .ok (.int ys.length) b → zip2 [x, x] b = .ok (zipD ys ys) b → ys.length < 90000 → Pns n ys →
        eAnd (eBin eqD (eB lenD (bCons (eVar 0) aNil)) (eB lenD (bCons (eVar 1) aNil))) (eB allD (bCons (eF (fComp (iZipD (aCons (eVar 0) (aCons (eVar 1) aNil))) [2, 3] (gTupD 2 (gConsD (gVar 2) (gConsD (gVar 3) gNilD))) tYesD (eCall (r__law_same m) (aCons (eVar 2) (aCons (eVar 3) aNil))))) aNil)) ρ b = .ok (.bl true) b := fun {ys x ρ} e cx el ez l h => by
      subst e
      have ev : (ys.all fun _ => true) = true := List.all_eq_true.mpr fun _ _ => rfl
      refine v_andT (b1 := b) (v_bin (v_b (v_bcons (v_var rfl) v_nil) el) (v_b (v_bcons (v_var rfl) v_nil) el) ((eqI _ _ b).trans (by rw [decide_eq_true rfl]))) ?_
      rw [← ev]
      refine v_all (fun y => .tup [y, y]) (fun _ => true) ys ?_ (by omega) fun y hy => ⟨_, rfl, v_call (v_acons (v_var rfl) (mem h y hy).chk (v_acons (v_var rfl) (mem h y hy).chk v_nil)) (ih m y (mem h y hy) (by omega))⟩
      unfold iZipD
      rw [bindA, v_acons (v_var (d := x) rfl) cx (v_acons (v_var (d := x) rfl) cx v_nil), okB, ez, zip_same]
    cases h with
    | bl _ c => exact same_bl _ c b
    | str _ x h => exact same_str _ x h b
    | non => exact same_non _ b
    | int _ i =>
      refine v_run (b1 := b) rfl (v_seq (b1 := b) (ρ' := [some (.int i), some (.int i), none, none]) rfl (v_seq (b1 := b) (ρ' := [some (.int i), some (.int i), none, none]) rfl (v_seq (b1 := b) (ρ' := [some (.int i), some (.int i), none, none]) rfl (v_ret (d := .bl true) (v_andT (b1 := b) rfl (v_andT (b1 := b) rfl (v_bin (v_var rfl) (v_var rfl) ((eqI i i b).trans ?_)))) rfl))))
      rw [decide_eq_true rfl]
    | @tup _ ys h l => exact v_run rfl (v_seqR (v_ifT (c := true) (b1 := b) rfl rfl (v_seq (b1 := b) (ρ' := [some (.tup ys), some (.tup ys), none, none]) (v_ifF (c := false) (b1 := b) rfl rfl rfl) (v_ret (go rfl rfl rfl rfl l h) rfl))))
    | @lst _ ys h l => exact v_run rfl (v_seqR (v_ifT (c := true) (b1 := b) rfl rfl (v_seq (b1 := b) (ρ' := [some (.lst ys), some (.lst ys), none, none]) (v_ifF (c := false) (b1 := b) rfl rfl rfl) (v_ret (go rfl rfl rfl rfl l h) rfl))))
end Lw

set_option Elab.async false
set_option linter.all false
set_option maxRecDepth 100000
set_option maxHeartbeats 4000000
/-! typed: drawn points (the laws of houses, colours) -/
namespace Lw
open PySem PySem.Spec PyProof.Rows L2 Pu Ma
theorem gt0_ok (i j : Int) (b : Bx) : gtD (.int i) (.int j) b = .ok (.bl (decide (j < i))) b := rfl
theorem law_cut_ok {a c : Int} (hc : 0 < c) {s : Nat} (hb : Bd s c) (hs : s ≤ 4000) (b : Bx) : f__law_cut [.int a, .int c] b = .ok (fr (low a c)) b := by
  have g0 := gcd_ne (a := a) hc
  have gb := gcd_bd (a := a) hc hb
  have e : low a c = (a.fdiv (Int.gcd a c : Nat), c.fdiv (Int.gcd a c : Nat)) := by
    unfold low
    rw [if_neg (by omega), Int.one_mul, Int.one_mul]
  rw [e]
  exact v_run rfl (v_seq (v_set (v_call (v_acons (v_var rfl) rfl (v_acons (v_var rfl) rfl v_nil)) (law_gcd_ok hb hs b)) rfl) (v_seq (v_set (v_eifT (c := true) (b1 := b) (v_tB (v_bin (v_var rfl) v_c ((gt0_ok _ _ b).trans (by rw [decide_eq_true hc])))) rfl (v_var rfl)) rfl) (v_ret (v_tup (v_acons (v_bin (v_var rfl) (v_var rfl) (fdiv_bd g0 gb _)) rfl (v_acons (v_bin (v_var rfl) (v_var rfl) (fdiv_bd g0 gb _)) rfl v_nil)) (Nat.le_of_ble_eq_true rfl)) rfl)))
theorem law_under_ok {p q : Q2} {n : Nat} (hp : QB n p) (hq : QB n q) (hn : n ≤ 4000) (b : Bx) : f__law_under [fr p, fr q] b = .ok (.bl (decide (p.1 * q.2 < q.1 * p.2))) b :=
  v_run rfl (v_ret (v_bin (v_bin (v_bin (v_var rfl) v_c rfl) (v_bin (v_var rfl) v_c rfl) (mul_bd hp.b1 hq.b2 _)) (v_bin (v_bin (v_var rfl) v_c rfl) (v_bin (v_var rfl) v_c rfl) (mul_bd hq.b1 hp.b2 _)) rfl) rfl)
theorem eqv_fr (p q : Q2) : D.eqv (fr p) (fr q) = decide (p = q) := by
  unfold fr
  rw [D.eqv, D.eqvs, D.eqvs, D.eqvs, D.eqv, D.eqv, Bool.and_true]
  by_cases h1 : p.1 = q.1
  · by_cases h2 : p.2 = q.2
    · rw [decide_eq_true (Prod.ext h1 h2), beq_iff_eq.mpr h1, beq_iff_eq.mpr h2]; rfl
    · rw [decide_eq_false (fun e => h2 (by rw [e])), beq_eq_false_iff_ne.mpr h2, Bool.and_false]
  · rw [decide_eq_false (fun e => h1 (by rw [e])), beq_eq_false_iff_ne.mpr h1, Bool.false_and]
theorem eqv_pt (p q : Pt) : D.eqv (pt p) (pt q) = decide (p = q) := by
  unfold pt
  rw [D.eqv, D.eqvs, D.eqvs, D.eqvs, eqv_fr, eqv_fr, Bool.and_true]
  obtain ⟨p1, p2⟩ := p
  obtain ⟨q1, q2⟩ := q
  show (decide (p1 = q1) && decide (p2 = q2)) = _
  by_cases h1 : p1 = q1
  · by_cases h2 : p2 = q2
    · subst h1
      subst h2
      simp
    · simp [h2]
  · simp [h1]
theorem fr_ok (p : Q2) : (fr p).ok deep = true := by
  unfold fr
  show D.ok (59 + 1) _ = true
  rw [D.ok, D.oks, D.oks, D.oks]
  rfl
theorem pt_ok (p : Pt) : (pt p).ok deep = true := by
  unfold pt fr
  show D.ok (58 + 1 + 1) _ = true
  rw [D.ok, D.oks, D.oks, D.oks, D.ok, D.ok, D.oks, D.oks, D.oks, D.oks, D.oks, D.oks]
  rfl
theorem eq_fr (p q : Q2) (b : Bx) : eqD (fr p) (fr q) b = .ok (.bl (decide (p = q))) b := by
  show (if ((fr p).ok deep && (fr q).ok deep) = true then pure (.bl (D.eqv (fr p) (fr q))) else stuck : M D) b = _
  rw [if_pos (by rw [fr_ok, fr_ok]; rfl)]
  show Res.ok (D.bl (D.eqv (fr p) (fr q))) b = _
  rw [eqv_fr]
theorem notin_pts (d : D) {p : Pt} {Q : List Pt} (hd : d.seqP = some (Q.map pt)) (b : Bx) : notInD (pt p) d b = .ok (.bl (!decide (p ∈ Q))) b := by
  unfold notInD
  rw [hd]
  show (if ((pt p).ok deep && D.oks deep (Q.map pt)) = true then pure (.bl (!(Q.map pt).any fun y => D.eqv y (pt p))) else stuck : M D) b = _
  rw [if_pos (by rw [pt_ok, oks_all deep pt Q (fun q _ => pt_ok q)]; rfl)]
  show Res.ok (D.bl (!(Q.map pt).any fun y => D.eqv y (pt p))) b = _
  have : ((Q.map pt).any fun y => D.eqv y (pt p)) = decide (p ∈ Q) := by
    rw [Bool.eq_iff_iff, List.any_eq_true, decide_eq_true_eq]
    constructor
    · rintro ⟨y, hy, e⟩
      obtain ⟨q, hq, rfl⟩ := List.mem_map.mp hy
      rw [eqv_pt, decide_eq_true_eq] at e
      rw [← e]
      exact hq
    · intro h
      exact ⟨pt p, List.mem_map_of_mem h, by rw [eqv_pt]; exact decide_eq_true rfl⟩
  rw [this]
/-! ### in order: insertion -/
theorem ahead_trans {p q r : Pt} (hp : FrP p) (hq : FrP q) (hr : FrP r) (h1 : ahead p q = true) (h2 : ahead q r = true) : ahead p r = true := by
  unfold ahead at *
  simp only [Bool.or_eq_true, Bool.and_eq_true, decide_eq_true_eq] at *
  have X := hp.x.pos
  have Y := hp.y.pos
  have U := hq.x.pos
  have V := hq.y.pos
  have R := hr.x.pos
  have S := hr.y.pos
  obtain ⟨⟨x, X'⟩, ⟨y, Y'⟩⟩ := p
  obtain ⟨⟨u, U'⟩, ⟨v, V'⟩⟩ := q
  obtain ⟨⟨i, R'⟩, ⟨j, S'⟩⟩ := r
  simp only at *
  have lt3 : ∀ {a A c C e E : Int}, 0 < A → 0 < C → 0 < E → a * C < c * A → c * E < e * C → a * E < e * A := fun {a A c C e E} hA hC hE q1 q2 => by
    have z1 : a * C * E < c * A * E := Int.mul_lt_mul_of_pos_right q1 hE
    have z2 : c * E * A < e * C * A := Int.mul_lt_mul_of_pos_right q2 hA
    have z3 : a * E * C < e * A * C := by
      rw [show a * E * C = a * C * E by grind, show e * A * C = e * C * A by grind]
      rw [show c * A * E = c * E * A by grind] at z1
      exact Int.lt_trans z1 z2
    exact Int.lt_of_mul_lt_mul_right z3 (Int.le_of_lt hC)
  have eqlt : ∀ {a A c C e E : Int}, 0 < A → 0 < C → 0 < E → a * C = c * A → c * E < e * C → a * E < e * A := fun {a A c C e E} hA hC hE q1 q2 => by
    have z2 : c * E * A < e * C * A := Int.mul_lt_mul_of_pos_right q2 hA
    have z3 : a * E * C < e * A * C := by
      rw [show a * E * C = a * C * E by grind, q1, show e * A * C = e * C * A by grind, show c * A * E = c * E * A by grind]
      exact z2
    exact Int.lt_of_mul_lt_mul_right z3 (Int.le_of_lt hC)
  have lteq : ∀ {a A c C e E : Int}, 0 < A → 0 < C → 0 < E → a * C < c * A → c * E = e * C → a * E < e * A := fun {a A c C e E} hA hC hE q1 q2 => by
    have z1 : a * C * E < c * A * E := Int.mul_lt_mul_of_pos_right q1 hE
    have z3 : a * E * C < e * A * C := by
      rw [show a * E * C = a * C * E by grind, show e * A * C = e * C * A by grind, ← q2, show c * E * A = c * A * E by grind]
      exact z1
    exact Int.lt_of_mul_lt_mul_right z3 (Int.le_of_lt hC)
  have eqeq : ∀ {a A c C e E : Int}, 0 < C → a * C = c * A → c * E = e * C → a * E = e * A := fun {a A c C e E} hC q1 q2 => by
    refine Int.eq_of_mul_eq_mul_right (show C ≠ 0 by omega) ?_
    rw [show a * E * C = a * C * E by grind, q1, show e * A * C = e * C * A by grind, ← q2]
    grind
  rcases h1 with a | ⟨a, c⟩
  · rcases h2 with d | ⟨d, f⟩
    · exact .inl (lt3 X U R a d)
    · exact .inl (lteq X U R a d)
  · rcases h2 with d | ⟨d, f⟩
    · exact .inl (eqlt X U R a d)
    · exact .inr ⟨eqeq U a d, lt3 Y V S c f⟩
theorem ahead_total {p q : Pt} (hp : FrP p) (hq : FrP q) (h : p ≠ q) : ahead p q = true ∨ ahead q p = true := by
  unfold ahead
  simp only [Bool.or_eq_true, Bool.and_eq_true, decide_eq_true_eq]
  rcases Int.lt_trichotomy (p.1.1 * q.1.2) (q.1.1 * p.1.2) with a | a | a
  · exact .inl (.inl a)
  · rcases Int.lt_trichotomy (p.2.1 * q.2.2) (q.2.1 * p.2.2) with c | c | c
    · exact .inl (.inr ⟨a, c⟩)
    · exact absurd (Prod.ext (fr_eq hp.x hq.x a) (fr_eq hp.y hq.y c)) h
    · exact .inr (.inr ⟨a.symm, c⟩)
  · exact .inr (.inl a)
def insP (p : Pt) (Q : List Pt) : List Pt := Q.take (Q.filter fun q => ahead q p).length ++ [p] ++ Q.drop (Q.filter fun q => ahead q p).length
/-- in an ascending row those ahead of p come first -/
theorem filter_take {p : Pt} (hp : FrP p) : ∀ {Q : List Pt}, (∀ q ∈ Q, FrP q) → Q.Pairwise (fun a c => ahead a c = true) → (Q.take (Q.filter fun q => ahead q p).length = Q.filter fun q => ahead q p) ∧ ∀ q ∈ Q.drop (Q.filter fun q => ahead q p).length, ahead q p = false
  | [], _, _ => ⟨rfl, fun q hq => (by cases hq)⟩
  | a :: Q, hf, pw => by
    obtain ⟨h1, h2⟩ := List.pairwise_cons.mp pw
    have ih := filter_take hp (fun q hq => hf q (List.mem_cons_of_mem _ hq)) h2
    by_cases z : ahead a p = true
    · rw [List.filter_cons_of_pos (p := fun q => ahead q p) z, List.length_cons, List.take_succ_cons, List.drop_succ_cons]
      exact ⟨by rw [ih.1], ih.2⟩
    · have none : ∀ q ∈ Q, ahead q p = false := fun q hq => by
        rw [Bool.eq_false_iff]
        intro w
        exact z (ahead_trans (hf a List.mem_cons_self) (hf q (List.mem_cons_of_mem _ hq)) hp (h1 q hq) w)
      have e : (a :: Q).filter (fun q => ahead q p) = [] := List.filter_eq_nil_iff.mpr fun q hq => by
        rcases List.mem_cons.mp hq with rfl | hq
        · exact z
        · rw [none q hq]; decide
      rw [e]
      refine ⟨rfl, fun q hq => ?_⟩
      rcases List.mem_cons.mp hq with rfl | hq
      · exact Bool.eq_false_iff.mpr z
      · exact none q hq
theorem insP_pw {p : Pt} (hp : FrP p) {Q : List Pt} (hf : ∀ q ∈ Q, FrP q) (pw : Q.Pairwise fun a c => ahead a c = true) (hn : p ∉ Q) : (insP p Q).Pairwise (fun a c => ahead a c = true) ∧ (insP p Q).Perm (p :: Q) := by
  obtain ⟨e1, e2⟩ := filter_take hp hf pw
  unfold insP
  have pw1 : (Q.take (Q.filter fun q => ahead q p).length ++ Q.drop (Q.filter fun q => ahead q p).length).Pairwise (fun a c => ahead a c = true) := by rw [List.take_append_drop]; exact pw
  obtain ⟨t1, t2, t3⟩ := List.pairwise_append.mp pw1
  refine ⟨?_, ?_⟩
  · rw [List.append_assoc, List.pairwise_append]
    refine ⟨t1, List.pairwise_cons.mpr ⟨fun q hq => ?_, t2⟩, fun a ha c hc => ?_⟩
    · have hqQ := List.mem_of_mem_drop hq
      rcases ahead_total hp (hf q hqQ) (fun e => hn (e ▸ hqQ)) with r | r
      · exact r
      · rw [e2 q hq] at r; cases r
    · rcases List.mem_cons.mp hc with rfl | hc
      · rw [e1] at ha
        exact (List.mem_filter.mp ha).2
      · exact t3 a ha c hc
  · have : (Q.take (Q.filter fun q => ahead q p).length ++ [p] ++ Q.drop (Q.filter fun q => ahead q p).length).Perm (p :: (Q.take (Q.filter fun q => ahead q p).length ++ Q.drop (Q.filter fun q => ahead q p).length)) := by
      rw [List.append_assoc]
      exact List.perm_middle
    rw [List.take_append_drop] at this
    exact this
end Lw

set_option Elab.async false
set_option linter.all false
set_option maxRecDepth 100000
set_option maxHeartbeats 4000000
/-! typed: drawn points, part 2 -/
namespace Lw
open PySem PySem.Spec PyProof.Rows L2 Pu Ma
theorem cut_take (xs : List D) (k : Nat) (h : k ≤ xs.length) : Pu.cutD xs none (some (k : Int)) = xs.take k := by
  unfold Pu.cutD
  rw [HT.sIx_none, HT.sIx_nat, Nat.min_eq_left h, List.drop_zero, Nat.sub_zero]
theorem cut_drop (xs : List D) (k : Nat) (h : k ≤ xs.length) : Pu.cutD xs (some (k : Int)) none = xs.drop k := by
  unfold Pu.cutD
  rw [HT.sIx_none, HT.sIx_nat, Nat.min_eq_left h]
  exact List.take_of_length_le (by rw [List.length_drop]; exact Nat.le_refl _)
theorem addL {xs ys : List D} {b : Bx} (h : xs.length + ys.length ≤ 100000) : addD (.lst xs) (.lst ys) b = .ok (.lst (xs ++ ys)) b := by
  show (if xs.length + ys.length ≤ 100000 then _ else _ : M D) b = _
  rw [if_pos h]
  rfl
abbrev ioT : DEnv → M Bool := tOrD (tTr (eCall f__law_under (aCons (eBin ixD (eVar 4) (eC (.int 0))) (aCons (eBin ixD (eVar 2) (eC (.int 0))) aNil)))) (tAndD (tB (eBin eqD (eBin ixD (eVar 4) (eC (.int 0))) (eBin ixD (eVar 2) (eC (.int 0))))) (tTr (eCall f__law_under (aCons (eBin ixD (eVar 4) (eC (.int 1))) (aCons (eBin ixD (eVar 2) (eC (.int 1))) aNil)))))
abbrev ioB : DEnv → M Out := sIf (tB (eBin notInD (eVar 2) (eVar 1))) (sSeq (sSet 3 (eB lenD (bCons (eF (fComp (iSeqD (eVar 1)) [4] (gVar 4) ioT (eVar 4))) aNil))) (sSet 1 (eBin addD (eBin addD (eSl (eVar 1) oNone (oSome (eVar 3))) (eF (fLst (aCons (eVar 2) aNil)))) (eSl (eVar 1) (oSome (eVar 3)) oNone)))) sNext
theorem io_test {p q : Pt} {n : Nat} (fp : FrP p) (fq : FrP q) (hp : PB n p) (hq : PB n q) (hn : n ≤ 4000) {ρ : DEnv} (h2 : ρ[2]? = some (some (pt p))) (h4 : ρ[4]? = some (some (pt q))) (b : Bx) : ioT ρ b = .ok (ahead q p) b := by
  unfold ahead
  have u1 : tTr (eCall f__law_under (aCons (eBin ixD (eVar 4) (eC (.int 0))) (aCons (eBin ixD (eVar 2) (eC (.int 0))) aNil))) ρ b = .ok (decide (q.1.1 * p.1.2 < p.1.1 * q.1.2)) b := v_tTr (v_call (v_acons (v_bin (v_var h4) v_c rfl) rfl (v_acons (v_bin (v_var h2) v_c rfl) rfl v_nil)) (law_under_ok hq.x hp.x hn b)) rfl
  have u2 : tTr (eCall f__law_under (aCons (eBin ixD (eVar 4) (eC (.int 1))) (aCons (eBin ixD (eVar 2) (eC (.int 1))) aNil))) ρ b = .ok (decide (q.2.1 * p.2.2 < p.2.1 * q.2.2)) b := v_tTr (v_call (v_acons (v_bin (v_var h4) v_c rfl) rfl (v_acons (v_bin (v_var h2) v_c rfl) rfl v_nil)) (law_under_ok hq.y hp.y hn b)) rfl
  have e1 : tB (eBin eqD (eBin ixD (eVar 4) (eC (.int 0))) (eBin ixD (eVar 2) (eC (.int 0)))) ρ b = .ok (decide (q.1 = p.1)) b := v_tB (v_bin (v_bin (v_var h4) v_c rfl) (v_bin (v_var h2) v_c rfl) (eq_fr q.1 p.1 b))
  have ee : decide (q.1 = p.1) = decide (q.1.1 * p.1.2 = p.1.1 * q.1.2) := decide_eq_decide.mpr ⟨fun e => by rw [e], fun e => fr_eq fq.x fp.x e⟩
  rw [ee] at e1
  by_cases a : q.1.1 * p.1.2 < p.1.1 * q.1.2
  · rw [decide_eq_true a] at u1 ⊢
    rw [Bool.true_or]
    exact v_tOrT u1
  · rw [decide_eq_false a] at u1 ⊢
    rw [Bool.false_or]
    refine v_tOrF u1 ?_
    by_cases c : q.1.1 * p.1.2 = p.1.1 * q.1.2
    · rw [decide_eq_true c] at e1 ⊢
      rw [Bool.true_and]
      exact v_tAndT e1 u2
    · rw [decide_eq_false c] at e1 ⊢
      rw [Bool.false_and]
      exact v_tAndF e1
theorem io_for {n : Nat} (hn : n ≤ 4000) (b : Bx) (x0 : D) : ∀ (Q R : List Pt) (e2 e3 : Option D), (∀ p ∈ Q, FrP p ∧ PB n p) → (∀ p ∈ R, FrP p ∧ PB n p) → R.Pairwise (fun a c => ahead a c = true) → (Q ++ R).Nodup → Q.length + R.length ≤ 5000 →
    ∃ (R' : List Pt) (e2' e3' : Option D), forL (gVar 2) ioB (Q.map pt) [some x0, some (.lst (R.map pt)), e2, e3, none] b = .ok (.nx [some x0, some (.lst (R'.map pt)), e2', e3', none]) b ∧ R'.Pairwise (fun a c => ahead a c = true) ∧ R'.Perm (Q ++ R)
  | [], R, e2, e3, _, _, pw, _, _ => ⟨R, e2, e3, rfl, pw, List.Perm.refl _⟩
  | p :: Q, R, e2, e3, hQ, hR, pw, nd, hl => by
    rw [List.length_cons] at hl
    obtain ⟨fp, bp⟩ := hQ p List.mem_cons_self
    have nd' := List.nodup_cons.mp (show (p :: (Q ++ R)).Nodup from nd)
    have pR : p ∉ R := fun h => nd'.1 (List.mem_append_right _ h)
    obtain ⟨q1, q2⟩ := insP_pw fp (fun q hq => (hR q hq).1) pw pR
    have kl : (R.filter fun q => ahead q p).length ≤ R.length := List.length_filter_le _ _
    have pm2 : (Q ++ insP p R).Perm (p :: (Q ++ R)) := (q2.append_left Q).trans List.perm_middle
    obtain ⟨R', a2, a3, e, r1, r2⟩ := io_for hn b x0 Q (insP p R) (some (pt p)) (some (.int (R.filter fun q => ahead q p).length)) (fun q hq => hQ q (List.mem_cons_of_mem _ hq)) (fun q hq => by
      rcases List.mem_cons.mp (q2.subset hq) with rfl | h
      · exact ⟨fp, bp⟩
      · exact hR q h) q1 (pm2.nodup_iff.mpr nd) (by rw [q2.length_eq, List.length_cons]; omega)
    refine ⟨R', a2, a3, v_forC (b1 := b) (ρ1 := [some x0, some (.lst (R.map pt)), some (pt p), e3, none]) rfl ?_ e, r1, r2.trans pm2⟩
    refine v_ifT (c := true) (v_tB (v_bin (v_var rfl) (v_var rfl) ((notin_pts (.lst (R.map pt)) rfl b).trans (by rw [decide_eq_false pR]; rfl)))) rfl ?_
    have c1 : compL [4] (gVar 4) ioT (eVar 4) [some x0, some (.lst (R.map pt)), some (pt p), e3, none] (R.map pt) b = .ok ((R.filter fun q => ahead q p).map pt) b :=
      comp_filter pt pt (fun q => ahead q p) R fun q hq => ⟨_, rfl, io_test fp (hR q hq).1 bp (hR q hq).2 hn rfl rfl b, fun _ => ⟨Pu.v_var rfl, rfl⟩⟩
    refine v_seq (b1 := b) (ρ' := [some x0, some (.lst (R.map pt)), some (pt p), some (.int (R.filter fun q => ahead q p).length), none]) (v_set (v_b (v_bcons (v_f (v_comp (b1 := b) rfl (by rw [List.length_map]; omega) c1)) v_nil) ?_) rfl) ?_
    · show Res.ok (D.int ((((R.filter fun q => ahead q p).map pt).length : Nat) : Int)) b = _
      rw [List.length_map]
    · have s1 : eSl (eVar 1) oNone (oSome (eVar 3)) [some x0, some (.lst (R.map pt)), some (pt p), some (.int (R.filter fun q => ahead q p).length), none] b = .ok (.lst ((R.map pt).take (R.filter fun q => ahead q p).length)) b := by
        show Res.ok (D.lst (Pu.cutD (R.map pt) none (some ((R.filter fun q => ahead q p).length : Int)))) b = _
        rw [cut_take _ _ (by rw [List.length_map]; exact kl)]
      have s2 : eSl (eVar 1) (oSome (eVar 3)) oNone [some x0, some (.lst (R.map pt)), some (pt p), some (.int (R.filter fun q => ahead q p).length), none] b = .ok (.lst ((R.map pt).drop (R.filter fun q => ahead q p).length)) b := by
        show Res.ok (D.lst (Pu.cutD (R.map pt) (some ((R.filter fun q => ahead q p).length : Int)) none)) b = _
        rw [cut_drop _ _ (by rw [List.length_map]; exact kl)]
      have lt : ((R.map pt).take (R.filter fun q => ahead q p).length).length ≤ R.length := by rw [List.length_take, List.length_map]; omega
      have ld : ((R.map pt).drop (R.filter fun q => ahead q p).length).length ≤ R.length := by rw [List.length_drop, List.length_map]; omega
      refine v_set (d := .lst ((insP p R).map pt)) (v_bin (v_bin s1 (v_f (v_lst (v_acons (v_var rfl) rfl v_nil) (Nat.le_of_ble_eq_true rfl))) (addL (by show _ + 1 ≤ _; omega))) s2 ((addL (by rw [List.length_append]; show _ + 1 + _ ≤ _; omega)).trans ?_)) rfl
      unfold insP
      rw [List.map_append, List.map_append, List.map_take, List.map_drop]
      rfl
theorem in_order_ok {n : Nat} (hn : n ≤ 4000) {Q : List Pt} (hQ : ∀ p ∈ Q, FrP p ∧ PB n p) (nd : Q.Nodup) (hl : Q.length ≤ 5000) (b : Bx) : ∃ R : List Pt, R.Pairwise (fun a c => ahead a c = true) ∧ R.Perm Q ∧ f__law_in_order [.lst (Q.map pt)] b = .ok (.tup (R.map pt)) b := by
  obtain ⟨R, a2, a3, e, pw, pm⟩ := io_for hn b (.lst (Q.map pt)) Q [] none none hQ (fun p hp => (by cases hp)) List.Pairwise.nil (by rw [List.append_nil]; exact nd) (by rw [List.length_nil]; omega)
  rw [List.append_nil] at pm
  exact ⟨R, pw, pm, v_run (b1 := b) rfl (v_seq (b1 := b) (ρ' := [some (.lst (Q.map pt)), some (.lst []), none, none, none]) rfl (v_seq (b1 := b) (ρ' := [some (.lst (Q.map pt)), some (.lst (R.map pt)), a2, a3, none]) e (v_ret (v_b (v_bcons (v_var rfl) v_nil) rfl) rfl)))⟩
end Lw

set_option Elab.async false
set_option linter.all false
set_option maxRecDepth 100000
set_option maxHeartbeats 4000000
/-! typed: drawn points, part 3 -/
namespace Lw
open PySem PySem.Spec PyProof.Rows L2 Pu Ma
abbrev gx (xs : List Int) (i : Nat) : Int := xs.getD i 0
theorem gx_get {xs : List Int} {i : Nat} (h : i < xs.length) : xs[i]? = some (gx xs i) := by
  show _ = some (xs.getD i 0)
  rw [List.getD_eq_getElem?_getD, List.getElem?_eq_getElem h]
  rfl
theorem ix_ints {xs : List Int} {i : Nat} (h : i < xs.length) (b : Bx) : ixD (.lst (xs.map D.int)) (.int (i : Int)) b = .ok (.int (gx xs i)) b := by
  have e1 : atI (xs.map D.int) (i : Int) = some (.int (gx xs i)) := by
    unfold atI ixN
    rw [if_pos (by omega), if_pos (by rw [List.length_map]; omega)]
    show (xs.map D.int)[(i : Int).toNat]? = _
    rw [Int.toNat_natCast, List.getElem?_map, gx_get h]
    rfl
  show (match atI (xs.map D.int) (i : Int) with | some d => pure d | none => stuck : M D) b = _
  rw [e1]
  rfl
/-- _law_of: one of some whole numbers -/
theorem law_of_ok {c : Nat} {b : Bx} (V : Vb c b) (hc : c < 2 ^ 60) (vs : List Int) (h0 : 0 < vs.length) (h1 : vs.length < 2 ^ 60) : ∃ v b', v ∈ vs ∧ Vb (c + 1) b' ∧ f__law_of [.box, .lst (vs.map D.int)] b = .ok (.int v) b' := by
  obtain ⟨r, b', r0, r1, V', e⟩ := take_law (n := (vs.length : Int)) V hc (by omega) (by omega)
  have hr : r.toNat < vs.length := by omega
  refine ⟨gx vs r.toNat, b', List.mem_of_getElem? (gx_get hr), V', ?_⟩
  have l1 : eB lenD (bCons (eVar 1) aNil) (startD 2 [.box, .lst (vs.map D.int)]) b = .ok (.int vs.length) b := (v_b (v_bcons (v_var rfl) v_nil) rfl).trans (by
    show Res.ok (D.int (((vs.map D.int).length : Nat) : Int)) b = _
    rw [List.length_map])
  have e2 : r = ((r.toNat : Nat) : Int) := by omega
  exact v_run rfl (v_ret (v_bin (v_var rfl) (v_call (v_acons (v_var rfl) rfl (v_acons l1 rfl v_nil)) e) ((congrArg (fun z => ixD (.lst (vs.map D.int)) (.int z) b') e2).trans (ix_ints hr b'))) rfl)
theorem v_frz {i : Nat} {k : DEnv → M Out} {ρ : DEnv} {b : Bx} {xs : List D} {r : Res Out} (h : ρ[i]? = some (some (.own xs))) (h2 : k (ρ.set i (some (.lst xs))) b = r) : sFrz i k ρ b = r := by
  unfold sFrz
  rw [h]
  exact h2
/-- a point of the grid: across i over u, up j -/
def gr (u : Int) (i j : Int) : Pt := (low i u, low j 1)
theorem gr_fr {u i j : Int} (hu : 0 < u) : FrP (gr u i j) := ⟨(low_spec (by omega)).1, (low_spec (by decide)).1⟩
theorem gr_bd {u i j : Int} {n : Nat} (hu : 0 < u) (b1 : Bd n u) (b2 : Bd n i) (b3 : Bd n j) (hn : 1 ≤ n) : PB n (gr u i j) := ⟨low_bd (by omega) b2 b1, low_bd (by decide) b3 (by show (1 : Int).natAbs < 2 ^ n; have : 2 ^ 1 ≤ 2 ^ n := Nat.pow_le_pow_right (by decide) hn; omega)⟩
abbrev lpB : DEnv → M Out := sSeq (sIf (tB (eBin eqD (eB lenD (bCons (eVar 4) aNil)) (eVar 1))) sBreak sNext) (sSeq (sSet 6 (eTup (aCons (eCall f__law_cut (aCons (eCall f__law_take (aCons (eVar 0) (aCons (eVar 2) aNil))) (aCons (eVar 3) aNil))) (aCons (eCall f__law_cut (aCons (eCall f__law_take (aCons (eVar 0) (aCons (eVar 2) aNil))) (aCons (eC (.int 1)) aNil))) aNil)))) (sIf (tB (eBin notInD (eVar 6) (eVar 4))) (sApp 4 (eVar 6)) sNext))
theorem forL_bk {k : D → DEnv → Option DEnv} {body : DEnv → M Out} {ρ ρ1 ρ2 : DEnv} {b b1 : Bx} {d : D} {ds : List D} (hk : k d ρ = some ρ1) (h : body ρ1 b = .ok (.bk ρ2) b1) : forL k body (d :: ds) ρ b = .ok (.nx ρ2) b1 := by
  rw [forL, hk]
  show (body ρ1 >>= _) b = _
  rw [bindA, h, okB]
  rfl
theorem v_seqB {u k : DEnv → M Out} {ρ ρ' : DEnv} {b b1 : Bx} (h : u ρ b = .ok (.bk ρ') b1) : sSeq u k ρ b = .ok (.bk ρ') b1 := by
  unfold sSeq
  rw [bindA, h, okB]
  rfl
theorem lp_for {many : Nat} {w u : Int} (hw : 0 < w) (hw2 : w < 1000) (hu : 0 < u) (hu2 : u < 1000) : ∀ (ds : List D) (c : Nat) (b : Bx) (Q : List Pt) (e5 e6 : Option D), Vb c b → c + 2 * ds.length < 2 ^ 60 → Q.Nodup → (∀ p ∈ Q, ∃ i j : Int, 0 ≤ i ∧ i < w ∧ 0 ≤ j ∧ j < w ∧ p = gr u i j) → Q.length ≤ many → Q.length + ds.length < 90000 →
    ∃ (Q' : List Pt) (e5' e6' : Option D) (b' : Bx), forL (gVar 5) lpB ds [some .box, some (.int (many : Int)), some (.int w), some (.int u), some (.own (Q.map pt)), e5, e6] b = .ok (.nx [some .box, some (.int (many : Int)), some (.int w), some (.int u), some (.own (Q'.map pt)), e5', e6']) b' ∧
      Vb (c + 2 * ds.length) b' ∧ Q'.Nodup ∧ (∀ p ∈ Q', ∃ i j : Int, 0 ≤ i ∧ i < w ∧ 0 ≤ j ∧ j < w ∧ p = gr u i j) ∧ Q'.length ≤ many
  | [], c, b, Q, e5, e6, V, _, nd, gq, lq, _ => ⟨Q, e5, e6, b, rfl, V, nd, gq, lq⟩
  | d :: ds, c, b, Q, e5, e6, V, hc, nd, gq, lq, hl => by
    rw [List.length_cons] at hc hl
    have el : ∀ e5, eB lenD (bCons (eVar 4) aNil) [some .box, some (.int (many : Int)), some (.int w), some (.int u), some (.own (Q.map pt)), e5, e6] b = .ok (.int Q.length) b := fun e5 => (v_b (v_bcons (v_var rfl) v_nil) rfl).trans (by
      show Res.ok (D.int (((Q.map pt).length : Nat) : Int)) b = _
      rw [List.length_map])
    by_cases z : Q.length = many
    · refine ⟨Q, some d, e6, b, forL_bk (ρ1 := [some .box, some (.int (many : Int)), some (.int w), some (.int u), some (.own (Q.map pt)), some d, e6]) rfl (v_seqB (v_ifT (c := true) (v_tB (v_bin (el (some d)) (v_var rfl) ((eqI _ _ b).trans (by rw [decide_eq_true (by omega)])))) rfl rfl)), (by rw [List.length_cons]; exact V.mono (by omega)), nd, gq, lq⟩
    · obtain ⟨i, b1, i0, i1, V1, t1⟩ := take_law V (by omega) hw (by omega)
      obtain ⟨j, b2, j0, j1, V2, t2⟩ := take_law V1 (by omega) hw (by omega)
      let p := gr u i j
      have bu : Bd 10 u := by show u.natAbs < 1024; omega
      have s6 : sSet 6 (eTup (aCons (eCall f__law_cut (aCons (eCall f__law_take (aCons (eVar 0) (aCons (eVar 2) aNil))) (aCons (eVar 3) aNil))) (aCons (eCall f__law_cut (aCons (eCall f__law_take (aCons (eVar 0) (aCons (eVar 2) aNil))) (aCons (eC (.int 1)) aNil))) aNil))) [some .box, some (.int (many : Int)), some (.int w), some (.int u), some (.own (Q.map pt)), some d, e6] b = .ok (.nx [some .box, some (.int (many : Int)), some (.int w), some (.int u), some (.own (Q.map pt)), some d, some (pt p)]) b2 :=
        v_set (v_tup (v_acons (v_call (v_acons (v_call (v_acons (v_var rfl) rfl (v_acons (v_var rfl) rfl v_nil)) t1) rfl (v_acons (v_var rfl) rfl v_nil)) (law_cut_ok hu bu (by decide) b1)) rfl (v_acons (v_call (v_acons (v_call (v_acons (v_var rfl) rfl (v_acons (v_var rfl) rfl v_nil)) t2) rfl (v_acons v_c rfl v_nil)) (law_cut_ok (by decide) (s := 1) (by show (1 : Int).natAbs < 2 ^ 1; decide) (by decide) b2)) rfl v_nil)) (Nat.le_of_ble_eq_true rfl)) rfl
      have s0 : sIf (tB (eBin eqD (eB lenD (bCons (eVar 4) aNil)) (eVar 1))) sBreak sNext [some .box, some (.int (many : Int)), some (.int w), some (.int u), some (.own (Q.map pt)), some d, e6] b = .ok (.nx [some .box, some (.int (many : Int)), some (.int w), some (.int u), some (.own (Q.map pt)), some d, e6]) b :=
        v_ifF (c := false) (v_tB (v_bin (el (some d)) (v_var rfl) ((eqI _ _ b).trans (by rw [decide_eq_false (by omega)])))) rfl rfl
      by_cases m : p ∈ Q
      · obtain ⟨Q', a5, a6, b', e, r1, r2, r3, r4⟩ := lp_for (many := many) hw hw2 hu hu2 ds (c + 1 + 1) b2 Q (some d) (some (pt p)) V2 (by omega) nd gq lq (by omega)
        exact ⟨Q', a5, a6, b', v_forC (ρ1 := [some .box, some (.int (many : Int)), some (.int w), some (.int u), some (.own (Q.map pt)), some d, e6]) rfl (v_seq s0 (v_seq s6 (v_ifF (c := false) (v_tB (v_bin (v_var rfl) (v_var rfl) ((notin_pts (.own (Q.map pt)) rfl b2).trans (by rw [decide_eq_true m]; rfl)))) rfl rfl))) e, by rw [List.length_cons, show c + 2 * (ds.length + 1) = c + 1 + 1 + 2 * ds.length by omega]; exact r1, r2, r3, r4⟩
      · obtain ⟨Q', a5, a6, b', e, r1, r2, r3, r4⟩ := lp_for (many := many) hw hw2 hu hu2 ds (c + 1 + 1) b2 (Q ++ [p]) (some d) (some (pt p)) V2 (by omega) (by
          rw [List.nodup_append]
          exact ⟨nd, by simp, fun a ha c hc => by rw [List.mem_singleton.mp hc]; rintro rfl; exact m ha⟩) (fun q hq => by
          rcases List.mem_append.mp hq with h | h
          · exact gq q h
          · rw [List.mem_singleton.mp h]; exact ⟨i, j, i0, i1, j0, j1, rfl⟩) (by rw [List.length_append, List.length_singleton]; omega) (by rw [List.length_append, List.length_singleton]; omega)
        refine ⟨Q', a5, a6, b', v_forC (ρ1 := [some .box, some (.int (many : Int)), some (.int w), some (.int u), some (.own (Q.map pt)), some d, e6]) rfl (v_seq s0 (v_seq s6 (v_ifT (c := true) (v_tB (v_bin (v_var rfl) (v_var rfl) ((notin_pts (.own (Q.map pt)) rfl b2).trans (by rw [decide_eq_false m]; rfl)))) rfl ?_))) e, by rw [List.length_cons, show c + 2 * (ds.length + 1) = c + 1 + 1 + 2 * ds.length by omega]; exact r1, r2, r3, r4⟩
        show (eVar 6 [some .box, some (.int (many : Int)), some (.int w), some (.int u), some (.own (Q.map pt)), some d, some (pt p)] >>= fun d' => Pu.chk d' >>= fun d' => if (Q.map pt).length < 100000 then pure (Out.nx ([some .box, some (.int (many : Int)), some (.int w), some (.int u), some (.own (Q.map pt)), some d, some (pt p)].set 4 (some (.own (Q.map pt ++ [d']))))) else (stuck : M Out)) b2 = _
        rw [bindA, v_var (d := pt p) rfl, okB, show Pu.chk (pt p) = pure (pt p) from rfl, bindA, pureA, okB, if_pos (by rw [List.length_map]; omega), List.map_append]
        rfl
/-- _law_points: points of a grid, in order -/
theorem law_points_ok {c : Nat} {b : Bx} {many : Nat} {w : Int} (V : Vb c b) (hc : c + 2000 < 2 ^ 60) (hm : many ≤ 1000) (hw : 0 < w) (hw2 : w < 1000) : ∃ (P : List Pt) (u : Int) (b' : Bx), (u = 1 ∨ u = 2 ∨ u = 3) ∧ P.Pairwise (fun a c => ahead a c = true) ∧ P.Nodup ∧ (∀ p ∈ P, ∃ i j : Int, 0 ≤ i ∧ i < w ∧ 0 ≤ j ∧ j < w ∧ p = gr u i j) ∧ P.length ≤ many ∧ Vb (c + 801) b' ∧ f__law_points [.box, .int (many : Int), .int w] b = .ok (.tup (P.map pt)) b' := by
  obtain ⟨u, b1, mu, V1, e1⟩ := law_of_ok V (by omega) [1, 1, 1, 2, 3] (by decide) (by decide)
  have u3 : u = 1 ∨ u = 2 ∨ u = 3 := by
    simp only [List.mem_cons, List.not_mem_nil, or_false] at mu
    omega
  have l4 : (rangeD 0 400).length = 400 := by unfold rangeD; rw [List.length_map, List.length_range]
  obtain ⟨Q, a5, a6, b2, e2, V2, nd, gq, lq⟩ := lp_for (many := many) (w := w) (u := u) hw hw2 (by omega) (by omega) (rangeD 0 400) (c + 1) b1 [] none none V1 (by rw [l4]; omega) List.Pairwise.nil (fun p hp => (by cases hp)) (Nat.zero_le _) (by rw [l4]; decide)
  rw [l4] at V2
  have fq : ∀ p ∈ Q, FrP p ∧ PB 10 p := fun p hp => by
    obtain ⟨i, j, i0, i1, j0, j1, rfl⟩ := gq p hp
    exact ⟨gr_fr (by omega), gr_bd (by omega) (by show u.natAbs < 1024; omega) (by show i.natAbs < 1024; omega) (by show j.natAbs < 1024; omega) (by decide)⟩
  obtain ⟨R, pw, pm, e3⟩ := in_order_ok (n := 10) (by decide) fq nd (by omega) b2
  refine ⟨R, u, b2, u3, pw, pm.nodup_iff.mpr nd, fun p hp => gq p (pm.subset hp), by rw [pm.length_eq]; exact lq, V2.mono (by omega), ?_⟩
  refine v_run (b1 := b2) rfl (v_seq (b1 := b1) (ρ' := [some .box, some (.int (many : Int)), some (.int w), some (.int u), none, none, none]) (v_set (v_call (v_acons (v_var rfl) rfl (v_acons (v_f (v_lst (v_acons v_c rfl (v_acons v_c rfl (v_acons v_c rfl (v_acons v_c rfl (v_acons v_c rfl v_nil))))) (Nat.le_of_ble_eq_true rfl))) rfl v_nil)) e1) rfl) (v_seq (b1 := b1) (ρ' := [some .box, some (.int (many : Int)), some (.int w), some (.int u), some (.own []), none, none]) rfl (v_seq (b1 := b2) (ρ' := [some .box, some (.int (many : Int)), some (.int w), some (.int u), some (.own (Q.map pt)), a5, a6]) e2 (v_frz (xs := Q.map pt) rfl (v_ret (v_call (v_acons (v_var rfl) rfl v_nil) e3) rfl)))))
end Lw

set_option Elab.async false
set_option linter.all false
set_option maxRecDepth 100000
set_option maxHeartbeats 4000000
/-! typed: what several laws share -/
namespace Lw
open PySem PySem.Spec PyProof.Rows L2 Pu Ma
theorem v_fsort {f : DEnv → M D} {ρ : DEnv} {b b1 : Bx} {d : D} {r : Res (List D)} (h : f ρ b = .ok d b1) (h2 : sortF1 d b1 = r) : fSort f ρ b = r := by
  unfold fSort
  rw [bindA, h, okB, h2]
theorem v_fsortset {f : DEnv → M D} {ρ : DEnv} {b b1 : Bx} {d : D} {r : Res (List D)} (h : f ρ b = .ok d b1) (h2 : sortSet1 d b1 = r) : fSortSet f ρ b = r := by
  unfold fSortSet
  rw [bindA, h, okB, h2]
theorem v_iseq {f : DEnv → M D} {ρ : DEnv} {b b1 : Bx} {d : D} {r : Res (List D)} (h : f ρ b = .ok d b1) (h2 : itemsD d b1 = r) : iSeqD f ρ b = r := by
  unfold iSeqD
  rw [bindA, h, okB, h2]
theorem cutAll (xs : List D) : Pu.cutD xs (some (xs.length : Int)) none = [] := by
  unfold Pu.cutD
  rw [HT.sIx_none, HT.sIx_nat, Nat.min_self, List.drop_length, List.take_nil]
theorem lpD_tup (kv : List Int × List Int) : lpD kv = .tup [rowD kv.1, rowD kv.2] := rfl
theorem LinesOk.len {n : Nat} {P : List Pt} (hP : Pts n P) (hl : P.length ≤ 30) {T : Tbl} (h : LinesOk P T) : T.length < 4000 := by
  have h1 : ∀ kv ∈ T, ∃ i ∈ List.range 30, ∃ j ∈ List.range 30, kv = (key (ln P i j), rowI (places P (ln P i j))) := fun kv hkv => by
    obtain ⟨i, j, hij, hj, e1, e2⟩ := h.mem kv.1 kv.2 hkv
    exact ⟨i, List.mem_range.mpr (by omega), j, List.mem_range.mpr (by omega), Prod.ext e1 e2⟩
  have nd : T.Nodup := List.Pairwise.imp (fun {a c} h e => h (by rw [e])) (List.pairwise_map.mp h.nd)
  have sub : T ⊆ ((List.range 30).flatMap fun i => (List.range 30).map fun j => (key (ln P i j), rowI (places P (ln P i j)))) := fun kv hkv => by
    obtain ⟨i, hi, j, hj, e⟩ := h1 kv hkv
    exact List.mem_flatMap.mpr ⟨i, hi, List.mem_map.mpr ⟨j, hj, e.symm⟩⟩
  have := List.Nodup.length_le_of_subset nd sub
  have e : ((List.range 30).flatMap fun i => (List.range 30).map fun j => (key (ln P i j), rowI (places P (ln P i j)))).length = 900 := by
    rw [List.length_flatMap]
    simp only [List.length_map, List.length_range]
    decide +kernel
  omega
theorem usort_perm {xs ys : List Int} (h : xs.Perm ys) : usort xs = usort ys := ints_ext (usort_pw xs) (usort_pw ys) fun x => by rw [usort_mem, usort_mem, h.mem_iff]
def lens (P : List Pt) : List Int := (rowsL P).map fun v => (v.length : Int)
theorem one_row {P : List Pt} {n : Nat} (hP : Pts n P) (l3 : 3 ≤ P.length) (h : ∀ r ∈ P.drop 2, Col (gp P 0) (gp P 1) r) : (rowsL P).length ≤ 1 := by
  have f := fun {i : Nat} (hi : i < P.length) => hP.fr _ (gp_mem hi)
  have n01 := gp_ne hP.nd (i := 0) (j := 1) (by omega) (by omega) (by decide)
  have on : ∀ m, m < P.length → On (ln P 0 1) (gp P m) := fun m hm => by
    by_cases z0 : m = 0
    · subst z0; exact on_left (f (by omega)) (f (by omega)) n01
    · by_cases z1 : m = 1
      · subst z1; exact on_right (f (by omega)) (f (by omega)) n01
      · refine (on_line (f (by omega)) (f (by omega)) n01 _).mpr (h _ ?_)
        have e : P[m]? = (P.drop 2)[m - 2]? := by rw [List.getElem?_drop]; congr 1; omega
        exact List.mem_of_getElem? (e.symm.trans (gp_get hm))
  have all : ∀ j k, j < k → k < P.length → ln P j k = ln P 0 1 := fun j k hjk hk => by
    have hj : j < P.length := by omega
    by_cases z : j = 0
    · subst z
      exact line_on (f (by omega)) (f (by omega)) (f hk) n01 (gp_ne hP.nd hj hk (by omega)) (on k hk)
    · have n0j := gp_ne hP.nd (i := 0) (j := j) (by omega) hj (by omega)
      have e1 : ln P 0 j = ln P 0 1 := line_on (f (by omega)) (f (by omega)) (f hj) n01 n0j (on j hj)
      have e2 : ln P j 0 = ln P 0 1 := (line_sym (f (by omega)) (f hj) n0j).trans e1
      exact (line_on (f hj) (f (by omega)) (f hk) n0j.symm (gp_ne hP.nd hj hk (by omega)) (by rw [show lineT (gp P j) (gp P 0) = ln P 0 1 from e2]; exact on k hk)).trans e2
  have nd : (rowsL P).Nodup := nodup_of_pw rowsL_pw
  have same : ∀ v ∈ rowsL P, v = rowI (places P (ln P 0 1)) := fun v hv => by
    obtain ⟨j, k, hjk, hk, _, rfl⟩ := rowsL_mem.mp hv
    unfold row
    rw [all j k hjk hk]
  have := List.Nodup.length_le_of_subset nd (show rowsL P ⊆ [rowI (places P (ln P 0 1))] from fun v hv => List.mem_singleton.mpr (same v hv))
  exact this
theorem sgn_dec (r : Int) : decide (sgn r = 0) = decide (r = 0) := decide_eq_decide.mpr (sgn_zero r)
theorem row_pw (P : List Pt) (j k : Nat) : (row P j k).Pairwise (· < ·) := List.Pairwise.filter _ List.pairwise_lt_range
theorem from_pw (j n : Nat) : (from_ j n).Pairwise (· < ·) := by
  unfold from_
  rw [List.pairwise_map]
  exact List.pairwise_lt_range.imp fun h => by omega
theorem nats_ext {l m : List Nat} (hl : l.Pairwise (· < ·)) (hm : m.Pairwise (· < ·)) (h : ∀ x, x ∈ l ↔ x ∈ m) : l = m := sorted_ext (fun a => Nat.lt_irrefl a) (fun a b c => Nat.lt_trans) hl hm h
theorem rng_from (k n : Nat) (hk : k < 2 ^ 30) (hn : n < 2 ^ 30) (b : Bx) : rng2 [.int ((k : Int) + 1), .int (n : Int)] b = .ok ((from_ k n).map fun i : Nat => D.int (i : Int)) b := by
  show (if ((k : Int) + 1).natAbs < 2 ^ 40 ∧ (n : Int).natAbs < 2 ^ 40 then pure (rangeD ((k : Int) + 1) ((n : Int) - ((k : Int) + 1)).toNat) else stuck : M (List D)) b = _
  rw [if_pos ⟨by omega, by omega⟩]
  show Res.ok (rangeD ((k : Int) + 1) ((n : Int) - ((k : Int) + 1)).toNat) b = _
  congr 1
  unfold rangeD from_
  rw [List.map_map, show ((n : Int) - ((k : Int) + 1)).toNat = n - (k + 1) by omega]
  apply List.map_congr_left
  intro i _
  show D.int ((k : Int) + 1 + (i : Int)) = D.int ((k + 1 + i : Nat) : Int)
  congr 1
theorem v_rng2 {fs : DEnv → M (List D)} {ρ : DEnv} {b b1 : Bx} {ds : List D} {r : Res (List D)} (h : fs ρ b = .ok ds b1) (h2 : rng2 ds b1 = r) : iRng2D fs ρ b = r := by
  unfold iRng2D
  rw [bindA, h, okB, h2]
theorem v_rng1 {fs : DEnv → M (List D)} {ρ : DEnv} {b b1 : Bx} {ds : List D} {r : Res (List D)} (h : fs ρ b = .ok ds b1) (h2 : rng1 ds b1 = r) : iRng1D fs ρ b = r := by
  unfold iRng1D
  rw [bindA, h, okB, h2]
theorem rng_nat (n : Nat) (hn : n < 2 ^ 30) (b : Bx) : rng1 [.int (n : Int)] b = .ok ((List.range n).map fun i : Nat => D.int (i : Int)) b := by
  show (if (n : Int).natAbs < 2 ^ 40 then pure (rangeD 0 (n : Int).toNat) else stuck : M (List D)) b = _
  rw [if_pos (by omega)]
  show Res.ok (rangeD 0 (n : Int).toNat) b = _
  congr 1
  unfold rangeD
  rw [Int.toNat_natCast]
  apply List.map_congr_left
  intro i _
  rw [Int.zero_add]
theorem v_for {it : DEnv → M (List D)} {k : D → DEnv → Option DEnv} {body : DEnv → M Out} {ρ : DEnv} {b b1 : Bx} {ds : List D} {r : Res Out} (h : it ρ b = .ok ds b1) (h2 : forL k body ds ρ b1 = r) : sFor it k body ρ b = r := by
  unfold sFor
  rw [bindA, h, okB, h2]
theorem sum_congr {l : List Nat} {f g : Nat → Nat} (h : ∀ x ∈ l, f x = g x) : (l.map f).sum = (l.map g).sum := by rw [List.map_congr_left h]
theorem filter_flat {α β : Type} (f : α → List β) (q : β → Bool) : ∀ l : List α, (l.flatMap f).filter q = l.flatMap fun a => (f a).filter q
  | [] => rfl
  | a :: l => by rw [List.flatMap_cons, List.flatMap_cons, List.filter_append, filter_flat f q l]
theorem pn_fr (q : Q2) (n : Nat) : Pn (n + 1) (fr q) := .tup (.cons (.int _ _) (.cons (.int _ _) .nil)) (Nat.le_of_ble_eq_true rfl)
theorem pn_pt (p : Pt) (n : Nat) : Pn (n + 2) (pt p) := .tup (.cons (pn_fr _ _) (.cons (pn_fr _ _) .nil)) (Nat.le_of_ble_eq_true rfl)
theorem pn_pts {P : List Pt} (h : P.length < 90000) (n : Nat) : Pn (n + 3) (.tup (P.map pt)) := .tup (Pns.of pt P fun p _ => pn_pt p n) (by rw [List.length_map]; exact h)
theorem pn_row {v : List Int} (h : v.length < 90000) (n : Nat) : Pn (n + 1) (rowD v) := .tup (Pns.of D.int v fun x _ => .int n x) (by rw [List.length_map]; exact h)
theorem pn_rows {vs : List (List Int)} (h : vs.length < 90000) (hv : ∀ v ∈ vs, v.length < 90000) (n : Nat) : Pn (n + 2) (.tup (vs.map rowD)) := .tup (Pns.of rowD vs fun v m => pn_row (hv v m) n) (by rw [List.length_map]; exact h)
theorem pl_pts {P : List Pt} (h : P.length ≤ 40) : Pl 3 (.tup (P.map pt)) := by
  have go : ∀ R : List Pt, Pls 2 (R.map pt) := fun R => by
    induction R with
    | nil => exact .nil
    | cons p R ih => exact .cons (.tup (.cons (.tup (.cons (.int _ _) (.cons (.int _ _) .nil)) (Nat.le_of_ble_eq_true rfl)) (.cons (.tup (.cons (.int _ _) (.cons (.int _ _) .nil)) (Nat.le_of_ble_eq_true rfl)) .nil)) (Nat.le_of_ble_eq_true rfl)) ih
  exact .tup (go P) (by rw [List.length_map]; exact h)
theorem same_of {d e : D} (h : d = e) (n : Nat) (p : Pn n d) (hn : n < 12) (b : Bx) : f__law_same [d, e] b = .ok (.bl true) b := by
  subst h
  exact same_ok b n 12 d p hn
theorem mx_refl : ∀ {P : List Pt}, P.length ≤ 40 → Mx 3 (.tup (P.map pt)) (.tup (P.map pt)) := fun {P} h => by
  have go : ∀ R : List Pt, Mxs 2 (R.map pt) (R.map pt) := fun R => by
    induction R with
    | nil => exact .nil
    | cons p R ih => exact .cons (.tup (.cons (.tup (.cons (.int _ _) (.cons (.int _ _) .nil)) (Nat.le_of_ble_eq_true rfl)) (.cons (.tup (.cons (.int _ _) (.cons (.int _ _) .nil)) (Nat.le_of_ble_eq_true rfl)) .nil)) (Nat.le_of_ble_eq_true rfl)) ih
  exact .tup (go P) (by rw [List.length_map]; exact h)
theorem rows_ok (vs : List (List Int)) : (D.lst (vs.map rowD)).ok deep = true := by
  show D.ok (59 + 1) (.lst (vs.map rowD)) = true
  rw [D.ok]
  refine oks_all 59 rowD vs fun v _ => ?_
  show D.ok (58 + 1) (.tup (v.map D.int)) = true
  rw [D.ok, oks_ints]
theorem ne_nil (vs : List (List Int)) (b : Bx) : neD (.lst (vs.map rowD)) (.lst []) b = .ok (.bl (decide (0 < vs.length))) b := by
  show (if ((D.lst (vs.map rowD)).ok deep && (D.lst []).ok deep) = true then pure (.bl (!D.eqv (.lst (vs.map rowD)) (.lst []))) else stuck : M D) b = _
  rw [if_pos (by rw [rows_ok]; rfl)]
  show Res.ok (D.bl (!D.eqv (.lst (vs.map rowD)) (.lst []))) b = _
  rw [D.eqv]
  cases vs with
  | nil => rw [List.map_nil, D.eqvs]; rfl
  | cons v vs => rfl
theorem len_row (v : List Int) (b : Bx) : lenD [rowD v] b = .ok (.int v.length) b := by
  show Res.ok (D.int (((v.map D.int).length : Nat) : Int)) b = _
  rw [List.length_map]
theorem len_rows (vs : List (List Int)) (b : Bx) : lenD [.lst (vs.map rowD)] b = .ok (.int vs.length) b := by
  show Res.ok (D.int (((vs.map rowD).length : Nat) : Int)) b = _
  rw [List.length_map]
theorem rowsL_pos {P : List Pt} {n : Nat} (hP : Pts n P) (h : 2 ≤ P.length) (hl : P.length ≤ 30) : rowsL P ≠ [] := fun e => by
  have f0 := hP.fr _ (gp_mem (show 0 < P.length by omega))
  have f1 := hP.fr _ (gp_mem (show 1 < P.length by omega))
  have ne := gp_ne hP.nd (i := 0) (j := 1) (by omega) (by omega) (by decide)
  have m0 : 0 ∈ row P 0 1 := places_mem.mpr ⟨by omega, on_left f0 f1 ne⟩
  have m1 : 1 ∈ row P 0 1 := places_mem.mpr ⟨by omega, on_right f0 f1 ne⟩
  have pw := row_pw P 0 1
  have t2 : (row P 0 1).take 2 = [0, 1] := by
    cases e2 : row P 0 1 with
    | nil => rw [e2] at m0; cases m0
    | cons a r =>
      rw [e2] at m0 m1 pw
      have pa := List.pairwise_cons.mp pw
      have a0 : a = 0 := by
        rcases List.mem_cons.mp m0 with h | h
        · exact h.symm
        · have := pa.1 0 h; omega
      subst a0
      cases r with
      | nil => rcases List.mem_cons.mp m1 with h | h <;> cases h
      | cons c r =>
        have pc := List.pairwise_cons.mp pa.2
        have c0 := pa.1 c List.mem_cons_self
        have c1 : c = 1 := by
          rcases List.mem_cons.mp m1 with h | h
          · cases h
          · rcases List.mem_cons.mp h with h | h
            · exact h.symm
            · have := pc.1 1 h; omega
        subst c1
        rfl
  have : rowI (row P 0 1) ∈ rowsL P := rowsL_mem.mpr ⟨0, 1, by decide, by omega, t2, rfl⟩
  rw [e] at this
  cases this
end Lw

set_option Elab.async false
set_option linter.all false
set_option maxRecDepth 100000
set_option maxHeartbeats 4000000
/-! typed: points of the grid as cells; two colours -/
namespace Lw
open PySem PySem.Spec PyProof.Rows L2 Pu Ma
theorem row_two {P : List Pt} {n : Nat} (hP : Pts n P) {i j : Nat} (hij : i < j) (hj : j < P.length) : ∃ a c r, row P i j = a :: c :: r ∧ a < c ∧ c < P.length ∧ row P a c = row P i j := by
  have hi : i < P.length := by omega
  have fi := hP.fr _ (gp_mem hi)
  have fj := hP.fr _ (gp_mem hj)
  have nij := gp_ne hP.nd hi hj (by omega)
  have pw := row_pw P i j
  have mi : i ∈ row P i j := places_mem.mpr ⟨hi, on_left fi fj nij⟩
  have mj : j ∈ row P i j := places_mem.mpr ⟨hj, on_right fi fj nij⟩
  cases e : row P i j with
  | nil => rw [e] at mi; cases mi
  | cons a l =>
    cases l with
    | nil =>
      rw [e] at mi mj
      have := List.mem_singleton.mp mi
      have := List.mem_singleton.mp mj
      omega
    | cons c r =>
      rw [e] at pw
      have hac : a < c := (List.pairwise_cons.mp pw).1 c List.mem_cons_self
      have ma : a ∈ row P i j := by rw [e]; exact List.mem_cons_self
      have mc : c ∈ row P i j := by rw [e]; exact List.mem_cons_of_mem _ List.mem_cons_self
      obtain ⟨ha, oa⟩ := places_mem.mp ma
      obtain ⟨hc, oc⟩ := places_mem.mp mc
      have el : ln P a c = ln P i j := by
        have fa := hP.fr _ (gp_mem ha)
        have fc := hP.fr _ (gp_mem hc)
        by_cases z : a = i
        · subst z
          exact line_on fi fj fc nij (gp_ne hP.nd hi hc (by omega)) oc
        · have nia := gp_ne hP.nd hi ha (fun w => z w.symm)
          have e1 : ln P i a = ln P i j := line_on fi fj fa nij nia oa
          have e2 : ln P a i = ln P i j := (line_sym fi fa nia).trans e1
          by_cases z2 : c = i
          · subst z2
            exact e2
          · have nai := gp_ne hP.nd ha hi z
            have nac := gp_ne hP.nd ha hc (by omega)
            exact (line_on fa fi fc nai nac (by rw [show lineT (gp P a) (gp P i) = ln P i j from e2]; exact oc)).trans e2
      refine ⟨a, c, r, rfl, hac, hc, ?_⟩
      rw [← e]
      unfold row
      rw [el]
theorem row_in {P : List Pt} {n : Nat} (hP : Pts n P) {i j : Nat} (hij : i < j) (hj : j < P.length) : rowI (row P i j) ∈ rowsL P := by
  obtain ⟨a, c, r, e, hac, hc, er⟩ := row_two hP hij hj
  exact rowsL_mem.mpr ⟨a, c, hac, hc, by rw [er, e]; rfl, by rw [er]⟩
theorem row_mem {P : List Pt} {n : Nat} (hP : Pts n P) {i j : Nat} (hi : i < P.length) (hj : j < P.length) (n : i ≠ j) {m : Nat} : m ∈ row P i j ↔ m < P.length ∧ Col (gp P i) (gp P j) (gp P m) := by
  have e := on_line (hP.fr _ (gp_mem hi)) (hP.fr _ (gp_mem hj)) (gp_ne hP.nd hi hj n) (gp P m)
  constructor
  · intro h
    obtain ⟨h1, h2⟩ := places_mem.mp h
    exact ⟨h1, e.mp h2⟩
  · rintro ⟨h1, h2⟩
    exact places_mem.mpr ⟨h1, e.mpr h2⟩
/-- a row: of two places or more, ascending -/
theorem rowsL_v {P : List Pt} {v : List Int} (h : v ∈ rowsL P) : ∃ (j k : Nat) (r : List Nat), j < k ∧ k < P.length ∧ row P j k = j :: k :: r ∧ v = rowI (row P j k) := by
  obtain ⟨j, k, h1, h2, h3, h4⟩ := rowsL_mem.mp h
  obtain ⟨r, e⟩ := take2 h3
  exact ⟨j, k, r, h1, h2, e, h4⟩
theorem rowI_len (l : List Nat) : (rowI l).length = l.length := List.length_map ..
theorem row_lt {P : List Pt} {j k m : Nat} (h : m ∈ row P j k) : m < P.length := (places_mem.mp h).1
theorem rowsL_in {P : List Pt} {v : List Int} (h : v ∈ rowsL P) : v.Pairwise (· < ·) ∧ 2 ≤ v.length ∧ ∀ x ∈ v, 0 ≤ x ∧ x < P.length := by
  obtain ⟨j, k, r, hjk, hk, e, rfl⟩ := rowsL_v h
  refine ⟨rowI_pw, by rw [rowI_len, e]; simp, fun x hx => ?_⟩
  obtain ⟨m, hm, rfl⟩ := List.mem_map.mp hx
  have := row_lt hm
  exact ⟨Int.natCast_nonneg m, Int.ofNat_lt.mpr this⟩
/-- a cell's point -/
def gcP (u : Int) (c : Nat) : Pt := gr u ((c / 4 : Nat) : Int) ((c % 4 : Nat) : Int)
abbrev gl (L : List Nat) (i : Nat) : Nat := L.getD i 0
theorem gc_wh {u : Int} (hu : 0 < u) (c : Nat) : 0 < (wh (gcP u c)).2.2 ∧ u * (wh (gcP u c)).1 = (wh (gcP u c)).2.2 * ((c / 4 : Nat) : Int) ∧ (wh (gcP u c)).2.1 = (wh (gcP u c)).2.2 * ((c % 4 : Nat) : Int) := by
  have s1 := (low_spec (a := ((c / 4 : Nat) : Int)) (b := u) (by omega)).2.1
  have s2 := (low_spec (a := ((c % 4 : Nat) : Int)) (b := 1) (by decide)).2.1
  refine ⟨wh_pos (gr_fr hu), ?_, ?_⟩
  · show u * ((low ((c / 4 : Nat) : Int) u).1 * (low ((c % 4 : Nat) : Int) 1).2) = ((low ((c / 4 : Nat) : Int) u).2 * (low ((c % 4 : Nat) : Int) 1).2) * ((c / 4 : Nat) : Int)
    generalize (low ((c / 4 : Nat) : Int) u) = x at *
    generalize (low ((c % 4 : Nat) : Int) 1) = y at *
    grind
  · show (low ((c % 4 : Nat) : Int) 1).1 * (low ((c / 4 : Nat) : Int) u).2 = ((low ((c / 4 : Nat) : Int) u).2 * (low ((c % 4 : Nat) : Int) 1).2) * ((c % 4 : Nat) : Int)
    generalize (low ((c / 4 : Nat) : Int) u) = x at *
    generalize (low ((c % 4 : Nat) : Int) 1) = y at *
    grind
theorem det_cells {u : Int} {p q r : T3} {i1 i2 i3 j1 j2 j3 : Int} (a1 : u * p.1 = p.2.2 * i1) (a2 : u * q.1 = q.2.2 * i2) (a3 : u * r.1 = r.2.2 * i3) (b1 : p.2.1 = p.2.2 * j1) (b2 : q.2.1 = q.2.2 * j2) (b3 : r.2.1 = r.2.2 * j3) :
    u * det p q r = p.2.2 * q.2.2 * r.2.2 * ((i2 - i1) * (j3 - j1) - (i3 - i1) * (j2 - j1)) := by
  unfold det dot cr
  rw [b1, b2, b3]
  show u * ((p.2.2 * j1 * q.2.2 - p.2.2 * (q.2.2 * j2)) * r.1 + (p.2.2 * q.1 - p.1 * q.2.2) * (r.2.2 * j3) + (p.1 * (q.2.2 * j2) - p.2.2 * j1 * q.1) * r.2.2) = _
  generalize p.1 = A1 at *
  generalize q.1 = A2 at *
  generalize r.1 = A3 at *
  generalize p.2.2 = S1 at *
  generalize q.2.2 = S2 at *
  generalize r.2.2 = S3 at *
  clear b1 b2 b3
  have e : u * ((S1 * j1 * S2 - S1 * (S2 * j2)) * A3 + (S1 * A2 - A1 * S2) * (S3 * j3) + (A1 * (S2 * j2) - S1 * j1 * A2) * S3) = (S1 * j1 * S2 - S1 * (S2 * j2)) * (u * A3) + (S1 * (u * A2) - (u * A1) * S2) * (S3 * j3) + ((u * A1) * (S2 * j2) - S1 * j1 * (u * A2)) * S3 := by grind
  rw [e, a1, a2, a3]
  grind
theorem col_cl {u : Int} (hu : 0 < u) (a b c : Nat) : Col (gcP u a) (gcP u b) (gcP u c) ↔ Gr.cl a b c = true := by
  obtain ⟨p1, p2, p3⟩ := gc_wh hu a
  obtain ⟨q1, q2, q3⟩ := gc_wh hu b
  obtain ⟨r1, r2, r3⟩ := gc_wh hu c
  have e := det_cells p2 q2 r2 p3 q3 r3
  unfold Col Gr.cl
  rw [decide_eq_true_iff]
  have s0 : (wh (gcP u a)).2.2 * (wh (gcP u b)).2.2 * (wh (gcP u c)).2.2 ≠ 0 := Int.ne_of_gt (Int.mul_pos (Int.mul_pos p1 q1) r1)
  constructor
  · intro h
    rw [h, Int.mul_zero] at e
    have := (Int.mul_eq_zero.mp e.symm).resolve_left s0
    omega
  · intro h
    rw [h, Int.sub_self, Int.mul_zero] at e
    exact (Int.mul_eq_zero.mp e).resolve_left (by omega)
structure GP (u : Int) (P : List Pt) (L : List Nat) : Prop where
  pos : 0 < u
  eq : P = L.map (gcP u)
  asc : L.Pairwise (· < ·)
  sm : ∀ c ∈ L, c < 16
theorem ahead_lt {u : Int} (hu : 0 < u) {a c : Nat} (ha : a < 16) (hc : c < 16) (h : ahead (gcP u a) (gcP u c) = true) : a < c := by
  have s1 := low_spec (a := ((a / 4 : Nat) : Int)) (b := u) (by omega)
  have s2 := low_spec (a := ((a % 4 : Nat) : Int)) (b := 1) (by decide)
  have t1 := low_spec (a := ((c / 4 : Nat) : Int)) (b := u) (by omega)
  have t2 := low_spec (a := ((c % 4 : Nat) : Int)) (b := 1) (by decide)
  unfold ahead gcP gr at h
  simp only [Bool.or_eq_true, Bool.and_eq_true, decide_eq_true_eq] at h
  have p1 := s1.1.pos
  have p2 := s2.1.pos
  have p3 := t1.1.pos
  have p4 := t2.1.pos
  have e1 := s1.2.1
  have e2 := s2.2.1
  have e3 := t1.2.1
  have e4 := t2.2.1
  clear s1 s2 t1 t2
  generalize (low ((a / 4 : Nat) : Int) u) = x at *
  generalize (low ((a % 4 : Nat) : Int) 1) = y at *
  generalize (low ((c / 4 : Nat) : Int) u) = z at *
  generalize (low ((c % 4 : Nat) : Int) 1) = w at *
  have k1 : u * (x.1 * z.2 - z.1 * x.2) = (x.2 * z.2) * (((a / 4 : Nat) : Int) - ((c / 4 : Nat) : Int)) := by grind
  have k2 : (y.1 * w.2 - w.1 * y.2) = (y.2 * w.2) * (((a % 4 : Nat) : Int) - ((c % 4 : Nat) : Int)) := by grind
  have xz : 0 < x.2 * z.2 := Int.mul_pos p1 p3
  have yw : 0 < y.2 * w.2 := Int.mul_pos p2 p4
  rcases h with h | ⟨h1, h2⟩
  · have n : (x.2 * z.2) * (((a / 4 : Nat) : Int) - ((c / 4 : Nat) : Int)) < 0 := by rw [← k1]; exact Int.mul_neg_of_pos_of_neg hu (by omega)
    have : ((a / 4 : Nat) : Int) - ((c / 4 : Nat) : Int) < 0 := by
      refine Classical.byContradiction fun q => ?_
      have := Int.mul_nonneg (Int.le_of_lt xz) (show (0 : Int) ≤ ((a / 4 : Nat) : Int) - ((c / 4 : Nat) : Int) by omega)
      omega
    omega
  · have n1 : (x.2 * z.2) * (((a / 4 : Nat) : Int) - ((c / 4 : Nat) : Int)) = 0 := by rw [← k1, h1, Int.sub_self, Int.mul_zero]
    have d1 := (Int.mul_eq_zero.mp n1).resolve_left (by omega)
    have n : (y.2 * w.2) * (((a % 4 : Nat) : Int) - ((c % 4 : Nat) : Int)) < 0 := by rw [← k2]; omega
    have : ((a % 4 : Nat) : Int) - ((c % 4 : Nat) : Int) < 0 := by
      refine Classical.byContradiction fun q => ?_
      have := Int.mul_nonneg (Int.le_of_lt yw) (show (0 : Int) ≤ ((a % 4 : Nat) : Int) - ((c % 4 : Nat) : Int) by omega)
      omega
    omega
theorem cells_of {u w : Int} (hw : w ≤ 4) : ∀ P : List Pt, (∀ p ∈ P, ∃ i j : Int, 0 ≤ i ∧ i < w ∧ 0 ≤ j ∧ j < w ∧ p = gr u i j) → ∃ L : List Nat, P = L.map (gcP u) ∧ ∀ c ∈ L, c < 16
  | [], _ => ⟨[], rfl, fun c h => by cases h⟩
  | p :: P, h => by
    obtain ⟨i, j, i0, i1, j0, j1, e⟩ := h p List.mem_cons_self
    obtain ⟨L, e2, hl⟩ := cells_of hw P fun q hq => h q (List.mem_cons_of_mem _ hq)
    refine ⟨(4 * i.toNat + j.toNat) :: L, ?_, fun c hc => ?_⟩
    · rw [List.map_cons, ← e2, e]
      congr 1
      unfold gcP
      congr 1 <;> omega
    · rcases List.mem_cons.mp hc with z | z
      · omega
      · exact hl c z
theorem grid_of {u w : Int} {P : List Pt} (hu : 0 < u) (hw : w ≤ 4) (pw : P.Pairwise fun a c => ahead a c = true) (h : ∀ p ∈ P, ∃ i j : Int, 0 ≤ i ∧ i < w ∧ 0 ≤ j ∧ j < w ∧ p = gr u i j) : ∃ L, GP u P L := by
  obtain ⟨L, e, hl⟩ := cells_of hw P h
  refine ⟨L, hu, e, ?_, hl⟩
  rw [e] at pw
  refine List.Pairwise.imp_of_mem ?_ (List.pairwise_map.mp pw)
  intro a c ha hc hac
  exact ahead_lt hu (hl a ha) (hl c hc) hac
theorem GP.len {u : Int} {P : List Pt} {L : List Nat} (G : GP u P L) : P.length = L.length := by rw [G.eq, List.length_map]
theorem GP.at {u : Int} {P : List Pt} {L : List Nat} (G : GP u P L) {i : Nat} (hi : i < P.length) : gp P i = gcP u (gl L i) ∧ gl L i < 16 := by
  have hi' : i < L.length := by rw [← G.len]; exact hi
  have e : L[i]? = some (gl L i) := by
    show _ = some (L.getD i 0)
    rw [List.getD_eq_getElem?_getD, List.getElem?_eq_getElem hi']
    rfl
  refine ⟨?_, G.sm _ (List.mem_of_getElem? e)⟩
  show P.getD i p0 = _
  rw [List.getD_eq_getElem?_getD, G.eq, List.getElem?_map, e]
  rfl
theorem GP.nr {u : Int} {P : List Pt} {L : List Nat} (G : GP u P L) (h3 : u ≤ 3) {p : Pt} (hp : p ∈ P) : Nr p.1 ∧ Nr p.2 := by
  have e := G.eq
  subst e
  obtain ⟨c, hc, rfl⟩ := List.mem_map.mp hp
  have c16 := G.sm c hc
  have hu := G.pos
  have b := gr_bd (u := u) (i := ((c / 4 : Nat) : Int)) (j := ((c % 4 : Nat) : Int)) (n := 10) hu (by show u.natAbs < 1024; omega) (by show (((c / 4 : Nat) : Int)).natAbs < 1024; omega) (by show (((c % 4 : Nat) : Int)).natAbs < 1024; omega) (by decide)
  have f := gr_fr (u := u) (i := ((c / 4 : Nat) : Int)) (j := ((c % 4 : Nat) : Int)) hu
  have h1 := b.x.b1
  have h2 := b.x.b2
  have h3 := b.y.b1
  have h4 := b.y.b2
  unfold Bd at h1 h2 h3 h4
  have h0 := b.x.pos
  have h00 := b.y.pos
  exact ⟨⟨f.x, by show (gr u _ _).1.1.natAbs ≤ _; omega, by show (gr u _ _).1.2 ≤ _; omega⟩, ⟨f.y, by show (gr u _ _).2.1.natAbs ≤ _; omega, by show (gr u _ _).2.2 ≤ _; omega⟩⟩
theorem GP.vp {u : Int} {P : List Pt} {L : List Nat} (G : GP u P L) (h3 : u ≤ 3) (pw : P.Pairwise fun a c => ahead a c = true) (l3 : 3 ≤ P.length) : VP P :=
  ⟨fun p hp => (G.nr h3 hp).1, fun p hp => (G.nr h3 hp).2, pw, l3, by
    rw [G.len]
    have := List.Nodup.length_le_of_subset (l₂ := List.range 16) (G.asc.imp fun {a c} h => Nat.ne_of_lt h) fun c hc => List.mem_range.mpr (G.sm c hc)
    rw [List.length_range] at this
    omega⟩
theorem GP.inj {u : Int} {P : List Pt} {L : List Nat} (G : GP u P L) {i j : Nat} (hi : i < P.length) (hj : j < P.length) (e : gl L i = gl L j) : i = j := by
  rw [G.len] at hi hj
  have lt := List.pairwise_iff_getElem.mp G.asc
  have a1 : L[i]? = some (gl L i) := by
    show _ = some (L.getD i 0)
    rw [List.getD_eq_getElem?_getD, List.getElem?_eq_getElem hi]
    rfl
  have a2 : L[j]? = some (gl L j) := by
    show _ = some (L.getD j 0)
    rw [List.getD_eq_getElem?_getD, List.getElem?_eq_getElem hj]
    rfl
  rw [List.getElem?_eq_getElem hi] at a1
  rw [List.getElem?_eq_getElem hj] at a2
  have e2 : L[i] = L[j] := (Option.some.inj a1).trans (e.trans (Option.some.inj a2).symm)
  rcases Nat.lt_trichotomy i j with z | z | z
  · have := lt i j hi hj z; omega
  · exact z
  · have := lt j i hj hi z; omega
theorem GP.row {u : Int} {P : List Pt} {L : List Nat} (G : GP u P L) {n : Nat} (hP : Pts n P) {i j m : Nat} (hi : i < P.length) (hj : j < P.length) (ij : i ≠ j) : m ∈ row P i j ↔ m < P.length ∧ Gr.cl (gl L i) (gl L j) (gl L m) = true := by
  rw [row_mem hP hi hj ij]
  constructor
  · rintro ⟨h1, h2⟩
    rw [(G.at hi).1, (G.at hj).1, (G.at h1).1, col_cl G.pos] at h2
    exact ⟨h1, h2⟩
  · rintro ⟨h1, h2⟩
    rw [(G.at hi).1, (G.at hj).1, (G.at h1).1, col_cl G.pos]
    exact ⟨h1, h2⟩
end Lw

set_option Elab.async false
set_option linter.all false
set_option maxRecDepth 100000
set_option maxHeartbeats 4000000
/-! typed: a point on a line -/
namespace Lw
open PySem PySem.Spec PyProof.Rows L2 Pu Ma
def ht (l : T3) (p : Pt) : Q2 := qplus (qplus (qtimes (l.1, 1) p.1) (qtimes (l.2.1, 1) p.2)) (l.2.2, 1)
theorem ht_zero {l : T3} {p : Pt} (hp : FrP p) : (ht l p).1 = 0 ↔ On l p := by
  have x2 := hp.x.pos
  have y2 := hp.y.pos
  have a := qtimes_spec (p := (l.1, 1)) (q := p.1) Int.one_pos x2
  have c := qtimes_spec (p := (l.2.1, 1)) (q := p.2) Int.one_pos y2
  have s := qplus_spec a.1.pos c.1.pos
  have t := qplus_spec (q := (l.2.2, 1)) s.1.pos Int.one_pos
  have a2 := a.1.pos
  have c2 := c.1.pos
  have s2 := s.1.pos
  have t2 := t.1.pos
  have ea : (qtimes (l.1, 1) p.1).1 * (1 * p.1.2) = (l.1 * p.1.1) * (qtimes (l.1, 1) p.1).2 := a.2
  have ec : (qtimes (l.2.1, 1) p.2).1 * (1 * p.2.2) = (l.2.1 * p.2.1) * (qtimes (l.2.1, 1) p.2).2 := c.2
  have es := s.2
  have et : (ht l p).1 * ((qplus (qtimes (l.1, 1) p.1) (qtimes (l.2.1, 1) p.2)).2 * 1) = ((qplus (qtimes (l.1, 1) p.1) (qtimes (l.2.1, 1) p.2)).1 * 1 + l.2.2 * (qplus (qtimes (l.1, 1) p.1) (qtimes (l.2.1, 1) p.2)).2) * (ht l p).2 := t.2
  have t2' : 0 < (ht l p).2 := t2
  clear a c s t t2
  unfold On dot wh
  show _ ↔ l.1 * (p.1.1 * p.2.2) + l.2.1 * (p.2.1 * p.1.2) + l.2.2 * (p.1.2 * p.2.2) = 0
  generalize ht l p = T at *
  generalize qplus (qtimes (l.1, 1) p.1) (qtimes (l.2.1, 1) p.2) = S at *
  generalize qtimes (l.1, 1) p.1 = A at *
  generalize qtimes (l.2.1, 1) p.2 = B at *
  obtain ⟨⟨x1, x2'⟩, ⟨y1, y2'⟩⟩ := p
  obtain ⟨l0, l1, l2⟩ := l
  obtain ⟨T1, T2⟩ := T
  obtain ⟨S1, S2⟩ := S
  obtain ⟨A1, A2⟩ := A
  obtain ⟨B1, B2⟩ := B
  simp only at *
  rw [Int.one_mul] at ea ec
  rw [Int.mul_one, Int.mul_one] at et
  have m1 : T1 * (S2 * (A2 * B2)) = (S2 * T2) * (A1 * B2 + B1 * A2 + l2 * (A2 * B2)) := by grind
  have m2 : (A1 * B2 + B1 * A2 + l2 * (A2 * B2)) * (x2' * y2') = (A2 * B2) * (l0 * (x1 * y2') + l1 * (y1 * x2') + l2 * (x2' * y2')) := by grind
  have k1 : S2 * (A2 * B2) ≠ 0 := Int.ne_of_gt (Int.mul_pos s2 (Int.mul_pos a2 c2))
  have k2 : S2 * T2 ≠ 0 := Int.ne_of_gt (Int.mul_pos s2 t2')
  have k3 : x2' * y2' ≠ 0 := Int.ne_of_gt (Int.mul_pos x2 y2)
  have k4 : A2 * B2 ≠ 0 := Int.ne_of_gt (Int.mul_pos a2 c2)
  constructor
  · intro z
    rw [z, Int.zero_mul] at m1
    have w := (Int.mul_eq_zero.mp m1.symm).resolve_left k2
    rw [w, Int.zero_mul] at m2
    exact (Int.mul_eq_zero.mp m2.symm).resolve_left k4
  · intro z
    rw [z, Int.mul_zero] at m2
    have w := (Int.mul_eq_zero.mp m2).resolve_right k3
    rw [w, Int.mul_zero] at m1
    exact (Int.mul_eq_zero.mp m1).resolve_right k1
theorem is_on_ok {l : T3} {p : Pt} (h1 : Bd 500 l.1) (h2 : Bd 500 l.2.1) (h3 : Bd 500 l.2.2) (hp : FrP p) (pb : PB 20 p) (b : Bx) : f_is_on [tr l, pt p] b = .ok (.bl (decide (On l p))) b := by
  have o : Bd 500 (1 : Int) := by
    show (1 : Int).natAbs < 2 ^ 500
    exact Nat.one_lt_two_pow (by decide)
  obtain ⟨e1, k1⟩ := times_ok (p := (l.1, 1)) (n := 500) ⟨Int.one_pos, h1, o⟩ (pb.x.mono (by decide)) (by decide) b
  obtain ⟨e2, k2⟩ := times_ok (p := (l.2.1, 1)) (n := 500) ⟨Int.one_pos, h2, o⟩ (pb.y.mono (by decide)) (by decide) b
  obtain ⟨e3, k3⟩ := plus_ok k1 k2 (by decide) b
  obtain ⟨e4, k4⟩ := plus_ok (q := (l.2.2, 1)) k3 ⟨Int.one_pos, h3.mono (by decide), o.mono (by decide)⟩ (by decide) b
  have eh : f_height_at [tr l, pt p] b = .ok (fr (ht l p)) b :=
    v_run rfl (v_seq (v_par (v_acons (v_call (v_acons (v_tup (v_acons (v_bin (v_var rfl) v_c rfl) rfl (v_acons v_c rfl v_nil)) (Nat.le_of_ble_eq_true rfl)) rfl (v_acons (v_bin (v_var rfl) v_c rfl) rfl v_nil)) e1) rfl (v_acons (v_call (v_acons (v_tup (v_acons (v_bin (v_var rfl) v_c rfl) rfl (v_acons v_c rfl v_nil)) (Nat.le_of_ble_eq_true rfl)) rfl (v_acons (v_bin (v_var rfl) v_c rfl) rfl v_nil)) e2) rfl v_nil)))
      (v_ret (v_call (v_acons (v_call (v_acons (v_var rfl) rfl (v_acons (v_var rfl) rfl v_nil)) e3) rfl (v_acons (v_tup (v_acons (v_bin (v_var rfl) v_c rfl) rfl (v_acons v_c rfl v_nil)) (Nat.le_of_ble_eq_true rfl)) rfl v_nil)) e4) rfl))
  refine v_run rfl (v_ret (d := .bl (decide (On l p))) (v_bin (v_bin (v_call (v_acons (v_var rfl) rfl (v_acons (v_var rfl) rfl v_nil)) eh) v_c rfl) v_c ((eqI _ _ b).trans ?_)) rfl)
  congr 2
  exact decide_eq_decide.mpr (ht_zero hp)
theorem line_bd {p q : Pt} (hp : PB 20 p) (hq : PB 20 q) (fp : FrP p) (fq : FrP q) (h : p ≠ q) : Bd 500 (lineT p q).1 ∧ Bd 500 (lineT p q).2.1 ∧ Bd 500 (lineT p q).2.2 := by
  obtain ⟨_, k1⟩ := less_ok hp.y hq.y (by omega) []
  obtain ⟨_, k2⟩ := less_ok hq.x hp.x (by omega) []
  obtain ⟨_, k3⟩ := times_ok k1 (hp.x.mono (m := 20 + 20 + 1) (by omega)) (by omega) []
  obtain ⟨_, k4⟩ := times_ok k2 (hp.y.mono (m := 20 + 20 + 1) (by omega)) (by omega) []
  obtain ⟨_, k5⟩ := plus_ok k3 k4 (by omega) []
  have nz := (line_pre fp fq h).1
  have hw := whole3_eq k1.pos k2.pos (c := (-(rest p q).1, (rest p q).2)) k5.pos
  have k1' := k1.mono (m := 165) (by omega)
  have k2' := k2.mono (m := 165) (by omega)
  have k5' : QB 165 (rest p q) := k5.mono (by omega)
  let w := whole3 (qless p.2 q.2) (qless q.1 p.1) (-(rest p q).1, (rest p q).2)
  have w1 : Bd 500 w.1 := by show Bd _ (whole3 _ _ _).1; rw [hw]; exact (k1'.b1.mul (k2'.b2.mul k5'.b2)).mono (by omega)
  have w2 : Bd 500 w.2.1 := by show Bd _ (whole3 _ _ _).2.1; rw [hw]; exact (k2'.b1.mul (k1'.b2.mul k5'.b2)).mono (by omega)
  have w3 : Bd 500 w.2.2 := by show Bd _ (whole3 _ _ _).2.2; rw [hw]; exact (k5'.b1.neg.mul (k1'.b2.mul k2'.b2)).mono (by omega)
  have es : w = sc (s3 w) (norm w) := norm_sc nz
  have s0 : s3 w ≠ 0 := s3_ne nz
  have sm : ∀ {a c s : Int}, s ≠ 0 → a = s * c → c.natAbs ≤ a.natAbs := fun {a c s} hs e => by
    rw [e, Int.natAbs_mul]
    exact Nat.le_mul_of_pos_left _ (by omega)
  exact ⟨w1.le (sm s0 (congrArg (fun z : T3 => z.1) es)), w2.le (sm s0 (congrArg (fun z : T3 => z.2.1) es)), w3.le (sm s0 (congrArg (fun z : T3 => z.2.2) es))⟩
theorem on_line_ok {P : List Pt} (hP : Pts 20 P) (hl : P.length ≤ 60) {l : T3} (h1 : Bd 500 l.1) (h2 : Bd 500 l.2.1) (h3 : Bd 500 l.2.2) (b : Bx) : f_on_line [.tup (P.map pt), tr l] b = .ok (rowD (rowI (places P l))) b := by
  have c1 : fComp (iEnumD (aCons (eVar 0) aNil)) [2, 3] (gTupD 2 (gConsD (gVar 2) (gConsD (gVar 3) gNilD))) (tTr (eCall f_is_on (aCons (eVar 1) (aCons (eVar 3) aNil)))) (eVar 2) [some (.tup (P.map pt)), some (tr l), none, none] b = .ok ((places P l).map fun i : Nat => D.int (i : Int)) b := by
    refine v_comp (b1 := b) (ds := (List.range P.length).map fun i => .tup [.int ((0 + i : Nat) : Int), pt (gp P i)]) ?_ (by rw [List.length_map, List.length_range]; omega) ?_
    · rw [← enum_map pt p0 P 0]
      rfl
    · refine comp_filter (fun i : Nat => .tup [.int ((0 + i : Nat) : Int), pt (gp P i)]) (fun i : Nat => D.int (i : Int)) (fun i => decide (On l (gp P i))) (List.range P.length) fun i hi => ?_
      have hi := List.mem_range.mp hi
      refine ⟨_, rfl, v_tTr (d := .bl (decide (On l (gp P i)))) (v_call (v_acons (v_var rfl) rfl (v_acons (v_var rfl) rfl v_nil)) (is_on_ok h1 h2 h3 (hP.fr _ (gp_mem hi)) (hP.bd _ (gp_mem hi)) b)) rfl, fun _ => ⟨(Pu.v_var rfl).trans ?_, rfl⟩⟩
      rw [Nat.zero_add]
  refine v_run (b1 := b) rfl (v_ret (d := rowD (rowI (places P l))) (v_b (v_bcons (v_f c1) v_nil) ?_) rfl)
  unfold rowD rowI
  rw [List.map_map]
  rfl
end Lw

set_option Elab.async false
set_option linter.all false
set_option maxRecDepth 100000
set_option maxHeartbeats 4000000
/-! colours: rows of one colour; what the program tells -/
namespace Lw
open PySem PySem.Spec PyProof.Rows L2 Pu Ma
def one (l : List Int) : Bool := decide ((nubL l).length = 1)
theorem one_iff {l : List Int} (ne : l ≠ []) : one l = true ↔ ∀ x ∈ l, ∀ y ∈ l, x = y := by
  unfold one
  rw [decide_eq_true_iff]
  constructor
  · intro h x hx y hy
    match e : nubL l, h with
    | [z], _ =>
      have a := (nub_mem (xs := l) (z := x)).mpr hx
      have c := (nub_mem (xs := l) (z := y)).mpr hy
      rw [e] at a c
      rw [List.mem_singleton.mp a, List.mem_singleton.mp c]
  · intro h
    obtain ⟨x, hx⟩ := List.exists_mem_of_ne_nil l ne
    have nd := nub_nd l
    have m := (nub_mem (xs := l) (z := x)).mpr hx
    have : nubL l ⊆ [x] := fun y hy => List.mem_singleton.mpr (h y (nub_mem.mp hy) x hx)
    have l1 := List.Nodup.length_le_of_subset nd this
    have l2 := List.length_pos_of_mem m
    rw [List.length_singleton] at l1
    omega
abbrev cg (C : List Int) (x : Int) : Int := gx C x.toNat
def cv (C : List Int) (v : List Int) : List Int := v.map (cg C)
def due (P : List Pt) (C : List Int) : List (List Int) := (rowsL P).filter fun v => one (cv C v)
def duD (C : List Int) (v : List Int) : D := .tup [.int (cg C (v.headD 0)), rowD v]
/-- Motzkin, Rabin, on the grid -/
theorem mr {u : Int} {P : List Pt} {L : List Nat} (G : GP u P L) {n : Nat} (hP : Pts n P) (l3 : 3 ≤ P.length) (C : List Int) (h01 : ∀ i, i < P.length → gx C i = 0 ∨ gx C i = 1) (more : 1 < (rowsL P).length) : due P C ≠ [] := by
  have key : ∀ (e : Int) (m : Nat), m ∈ Gr.all → (∃ x y, x ≠ y ∧ m.testBit x = true ∧ m.testBit y = true ∧ (∃ i, i < P.length ∧ gl L i = x ∧ gx C i = e) ∧ (∃ i, i < P.length ∧ gl L i = y ∧ gx C i = e)) → (∀ k, k < P.length → m.testBit (gl L k) = true → gx C k = e) → due P C ≠ [] := by
    rintro e m hm ⟨x, y, n, mx, my, ⟨i, hi, rfl, ci⟩, ⟨j, hj, rfl, cj⟩⟩ all
    have ij : i ≠ j := fun z => n (by rw [z])
    have go : ∀ {i j : Nat}, i < j → j < P.length → m.testBit (gl L i) = true → m.testBit (gl L j) = true → due P C ≠ [] := fun {i j} hij hj mi mj => by
      have hi : i < P.length := by omega
      have v := row_in hP hij hj
      have nn := (rowsL_in v).2.1
      have ne : cv C (rowI (row P i j)) ≠ [] := fun z => by
        have z2 : (cv C (rowI (row P i j))).length = 0 := by rw [z]; rfl
        unfold cv at z2
        rw [List.length_map] at z2
        omega
      have ev : ∀ x ∈ cv C (rowI (row P i j)), x = e := fun x hx => by
        obtain ⟨z, hz, rfl⟩ := List.mem_map.mp hx
        obtain ⟨k, hk, rfl⟩ := List.mem_map.mp hz
        obtain ⟨hk1, hk2⟩ := (G.row hP hi hj (by omega)).mp hk
        refine all k hk1 ?_
        rw [Gr.line_at hm (G.at hi).2 (G.at hj).2 (G.at hk1).2 mi mj fun z => (by have := G.inj hi hj z; omega)]
        exact hk2
      exact List.ne_nil_of_mem (List.mem_filter.mpr ⟨v, (one_iff ne).mpr fun x hx y hy => by rw [ev x hx, ev y hy]⟩)
    rcases Nat.lt_trichotomy i j with z | z | z
    · exact go z hj mx my
    · exact (ij z).elim
    · exact go z hi my mx
  let r : Nat → Bool := fun c => decide (∃ i, i < P.length ∧ gl L i = c ∧ gx C i = 0)
  let b : Nat → Bool := fun c => decide (∃ i, i < P.length ∧ gl L i = c ∧ gx C i = 1)
  have dj : ∀ c, ¬ (r c = true ∧ b c = true) := fun c ⟨h1, h2⟩ => by
    obtain ⟨i, hi, e1, c1⟩ := of_decide_eq_true h1
    obtain ⟨j, hj, e2, c2⟩ := of_decide_eq_true h2
    have := G.inj hi hj (e1.trans e2.symm)
    rw [this, c2] at c1
    cases c1
  rcases Gr.two_colours dj with ⟨m, hm, h⟩ | ⟨m, hm, h⟩
  · rcases h with ⟨x, y, n, mx, my, hx, hy, all⟩ | ⟨x, y, n, mx, my, hx, hy, all⟩
    · refine key 1 m hm ⟨x, y, n, mx, my, of_decide_eq_true hx, of_decide_eq_true hy⟩ fun k hk mk => ?_
      rcases h01 k hk with z | z
      · exact (of_decide_eq_false (all _ mk) ⟨k, hk, rfl, z⟩).elim
      · exact z
    · refine key 0 m hm ⟨x, y, n, mx, my, of_decide_eq_true hx, of_decide_eq_true hy⟩ fun k hk mk => ?_
      rcases h01 k hk with z | z
      · exact z
      · exact (of_decide_eq_false (all _ mk) ⟨k, hk, rfl, z⟩).elim
  · have all : ∀ k, k < P.length → m.testBit (gl L k) = true := fun k hk => h _ (G.at hk).2 (by
      rcases h01 k hk with z | z
      · exact .inl (decide_eq_true ⟨k, hk, rfl, z⟩)
      · exact .inr (decide_eq_true ⟨k, hk, rfl, z⟩))
    have := one_row hP l3 fun q hq => by
      obtain ⟨k, hk, e⟩ := List.getElem_of_mem hq
      have hk' : 2 + k < P.length := by rw [List.length_drop] at hk; omega
      have e2 : q = gp P (2 + k) := by
        rw [← e, List.getElem_drop]
        exact (Option.some.inj ((List.getElem?_eq_getElem hk').symm.trans (gp_get hk')))
      rw [e2]
      refine ((row_mem hP (i := 0) (j := 1) (by omega) (by omega) (by decide)).mp ((G.row hP (by omega) (by omega) (by decide)).mpr ⟨hk', ?_⟩)).2
      rw [← Gr.line_at hm (G.at (show 0 < P.length by omega)).2 (G.at (show 1 < P.length by omega)).2 (G.at hk').2 (all 0 (by omega)) (all 1 (by omega)) fun z => (by have := G.inj (show 0 < P.length by omega) (show 1 < P.length by omega) z; omega)]
      exact all _ hk'
    omega
theorem one_line {P : List Pt} {n : Nat} (hP : Pts n P) (h1 : (rowsL P).length = 1) {v : List Int} (hv : v ∈ rowsL P) {i : Nat} (hi : i < P.length) (l2 : 2 ≤ P.length) : (i : Int) ∈ v := by
  have same : ∀ w ∈ rowsL P, w = v := fun w hw => by
    match e : rowsL P, h1 with
    | [z], _ =>
      rw [e] at hv hw
      rw [List.mem_singleton.mp hv, List.mem_singleton.mp hw]
  have go : ∀ {a c : Nat}, a < c → c < P.length → (a : Int) ∈ v ∧ (c : Int) ∈ v := fun {a c} hac hc => by
    have e := same _ (row_in hP hac hc)
    have ha : a < P.length := by omega
    rw [← e]
    have fa := hP.fr _ (gp_mem ha)
    have fc := hP.fr _ (gp_mem hc)
    have nac := gp_ne hP.nd ha hc (by omega)
    exact ⟨List.mem_map.mpr ⟨a, places_mem.mpr ⟨ha, on_left fa fc nac⟩, rfl⟩, List.mem_map.mpr ⟨c, places_mem.mpr ⟨hc, on_right fa fc nac⟩, rfl⟩⟩
  by_cases z : i = 0
  · exact (go (a := i) (c := i + 1) (by omega) (by omega)).1
  · exact (go (a := 0) (c := i) (by omega) hi).2
/-! ### len(set(..)) == 1 -/
theorem lenSet_ints (ns : List Int) (hl : ns.length < 64) (b : Bx) : lenSet2 (.lst (ns.map D.int)) b = .ok (.int (nubL ns).length) b := by
  unfold lenSet2
  rw [show seqI (.lst (ns.map D.int)) = some ns from intsOf_map ns]
  show (if ns.length < 64 then (pure (D.int (nubL ns).length) : M D) else stuck) b = _
  rw [if_pos hl]
  rfl
theorem v_one {ρ : DEnv} {iv ik : Nat} {f : DEnv → M D} {g : Int → Int} {v : List Int} {b : Bx} (hv : ρ[iv]? = some (some (rowD v))) (hl : v.length < 64) (hf : ∀ x ∈ v, f ((wipeD ρ [ik]).set ik (some (.int x))) b = .ok (.int (g x)) b) :
    tB (eBin eqD (eUn lenSet2 (eF (fComp (iSeqD (eVar iv)) [ik] (gVar ik) tYesD f))) (eC (.int 1))) ρ b = .ok (one (v.map g)) b := by
  have c1 : compL [ik] (gVar ik) tYesD f ρ (v.map D.int) b = .ok ((v.map g).map D.int) b := by
    rw [List.map_map]
    exact comp_map D.int (fun x => D.int (g x)) v fun x hx => ⟨_, rfl, hf x hx, rfl⟩
  refine v_tB (v_bin (v_un (v_f (v_comp (v_iseq (v_var hv) rfl) (by rw [List.length_map]; omega) c1)) (lenSet_ints _ (by rw [List.length_map]; exact hl) b)) v_c ((eqI _ _ b).trans ?_))
  unfold one
  congr 2
  exact decide_eq_decide.mpr (by omega)
theorem ix_tup {xs : List Int} {x : Int} (h0 : 0 ≤ x) (h : x < xs.length) (b : Bx) : ixD (.tup (xs.map D.int)) (.int x) b = .ok (.int (cg xs x)) b := by
  have e1 : atI (xs.map D.int) x = some (.int (cg xs x)) := by
    unfold atI ixN
    rw [if_pos h0, if_pos (by rw [List.length_map]; exact h)]
    show (xs.map D.int)[x.toNat]? = _
    rw [List.getElem?_map, gx_get (show x.toNat < xs.length by omega)]
    rfl
  show (match atI (xs.map D.int) x with | some d => pure d | none => stuck : M D) b = _
  rw [e1]
  rfl
theorem ix_lst {xs : List Int} {x : Int} (h0 : 0 ≤ x) (h : x < xs.length) (b : Bx) : ixD (.lst (xs.map D.int)) (.int x) b = .ok (.int (cg xs x)) b := by
  have e : x = ((x.toNat : Nat) : Int) := by omega
  rw [e]
  exact ix_ints (by omega) b
theorem ix_row0 {v : List Int} (ne : v ≠ []) (b : Bx) : ixD (rowD v) (.int 0) b = .ok (.int (v.headD 0)) b := by
  cases v with
  | nil => exact (ne rfl).elim
  | cons a r => exact ix_tup (xs := a :: r) (Int.le_refl 0) (by rw [List.length_cons]; omega) b
theorem head_mem {v : List Int} (ne : v ≠ []) : v.headD 0 ∈ v := by
  cases v with
  | nil => exact (ne rfl).elim
  | cons a r => exact List.mem_cons_self
/-! ### the program -/
theorem within_ok {x : Int} (h : x = 0 ∨ x = 1) (b : Bx) : f_is_within [.int x, .int 0, .int 1] b = .ok (.bl true) b := by
  rcases h with rfl | rfl <;> kernel_rfl
def Col01 (C : List Int) : Prop := ∀ x ∈ C, x = 0 ∨ x = 1
theorem are_colours_ok {C : List Int} (h : Col01 C) (hl : C.length < 1000) (b : Bx) : f_are_colours_in [.int C.length, .tup (C.map D.int)] b = .ok (.bl true) b := by
  have e1 : f_is_long [.tup (C.map D.int), .int C.length] b = .ok (.bl true) b := v_run rfl (v_ret (v_andT (b1 := b) rfl (v_bin (v_b (v_bcons (v_var rfl) v_nil) rfl) (v_var rfl) ((eqI _ _ b).trans (by rw [List.length_map, decide_eq_true rfl])))) rfl)
  refine v_run rfl (v_ret (d := .bl true) (v_andT (v_call (v_acons (v_var rfl) rfl (v_acons (v_var rfl) rfl v_nil)) e1) ((v_all D.int (fun _ => true) C rfl (by omega) fun x hx => ?_).trans ?_)) rfl)
  · exact ⟨_, rfl, v_call (v_acons (v_var rfl) rfl (v_acons v_c rfl (v_acons v_c rfl v_nil))) (within_ok (h x hx) b)⟩
  · rw [List.all_eq_true.mpr fun _ _ => rfl]
theorem sure_coloured_ok {P : List Pt} {C : List Int} {x y : D} {n m : Nat} (h : VP P) (mx : Mx n x (.tup (P.map pt))) (hn : n < 12) (my : Mx m y (.tup (C.map D.int))) (hm : m < 12) (hC : Col01 C) (hl : C.length = P.length) (b : Bx) : f_sure_coloured [x, y] b = .ok (.tup [.tup (P.map pt), .tup (C.map D.int)]) b := by
  have hi := h.hi
  refine v_run rfl (v_seq (v_set (v_call (v_acons (v_var rfl) mx.chk.1 v_nil) (sure_points_ok h mx hn b)) rfl) (v_seq (v_set (v_call (v_acons (v_var rfl) my.chk.1 v_nil) (tupled_ok b m 12 y _ my hm)) rfl) (v_seq (v_ifF (v_tNot (c := true) (v_tTr (d := .bl true) (v_call (v_acons (v_b (v_bcons (v_var rfl) v_nil) rfl) rfl (v_acons (v_var rfl) rfl v_nil)) ?_) rfl)) rfl rfl) (v_ret (v_tup (v_acons (v_var rfl) rfl (v_acons (v_var rfl) rfl v_nil)) (Nat.le_of_ble_eq_true rfl)) rfl))))
  rw [List.length_map, ← hl]
  exact are_colours_ok hC (by omega) b
theorem rowsL_short {P : List Pt} (h : P.length ≤ 30) {v : List Int} (hv : v ∈ rowsL P) : v.length < 64 := by
  obtain ⟨pw, _, r⟩ := rowsL_in hv
  have := asc_len (n := P.length) (a := 0) pw fun x hx => r x hx
  omega
theorem one_colour_in_ok {P : List Pt} {C : List Int} (h : VP P) (hl : C.length = P.length) (b : Bx) : f_one_colour_in [.tup (P.map pt), .tup (C.map D.int)] b = .ok (.lst ((due P C).map (duD C))) b := by
  obtain ⟨T, L, e⟩ := lines_in_ok h.pts h.hi b
  obtain ⟨nd, mem⟩ := rows_T h.pts L
  have hi := h.hi
  have c1 : compL [3, 4] (gTupD 2 (gConsD (gVar 3) (gConsD (gVar 4) gNilD))) tYesD (eVar 4) [some (.tup (P.map pt)), some (.tup (C.map D.int)), none, none, none, none, none] (T.map lpD) b = .ok ((T.map Prod.snd).map rowD) b := by
    rw [List.map_map]
    exact comp_map lpD (rowD ∘ Prod.snd) T fun kv _ => ⟨_, rfl, Pu.v_var rfl, rfl⟩
  have s1 := sort_to (xs := T.map Prod.snd) (ys := rowsL P) nd rowsL_pw mem rowsL_ne b
  have fl : (rowsL P).length < 4000 := by
    have := L.len h.pts h.hi
    have e := List.Nodup.length_le_of_subset (nodup_of_pw (rowsL_pw (P := P))) (show rowsL P ⊆ T.map Prod.snd from fun v hv => (mem v).mpr hv)
    rw [List.length_map] at e
    omega
  have c2 : compL [5] (gVar 5) (tB (eBin eqD (eUn lenSet2 (eF (fComp (iSeqD (eVar 5)) [6] (gVar 6) tYesD (eBin ixD (eVar 1) (eVar 6))))) (eC (.int 1)))) (eTup (aCons (eBin ixD (eVar 1) (eBin ixD (eVar 5) (eC (.int 0)))) (aCons (eVar 5) aNil))) [some (.tup (P.map pt)), some (.tup (C.map D.int)), some (.lst ((rowsL P).map rowD)), none, none, none, none] ((rowsL P).map rowD) b = .ok ((due P C).map (duD C)) b :=
    comp_filter rowD (duD C) (fun v => one (cv C v)) (rowsL P) fun v hv => ⟨_, rfl, v_one rfl (rowsL_short hi hv) (fun x hx => v_bin (v_var rfl) (v_var rfl) (ix_tup ((rowsL_in hv).2.2 x hx).1 (by rw [hl]; exact ((rowsL_in hv).2.2 x hx).2) b)), fun _ => ⟨by
      have ne := rowsL_ne v hv
      have hh := (rowsL_in hv).2.2 _ (head_mem ne)
      exact v_tup (v_acons (v_bin (v_var rfl) (v_bin (v_var rfl) v_c (ix_row0 ne b)) (ix_tup hh.1 (by rw [hl]; exact hh.2) b)) rfl (v_acons (v_var rfl) rfl v_nil)) (Nat.le_of_ble_eq_true rfl), rfl⟩⟩
  exact v_run rfl (v_seq (v_set (v_f (v_fsort (v_f (v_comp (v_iseq (v_call (v_acons (v_var rfl) rfl v_nil) e) rfl) (by rw [List.length_map]; have := L.len h.pts h.hi; omega) c1)) s1)) rfl) (v_ret (v_f (v_comp (v_iseq (v_var rfl) rfl) (by rw [List.length_map]; omega) c2)) rfl))
end Lw

set_option Elab.async false
set_option linter.all false
set_option maxRecDepth 100000
set_option maxHeartbeats 4000000
/-! colours: what the doors tell -/
namespace Lw
open PySem PySem.Spec PyProof.Rows L2 Pu Ma
theorem v_seqE {u k : DEnv → M Out} {ρ : DEnv} {b b1 : Bx} {x : Xc} (h : u ρ b = .exc x b1) : sSeq u k ρ b = .exc x b1 := by
  unfold sSeq
  rw [bindA, h]
  rfl
theorem v_retE {f : DEnv → M D} {ρ : DEnv} {b b1 : Bx} {x : Xc} (h : f ρ b = .exc x b1) : sRet f ρ b = .exc x b1 := by
  unfold sRet
  rw [bindA, h]
  rfl
theorem v_runE {n m : Nat} {u : DEnv → M Out} {ds : List D} {b b1 : Bx} {x : Xc} (hl : ds.length = n) (h : u (startD m ds) b = .exc x b1) : runD n m u ds b = .exc x b1 := by
  unfold runD
  rw [if_pos hl, bindA, h]
  rfl
theorem v_drop {f : DEnv → M D} {ρ : DEnv} {b b1 : Bx} {d : D} (h : f ρ b = .ok d b1) : sDrop f ρ b = .ok (.nx ρ) b1 := by
  unfold sDrop
  rw [bindA, h]
  rfl
theorem v_dropE {f : DEnv → M D} {ρ : DEnv} {b b1 : Bx} {x : Xc} (h : f ρ b = .exc x b1) : sDrop f ρ b = .exc x b1 := by
  unfold sDrop
  rw [bindA, h]
  rfl
theorem v_slip {cs : List (Nat × Nat × Str)} {u : DEnv → M Out} {ρ : DEnv} {b b1 : Bx} {o : Out} (h : u ρ b = .ok o b1) : sSlip cs u ρ b = .ok o b1 := by
  unfold sSlip
  rw [h]
theorem v_slipE {cs : List (Nat × Nat × Str)} {u : DEnv → M Out} {ρ : DEnv} {b b1 : Bx} {c : Nat} {t : Str} (h : u ρ b = .exc ⟨c, none⟩ b1) (ht : lookC c cs = some t) : sSlip cs u ρ b = .ok (.rt (.str t)) b1 := by
  unfold sSlip
  rw [h]
  simp only [ht]
theorem v_callL {i n : Nat} {tbl : Nat → Option (List D → M D)} {fs : DEnv → M (List D)} {ρ : DEnv} {b b1 : Bx} {Fn : List D → M D} {ds : List D} {r : Res D} (hi : ρ[i]? = some (some (.fn n))) (ht : tbl n = some Fn) (h1 : fs ρ b = .ok ds b1) (h2 : Fn ds b1 = r) : eCallL i tbl fs ρ b = r := by
  unfold eCallL
  rw [hi]
  simp only [ht]
  rw [bindA, h1, okB, h2]
/-! ### heard: two goods -/
theorem call2_ok {n : Nat} {F : List D → M D} (hF : lookF n tblL = some F) {x y : D} {b : Bx} {r : Res D} (hx : Pu.chk x = pure x) (hy : Pu.chk y = pure y) (h : F [x, y] b = r) : (∀ d b1, r = .ok d b1 → strip d = d → f__law_call [.fn n, .tup [x, y]] b = .ok d b1) ∧ (∀ e b1, r = .exc e b1 → f__law_call [.fn n, .tup [x, y]] b = .exc e b1) := by
  have a : ∀ r', F [x, y] b = r' → eCallL 0 (fun n => lookF n tblL) (aCons (eBin ixD (eVar 1) (eC (.int 0))) (aCons (eBin ixD (eVar 1) (eC (.int 1))) aNil)) [some (.fn n), some (.tup [x, y])] b = r' := fun r' h => v_callL rfl hF (v_acons (v_bin (v_var rfl) v_c rfl) hx (v_acons (v_bin (v_var rfl) v_c rfl) hy v_nil)) h
  have t1 : tB (eBin eqD (eB lenD (bCons (eVar 1) aNil)) (eC (.int 1))) [some (.fn n), some (.tup [x, y])] b = .ok false b := v_tB (v_bin (v_b (v_bcons (v_var rfl) v_nil) rfl) v_c rfl)
  have t2 : tB (eBin eqD (eB lenD (bCons (eVar 1) aNil)) (eC (.int 2))) [some (.fn n), some (.tup [x, y])] b = .ok true b := v_tB (v_bin (v_b (v_bcons (v_var rfl) v_nil) rfl) v_c rfl)
  constructor
  · intro d b1 e hs
    exact v_run rfl (v_seq (v_ifF t1 rfl rfl) (v_seqR (v_ifT t2 rfl (v_ret (a _ (h.trans e)) hs))))
  · intro x1 b1 e
    exact v_runE rfl (v_seq (v_ifF t1 rfl rfl) (v_seqE (v_ifT t2 rfl (v_retE (a _ (h.trans e))))))
theorem in_told (b : Bx) : inD (.str "told") (.tup [.str "unfit", .str "can not", .str "many", .str "odd"]) b = .ok (.bl false) b := by kernel_rfl
theorem in_can (b : Bx) : inD (.str "can not") (.tup [.str "unfit", .str "can not", .str "many", .str "odd"]) b = .ok (.bl true) b := by kernel_rfl
theorem ix_first (d : D) (ds : List D) (b : Bx) : ixD (.lst (d :: ds)) (.int 0) b = .ok d b := by
  have e1 : atI (d :: ds) 0 = some d := by
    unfold atI ixN
    rw [if_pos (Int.le_refl 0), if_pos (by rw [List.length_cons]; omega)]
    rfl
  show (match atI (d :: ds) 0 with | some d => pure d | none => stuck : M D) b = _
  rw [e1]
  rfl
theorem heard_val {n : Nat} {F : List D → M D} (hF : lookF n tblL = some F) {x y : D} {b : Bx} {ds : List D} (hx : Pu.chk x = pure x) (hy : Pu.chk y = pure y) (h : F [x, y] b = .ok (.tup ds) b) : f__law_heard [.fn n, .tup [x, y]] b = .ok (.tup ds) b := by
  have c := (call2_ok hF hx hy h).1 _ _ rfl rfl
  have s : f__law_slip [.fn n, .tup [x, y]] b = .ok (.str "told") b := v_run rfl (v_seq (v_slip (v_drop (v_call (v_acons (v_var rfl) rfl (v_acons (v_var rfl) rfl v_nil)) c))) (v_ret v_c rfl))
  have u : f__law_unmarked [.tup ds] b = .ok (.tup ds) b := v_run rfl (v_ret (v_eifF (c := false) (v_tAndF (v_tTr (d := .bl false) rfl rfl)) rfl (v_var rfl)) rfl)
  exact v_run rfl (v_seq (v_set (v_call (v_acons (v_var rfl) rfl (v_acons (v_var rfl) rfl v_nil)) s) rfl) (v_ret (v_eifF (c := false) (v_tB (v_bin (v_var rfl) (v_tup (v_acons v_c rfl (v_acons v_c rfl (v_acons v_c rfl (v_acons v_c rfl v_nil)))) (Nat.le_of_ble_eq_true rfl)) (in_told b))) rfl (v_call (v_acons (v_call (v_acons (v_var rfl) rfl (v_acons (v_var rfl) rfl v_nil)) c) rfl v_nil) u)) rfl))
theorem heard_can {n : Nat} {F : List D → M D} (hF : lookF n tblL = some F) {x y : D} {b : Bx} (hx : Pu.chk x = pure x) (hy : Pu.chk y = pure y) (h : F [x, y] b = .exc ⟨0, none⟩ b) : f__law_heard [.fn n, .tup [x, y]] b = .ok (.lst [.str "can not", .bl true]) b := by
  have c := (call2_ok hF hx hy h).2 _ _ rfl
  have s : f__law_slip [.fn n, .tup [x, y]] b = .ok (.str "can not") b := v_run rfl (v_seqR (v_slipE (c := 0) (v_dropE (v_call (v_acons (v_var rfl) rfl (v_acons (v_var rfl) rfl v_nil)) c)) rfl))
  exact v_run rfl (v_seq (v_set (v_call (v_acons (v_var rfl) rfl (v_acons (v_var rfl) rfl v_nil)) s) rfl) (v_ret (v_eifT (c := true) (v_tB (v_bin (v_var rfl) (v_tup (v_acons v_c rfl (v_acons v_c rfl (v_acons v_c rfl (v_acons v_c rfl v_nil)))) (Nat.le_of_ble_eq_true rfl)) (in_can b))) rfl (v_f (v_lst (v_acons (v_var rfl) rfl (v_acons v_c rfl v_nil)) (Nat.le_of_ble_eq_true rfl)))) rfl))
theorem duD_ok (C v : List Int) (k : Nat) : (duD C v).ok (k + 2) = true := by
  unfold duD rowD
  show D.ok (k + 1 + 1) (.tup [.int (cg C (v.headD 0)), .tup (v.map D.int)]) = true
  rw [D.ok, D.oks, D.oks, D.oks, D.ok, D.ok, oks_ints]
  rfl
theorem dues_ok (C : List Int) (vs : List (List Int)) : (D.lst (vs.map (duD C))).ok deep = true := by
  show D.ok (59 + 1) (.lst (vs.map (duD C))) = true
  rw [D.ok]
  exact oks_all 59 (duD C) vs fun v _ => duD_ok C v 57
/-! ### the doors -/
section
variable {P : List Pt} {C : List Int} {x y : D} {n m : Nat} (h : VP P) (mx : Mx n x (.tup (P.map pt))) (hn : n < 12) (my : Mx m y (.tup (C.map D.int))) (hm : m < 12) (hC : Col01 C) (hl : C.length = P.length)
include h mx hn my hm hC hl
theorem asg_ok (k : Nat) (z : Option D) (b : Bx) : sAsg (gTupD 2 (gConsD (gVar 2) (gConsD (gVar 3) gNilD))) (eCall f_sure_coloured (aCons (eVar 0) (aCons (eVar 1) aNil))) (some x :: some y :: none :: none :: List.replicate k none) b = .ok (.nx (some x :: some y :: some (.tup (P.map pt)) :: some (.tup (C.map D.int)) :: List.replicate k none)) b := by
  unfold sAsg
  rw [bindA, v_call (v_acons (v_var rfl) mx.chk.1 (v_acons (v_var rfl) my.chk.1 v_nil)) (sure_coloured_ok h mx hn my hm hC hl b), okB]
  rfl
theorem one_colour_lines_ok (b : Bx) : f_one_colour_lines [x, y] b = .ok (.tup ((due P C).map (duD C))) b :=
  v_run rfl (v_seq (asg_ok h mx hn my hm hC hl 0 none b) (v_ret (v_b (v_bcons (v_call (v_acons (v_var rfl) rfl (v_acons (v_var rfl) rfl v_nil)) (one_colour_in_ok h hl b)) v_nil) rfl) rfl))
theorem first_one_ok (b : Bx) : f_first_one_colour [x, y] b = match due P C with
    | [] => .exc ⟨0, none⟩ b
    | v :: _ => .ok (duD C v) b := by
  have s2 : sSet 4 (eCall f_one_colour_in (aCons (eVar 2) (aCons (eVar 3) aNil))) [some x, some y, some (.tup (P.map pt)), some (.tup (C.map D.int)), none] b = .ok (.nx [some x, some y, some (.tup (P.map pt)), some (.tup (C.map D.int)), some (.lst ((due P C).map (duD C)))]) b := v_set (v_call (v_acons (v_var rfl) rfl (v_acons (v_var rfl) rfl v_nil)) (one_colour_in_ok h hl b)) rfl
  cases e : due P C with
  | nil =>
    rw [e] at s2
    exact v_runE rfl (v_seq (asg_ok h mx hn my hm hC hl 1 none b) (v_seq s2 (v_seqE (v_ifT (c := true) (v_tB (v_bin (v_var rfl) (v_f (v_lst v_nil (Nat.le_of_ble_eq_true rfl))) rfl)) rfl rfl))))
  | cons v r =>
    rw [e] at s2
    refine v_run rfl (v_seq (asg_ok h mx hn my hm hC hl 1 none b) (v_seq s2 (v_seq (v_ifF (c := false) (v_tB (v_bin (v_var rfl) (v_f (v_lst v_nil (Nat.le_of_ble_eq_true rfl))) ?_)) rfl rfl) (v_ret (d := duD C v) (v_bin (v_var rfl) v_c (ix_first _ _ b)) rfl))))
    show (if (D.ok deep (.lst ((v :: r).map (duD C))) && D.ok deep (.lst [])) = true then _ else _ : M D) b = _
    rw [if_pos (by rw [dues_ok]; rfl)]
    rfl
theorem colour_counts_ok (b : Bx) : f_colour_counts [x, y] b = .ok (.tup [.int (((due P C).map fun v => cg C (v.headD 0)).count 0 : Nat), .int (((due P C).map fun v => cg C (v.headD 0)).count 1 : Nat), .int (((rowsL P).length : Int) - ((due P C).length : Int))]) b := by
  obtain ⟨T, L, e⟩ := lines_in_ok h.pts h.hi b
  obtain ⟨nd, mem⟩ := rows_T h.pts L
  have hi := h.hi
  have tl : T.length = (rowsL P).length := by
    have a := List.Nodup.length_le_of_subset nd (show T.map Prod.snd ⊆ rowsL P from fun v hv => (mem v).mp hv)
    have c := List.Nodup.length_le_of_subset (nodup_of_pw (rowsL_pw (P := P))) (show rowsL P ⊆ T.map Prod.snd from fun v hv => (mem v).mpr hv)
    rw [List.length_map] at a c
    omega
  have tl4 := L.len h.pts h.hi
  have c1 : compL [5, 6] (gTupD 2 (gConsD (gVar 5) (gConsD (gVar 6) gNilD))) tYesD (eVar 5) [some x, some y, some (.tup (P.map pt)), some (.tup (C.map D.int)), none, none, none] ((due P C).map (duD C)) b = .ok (((due P C).map fun v => cg C (v.headD 0)).map D.int) b := by
    rw [List.map_map]
    exact comp_map (duD C) (fun v => D.int (cg C (v.headD 0))) (due P C) fun v _ => ⟨_, rfl, v_var rfl, rfl⟩
  have dl : (due P C).length ≤ (rowsL P).length := List.length_filter_le _ _
  have cn : ∀ (k : Int) (ρ : DEnv), ρ[4]? = some (some (.lst (((due P C).map fun v => cg C (v.headD 0)).map D.int))) → eCount (eVar 4) (eC (.int k)) ρ b = .ok (.int (((due P C).map fun v => cg C (v.headD 0)).count k : Nat)) b := fun k ρ hρ => by
    unfold eCount
    rw [bindA, v_var hρ, okB]
    show cntD _ (.int k) b = _
    unfold cntD
    rw [show intsOf (((due P C).map fun v => cg C (v.headD 0)).map D.int) = some ((due P C).map fun v => cg C (v.headD 0)) from intsOf_map _]
    rfl
  have sb : ∀ ρ : DEnv, ρ[2]? = some (some (.tup (P.map pt))) → ρ[4]? = some (some (.lst (((due P C).map fun v => cg C (v.headD 0)).map D.int))) → eBin subD (eB lenD (bCons (eCall f_lines_in (aCons (eVar 2) aNil)) aNil)) (eB lenD (bCons (eVar 4) aNil)) ρ b = .ok (.int (((rowsL P).length : Int) - ((due P C).length : Int))) b := fun ρ h2 h4 => by
    refine v_bin (v_b (v_bcons (v_call (v_acons (v_var h2) rfl v_nil) e) v_nil) rfl) (v_b (v_bcons (v_var h4) v_nil) rfl) ?_
    show Res.ok (D.int (((T.map lpD).length : Int) - (((((due P C).map fun v => cg C (v.headD 0)).map D.int)).length : Int))) b = _
    rw [List.length_map, List.length_map, List.length_map, tl]
  exact v_run rfl (v_seq (asg_ok h mx hn my hm hC hl 3 none b) (v_seq (v_set (v_f (v_comp (v_iseq (v_call (v_acons (v_var rfl) rfl (v_acons (v_var rfl) rfl v_nil)) (one_colour_in_ok h hl b)) rfl) (by rw [List.length_map]; omega) c1)) rfl) (v_ret (v_tup (v_acons (cn 0 _ rfl) rfl (v_acons (cn 1 _ rfl) rfl (v_acons (sb _ rfl rfl) rfl v_nil))) (Nat.le_of_ble_eq_true rfl)) rfl)))
end
end Lw

set_option Elab.async false
set_option linter.all false
set_option maxRecDepth 100000
set_option maxHeartbeats 4000000
/-! colours: looked at -/
namespace Lw
open PySem PySem.Spec PyProof.Rows L2 Pu Ma
theorem is_number_int (i : Int) (b : Bx) : f_is_number [.int i] b = .ok (.bl true) b := by kernel_rfl
theorem are_numbers_row (v : List Int) (hl : v.length < 1000) (b : Bx) : f_are_numbers [rowD v] b = .ok (.bl true) b := by
  refine v_run rfl (v_ret (d := .bl true) (v_andT (b1 := b) rfl ((v_all D.int (fun _ => true) v rfl (by omega) fun x _ => ⟨_, rfl, v_call (v_acons (v_var rfl) rfl v_nil) (is_number_int x b)⟩).trans ?_)) rfl)
  rw [List.all_eq_true.mpr fun _ _ => rfl]
def pi2 (z : Int × Int) : D := .tup [.int z.1, .int z.2]
theorem zip_ints : ∀ (P R : List Int), zipD (P.map D.int) (R.map D.int) = (P.zip R).map pi2
  | [], _ => rfl
  | p :: P, [] => rfl
  | p :: P, r :: R => by
    rw [List.map_cons, List.map_cons, zipD, zip_ints P R]
    rfl
theorem zip_asc {v : List Int} (h : v.Pairwise (· < ·)) : ∀ z ∈ v.zip (v.drop 1), z.1 < z.2 := by
  induction v with
  | nil => intro z hz; cases hz
  | cons p P ih =>
    obtain ⟨h1, h2⟩ := List.pairwise_cons.mp h
    intro z hz
    cases P with
    | nil => cases hz
    | cons q P =>
      rw [List.drop_succ_cons, List.drop_zero, List.zip_cons_cons] at hz
      rcases List.mem_cons.mp hz with rfl | hz
      · exact h1 q List.mem_cons_self
      · exact ih h2 z (by rw [List.drop_succ_cons, List.drop_zero]; exact hz)
theorem is_set_ok {v : List Int} (h : v.Pairwise (· < ·)) (hl : v.length < 1000) (b : Bx) : f_is_set [rowD v] b = .ok (.bl true) b := by
  have z1 : iZipD (aCons (eVar 0) (aCons (eSl (eVar 0) (oSome (eC (.int 1))) oNone) aNil)) (startD 3 [rowD v]) b = .ok ((v.zip (v.drop 1)).map pi2) b := by
    unfold iZipD
    rw [bindA, v_acons (v_var rfl) rfl (v_acons (d := .tup (Pu.cutD (v.map D.int) (some 1) none)) rfl rfl v_nil), okB]
    show Res.ok (zipD (v.map D.int) (Pu.cutD (v.map D.int) (some 1) none)) b = _
    rw [cut1, ← List.map_drop, zip_ints]
  refine v_run rfl (v_ret (d := .bl true) (v_andT (v_call (v_acons (v_var rfl) rfl v_nil) (are_numbers_row v hl b)) ((v_all pi2 (fun z => decide (z.1 < z.2)) (v.zip (v.drop 1)) z1 (by rw [List.length_zip]; omega) fun z hz => ⟨_, rfl, v_bin (v_var rfl) (v_var rfl) rfl⟩).trans ?_)) rfl)
  rw [List.all_eq_true.mpr fun z hz => decide_eq_true (zip_asc h z hz)]
theorem v_chainF {o o' : D → D → M D} {fa fb fc : DEnv → M D} {ρ : DEnv} {b b1 b2 b3 : Bx} {x y : D} (h1 : fa ρ b = .ok x b1) (h2 : fb ρ b1 = .ok y b2) (h3 : o x y b2 = .ok (.bl false) b3) : eChain o o' fa fb fc ρ b = .ok (.bl false) b3 := by
  unfold eChain
  rw [bindA, h1, okB, bindA, h2, okB, bindA, h3, okB]
  rfl
section
variable {P : List Pt} {C : List Int} {k : Int} {v : List Int}
abbrev thing (k : Int) (v : List Int) : D := .tup [.int k, rowD v]
theorem long_thing (b : Bx) : f_is_long [thing k v, .int 2] b = .ok (.bl true) b := v_run rfl (v_ret (v_andT (b1 := b) rfl (v_bin (v_b (v_bcons (v_var rfl) v_nil) rfl) (v_var rfl) rfl)) rfl)
abbrev t1B : DEnv → M Bool := tOrD (tNotD (tTr (eCall f_is_long (aCons (eVar 2) (aCons (eC (.int 2)) aNil))))) (tOrD (tNotD (tTr (eCall f_is_number (aCons (eBin ixD (eVar 2) (eC (.int 0))) aNil)))) (tOrD (tNotD (tTr (eCall f_is_set (aCons (eBin ixD (eVar 2) (eC (.int 1))) aNil)))) (tB (eBin ltD (eB lenD (bCons (eBin ixD (eVar 2) (eC (.int 1))) aNil)) (eC (.int 2))))))
theorem t1_ok (pw : v.Pairwise (· < ·)) (hl : v.length < 1000) (b : Bx) : t1B [some (.tup (P.map pt)), some (.tup (C.map D.int)), some (thing k v), none, none] b = .ok (decide (v.length < 2)) b := by
  refine v_tOrF (v_tNot (c := true) (v_tTr (d := .bl true) (v_call (v_acons (v_var rfl) rfl (v_acons v_c rfl v_nil)) (long_thing b)) rfl)) (v_tOrF (v_tNot (c := true) (v_tTr (d := .bl true) (v_call (v_acons (v_bin (v_var rfl) v_c rfl) rfl v_nil) (is_number_int k b)) rfl)) (v_tOrF (v_tNot (c := true) (v_tTr (d := .bl true) (v_call (v_acons (v_bin (v_var rfl) v_c rfl) rfl v_nil) (is_set_ok pw hl b)) rfl)) (v_tB (v_bin (v_b (v_bcons (v_bin (v_var rfl) v_c rfl) v_nil) rfl) v_c ?_))))
  show Res.ok (D.bl (decide (((v.map D.int).length : Int) < 2))) b = _
  rw [List.length_map]
  congr 2
  exact decide_eq_decide.mpr (by omega)
abbrev t2B : DEnv → M Bool := tNotD (tTr (eB allD (bCons (eF (fComp (iSeqD (eBin ixD (eVar 2) (eC (.int 1)))) [3] (gVar 3) tYesD (eChain leD ltD (eC (.int 0)) (eVar 3) (eB lenD (bCons (eVar 0) aNil))))) aNil)))
theorem t2_ok (hl : v.length < 1000) (b : Bx) : t2B [some (.tup (P.map pt)), some (.tup (C.map D.int)), some (thing k v), none, none] b = .ok (!(v.all fun x => decide (0 ≤ x) && decide (x < P.length))) b := by
  refine v_tNot (v_tTr (d := .bl (v.all fun x => decide (0 ≤ x) && decide (x < P.length))) (v_all D.int (fun x => decide (0 ≤ x) && decide (x < P.length)) v rfl (by omega) fun x _ => ⟨_, rfl, ?_⟩) rfl)
  by_cases h : 0 ≤ x
  · refine v_chain (c := true) (w := .int ((P.map pt).length : Int)) v_c (v_var rfl) (show Res.ok (D.bl (decide (0 ≤ x))) b = _ by rw [decide_eq_true h]) (v_b (v_bcons (v_var rfl) v_nil) rfl) ?_
    show Res.ok (D.bl (decide (x < ((P.map pt).length : Int)))) b = _
    rw [List.length_map, decide_eq_true h, Bool.true_and]
  · refine (v_chainF v_c (v_var rfl) (show Res.ok (D.bl (decide (0 ≤ x))) b = _ by rw [decide_eq_false h])).trans ?_
    rw [decide_eq_false h, Bool.false_and]
theorem one_in_short (pw : v.Pairwise (· < ·)) (hl : v.length < 2) (b : Bx) : f_is_one_colour_in [.tup (P.map pt), .tup (C.map D.int), thing k v] b = .ok (.bl false) b :=
  v_run rfl (v_seqR (v_ifT (t1_ok pw (by omega) b) (decide_eq_true hl) (v_ret v_c rfl)))
theorem one_in_list (y : D) (b : Bx) : f_is_one_colour_in [.tup (P.map pt), .tup (C.map D.int), .lst [.int k, y]] b = .ok (.bl false) b := by
  have e : f_is_long [.lst [.int k, y], .int 2] b = .ok (.bl false) b := v_run rfl (v_ret (v_andF (b1 := b) rfl) rfl)
  exact v_run rfl (v_seqR (v_ifT (v_tOrT (v_tNot (c := false) (v_tTr (d := .bl false) (v_call (v_acons (v_var rfl) rfl (v_acons v_c rfl v_nil)) e) rfl))) rfl (v_ret v_c rfl)))
theorem one_in_out (pw : v.Pairwise (· < ·)) (hl : v.length < 1000) (h2 : 2 ≤ v.length) {x : Int} (hx : x ∈ v) (o : (P.length : Int) ≤ x) (b : Bx) : f_is_one_colour_in [.tup (P.map pt), .tup (C.map D.int), thing k v] b = .ok (.bl false) b := by
  refine v_run rfl (v_seq (v_ifF (t1_ok pw hl b) (decide_eq_false (by omega)) rfl) (v_seqR (v_ifT (t2_ok hl b) ?_ (v_ret v_c rfl))))
  rw [Bool.not_eq_true', Bool.eq_false_iff]
  intro z
  have w := List.all_eq_true.mp z x hx
  rw [Bool.and_eq_true, decide_eq_true_iff, decide_eq_true_iff] at w
  omega
theorem one_in_ok (hP : Pts 20 P) (hn : P.length ≤ 30) (hC : C.length = P.length) {j i : Nat} {r : List Int} (ev : v = (j : Int) :: (i : Int) :: r) (pw : v.Pairwise (· < ·)) (hl : v.length < 1000) (hr : ∀ x ∈ v, 0 ≤ x ∧ x < P.length) (b : Bx) :
    f_is_one_colour_in [.tup (P.map pt), .tup (C.map D.int), thing k v] b = .ok (.bl (decide (rowI (row P j i) = v) && v.all fun x => decide (cg C x = k))) b := by
  have hj := hr j (by rw [ev]; exact List.mem_cons_self)
  have hi := hr i (by rw [ev]; exact List.mem_cons_of_mem _ List.mem_cons_self)
  have hji : (j : Int) < i := by
    rw [ev] at pw
    exact (List.pairwise_cons.mp pw).1 _ List.mem_cons_self
  have hj' : j < P.length := by omega
  have hi' : i < P.length := by omega
  have fj := hP.fr _ (gp_mem hj')
  have fi := hP.fr _ (gp_mem hi')
  have bj := hP.bd _ (gp_mem hj')
  have bi := hP.bd _ (gp_mem hi')
  have n := gp_ne hP.nd hj' hi' (by omega)
  have lb := line_bd bj bi fj fi n
  have x0 : ixD (rowD v) (.int 0) b = .ok (.int (j : Int)) b := by
    refine (ix_tup (x := 0) (by decide) (by rw [ev, List.length_cons]; omega) b).trans ?_
    rw [ev]
    rfl
  have x1 : ixD (rowD v) (.int 1) b = .ok (.int (i : Int)) b := by
    refine (ix_tup (x := 1) (by decide) (by rw [ev, List.length_cons, List.length_cons]; omega) b).trans ?_
    rw [ev]
    rfl
  have l1 := line_in_ok bj bi fj fi n (by decide) b
  have o1 := on_line_ok hP (by omega) lb.1 lb.2.1 lb.2.2 b
  refine v_run rfl (v_seq (v_ifF (t1_ok pw hl b) (decide_eq_false (by rw [ev, List.length_cons, List.length_cons]; omega)) rfl) (v_seq (v_ifF (t2_ok hl b) (by rw [List.all_eq_true.mpr fun x hx => by rw [decide_eq_true (hr x hx).1, decide_eq_true (hr x hx).2]; rfl]; rfl) rfl)
    (v_seq (v_set (v_call (v_acons (v_bin (v_var rfl) (v_bin (v_bin (v_var rfl) v_c rfl) v_c x0) (ix_pts .non hj' b)) rfl (v_acons (v_bin (v_var rfl) (v_bin (v_bin (v_var rfl) v_c rfl) v_c x1) (ix_pts .non hi' b)) rfl v_nil)) l1) rfl) (v_ret (d := .bl (decide (rowI (row P j i) = v) && v.all fun x => decide (cg C x = k))) ?_ rfl))))
  have e1 : eBin eqD (eCall f_on_line (aCons (eVar 0) (aCons (eVar 4) aNil))) (eBin ixD (eVar 2) (eC (.int 1))) [some (.tup (P.map pt)), some (.tup (C.map D.int)), some (thing k v), none, some (tr (lineT (gp P j) (gp P i)))] b = .ok (.bl (decide (rowI (row P j i) = v))) b :=
    v_bin (v_call (v_acons (v_var rfl) rfl (v_acons (v_var rfl) rfl v_nil)) o1) (v_bin (v_var rfl) v_c rfl) (eq_rows _ _ b)
  by_cases z : rowI (row P j i) = v
  · rw [decide_eq_true z] at e1
    rw [decide_eq_true z, Bool.true_and]
    refine v_andT e1 (v_all D.int (fun x => decide (cg C x = k)) v rfl (by omega) fun x hx => ⟨_, rfl, v_bin (v_bin (v_var rfl) (v_var rfl) (ix_tup (hr x hx).1 (by rw [hC]; exact (hr x hx).2) b)) (v_bin (v_var rfl) v_c rfl) (eqI _ _ b)⟩)
  · rw [decide_eq_false z] at e1
    rw [decide_eq_false z, Bool.false_and]
    exact v_andF e1
theorem is_one_ok {x y t z : D} {n m : Nat} (h : VP P) (mx : Mx n x (.tup (P.map pt))) (hn : n < 12) (my : Mx m y (.tup (C.map D.int))) (hm : m < 12) (hC : Col01 C) (hl : C.length = P.length) (ht : Pu.chk t = pure t) (hz : strip z = z) {b : Bx} (e : f_is_one_colour_in [.tup (P.map pt), .tup (C.map D.int), t] b = .ok z b) : f_is_one_colour [x, y, t] b = .ok z b := by
  refine v_run rfl (v_seq (ρ' := [some x, some y, some t, some (.tup (P.map pt)), some (.tup (C.map D.int))]) (b1 := b) ?_ (v_ret (v_call (v_acons (v_var rfl) rfl (v_acons (v_var rfl) rfl (v_acons (v_var rfl) ht v_nil))) e) hz))
  unfold sAsg
  rw [bindA, v_call (v_acons (v_var rfl) mx.chk.1 (v_acons (v_var rfl) my.chk.1 v_nil)) (sure_coloured_ok h mx hn my hm hC hl b), okB]
  rfl
end
end Lw

set_option Elab.async false
set_option linter.all false
set_option maxRecDepth 100000
set_option maxHeartbeats 4000000
/-! colours: the fewest lines of one colour; plain -/
namespace Lw
open PySem PySem.Spec PyProof.Rows L2 Pu Ma
def fmin (a : Int) (l : List Int) : Int := l.foldl minI a
theorem fmin_spec : ∀ (l : List Int) (a : Int), (fmin a l = a ∨ fmin a l ∈ l) ∧ fmin a l ≤ a ∧ ∀ x ∈ l, fmin a l ≤ x
  | [], a => ⟨.inl rfl, Int.le_refl _, fun x h => by cases h⟩
  | y :: l, a => by
    obtain ⟨h1, h2, h3⟩ := fmin_spec l (minI a y)
    have e : fmin a (y :: l) = fmin (minI a y) l := rfl
    have m : (minI a y = a ∧ a ≤ y) ∨ (minI a y = y ∧ y ≤ a) := by
      unfold minI
      by_cases z : y < a
      · rw [if_pos z]; exact .inr ⟨rfl, by omega⟩
      · rw [if_neg z]; exact .inl ⟨rfl, by omega⟩
    rw [e]
    refine ⟨?_, by omega, fun x hx => ?_⟩
    · rcases h1 with h | h
      · rcases m with m | m
        · exact .inl (by omega)
        · exact .inr (by rw [h, m.1]; exact List.mem_cons_self)
      · exact .inr (List.mem_cons_of_mem _ h)
    · rcases List.mem_cons.mp hx with z | z
      · omega
      · exact h3 x z
theorem fmin_congr {a : Int} {l m : List Int} (h1 : ∀ x ∈ l, x ∈ m) (h2 : ∀ x ∈ m, x ∈ l) : fmin a l = fmin a m := by
  obtain ⟨p1, p2, p3⟩ := fmin_spec l a
  obtain ⟨q1, q2, q3⟩ := fmin_spec m a
  have : fmin a l ≤ fmin a m := by
    rcases q1 with h | h
    · omega
    · exact p3 _ (h2 _ h)
  have : fmin a m ≤ fmin a l := by
    rcases p1 with h | h
    · omega
    · exact q3 _ (h1 _ h)
  omega
/-- all colours, the first one 0 -/
def AC : Nat → List (List Int)
  | 0 => [[0]]
  | m + 1 => (AC m).flatMap fun c => [c ++ [0], c ++ [1]]
theorem AC_len : ∀ m, (AC m).length = 2 ^ m
  | 0 => rfl
  | m + 1 => by
    have : ∀ l : List (List Int), (l.flatMap fun c => [c ++ [0], c ++ [1]]).length = 2 * l.length := fun l => by
      induction l with
      | nil => rfl
      | cons x l ih => rw [List.flatMap_cons, List.length_append, ih, List.length_cons]; simp; omega
    rw [AC, this, AC_len m, Nat.pow_succ]
    omega
theorem AC_mem : ∀ (m : Nat) (c : List Int), c ∈ AC m → c.length = m + 1 ∧ Col01 c
  | 0, c, h => by
    rw [List.mem_singleton.mp h]
    exact ⟨rfl, fun x hx => .inl (List.mem_singleton.mp hx)⟩
  | m + 1, c, h => by
    obtain ⟨d, hd, hc⟩ := List.mem_flatMap.mp h
    obtain ⟨l, q⟩ := AC_mem m d hd
    have two : ∀ z : Int, z = 0 ∨ z = 1 → (d ++ [z]).length = m + 1 + 1 ∧ Col01 (d ++ [z]) := fun z hz => ⟨by rw [List.length_append, l]; rfl, fun x hx => by
      rcases List.mem_append.mp hx with h | h
      · exact q x h
      · rw [List.mem_singleton.mp h]; exact hz⟩
    rcases List.mem_cons.mp hc with rfl | hc
    · exact two 0 (.inl rfl)
    · rw [List.mem_singleton.mp hc]
      exact two 1 (.inr rfl)
theorem AC_all (f : Nat → Int) (h0 : f 0 = 0) (h : ∀ i, f i = 0 ∨ f i = 1) : ∀ m, (List.range (m + 1)).map f ∈ AC m
  | 0 => by
    show [f 0] ∈ [[(0 : Int)]]
    rw [h0]
    exact List.mem_singleton.mpr rfl
  | m + 1 => by
    rw [List.range_succ, List.map_append]
    refine List.mem_flatMap.mpr ⟨_, AC_all f h0 h m, ?_⟩
    show _ ++ [f (m + 1)] ∈ _
    rcases h (m + 1) with z | z
    · rw [z]; exact List.mem_cons_self
    · rw [z]; exact List.mem_cons_of_mem _ (List.mem_singleton.mpr rfl)
/-- all parts of a row -/
def pstep (F : List (List Int)) (x : Int) : List (List Int) := F ++ F.map (· ++ [x])
def PT (l : List Int) : List (List Int) := l.foldl pstep [[]]
theorem PT_len : ∀ (l : List Int) (F : List (List Int)), (l.foldl pstep F).length = F.length * 2 ^ l.length
  | [], F => by simp
  | x :: l, F => by
    rw [List.foldl_cons, PT_len l]
    unfold pstep
    rw [List.length_append, List.length_map, List.length_cons, Nat.pow_succ, ← Nat.two_mul, Nat.mul_comm 2, Nat.mul_assoc, Nat.mul_comm 2]
theorem PT_all (g : Int → Bool) : ∀ (l : List Int) (F : List (List Int)) (A : List Int), A ∈ F → A ++ l.filter g ∈ l.foldl pstep F
  | [], F, A, h => by rw [List.filter_nil, List.append_nil]; exact h
  | x :: l, F, A, h => by
    rw [List.foldl_cons, List.filter_cons]
    cases e : g x with
    | true =>
      rw [if_pos rfl, show A ++ x :: l.filter g = (A ++ [x]) ++ l.filter g by rw [List.append_assoc]; rfl]
      exact PT_all g l _ _ (List.mem_append_right _ (List.mem_map.mpr ⟨A, h, rfl⟩))
    | false =>
      rw [if_neg (by decide)]
      exact PT_all g l _ _ (List.mem_append_left _ h)
def cnt (vs : List (List Int)) (g : Int → Int) : Nat := (vs.filter fun v => one (v.map g)).length
def ind (S : List Int) (x : Int) : Int := if decide (x ∈ S) = true then 1 else 0
theorem cnt_congr {vs : List (List Int)} {g g' : Int → Int} (h : ∀ v ∈ vs, ∀ x ∈ v, g x = g' x) : cnt vs g = cnt vs g' := by
  unfold cnt
  congr 1
  refine List.filter_congr fun v hv => ?_
  rw [List.map_congr_left fun x hx => h v hv x hx]
theorem one_map {v : List Int} (ne : v ≠ []) (g : Int → Int) : one (v.map g) = true ↔ ∀ x ∈ v, ∀ y ∈ v, g x = g y := by
  rw [one_iff (fun e => ne (List.map_eq_nil_iff.mp e))]
  constructor
  · intro h x hx y hy
    exact h _ (List.mem_map_of_mem hx) _ (List.mem_map_of_mem hy)
  · intro h x hx y hy
    obtain ⟨a, ha, rfl⟩ := List.mem_map.mp hx
    obtain ⟨c, hc, rfl⟩ := List.mem_map.mp hy
    exact h a ha c hc
theorem cnt_flip {vs : List (List Int)} (ne : ∀ v ∈ vs, v ≠ []) {g g' : Int → Int} (h : ∀ v ∈ vs, ∀ x ∈ v, g' x = 1 - g x) : cnt vs g = cnt vs g' := by
  unfold cnt
  congr 1
  refine List.filter_congr fun v hv => ?_
  rw [Bool.eq_iff_iff, one_map (ne v hv), one_map (ne v hv)]
  constructor
  · intro q x hx y hy
    rw [h v hv x hx, h v hv y hy, q x hx y hy]
  · intro q x hx y hy
    have := q x hx y hy
    rw [h v hv x hx, h v hv y hy] at this
    omega
def rg (n : Nat) : List Int := (List.range n).map fun i : Nat => (i : Int)
theorem ind01 (S : List Int) (x : Int) : ind S x = 0 ∨ ind S x = 1 := by
  unfold ind
  split
  · exact .inr rfl
  · exact .inl rfl
theorem cg_range (f : Nat → Int) {n : Nat} {x : Int} (h0 : 0 ≤ x) (h : x < n) : cg ((List.range n).map f) x = f x.toNat := by
  show ((List.range n).map f).getD x.toNat 0 = _
  rw [List.getD_eq_getElem?_getD, List.getElem?_map, List.getElem?_range (by omega)]
  rfl
/-- colours with a first 0, and parts, leave as few -/
theorem fewest_same {n : Nat} (h1 : 1 ≤ n) {vs : List (List Int)} (ne : ∀ v ∈ vs, v ≠ []) (hv : ∀ v ∈ vs, ∀ x ∈ v, 0 ≤ x ∧ x < (n : Int)) (a : Int) :
    fmin a ((AC (n - 1)).map fun c => (cnt vs (cg c) : Int)) = fmin a ((PT (rg n)).map fun S => (cnt vs (ind S) : Int)) := by
  refine fmin_congr (fun z hz => ?_) fun z hz => ?_
  · obtain ⟨c, hc, rfl⟩ := List.mem_map.mp hz
    obtain ⟨cl, c01⟩ := AC_mem _ _ hc
    refine List.mem_map.mpr ⟨(rg n).filter fun x => decide (cg c x = 1), PT_all _ (rg n) [[]] [] (List.mem_singleton.mpr rfl), ?_⟩
    congr 1
    refine cnt_congr fun v hv' x hx => ?_
    obtain ⟨x0, x1⟩ := hv v hv' x hx
    have m : x ∈ (rg n).filter (fun x => decide (cg c x = 1)) ↔ cg c x = 1 := by
      rw [List.mem_filter, decide_eq_true_iff]
      exact ⟨fun h => h.2, fun h => ⟨List.mem_map.mpr ⟨x.toNat, List.mem_range.mpr (by omega), by omega⟩, h⟩⟩
    have c1 : cg c x = 0 ∨ cg c x = 1 := c01 _ (List.mem_of_getElem? (gx_get (show x.toNat < c.length by omega)))
    unfold ind
    rcases c1 with e | e
    · rw [decide_eq_false (fun z => by rw [m.mp z] at e; cases e), e]; rfl
    · rw [decide_eq_true (m.mpr e), e]; rfl
  · obtain ⟨S, _, rfl⟩ := List.mem_map.mp hz
    have e1 : n - 1 + 1 = n := by omega
    rcases ind01 S 0 with z | z
    · have h := AC_all (fun i => ind S i) z (fun i => ind01 S i) (n - 1)
      rw [e1] at h
      refine List.mem_map.mpr ⟨_, h, ?_⟩
      congr 1
      refine cnt_congr fun v hv' x hx => ?_
      obtain ⟨x0, x1⟩ := hv v hv' x hx
      rw [cg_range _ x0 x1]
      congr 1
      omega
    · have h := AC_all (fun i => 1 - ind S i) (by show 1 - ind S ((0 : Nat) : Int) = 0; rw [show ((0 : Nat) : Int) = 0 from rfl, z]; rfl) (fun i => by rcases ind01 S i with e | e <;> rw [e] <;> decide) (n - 1)
      rw [e1] at h
      refine List.mem_map.mpr ⟨_, h, ?_⟩
      congr 1
      refine (cnt_flip ne fun v hv' x hx => ?_).symm
      obtain ⟨x0, x1⟩ := hv v hv' x hx
      rw [cg_range _ x0 x1, show ((x.toNat : Nat) : Int) = x by omega]
/-- none, only if all are on one line -/
theorem fewest_pos {u : Int} {P : List Pt} {L : List Nat} (G : GP u P L) {n : Nat} (hP : Pts n P) (l3 : 3 ≤ P.length) (h30 : P.length ≤ 30) : (0 < fmin ((rowsL P).length : Int) ((AC (P.length - 1)).map fun c => (cnt (rowsL P) (cg c) : Int))) ↔ 1 < (rowsL P).length := by
  obtain ⟨p1, p2, p3⟩ := fmin_spec ((AC (P.length - 1)).map fun c => (cnt (rowsL P) (cg c) : Int)) ((rowsL P).length : Int)
  have r0 := List.length_pos_iff.mpr (rowsL_pos hP (by omega) h30)
  constructor
  · intro h
    refine Classical.byContradiction fun z => ?_
    have h1 : (rowsL P).length = 1 := by omega
    have m := AC_all (fun i => if i = 0 then 0 else 1) rfl (fun i => by show (if i = 0 then (0 : Int) else 1) = 0 ∨ _; by_cases w : i = 0 <;> simp [w]) (P.length - 1)
    rw [show P.length - 1 + 1 = P.length by omega] at m
    have q := p3 _ (List.mem_map_of_mem (f := fun c => (cnt (rowsL P) (cg c) : Int)) m)
    have c0 : cnt (rowsL P) (cg ((List.range P.length).map fun i => if i = 0 then 0 else 1)) = 0 := by
      unfold cnt
      rw [List.length_eq_zero_iff, List.filter_eq_nil_iff]
      intro v hv o
      have m0 := one_line hP h1 hv (i := 0) (by omega) (by omega)
      have m1 := one_line hP h1 hv (i := 1) (by omega) (by omega)
      have e := (one_map (rowsL_ne v hv) _).mp o _ m0 _ m1
      rw [cg_range _ (by decide) (by omega), cg_range _ (by decide) (by omega)] at e
      cases e
    rw [c0] at q
    omega
  · intro h
    rcases p1 with e | e
    · rw [e]; omega
    · obtain ⟨c, hc, e2⟩ := List.mem_map.mp e
      obtain ⟨cl, c01⟩ := AC_mem _ _ hc
      have d := mr G hP l3 c (fun i hi => c01 _ (List.mem_of_getElem? (gx_get (show i < c.length by omega)))) h
      rw [← e2]
      have := List.length_pos_iff.mpr d
      have e3 : (due P c).length = cnt (rowsL P) (cg c) := rfl
      show (0 : Int) < ((cnt (rowsL P) (cg c) : Nat) : Int)
      omega
end Lw

set_option Elab.async false
set_option linter.all false
set_option maxRecDepth 100000
set_option maxHeartbeats 4000000
/-! colours: the fewest lines of one colour; the program's loops, the law's -/
namespace Lw
open PySem PySem.Spec PyProof.Rows L2 Pu Ma
def lD (c : List Int) : D := .lst (c.map D.int)
theorem add_lst {xs ys : List D} (h : xs.length + ys.length ≤ 100000) (b : Bx) : addD (.lst xs) (.lst ys) b = .ok (.lst (xs ++ ys)) b := by
  show (if xs.length + ys.length ≤ 100000 then pure (.lst (xs ++ ys)) else stuck : M D) b = _
  rw [if_pos h]
  rfl
theorem add_tup {xs ys : List D} (h : xs.length + ys.length ≤ 100000) (b : Bx) : addD (.tup xs) (.tup ys) b = .ok (.tup (xs ++ ys)) b := by
  show (if xs.length + ys.length ≤ 100000 then pure (.tup (xs ++ ys)) else stuck : M D) b = _
  rw [if_pos h]
  rfl
theorem cnt_perm {xs ys : List (List Int)} (n1 : xs.Nodup) (n2 : ys.Nodup) (h : ∀ v, v ∈ xs ↔ v ∈ ys) (g : Int → Int) : cnt xs g = cnt ys g := by
  unfold cnt
  have a := List.Nodup.length_le_of_subset (n1.filter fun v => one (v.map g)) (show xs.filter (fun v => one (v.map g)) ⊆ ys.filter fun v => one (v.map g) from fun v hv => by
    rw [List.mem_filter] at hv ⊢
    exact ⟨(h v).mp hv.1, hv.2⟩)
  have c := List.Nodup.length_le_of_subset (n2.filter fun v => one (v.map g)) (show ys.filter (fun v => one (v.map g)) ⊆ xs.filter fun v => one (v.map g) from fun v hv => by
    rw [List.mem_filter] at hv ⊢
    exact ⟨(h v).mpr hv.1, hv.2⟩)
  omega
abbrev acB : DEnv → M Out := sSet 6 (eF (fComp2 (iSeqD (eVar 6)) [8, 9] (gVar 8) tYesD (iSeqD (eTup (aCons (eC (.int 0)) (aCons (eC (.int 1)) aNil)))) [9] (gVar 9) tYesD (eBin addD (eVar 8) (eF (fLst (aCons (eVar 9) aNil))))))
theorem ac_step (x P rows e5 : D) (m : Nat) (hm : m ≤ 5) (e7 : Option D) (b : Bx) : acB [some x, some P, some rows, none, none, some e5, some (.lst ((AC m).map lD)), e7, none, none, none, none, none] b = .ok (.nx [some x, some P, some rows, none, none, some e5, some (.lst ((AC (m + 1)).map lD)), e7, none, none, none, none, none]) b := by
  have hl : (AC m).length ≤ 32 := by
    rw [AC_len]
    exact Nat.pow_le_pow_right (by decide) hm
  have c1 : compL2 [8, 9] (gVar 8) tYesD (iSeqD (eTup (aCons (eC (.int 0)) (aCons (eC (.int 1)) aNil)))) [9] (gVar 9) tYesD (eBin addD (eVar 8) (eF (fLst (aCons (eVar 9) aNil)))) [some x, some P, some rows, none, none, some e5, some (.lst ((AC m).map lD)), e7, none, none, none, none, none] ((AC m).map lD) b = .ok ((AC m).flatMap fun c => [lD (c ++ [0]), lD (c ++ [1])]) b :=
    comp2_map lD (fun c => [lD (c ++ [0]), lD (c ++ [1])]) (AC m) fun c hc => ⟨_, [.int 0, .int 1], rfl, rfl, by decide, comp_map D.int (fun z => lD (c ++ [z])) [0, 1] fun z _ => ⟨_, rfl, v_bin (v_var rfl) (v_f (v_lst (v_acons (v_var rfl) rfl v_nil) (Nat.le_of_ble_eq_true rfl))) ((add_lst (by rw [List.length_map, (AC_mem m c hc).1]; show m + 1 + 1 ≤ _; omega) b).trans (by
      unfold lD
      rw [List.map_append]
      rfl)), rfl⟩⟩
  refine v_set (d := .lst ((AC (m + 1)).map lD)) (v_f (b1 := b) ?_) rfl
  unfold fComp2
  rw [bindA, show iSeqD (eVar 6) [some x, some P, some rows, none, none, some e5, some (.lst ((AC m).map lD)), e7, none, none, none, none, none] b = .ok ((AC m).map lD) b from rfl, okB, if_pos (by rw [List.length_map]; omega), c1]
  congr 1
  show _ = (((AC m).flatMap fun c => [c ++ [0], c ++ [1]]).map lD)
  rw [List.map_flatMap]
  rfl
theorem ac_for (x P rows e5 : D) (b : Bx) : ∀ (ds : List D) (m : Nat) (e7 : Option D), m + ds.length ≤ 6 → ∃ e7', forL (gVar 7) acB ds [some x, some P, some rows, none, none, some e5, some (.lst ((AC m).map lD)), e7, none, none, none, none, none] b = .ok (.nx [some x, some P, some rows, none, none, some e5, some (.lst ((AC (m + ds.length)).map lD)), e7', none, none, none, none, none]) b
  | [], m, e7, _ => ⟨e7, rfl⟩
  | d :: ds, m, e7, h => by
    rw [List.length_cons] at h
    obtain ⟨e7', e⟩ := ac_for x P rows e5 b ds (m + 1) (some d) (by omega)
    refine ⟨e7', v_forC (ρ1 := [some x, some P, some rows, none, none, some e5, some (.lst ((AC m).map lD)), some d, none, none, none, none, none]) rfl (ac_step x P rows e5 m (by omega) (some d) b) ?_⟩
    rw [e, List.length_cons, Nat.add_assoc, Nat.add_comm 1]
abbrev mnB : DEnv → M Out := sSet 5 (eB min2D (bCons (eVar 5) (bCons (eB lenD (bCons (eF (fComp (iSeqD (eVar 2)) [11] (gVar 11) (tB (eBin eqD (eUn lenSet2 (eF (fComp (iSeqD (eVar 11)) [12] (gVar 12) tYesD (eBin ixD (eVar 10) (eVar 12))))) (eC (.int 1)))) (eVar 11))) aNil)) aNil)))
theorem mn_for (x P AL : D) (e7 : Option D) {vs : List (List Int)} {n : Nat} (hvs : vs.length < 4000) (hv : ∀ v ∈ vs, v.length < 64 ∧ ∀ x ∈ v, 0 ≤ x ∧ x < (n : Int)) (b : Bx) : ∀ (l : List (List Int)) (a : Int) (e10 : Option D), (∀ c ∈ l, c.length = n) → ∃ e10', forL (gVar 10) mnB (l.map lD) [some x, some P, some (.lst (vs.map rowD)), none, none, some (.int a), some AL, e7, none, none, e10, none, none] b = .ok (.nx [some x, some P, some (.lst (vs.map rowD)), none, none, some (.int (fmin a (l.map fun c => (cnt vs (cg c) : Int)))), some AL, e7, none, none, e10', none, none]) b
  | [], a, e10, _ => ⟨e10, rfl⟩
  | c :: l, a, e10, hc => by
    obtain ⟨e10', e⟩ := mn_for x P AL e7 hvs hv b l (minI a (cnt vs (cg c) : Int)) (some (lD c)) fun d hd => hc d (List.mem_cons_of_mem _ hd)
    have c1 : compL [11] (gVar 11) (tB (eBin eqD (eUn lenSet2 (eF (fComp (iSeqD (eVar 11)) [12] (gVar 12) tYesD (eBin ixD (eVar 10) (eVar 12))))) (eC (.int 1)))) (eVar 11) [some x, some P, some (.lst (vs.map rowD)), none, none, some (.int a), some AL, e7, none, none, some (lD c), none, none] (vs.map rowD) b = .ok ((vs.filter fun v => one (v.map (cg c))).map rowD) b :=
      comp_filter rowD rowD (fun v => one (v.map (cg c))) vs fun v hv' => ⟨_, rfl, v_one rfl (hv v hv').1 (fun x hx => v_bin (v_var rfl) (v_var rfl) (ix_lst ((hv v hv').2 x hx).1 (by rw [hc c List.mem_cons_self]; exact ((hv v hv').2 x hx).2) b)), fun _ => ⟨v_var rfl, rfl⟩⟩
    refine ⟨e10', v_forC (ρ1 := [some x, some P, some (.lst (vs.map rowD)), none, none, some (.int a), some AL, e7, none, none, some (lD c), none, none]) rfl (v_set (d := .int (minI a (cnt vs (cg c) : Int))) (v_b (v_bcons (v_var rfl) (v_bcons (v_b (v_bcons (v_f (v_comp (v_iseq (v_var rfl) rfl) (by rw [List.length_map]; omega) c1)) v_nil) rfl) v_nil)) ?_) rfl) e⟩
    show Res.ok (D.int (minI a (((vs.filter fun v => one (v.map (cg c))).map rowD).length : Int))) b = _
    rw [List.length_map]
    rfl
theorem fewest_ok {P : List Pt} {x : D} {n : Nat} (h : VP P) (m : Mx n x (.tup (P.map pt))) (hn : n < 12) (l6 : P.length ≤ 6) (b : Bx) : f_fewest_alone [x] b = .ok (.int (fmin ((rowsL P).length : Int) ((AC (P.length - 1)).map fun c => (cnt (rowsL P) (cg c) : Int)))) b := by
  obtain ⟨T, L, e⟩ := lines_in_ok h.pts h.hi b
  obtain ⟨nd, mem⟩ := rows_T h.pts L
  have lo := h.lo
  have hi := h.hi
  have tl4 := L.len h.pts h.hi
  have nd2 := nodup_of_pw (rowsL_pw (P := P))
  have tl : (T.map Prod.snd).length = (rowsL P).length := by
    have a := List.Nodup.length_le_of_subset nd (show T.map Prod.snd ⊆ rowsL P from fun v hv => (mem v).mp hv)
    have c := List.Nodup.length_le_of_subset nd2 (show rowsL P ⊆ T.map Prod.snd from fun v hv => (mem v).mpr hv)
    omega
  have c1 : compL [3, 4] (gTupD 2 (gConsD (gVar 3) (gConsD (gVar 4) gNilD))) tYesD (eVar 4) [some x, some (.tup (P.map pt)), none, none, none, none, none, none, none, none, none, none, none] (T.map lpD) b = .ok ((T.map Prod.snd).map rowD) b := by
    rw [List.map_map]
    exact comp_map lpD (rowD ∘ Prod.snd) T fun kv _ => ⟨_, rfl, Pu.v_var rfl, rfl⟩
  obtain ⟨e7', a1⟩ := ac_for x (.tup (P.map pt)) (.lst ((T.map Prod.snd).map rowD)) (.int (((T.map Prod.snd).map rowD).length : Int)) b ((List.range (P.length - 1)).map fun i : Nat => D.int (i : Int)) 0 none (by rw [List.length_map, List.length_range]; omega)
  rw [show ((List.range (P.length - 1)).map fun i : Nat => D.int (i : Int)).length = P.length - 1 by rw [List.length_map, List.length_range], Nat.zero_add] at a1
  have hn1 : P.length - 1 + 1 = P.length := by omega
  obtain ⟨e10', a2⟩ := mn_for x (.tup (P.map pt)) (.lst ((AC (P.length - 1)).map lD)) e7' (vs := T.map Prod.snd) (n := P.length) (by rw [List.length_map]; omega) (fun v hv => ⟨rowsL_short hi ((mem v).mp hv), (rowsL_in ((mem v).mp hv)).2.2⟩) b (AC (P.length - 1)) (((T.map Prod.snd).map rowD).length : Int) none fun c hc => by rw [(AC_mem _ _ hc).1, hn1]
  have fin : fmin (((T.map Prod.snd).map rowD).length : Int) ((AC (P.length - 1)).map fun c => (cnt (T.map Prod.snd) (cg c) : Int)) = fmin ((rowsL P).length : Int) ((AC (P.length - 1)).map fun c => (cnt (rowsL P) (cg c) : Int)) := by
    rw [List.length_map, tl]
    congr 1
    refine List.map_congr_left fun c _ => ?_
    rw [cnt_perm nd nd2 mem]
  have r1 : rng1 [.int ((P.length : Int) - 1)] b = .ok ((List.range (P.length - 1)).map fun i : Nat => D.int (i : Int)) b := by
    rw [show (P.length : Int) - 1 = ((P.length - 1 : Nat) : Int) by omega]
    exact rng_nat _ (by omega) b
  have l1 : ∀ ρ : DEnv, ρ[1]? = some (some (.tup (P.map pt))) → eB lenD (bCons (eVar 1) aNil) ρ b = .ok (.int P.length) b := fun ρ hρ => (v_b (v_bcons (v_var hρ) v_nil) rfl).trans (by
    show Res.ok (D.int ((P.map pt).length : Nat)) b = _
    rw [List.length_map])
  refine v_run rfl (v_seq (v_set (v_call (v_acons (v_var rfl) m.chk.1 v_nil) (sure_points_ok h m hn b)) rfl) (v_seq (v_ifF (c := false) (v_tB (v_bin (l1 _ rfl) v_c ?_)) rfl rfl) (v_seq (v_set (v_f (v_comp (v_iseq (v_call (v_acons (v_var rfl) rfl v_nil) e) rfl) (by rw [List.length_map]; omega) c1)) rfl)
    (v_seq (v_par (v_acons (v_b (v_bcons (v_var rfl) v_nil) rfl) rfl (v_acons (v_f (v_lst (v_acons (v_f (v_lst (v_acons v_c rfl v_nil) (Nat.le_of_ble_eq_true rfl))) rfl v_nil) (Nat.le_of_ble_eq_true rfl))) rfl v_nil))) (v_seq (v_for (v_rng1 (v_acons (v_bin (l1 _ rfl) v_c rfl) rfl v_nil) r1) a1) (v_seq (v_for (v_iseq (v_var rfl) rfl) a2) (v_ret ((Pu.v_var rfl).trans (by rw [fin])) rfl)))))))
  show Res.ok (D.bl (decide ((10 : Int) < P.length))) b = _
  rw [decide_eq_false (by omega)]
/-! ### the law's parts -/
abbrev ptB : DEnv → M Out := sSet 1 (eBin addD (eVar 1) (eF (fComp (iSeqD (eVar 1)) [3] (gVar 3) tYesD (eBin addD (eVar 3) (eTup (aCons (eVar 2) aNil))))))
theorem pt_step (x0 : D) (F : List (List Int)) (hF : F.length ≤ 1000) (hl : ∀ A ∈ F, A.length ≤ 1000) (z : Int) (b : Bx) : ptB [some x0, some (.lst (F.map rowD)), some (.int z), none] b = .ok (.nx [some x0, some (.lst ((pstep F z).map rowD)), some (.int z), none]) b := by
  have c1 : compL [3] (gVar 3) tYesD (eBin addD (eVar 3) (eTup (aCons (eVar 2) aNil))) [some x0, some (.lst (F.map rowD)), some (.int z), none] (F.map rowD) b = .ok (F.map fun A => rowD (A ++ [z])) b :=
    comp_map rowD (fun A => rowD (A ++ [z])) F fun A hA => ⟨_, rfl, v_bin (v_var rfl) (v_tup (v_acons (v_var rfl) rfl v_nil) (Nat.le_of_ble_eq_true rfl)) ((add_tup (by rw [List.length_map]; have := hl A hA; show A.length + 1 ≤ _; omega) b).trans (by
      unfold rowD
      rw [List.map_append]
      rfl)), rfl⟩
  refine v_set (d := .lst ((pstep F z).map rowD)) (v_bin (v_var rfl) (v_f (v_comp (v_iseq (v_var rfl) rfl) (by rw [List.length_map]; omega) c1)) ((add_lst (by rw [List.length_map, List.length_map]; omega) b).trans ?_)) rfl
  unfold pstep
  rw [List.map_append, List.map_map]
  rfl
theorem pt_for (x0 : D) (b : Bx) : ∀ (l : List Int) (F : List (List Int)) (e2 : Option D) (k : Nat), F.length * 2 ^ l.length ≤ 1000 → k + l.length ≤ 1000 → (∀ A ∈ F, A.length ≤ k) → ∃ e2', forL (gVar 2) ptB (l.map D.int) [some x0, some (.lst (F.map rowD)), e2, none] b = .ok (.nx [some x0, some (.lst ((l.foldl pstep F).map rowD)), e2', none]) b
  | [], F, e2, k, _, _, _ => ⟨e2, rfl⟩
  | z :: l, F, e2, k, h, hk, hl => by
    rw [List.length_cons] at h hk
    have hF : F.length ≤ 1000 := Nat.le_trans (Nat.le_mul_of_pos_right _ (Nat.two_pow_pos _)) h
    obtain ⟨e2', e⟩ := pt_for x0 b l (pstep F z) (some (.int z)) (k + 1) (by
      unfold pstep
      rw [List.length_append, List.length_map, ← Nat.two_mul, Nat.mul_comm 2, Nat.mul_assoc, Nat.mul_comm 2, ← Nat.pow_succ]
      exact h) (by omega) fun A hA => by
        rcases List.mem_append.mp hA with q | q
        · have := hl A q; omega
        · obtain ⟨B, hB, rfl⟩ := List.mem_map.mp q
          have := hl B hB
          rw [List.length_append, List.length_singleton]
          omega
    exact ⟨e2', v_forC (ρ1 := [some x0, some (.lst (F.map rowD)), some (.int z), none]) rfl (pt_step x0 F hF (fun A hA => by have := hl A hA; omega) z b) e⟩
theorem law_parts_ok {l : List Int} (hl : l.length ≤ 6) (b : Bx) : f__law_parts [.lst (l.map D.int)] b = .ok (.lst ((PT l).map rowD)) b := by
  obtain ⟨e2', e⟩ := pt_for (.lst (l.map D.int)) b l [[]] none 0 (by
    rw [List.length_singleton, Nat.one_mul]
    exact Nat.le_trans (Nat.pow_le_pow_right (by decide) hl) (by decide)) (by omega) fun A hA => by rw [List.mem_singleton.mp hA]; exact Nat.le_refl 0
  exact v_run rfl (v_seq (v_set (v_f (v_lst (v_acons (v_tup v_nil (Nat.le_of_ble_eq_true rfl)) rfl v_nil) (Nat.le_of_ble_eq_true rfl))) rfl) (v_seq (v_for (v_iseq (v_var rfl) rfl) e) (v_ret (v_var rfl) rfl)))
theorem in_ints (x : Int) (S : List Int) (b : Bx) : inD (.int x) (.tup (S.map D.int)) b = .ok (.bl (decide (x ∈ S))) b := by
  show (if (D.ok deep (.int x) && D.oks deep (S.map D.int)) = true then pure (.bl ((S.map D.int).any fun y => D.eqv y (.int x))) else stuck : M D) b = _
  rw [if_pos (by rw [oks_ints]; rfl)]
  show Res.ok (D.bl ((S.map D.int).any fun y => D.eqv y (.int x))) b = _
  congr 2
  rw [Bool.eq_iff_iff, List.any_eq_true, decide_eq_true_iff]
  constructor
  · rintro ⟨y, hy, e⟩
    obtain ⟨z, hz, rfl⟩ := List.mem_map.mp hy
    rw [← of_decide_eq_true (show decide (z = x) = true from e)]
    exact hz
  · intro h
    exact ⟨_, List.mem_map_of_mem h, by show decide (x = x) = true; rw [decide_eq_true rfl]⟩
end Lw

set_option Elab.async false
set_option linter.all false
set_option maxRecDepth 100000
set_option maxHeartbeats 4000000
/-! colours: the steps of one lap -/
namespace Lw
open PySem PySem.Spec PyProof.Rows L2 Pu Ma
abbrev s1 : DEnv → M Out := (sSet 1 (eCall f__law_points (aCons (eVar 0) (aCons (eBin addD (eC (.int 3)) (eCall f__law_take (aCons (eVar 0) (aCons (eC (.int 10)) aNil)))) (aCons (eCall f__law_of (aCons (eVar 0) (aCons (eF (fLst (aCons (eC (.int 2)) (aCons (eC (.int 3)) (aCons (eC (.int 4)) aNil))))) aNil))) aNil)))))
abbrev s2 : DEnv → M Out := (sIf (tB (eBin ltD (eB lenD (bCons (eVar 1) aNil)) (eC (.int 3)))) (sRet (eC (.bl true))) sNext)
abbrev s3 : DEnv → M Out := (sSet 2 (eB lenD (bCons (eVar 1) aNil)))
abbrev s4 : DEnv → M Out := (sSet 3 (eCall f__law_take (aCons (eVar 0) (aCons (eC (.int 5)) aNil))))
abbrev s5 : DEnv → M Out := (sSet 4 (eB tupD (bCons (eF (fComp (iSeqD (eVar 1)) [5] (gVar 5) tYesD (eCall f__law_take (aCons (eVar 0) (aCons (eC (.int 2)) aNil))))) aNil)))
abbrev s6 : DEnv → M Out := (sIf (tB (eBin eqD (eVar 3) (eC (.int 0)))) (sSet 4 (eBin repD (eTup (aCons (eCall f__law_take (aCons (eVar 0) (aCons (eC (.int 2)) aNil))) aNil)) (eVar 2))) sNext)
abbrev s7 : DEnv → M Out := (sSet 6 (eCall f__law_lines (aCons (eVar 1) aNil)))
abbrev s8 : DEnv → M Out := (sSet 7 (eF (fComp (iSeqD (eVar 6)) [5] (gVar 5) (tB (eBin eqD (eUn lenSet2 (eF (fComp (iSeqD (eVar 5)) [8] (gVar 8) tYesD (eBin ixD (eVar 4) (eVar 8))))) (eC (.int 1)))) (eTup (aCons (eBin ixD (eVar 4) (eBin ixD (eVar 5) (eC (.int 0)))) (aCons (eVar 5) aNil))))))
abbrev s9 : DEnv → M Out := (sIf (tNotD (tTr (eCall f__law_same (aCons (eF (fLst (aCons (eCall f_one_colour_lines (aCons (eCall f__law_mixed (aCons (eVar 0) (aCons (eVar 1) aNil))) (aCons (eVar 4) aNil))) (aCons (eCall f__law_heard (aCons (eC (.fn 30)) (aCons (eTup (aCons (eVar 1) (aCons (eCall f__law_mixed (aCons (eVar 0) (aCons (eVar 4) aNil))) aNil))) aNil))) aNil)))) (aCons (eF (fLst (aCons (eB tupD (bCons (eVar 7) aNil)) (aCons (eIf (tB (eBin neD (eVar 7) (eF (fLst aNil)))) (eBin ixD (eVar 7) (eC (.int 0))) (eF (fLst (aCons (eC (.str "can not")) (aCons (eC (.bl true)) aNil))))) aNil)))) aNil))))) (sRet (eC (.bl false))) sNext)
abbrev s10 : DEnv → M Out := (sIf (tOrD (tAndD (tB (eBin gtD (eB lenD (bCons (eVar 6) aNil)) (eC (.int 1)))) (tB (eBin eqD (eVar 7) (eF (fLst aNil))))) (tAndD (tB (eBin eqD (eB lenD (bCons (eVar 6) aNil)) (eC (.int 1)))) (tB (eBin neD (eBin neD (eVar 7) (eF (fLst aNil))) (eBin eqD (eUn lenSet2 (eVar 4)) (eC (.int 1))))))) (sRet (eC (.bl false))) sNext)
abbrev s11 : DEnv → M Out := (sSet 9 (eF (fComp (iSeqD (eVar 7)) [5, 10] (gTupD 2 (gConsD (gVar 5) (gConsD (gVar 10) gNilD))) tYesD (eVar 5))))
abbrev s12 : DEnv → M Out := (sIf (tNotD (tTr (eCall f__law_same (aCons (eCall f_colour_counts (aCons (eVar 1) (aCons (eVar 4) aNil))) (aCons (eTup (aCons (eCount (eVar 9) (eC (.int 0))) (aCons (eCount (eVar 9) (eC (.int 1))) (aCons (eBin subD (eB lenD (bCons (eVar 6) aNil)) (eB lenD (bCons (eVar 7) aNil))) aNil)))) aNil))))) (sRet (eC (.bl false))) sNext)
abbrev s13 : DEnv → M Out := (sIf (tB (eBin neD (eF (fComp (iSeqD (eVar 7)) [5] (gVar 5) (tNotD (tTr (eCall f_is_one_colour (aCons (eVar 1) (aCons (eVar 4) (aCons (eVar 5) aNil)))))) (eVar 5))) (eF (fLst aNil)))) (sRet (eC (.bl false))) sNext)
abbrev s14 : DEnv → M Out := (sSet 5 (eCall f__law_of (aCons (eVar 0) (aCons (eVar 6) aNil))))
abbrev s15 : DEnv → M Out := (sSet 8 (eCall f__law_take (aCons (eVar 0) (aCons (eC (.int 2)) aNil))))
abbrev s16 : DEnv → M Out := (sSet 11 (eF (fLst (aCons (eCall f_is_one_colour (aCons (eVar 1) (aCons (eVar 4) (aCons (eTup (aCons (eVar 8) (aCons (eVar 5) aNil))) aNil)))) (aCons (eCall f_is_one_colour (aCons (eVar 1) (aCons (eVar 4) (aCons (eTup (aCons (eVar 8) (aCons (eSl (eVar 5) oNone (oSome (eUn negD (eC (.int 1))))) aNil))) aNil)))) (aCons (eCall f_is_one_colour (aCons (eVar 1) (aCons (eVar 4) (aCons (eF (fLst (aCons (eVar 8) (aCons (eVar 5) aNil)))) aNil)))) (aCons (eCall f_is_one_colour (aCons (eVar 1) (aCons (eVar 4) (aCons (eTup (aCons (eVar 8) (aCons (eBin addD (eVar 5) (eTup (aCons (eVar 2) aNil))) aNil))) aNil)))) aNil)))))))
abbrev s17 : DEnv → M Out := (sIf (tNotD (tTr (eCall f__law_same (aCons (eVar 11) (aCons (eF (fLst (aCons (eBin inD (eTup (aCons (eVar 8) (aCons (eVar 5) aNil))) (eVar 7)) (aCons (eC (.bl false)) (aCons (eC (.bl false)) (aCons (eC (.bl false)) aNil)))))) aNil))))) (sRet (eC (.bl false))) sNext)
abbrev s18 : DEnv → M Out := (sSet 12 (eSl (eVar 1) oNone (oSome (eC (.int 6)))))
abbrev s19 : DEnv → M Out := (sIf (tB (eBin ltD (eB lenD (bCons (eVar 12) aNil)) (eC (.int 3)))) (sRet (eC (.bl true))) sNext)
abbrev s20 : DEnv → M Out := (sSet 13 (eCall f__law_lines (aCons (eVar 12) aNil)))
abbrev s21 : DEnv → M Out := (sSet 14 (eB lenD (bCons (eVar 13) aNil)))
abbrev s22 : DEnv → M Out := (sFor (iSeqD (eCall f__law_parts (aCons (eF (fRg1 (eB lenD (bCons (eVar 12) aNil)))) aNil))) (gVar 15) (sSet 14 (eB min2D (bCons (eVar 14) (bCons (eB lenD (bCons (eF (fComp (iSeqD (eVar 13)) [10] (gVar 10) (tB (eBin eqD (eUn lenSet2 (eF (fComp (iSeqD (eVar 10)) [8] (gVar 8) tYesD (eB intOfD (bCons (eBin inD (eVar 8) (eVar 15)) aNil))))) (eC (.int 1)))) (eVar 10))) aNil)) aNil)))))
abbrev s23 : DEnv → M Out := (sRet (eAnd (eCall f__law_same (aCons (eCall f_fewest_alone (aCons (eVar 12) aNil)) (aCons (eVar 14) aNil))) (eBin eqD (eBin gtD (eVar 14) (eC (.int 0))) (eBin gtD (eB lenD (bCons (eVar 13) aNil)) (eC (.int 1))))))
theorem s_body : b__law_right = sSeq s1 (sSeq s2 (sSeq s3 (sSeq s4 (sSeq s5 (sSeq s6 (sSeq s7 (sSeq s8 (sSeq s9 (sSeq s10 (sSeq s11 (sSeq s12 (sSeq s13 (sSeq s14 (sSeq s15 (sSeq s16 (sSeq s17 (sSeq s18 (sSeq s19 (sSeq s20 (sSeq s21 (sSeq s22 (s23)))))))))))))))))))))) := rfl
abbrev EN (p n kd c own rs du k al got few ln best told : Option D) : DEnv := [some .box, p, n, kd, c, own, rs, du, k, al, none, got, few, ln, best, told]
theorem law_of_gen {c : Nat} {b : Bx} {α : Type} (f : α → D) (V : Vb c b) (hc : c < 2 ^ 60) (vs : List α) (h0 : 0 < vs.length) (h1 : vs.length < 2 ^ 60) (hs : ∀ v, strip (f v) = f v) : ∃ v b', v ∈ vs ∧ Vb (c + 1) b' ∧ f__law_of [.box, .lst (vs.map f)] b = .ok (f v) b' := by
  obtain ⟨r, b', r0, r1, V', e⟩ := take_law (n := (vs.length : Int)) V hc (by omega) (by omega)
  have hr : r.toNat < vs.length := by omega
  have l1 : eB lenD (bCons (eVar 1) aNil) (startD 2 [.box, .lst (vs.map f)]) b = .ok (.int vs.length) b := (v_b (v_bcons (v_var rfl) v_nil) rfl).trans (by
    show Res.ok (D.int (((vs.map f).length : Nat) : Int)) b = _
    rw [List.length_map])
  have e1 : atI (vs.map f) r = some (f vs[r.toNat]) := by
    unfold atI ixN
    rw [if_pos r0, if_pos (by rw [List.length_map]; omega)]
    show (vs.map f)[r.toNat]? = _
    rw [List.getElem?_map, List.getElem?_eq_getElem hr]
    rfl
  have e2 : ixD (.lst (vs.map f)) (.int r) b' = .ok (f vs[r.toNat]) b' := by
    show (match atI (vs.map f) r with | some d => pure d | none => stuck : M D) b' = _
    rw [e1]
    rfl
  exact ⟨vs[r.toNat], b', List.getElem_mem hr, V', v_run rfl (v_ret (v_bin (v_var rfl) (v_call (v_acons (v_var rfl) rfl (v_acons l1 rfl v_nil)) e) e2) (hs _))⟩
/-- colours drawn -/
theorem draws_ok {ρ : DEnv} (hl : 5 < ρ.length) (h0 : ρ[0]? = some (some .box)) : ∀ (ds : List D) (c : Nat) (b : Bx), Vb c b → c + ds.length < 2 ^ 60 → ∃ (C : List Int) (b' : Bx), C.length = ds.length ∧ Col01 C ∧ Vb (c + ds.length) b' ∧ compL [5] (gVar 5) tYesD (eCall f__law_take (aCons (eVar 0) (aCons (eC (.int 2)) aNil))) ρ ds b = .ok (C.map D.int) b'
  | [], c, b, V, _ => ⟨[], b, rfl, fun x h => (by cases h), V, rfl⟩
  | d :: ds, c, b, V, hc => by
    rw [List.length_cons] at hc
    obtain ⟨r, b1, r0, r1, V1, e1⟩ := take_law (n := 2) V (by omega) (by decide) (by decide)
    obtain ⟨C, b2, l2, c2, V2, e2⟩ := draws_ok hl h0 ds (c + 1) b1 V1 (by omega)
    refine ⟨r :: C, b2, by rw [List.length_cons, List.length_cons, l2], fun x hx => ?_, by rw [List.length_cons, show c + (ds.length + 1) = c + 1 + ds.length by omega]; exact V2, comp_cons (c := true) (y := .int r) (ρ1 := (wipeD ρ [5]).set 5 (some d)) rfl rfl (fun _ => ⟨b1, b2, _, v_call (v_acons (v_var (d := .box) ?_) rfl (v_acons v_c rfl v_nil)) e1, rfl, e2, rfl⟩) fun c => (by cases c)⟩
    · rcases List.mem_cons.mp hx with z | z
      · omega
      · exact c2 x z
    · show ((ρ.set 5 none).set 5 (some d))[0]? = _
      rw [List.getElem?_set_ne (by decide), List.getElem?_set_ne (by decide), h0]
theorem rep_one (x : Int) {n : Nat} (h1 : 2 ≤ n) (h2 : n ≤ 1000) (b : Bx) : repD (.tup [.int x]) (.int (n : Int)) b = .ok (.tup ((List.replicate n x).map D.int)) b := by
  have e : (List.replicate n [D.int x]).flatten = (List.replicate n x).map D.int := by
    rw [List.map_replicate]
    clear h1 h2
    induction n with
    | zero => rfl
    | succ n ih => rw [List.replicate_succ, List.flatten_cons, ih, List.replicate_succ]; rfl
  show (if [D.int x] ≠ [] ∧ 2 ≤ (n : Int) ∧ (n : Int) ≤ 1000 ∧ [D.int x].length ≤ 1000 then pure (.tup (List.replicate (n : Int).toNat [D.int x]).flatten) else stuck : M D) b = _
  rw [if_pos ⟨by simp, by omega, by omega, by show 1 ≤ 1000; decide⟩, Int.toNat_natCast, e]
  rfl
section
variable {P : List Pt} {C : List Int} {n : Nat}
abbrev pD (P : List Pt) : Option D := some (.tup (P.map pt))
abbrev cD (C : List Int) : Option D := some (.tup (C.map D.int))
abbrev rD (P : List Pt) : Option D := some (.lst ((rowsL P).map rowD))
abbrev uD (P : List Pt) (C : List Int) : Option D := some (.lst ((due P C).map (duD C)))
theorem rows_few (hl : P.length ≤ 30) : (rowsL P).length ≤ 900 := by
  have nd := nodup_of_pw (rowsL_pw (P := P))
  have sub : rowsL P ⊆ ((List.range 30).flatMap fun i => (List.range 30).map fun j => rowI (row P i j)) := fun v hv => by
    obtain ⟨j, k, hjk, hk, _, rfl⟩ := rowsL_mem.mp hv
    exact List.mem_flatMap.mpr ⟨j, List.mem_range.mpr (by omega), List.mem_map.mpr ⟨k, List.mem_range.mpr (by omega), rfl⟩⟩
  have q := List.Nodup.length_le_of_subset nd sub
  have e : ((List.range 30).flatMap fun i => (List.range 30).map fun j => rowI (row P i j)).length = 900 := by
    rw [List.length_flatMap]
    simp only [List.length_map, List.length_range]
    decide +kernel
  omega
theorem st8 (hi : P.length ≤ 30) (hC : C.length = P.length) (e2 e3 : Option D) (b : Bx) : s8 (EN (pD P) e2 e3 (cD C) none (rD P) none none none none none none none none) b = .ok (.nx (EN (pD P) e2 e3 (cD C) none (rD P) (uD P C) none none none none none none none)) b := by
  have fl := rows_few hi
  have c2 : compL [5] (gVar 5) (tB (eBin eqD (eUn lenSet2 (eF (fComp (iSeqD (eVar 5)) [8] (gVar 8) tYesD (eBin ixD (eVar 4) (eVar 8))))) (eC (.int 1)))) (eTup (aCons (eBin ixD (eVar 4) (eBin ixD (eVar 5) (eC (.int 0)))) (aCons (eVar 5) aNil))) (EN (pD P) e2 e3 (cD C) none (rD P) none none none none none none none none) ((rowsL P).map rowD) b = .ok ((due P C).map (duD C)) b :=
    comp_filter rowD (duD C) (fun v => one (cv C v)) (rowsL P) fun v hv => ⟨_, rfl, v_one rfl (rowsL_short hi hv) (fun x hx => v_bin (v_var rfl) (v_var rfl) (ix_tup ((rowsL_in hv).2.2 x hx).1 (by rw [hC]; exact ((rowsL_in hv).2.2 x hx).2) b)), fun _ => ⟨by
      have ne := rowsL_ne v hv
      have hh := (rowsL_in hv).2.2 _ (head_mem ne)
      exact v_tup (v_acons (v_bin (v_var rfl) (v_bin (v_var rfl) v_c (ix_row0 ne b)) (ix_tup hh.1 (by rw [hC]; exact hh.2) b)) rfl (v_acons (v_var rfl) rfl v_nil)) (Nat.le_of_ble_eq_true rfl), rfl⟩⟩
  exact v_set (v_f (v_comp (v_iseq (v_var rfl) rfl) (by rw [List.length_map]; omega) c2)) rfl
theorem due_eq_nil (vs : List (List Int)) (b : Bx) : eqD (.lst (vs.map (duD C))) (.lst []) b = .ok (.bl (decide (vs = []))) b := by
  show (if (D.ok deep (.lst (vs.map (duD C))) && D.ok deep (.lst [])) = true then _ else _ : M D) b = _
  rw [if_pos (by rw [dues_ok]; rfl)]
  cases vs with
  | nil => rfl
  | cons v r => rw [decide_eq_false (by simp)]; rfl
theorem due_ne_nil (vs : List (List Int)) (b : Bx) : neD (.lst (vs.map (duD C))) (.lst []) b = .ok (.bl (!decide (vs = []))) b := by
  show (if (D.ok deep (.lst (vs.map (duD C))) && D.ok deep (.lst [])) = true then _ else _ : M D) b = _
  rw [if_pos (by rw [dues_ok]; rfl)]
  cases vs with
  | nil => rfl
  | cons v r => rw [decide_eq_false (by simp)]; rfl
theorem v_nilL {ρ : DEnv} {b : Bx} : eF (fLst aNil) ρ b = .ok (.lst []) b := v_f (v_lst v_nil (Nat.le_of_ble_eq_true rfl))
theorem pn_due (C : List Int) {v : List Int} (hv : v.length < 90000) (n : Nat) : Pn (n + 2) (duD C v) := .tup (.cons (.int _ _) (.cons (pn_row hv n) .nil)) (Nat.le_of_ble_eq_true rfl)
theorem pn_dues (C : List Int) {vs : List (List Int)} (h : vs.length < 90000) (hv : ∀ v ∈ vs, v.length < 90000) (n : Nat) : Pn (n + 3) (.tup (vs.map (duD C))) := .tup (Pns.of (duD C) vs fun v m => pn_due C (hv v m) n) (by rw [List.length_map]; exact h)
theorem due_sub {v : List Int} (h : v ∈ due P C) : v ∈ rowsL P := (List.mem_filter.mp h).1
theorem pl_ints (hl : C.length ≤ 40) : Pl 1 (.tup (C.map D.int)) := by
  have go : ∀ C : List Int, Pls 0 (C.map D.int) := fun C => by
    induction C with
    | nil => exact .nil
    | cons x C ih => exact .cons (.int _ _) ih
  exact .tup (go C) (by rw [List.length_map]; exact hl)
theorem mx_ints (hl : C.length ≤ 40) : Mx 1 (.tup (C.map D.int)) (.tup (C.map D.int)) := by
  have go : ∀ C : List Int, Mxs 0 (C.map D.int) (C.map D.int) := fun C => by
    induction C with
    | nil => exact .nil
    | cons x C ih => exact .cons (.int _ _) ih
  exact .tup (go C) (by rw [List.length_map]; exact hl)
theorem v_same {f g : DEnv → M D} {ρ : DEnv} {b b1 b2 : Bx} {d e : D} {n : Nat} (h1 : f ρ b = .ok d b1) (h2 : g ρ b1 = .ok e b2) (p : Pn n d) (hn : n < 12) (he : d = e) : eCall f__law_same (aCons f (aCons g aNil)) ρ b = .ok (.bl true) b2 := by
  subst he
  exact v_call (v_acons h1 p.chk (v_acons h2 p.chk v_nil)) (same_of rfl n p hn b2)
theorem v_pass {f : DEnv → M D} {ρ : DEnv} {b b1 : Bx} {u : DEnv → M Out} (h : f ρ b = .ok (.bl true) b1) : sIf (tNotD (tTr f)) u sNext ρ b = .ok (.nx ρ) b1 := v_ifF (c := false) (v_tNot (c := true) (v_tTr h rfl)) rfl rfl
theorem st9 {c : Nat} (h : VP P) (hC : Col01 C) (hl : C.length = P.length) (e2 e3 : Option D) {b : Bx} (V : Vb c b) (hc : c + 5000 < 2 ^ 60) : ∃ b', Vb (c + 4000) b' ∧ s9 (EN (pD P) e2 e3 (cD C) none (rD P) (uD P C) none none none none none none none) b = .ok (.nx (EN (pD P) e2 e3 (cD C) none (rD P) (uD P C) none none none none none none none)) b' := by
  have hi := h.hi
  obtain ⟨x, b1, ex, mx, V1⟩ := mixed_ok 3 12 _ c b (pl_pts (P := P) (by omega)) (by decide) V (by show c + 1641 < _; omega)
  obtain ⟨y, b2, ey, my, V2⟩ := mixed_ok 1 12 _ (c + cost 3) b1 (pl_ints (C := C) (by omega)) (by decide) V1 (by show c + 1641 + 1 < _; omega)
  have fl := rows_few (P := P) hi
  have dl : (due P C).length ≤ (rowsL P).length := List.length_filter_le _ _
  have r1 := one_colour_lines_ok h mx (by decide) (mx_ints (C := C) (by omega)) (by decide) hC hl b1
  have r2 := first_one_ok h (mx_refl (P := P) (by omega)) (by decide) my (by decide) hC hl b2
  refine ⟨b2, V2.mono (by show c + 1641 + 1 ≤ _; omega), ?_⟩
  have short : ∀ v ∈ due P C, v.length < 90000 := fun v hv => by have := rowsL_short hi (due_sub hv); omega
  have p1 := pn_dues C (vs := due P C) (by omega) short 5
  have left : ∀ z, f__law_heard [.fn 30, .tup [.tup (P.map pt), y]] b2 = .ok z b2 → Pu.chk z = pure z → eF (fLst (aCons (eCall f_one_colour_lines (aCons (eCall f__law_mixed (aCons (eVar 0) (aCons (eVar 1) aNil))) (aCons (eVar 4) aNil))) (aCons (eCall f__law_heard (aCons (eC (.fn 30)) (aCons (eTup (aCons (eVar 1) (aCons (eCall f__law_mixed (aCons (eVar 0) (aCons (eVar 4) aNil))) aNil))) aNil))) aNil))) (EN (pD P) e2 e3 (cD C) none (rD P) (uD P C) none none none none none none none) b = .ok (.lst [.tup ((due P C).map (duD C)), z]) b2 := fun z hz cz =>
    v_f (v_lst (v_acons (v_call (v_acons (v_call (v_acons (v_var rfl) rfl (v_acons (v_var rfl) rfl v_nil)) ex) mx.chk.1 (v_acons (v_var rfl) rfl v_nil)) r1) rfl (v_acons (v_call (v_acons v_c rfl (v_acons (v_tup (v_acons (v_var rfl) rfl (v_acons (v_call (v_acons (v_var rfl) rfl (v_acons (v_var rfl) rfl v_nil)) ey) my.chk.1 v_nil)) (Nat.le_of_ble_eq_true rfl)) rfl v_nil)) hz) cz v_nil)) (Nat.le_of_ble_eq_true rfl))
  cases e : due P C with
  | nil =>
    rw [e] at r2 p1
    have hh := heard_can (n := 30) (F := f_first_one_colour) rfl (x := .tup (P.map pt)) (y := y) rfl my.chk.1 r2
    have lf := left _ hh rfl
    rw [e] at lf
    exact v_pass (v_same (n := 9) lf (v_f (v_lst (v_acons (v_b (v_bcons (v_var rfl) v_nil) rfl) rfl (v_acons (v_eifF (c := false) (v_tB (v_bin (v_var rfl) v_nilL ((due_ne_nil (due P C) b2).trans (by rw [e]; rfl)))) rfl (v_f (v_lst (v_acons v_c rfl (v_acons v_c rfl v_nil)) (Nat.le_of_ble_eq_true rfl)))) rfl v_nil)) (Nat.le_of_ble_eq_true rfl))) (.lst (.cons p1 (.cons (.lst (.cons (.str _ _ (by decide +kernel)) (.cons (.bl _ _) .nil)) (Nat.le_of_ble_eq_true rfl)) .nil)) (Nat.le_of_ble_eq_true rfl)) (by decide) (by rw [e]))
  | cons v r =>
    rw [e] at r2 p1
    have hh := heard_val (n := 30) (F := f_first_one_colour) rfl (x := .tup (P.map pt)) (y := y) rfl my.chk.1 r2
    have lf := left _ hh rfl
    rw [e] at lf
    have pv : Pn 8 (duD C v) := pn_due C (short v (by rw [e]; exact List.mem_cons_self)) 6
    exact v_pass (v_same (n := 9) lf (v_f (v_lst (v_acons (v_b (v_bcons (v_var rfl) v_nil) rfl) rfl (v_acons (v_eifT (c := true) (v_tB (v_bin (v_var rfl) v_nilL ((due_ne_nil (due P C) b2).trans (by rw [e, decide_eq_false (by simp)]; rfl)))) rfl (v_bin (v_var rfl) v_c (show ixD (.lst ((due P C).map (duD C))) (.int 0) b2 = .ok (duD C v) b2 from by rw [e]; exact ix_first _ _ b2))) rfl v_nil)) (Nat.le_of_ble_eq_true rfl))) (.lst (.cons p1 (.cons pv .nil)) (Nat.le_of_ble_eq_true rfl)) (by decide) (by rw [e]; rfl))
end
end Lw

set_option Elab.async false
set_option linter.all false
set_option maxRecDepth 100000
set_option maxHeartbeats 4000000
/-! colours: the steps of one lap, further -/
namespace Lw
open PySem PySem.Spec PyProof.Rows L2 Pu Ma
theorem lenSet_tup (ns : List Int) (hl : ns.length < 64) (b : Bx) : lenSet2 (.tup (ns.map D.int)) b = .ok (.int (nubL ns).length) b := by
  unfold lenSet2
  rw [show seqI (.tup (ns.map D.int)) = some ns from intsOf_map ns]
  show (if ns.length < 64 then (pure (D.int (nubL ns).length) : M D) else stuck) b = _
  rw [if_pos hl]
  rfl
theorem ne_bools (p q : Bool) (b : Bx) : neD (.bl p) (.bl q) b = .ok (.bl (p != q)) b := by cases p <;> cases q <;> kernel_rfl
theorem eq_bools (p q : Bool) (b : Bx) : eqD (.bl p) (.bl q) b = .ok (.bl (p == q)) b := by cases p <;> cases q <;> kernel_rfl
section
variable {P : List Pt} {C : List Int} {n : Nat}
theorem all_one {u : Int} {L : List Nat} (G : GP u P L) {n : Nat} (hP : Pts n P) (l3 : 3 ≤ P.length) (hl : C.length = P.length) (h1 : (rowsL P).length = 1) : (due P C ≠ []) ↔ one C = true := by
  obtain ⟨v, hv⟩ : ∃ v, v ∈ rowsL P := by
    cases e : rowsL P with
    | nil => rw [e] at h1; cases h1
    | cons v r => exact ⟨v, List.mem_cons_self⟩
  have hin := rowsL_in hv
  have cne : C ≠ [] := fun e => by rw [e] at hl; simp at hl; omega
  have cm : ∀ x ∈ C, ∃ i, i < P.length ∧ x = gx C i := fun x hx => by
    obtain ⟨i, hi, e⟩ := List.getElem_of_mem hx
    refine ⟨i, by omega, ?_⟩
    rw [← e]
    exact Option.some.inj ((List.getElem?_eq_getElem hi).symm.trans (gx_get hi))
  have k : one C = true ↔ one (cv C v) = true := by
    unfold cv
    rw [one_iff cne, one_map (rowsL_ne v hv)]
    constructor
    · intro h x hx y hy
      obtain ⟨x0, x1⟩ := hin.2.2 x hx
      obtain ⟨y0, y1⟩ := hin.2.2 y hy
      exact h _ (List.mem_of_getElem? (gx_get (show x.toNat < C.length by omega))) _ (List.mem_of_getElem? (gx_get (show y.toNat < C.length by omega)))
    · intro h x hx y hy
      obtain ⟨i, hi, rfl⟩ := cm x hx
      obtain ⟨j, hj, rfl⟩ := cm y hy
      exact h i (one_line hP h1 hv hi (by omega)) j (one_line hP h1 hv hj (by omega))
  rw [k]
  constructor
  · intro h
    obtain ⟨w, hw⟩ := List.exists_mem_of_ne_nil _ h
    have hw' := due_sub hw
    have e : w = v := by
      match er : rowsL P, h1 with
      | [z], _ =>
        rw [er] at hv hw'
        rw [List.mem_singleton.mp hv, List.mem_singleton.mp hw']
    rw [← e]
    exact (List.mem_filter.mp hw).2
  · intro h
    exact List.ne_nil_of_mem (List.mem_filter.mpr ⟨hv, h⟩)
theorem len_rD {ρ : DEnv} {i : Nat} {vs : List (List Int)} {f : List Int → D} (h : ρ[i]? = some (some (.lst (vs.map f)))) (b : Bx) : eB lenD (bCons (eVar i) aNil) ρ b = .ok (.int vs.length) b := (v_b (v_bcons (v_var h) v_nil) rfl).trans (by
  show Res.ok (D.int ((vs.map f).length : Nat)) b = _
  rw [List.length_map])
theorem st10 {u : Int} {L : List Nat} (G : GP u P L) (h : VP P) (h01 : Col01 C) (hl : C.length = P.length) (e2 e3 : Option D) (b : Bx) : s10 (EN (pD P) e2 e3 (cD C) none (rD P) (uD P C) none none none none none none none) b = .ok (.nx (EN (pD P) e2 e3 (cD C) none (rD P) (uD P C) none none none none none none none)) b := by
  have r0 := List.length_pos_iff.mpr (rowsL_pos h.pts (by have := h.lo; omega) h.hi)
  have hg : ∀ ρ : DEnv, ρ[6]? = some (rD P) → tB (eBin gtD (eB lenD (bCons (eVar 6) aNil)) (eC (.int 1))) ρ b = .ok (decide (1 < (rowsL P).length)) b := fun ρ hρ => v_tB (v_bin (len_rD hρ b) v_c (by
    show Res.ok (D.bl (decide ((1 : Int) < (rowsL P).length))) b = _
    congr 2
    exact decide_eq_decide.mpr (by omega)))
  have he : ∀ ρ : DEnv, ρ[6]? = some (rD P) → tB (eBin eqD (eB lenD (bCons (eVar 6) aNil)) (eC (.int 1))) ρ b = .ok (decide ((rowsL P).length = 1)) b := fun ρ hρ => v_tB (v_bin (len_rD hρ b) v_c ((eqI _ _ b).trans (by
    congr 2
    exact decide_eq_decide.mpr (by omega))))
  have hd : ∀ ρ : DEnv, ρ[7]? = some (uD P C) → tB (eBin eqD (eVar 7) (eF (fLst aNil))) ρ b = .ok (decide (due P C = [])) b := fun ρ hρ => v_tB (v_bin (v_var hρ) v_nilL (due_eq_nil _ b))
  refine v_ifF (c := false) ?_ rfl rfl
  by_cases z : 1 < (rowsL P).length
  · have dn : due P C ≠ [] := mr G h.pts h.lo C (fun i hi => h01 _ (List.mem_of_getElem? (gx_get (show i < C.length by omega)))) z
    refine v_tOrF ?_ (v_tAndF ((he _ rfl).trans (by rw [decide_eq_false (by omega)])))
    exact v_tAndT ((hg _ rfl).trans (by rw [decide_eq_true z])) ((hd _ rfl).trans (by rw [decide_eq_false dn]))
  · refine v_tOrF (v_tAndF ((hg _ rfl).trans (by rw [decide_eq_false z]))) ?_
    refine v_tAndT ((he _ rfl).trans (by rw [decide_eq_true (by omega)])) ?_
    have a := all_one G h.pts h.lo hl (show (rowsL P).length = 1 by omega) (C := C)
    refine v_tB (v_bin (v_bin (v_var rfl) v_nilL (due_ne_nil _ b)) (v_bin (v_un (v_var rfl) (lenSet_tup C (by have := h.hi; omega) b)) v_c (eqI _ _ b)) ((ne_bools _ _ b).trans ?_))
    have e1 : (!decide (due P C = [])) = one C := by
      rw [Bool.eq_iff_iff, ← a, Bool.not_eq_true', decide_eq_false_iff_not]
    have e2 : decide (((nubL C).length : Int) = 1) = one C := by
      unfold one
      exact decide_eq_decide.mpr (by omega)
    rw [e1, e2]
    cases one C <;> rfl
theorem st11 (h : VP P) (e2 e3 : Option D) (b : Bx) : s11 (EN (pD P) e2 e3 (cD C) none (rD P) (uD P C) none none none none none none none) b = .ok (.nx (EN (pD P) e2 e3 (cD C) none (rD P) (uD P C) none (some (.lst (((due P C).map fun v => cg C (v.headD 0)).map D.int))) none none none none none)) b := by
  have fl := rows_few (P := P) h.hi
  have dl : (due P C).length ≤ (rowsL P).length := List.length_filter_le _ _
  have c1 : compL [5, 10] (gTupD 2 (gConsD (gVar 5) (gConsD (gVar 10) gNilD))) tYesD (eVar 5) (EN (pD P) e2 e3 (cD C) none (rD P) (uD P C) none none none none none none none) ((due P C).map (duD C)) b = .ok (((due P C).map fun v => cg C (v.headD 0)).map D.int) b := by
    rw [List.map_map]
    exact comp_map (duD C) (fun v => D.int (cg C (v.headD 0))) (due P C) fun v _ => ⟨_, rfl, v_var rfl, rfl⟩
  exact v_set (v_f (v_comp (v_iseq (v_var rfl) rfl) (by rw [List.length_map]; omega) c1)) rfl
theorem st12 (h : VP P) (hC : Col01 C) (hl : C.length = P.length) (e2 e3 : Option D) (b : Bx) : s12 (EN (pD P) e2 e3 (cD C) none (rD P) (uD P C) none (some (.lst (((due P C).map fun v => cg C (v.headD 0)).map D.int))) none none none none none) b = .ok (.nx (EN (pD P) e2 e3 (cD C) none (rD P) (uD P C) none (some (.lst (((due P C).map fun v => cg C (v.headD 0)).map D.int))) none none none none none)) b := by
  have hi := h.hi
  have cn : ∀ (k : Int) (ρ : DEnv), ρ[9]? = some (some (.lst (((due P C).map fun v => cg C (v.headD 0)).map D.int))) → eCount (eVar 9) (eC (.int k)) ρ b = .ok (.int (((due P C).map fun v => cg C (v.headD 0)).count k : Nat)) b := fun k ρ hρ => by
    unfold eCount
    rw [bindA, v_var hρ, okB]
    show cntD _ (.int k) b = _
    unfold cntD
    rw [show intsOf (((due P C).map fun v => cg C (v.headD 0)).map D.int) = some ((due P C).map fun v => cg C (v.headD 0)) from intsOf_map _]
    rfl
  refine v_pass (v_same (n := 1) (v_call (v_acons (v_var rfl) rfl (v_acons (v_var rfl) rfl v_nil)) (colour_counts_ok h (mx_refl (P := P) (by omega)) (by decide) (mx_ints (C := C) (by omega)) (by decide) hC hl b)) (v_tup (v_acons (cn 0 _ rfl) rfl (v_acons (cn 1 _ rfl) rfl (v_acons (v_bin (len_rD (vs := rowsL P) (f := rowD) rfl b) (len_rD (vs := due P C) (f := duD C) rfl b) rfl) rfl v_nil))) (Nat.le_of_ble_eq_true rfl)) (.tup (.cons (.int _ _) (.cons (.int _ _) (.cons (.int _ _) .nil))) (Nat.le_of_ble_eq_true rfl)) (by decide) rfl)
/-- a whole row, looked at -/
theorem one_row_ok (h : VP P) (hl : C.length = P.length) {v : List Int} (hv : v ∈ rowsL P) (k : Int) (b : Bx) : f_is_one_colour_in [.tup (P.map pt), .tup (C.map D.int), thing k v] b = .ok (.bl (v.all fun x => decide (cg C x = k))) b := by
  obtain ⟨j, i, r, hji, hi, er, rfl⟩ := rowsL_v hv
  have hin := rowsL_in hv
  have e := one_in_ok h.pts h.hi hl (k := k) (j := j) (i := i) (r := rowI r) (v := rowI (row P j i)) (by rw [er]; rfl) hin.1 (by have := rowsL_short h.hi hv; omega) hin.2.2 b
  rw [e, decide_eq_true rfl, Bool.true_and]
theorem st13 (h : VP P) (hC : Col01 C) (hl : C.length = P.length) (e2 e3 e9 : Option D) (b : Bx) : s13 (EN (pD P) e2 e3 (cD C) none (rD P) (uD P C) none e9 none none none none none) b = .ok (.nx (EN (pD P) e2 e3 (cD C) none (rD P) (uD P C) none e9 none none none none none)) b := by
  have hi := h.hi
  have fl := rows_few (P := P) h.hi
  have dl : (due P C).length ≤ (rowsL P).length := List.length_filter_le _ _
  have c1 : compL [5] (gVar 5) (tNotD (tTr (eCall f_is_one_colour (aCons (eVar 1) (aCons (eVar 4) (aCons (eVar 5) aNil)))))) (eVar 5) (EN (pD P) e2 e3 (cD C) none (rD P) (uD P C) none e9 none none none none none) ((due P C).map (duD C)) b = .ok (((due P C).filter fun _ => false).map (duD C)) b :=
    comp_filter (duD C) (duD C) (fun _ => false) (due P C) fun v hv => ⟨_, rfl, by
      have hr := due_sub hv
      have ho := (List.mem_filter.mp hv).2
      have e : (v.all fun x => decide (cg C x = cg C (v.headD 0))) = true := List.all_eq_true.mpr fun x hx => decide_eq_true ((one_map (rowsL_ne v hr) (cg C)).mp ho x hx _ (head_mem (rowsL_ne v hr)))
      have q := one_row_ok h hl hr (cg C (v.headD 0)) b
      rw [e] at q
      exact v_tNot (c := true) (v_tTr (d := .bl true) (v_call (v_acons (v_var rfl) rfl (v_acons (v_var rfl) rfl (v_acons (v_var rfl) rfl v_nil))) (is_one_ok h (mx_refl (P := P) (by omega)) (by decide) (mx_ints (C := C) (by omega)) (by decide) hC hl rfl rfl q)) rfl), fun z => (by cases z)⟩
  have ef : ((due P C).filter fun _ => false) = [] := List.filter_eq_nil_iff.mpr fun _ _ z => (by cases z)
  rw [ef] at c1
  exact v_ifF (c := false) (v_tB (v_bin (v_f (v_comp (v_iseq (v_var rfl) rfl) (by rw [List.length_map]; omega) c1)) v_nilL rfl)) rfl rfl
theorem cutm1 (xs : List D) : Pu.cutD xs none (some (-1)) = xs.dropLast := by
  have e : HT.sIx xs.length xs.length (some (-1)) = xs.length - 1 := by
    show (if (-1 : Int) < 0 then ((-1 : Int) + (xs.length : Int)).toNat else min (-1 : Int).toNat xs.length) = _
    rw [if_pos (by decide)]
    omega
  unfold Pu.cutD
  rw [HT.sIx_none, e, List.drop_zero, Nat.sub_zero, List.dropLast_eq_take]
end
end Lw

set_option Elab.async false
set_option linter.all false
set_option maxRecDepth 100000
set_option maxHeartbeats 4000000
/-! colours: one lap -/
namespace Lw
open PySem PySem.Spec PyProof.Rows L2 Pu Ma
section
variable {P : List Pt} {C : List Int} {n : Nat}
theorem one_drop (h : VP P) (hl : C.length = P.length) {v : List Int} (hv : v ∈ rowsL P) (k : Int) (b : Bx) : f_is_one_colour_in [.tup (P.map pt), .tup (C.map D.int), thing k v.dropLast] b = .ok (.bl false) b := by
  obtain ⟨j, i, r, hji, hi, er, rfl⟩ := rowsL_v hv
  have hin := rowsL_in hv
  have hs := rowsL_short h.hi hv
  have sub : (rowI (row P j i)).dropLast.Sublist (rowI (row P j i)) := List.dropLast_sublist _
  have pw := hin.1.sublist sub
  have ln := List.length_dropLast (xs := rowI (row P j i))
  by_cases z : (rowI (row P j i)).length = 2
  · exact one_in_short pw (by omega) b
  · have e2 : (rowI (row P j i)).dropLast = (j : Int) :: (i : Int) :: (rowI r).dropLast := by
      rw [er] at z ⊢
      cases r with
      | nil => exact (z rfl).elim
      | cons a r => rfl
    have e := one_in_ok h.pts h.hi hl (k := k) e2 pw (by omega) (fun x hx => hin.2.2 x (sub.subset hx)) b
    rw [e, decide_eq_false (fun w => by
      have := congrArg List.length w
      omega)]
    rfl
theorem one_more (h : VP P) {v : List Int} (hv : v ∈ rowsL P) (k : Int) (b : Bx) : f_is_one_colour_in [.tup (P.map pt), .tup (C.map D.int), thing k (v ++ [(P.length : Int)])] b = .ok (.bl false) b := by
  have hin := rowsL_in hv
  have hs := rowsL_short h.hi hv
  refine one_in_out (x := (P.length : Int)) (List.pairwise_append.mpr ⟨hin.1, List.pairwise_singleton _ _, fun a ha c hc => by rw [List.mem_singleton.mp hc]; exact (hin.2.2 a ha).2⟩) (by rw [List.length_append, List.length_singleton]; omega) (by rw [List.length_append, List.length_singleton]; omega) (List.mem_append_right _ (List.mem_singleton.mpr rfl)) (Int.le_refl _) b
theorem cut_dropl (v : List Int) : (.tup (Pu.cutD (v.map D.int) none (some (-1))) : D) = rowD v.dropLast := by
  rw [cutm1]
  unfold rowD
  rw [List.map_dropLast]
abbrev hit (C : List Int) (k : Int) (v : List Int) : Bool := v.all fun x => decide (cg C x = k)
theorem st16 (h : VP P) (hC : Col01 C) (hl : C.length = P.length) (e3 e9 : Option D) {v : List Int} (hv : v ∈ rowsL P) (k : Int) (b : Bx) : s16 (EN (pD P) (some (.int P.length)) e3 (cD C) (some (rowD v)) (rD P) (uD P C) (some (.int k)) e9 none none none none none) b = .ok (.nx (EN (pD P) (some (.int P.length)) e3 (cD C) (some (rowD v)) (rD P) (uD P C) (some (.int k)) e9 (some (.lst [.bl (hit C k v), .bl false, .bl false, .bl false])) none none none none)) b := by
  have hi := h.hi
  have hs := rowsL_short h.hi hv
  have go : ∀ {t z : D}, Pu.chk t = pure t → strip z = z → f_is_one_colour_in [.tup (P.map pt), .tup (C.map D.int), t] b = .ok z b → f_is_one_colour [.tup (P.map pt), .tup (C.map D.int), t] b = .ok z b := fun ct hz e => is_one_ok h (mx_refl (P := P) (by omega)) (by decide) (mx_ints (C := C) (by omega)) (by decide) hC hl ct hz e
  have sl : ∀ ρ : DEnv, ρ[5]? = some (some (rowD v)) → eSl (eVar 5) oNone (oSome (eUn negD (eC (.int 1)))) ρ b = .ok (rowD v.dropLast) b := fun ρ hρ => by
    unfold eSl
    rw [bindA, v_var hρ, okB]
    show Res.ok (D.tup (Pu.cutD (v.map D.int) none (some (-1)))) b = _
    rw [cut_dropl]
  have ad : ∀ ρ : DEnv, ρ[5]? = some (some (rowD v)) → ρ[2]? = some (some (.int P.length)) → eBin addD (eVar 5) (eTup (aCons (eVar 2) aNil)) ρ b = .ok (rowD (v ++ [(P.length : Int)])) b := fun ρ h5 h2 => v_bin (v_var h5) (v_tup (v_acons (v_var h2) rfl v_nil) (Nat.le_of_ble_eq_true rfl)) ((add_tup (by rw [List.length_map]; show v.length + 1 ≤ _; omega) b).trans (by
    unfold rowD
    rw [List.map_append]
    rfl))
  have l2 : (2 : Nat) ≤ 100000 := by decide
  exact v_set (v_f (v_lst (v_acons (v_call (v_acons (v_var rfl) rfl (v_acons (v_var rfl) rfl (v_acons (v_tup (v_acons (v_var rfl) rfl (v_acons (v_var rfl) rfl v_nil)) (Nat.le_of_ble_eq_true rfl)) rfl v_nil))) (go rfl rfl (one_row_ok h hl hv k b))) rfl
    (v_acons (v_call (v_acons (v_var rfl) rfl (v_acons (v_var rfl) rfl (v_acons (v_tup (v_acons (v_var rfl) rfl (v_acons (sl _ rfl) rfl v_nil)) (Nat.le_of_ble_eq_true rfl)) rfl v_nil))) (go rfl rfl (one_drop h hl hv k b))) rfl
    (v_acons (v_call (v_acons (v_var rfl) rfl (v_acons (v_var rfl) rfl (v_acons (v_f (v_lst (v_acons (v_var rfl) rfl (v_acons (v_var rfl) rfl v_nil)) (Nat.le_of_ble_eq_true rfl))) rfl v_nil))) (go rfl rfl (one_in_list _ b))) rfl
    (v_acons (v_call (v_acons (v_var rfl) rfl (v_acons (v_var rfl) rfl (v_acons (v_tup (v_acons (v_var rfl) rfl (v_acons (ad _ rfl rfl) rfl v_nil)) (Nat.le_of_ble_eq_true rfl)) rfl v_nil))) (go rfl rfl (one_more h hv k b))) rfl v_nil)))) (Nat.le_of_ble_eq_true rfl))) rfl
theorem in_due {v : List Int} (hv : v ∈ rowsL P) (k : Int) (b : Bx) : inD (thing k v) (.lst ((due P C).map (duD C))) b = .ok (.bl (hit C k v)) b := by
  have ne := rowsL_ne v hv
  show (if (D.ok deep (thing k v) && D.oks deep ((due P C).map (duD C))) = true then pure (.bl (((due P C).map (duD C)).any fun y => D.eqv y (thing k v))) else stuck : M D) b = _
  rw [if_pos (by
    have o1 : D.ok deep (thing k v) = true := by
      show D.ok (58 + 1 + 1) (.tup [.int k, .tup (v.map D.int)]) = true
      rw [D.ok, D.oks, D.oks, D.oks, D.ok, D.ok, oks_ints]
      rfl
    rw [o1, oks_all deep (duD C) (due P C) fun w _ => duD_ok C w 58]
    rfl)]
  show Res.ok (D.bl (((due P C).map (duD C)).any fun y => D.eqv y (thing k v))) b = _
  congr 2
  have ev : ∀ w, D.eqv (duD C w) (thing k v) = (decide (cg C (w.headD 0) = k) && decide (w = v)) := fun w => by
    show (decide (cg C (w.headD 0) = k) && (D.eqvs (w.map D.int) (v.map D.int) && true)) = _
    rw [eqvs_ints, Bool.and_true]
  rw [Bool.eq_iff_iff, List.any_eq_true, List.all_eq_true]
  constructor
  · rintro ⟨y, hy, e⟩
    obtain ⟨w, hw, rfl⟩ := List.mem_map.mp hy
    rw [ev, Bool.and_eq_true, decide_eq_true_iff, decide_eq_true_iff] at e
    obtain ⟨e1, rfl⟩ := e
    have ho := (List.mem_filter.mp hw).2
    intro x hx
    rw [decide_eq_true_iff, ← e1]
    exact (one_map ne (cg C)).mp ho x hx _ (head_mem ne)
  · intro q
    refine ⟨_, List.mem_map_of_mem (List.mem_filter.mpr ⟨hv, (one_map ne (cg C)).mpr fun x hx y hy => (of_decide_eq_true (q x hx)).trans (of_decide_eq_true (q y hy)).symm⟩), ?_⟩
    rw [ev, decide_eq_true (of_decide_eq_true (q _ (head_mem ne))), decide_eq_true rfl]
    rfl
theorem st17 {v : List Int} (hv : v ∈ rowsL P) (k : Int) (e2 e3 e9 : Option D) (b : Bx) : s17 (EN (pD P) e2 e3 (cD C) (some (rowD v)) (rD P) (uD P C) (some (.int k)) e9 (some (.lst [.bl (hit C k v), .bl false, .bl false, .bl false])) none none none none) b = .ok (.nx (EN (pD P) e2 e3 (cD C) (some (rowD v)) (rD P) (uD P C) (some (.int k)) e9 (some (.lst [.bl (hit C k v), .bl false, .bl false, .bl false])) none none none none)) b :=
  v_pass (v_same (n := 1) (v_var rfl) (v_f (v_lst (v_acons (v_bin (v_tup (v_acons (v_var rfl) rfl (v_acons (v_var rfl) rfl v_nil)) (Nat.le_of_ble_eq_true rfl)) (v_var rfl) (in_due hv k b)) rfl (v_acons v_c rfl (v_acons v_c rfl (v_acons v_c rfl v_nil)))) (Nat.le_of_ble_eq_true rfl))) (.lst (.cons (.bl _ _) (.cons (.bl _ _) (.cons (.bl _ _) (.cons (.bl _ _) .nil)))) (Nat.le_of_ble_eq_true rfl)) (by decide) rfl)
theorem cut6 (xs : List D) : Pu.cutD xs none (some 6) = xs.take 6 := by
  unfold Pu.cutD
  rw [HT.sIx_none, show (some (6 : Int)) = some ((6 : Nat) : Int) from rfl, HT.sIx_nat, List.drop_zero, Nat.sub_zero]
  by_cases h : 6 ≤ xs.length
  · rw [Nat.min_eq_left h]
  · rw [Nat.min_eq_right (by omega), List.take_of_length_le (Nat.le_refl _), List.take_of_length_le (by omega)]
/-- the law's loop over all parts -/
abbrev pmB : DEnv → M Out := sSet 14 (eB min2D (bCons (eVar 14) (bCons (eB lenD (bCons (eF (fComp (iSeqD (eVar 13)) [10] (gVar 10) (tB (eBin eqD (eUn lenSet2 (eF (fComp (iSeqD (eVar 10)) [8] (gVar 8) tYesD (eB intOfD (bCons (eBin inD (eVar 8) (eVar 15)) aNil))))) (eC (.int 1)))) (eVar 10))) aNil)) aNil)))
theorem pm_for (e1 e2 e3 e4 e5 e6 e7 e8 e9 e11 e12 : Option D) {vs : List (List Int)} (hvs : vs.length < 4000) (hv : ∀ v ∈ vs, v.length < 64) (b : Bx) : ∀ (l : List (List Int)) (a : Int) (e15 : Option D), ∃ e15', forL (gVar 15) pmB (l.map rowD) (EN e1 e2 e3 e4 e5 e6 e7 e8 e9 e11 e12 (some (.lst (vs.map rowD))) (some (.int a)) e15) b = .ok (.nx (EN e1 e2 e3 e4 e5 e6 e7 e8 e9 e11 e12 (some (.lst (vs.map rowD))) (some (.int (fmin a (l.map fun S => (cnt vs (ind S) : Int))))) e15')) b
  | [], a, e15 => ⟨e15, rfl⟩
  | S :: l, a, e15 => by
    obtain ⟨e15', e⟩ := pm_for e1 e2 e3 e4 e5 e6 e7 e8 e9 e11 e12 hvs hv b l (minI a (cnt vs (ind S) : Int)) (some (rowD S))
    have io : ∀ (x : Int) (ρ : DEnv), ρ[8]? = some (some (.int x)) → ρ[15]? = some (some (rowD S)) → eB intOfD (bCons (eBin inD (eVar 8) (eVar 15)) aNil) ρ b = .ok (.int (ind S x)) b := fun x ρ h8 h15 => v_b (v_bcons (v_bin (v_var h8) (v_var h15) (in_ints x S b)) v_nil) rfl
    have c1 : compL [10] (gVar 10) (tB (eBin eqD (eUn lenSet2 (eF (fComp (iSeqD (eVar 10)) [8] (gVar 8) tYesD (eB intOfD (bCons (eBin inD (eVar 8) (eVar 15)) aNil))))) (eC (.int 1)))) (eVar 10) (EN e1 e2 e3 e4 e5 e6 e7 e8 e9 e11 e12 (some (.lst (vs.map rowD))) (some (.int a)) (some (rowD S))) (vs.map rowD) b = .ok ((vs.filter fun v => one (v.map (ind S))).map rowD) b :=
      comp_filter rowD rowD (fun v => one (v.map (ind S))) vs fun v hv' => ⟨_, rfl, v_one rfl (hv v hv') (fun x hx => io x _ rfl rfl), fun _ => ⟨v_var rfl, rfl⟩⟩
    refine ⟨e15', v_forC (ρ1 := EN e1 e2 e3 e4 e5 e6 e7 e8 e9 e11 e12 (some (.lst (vs.map rowD))) (some (.int a)) (some (rowD S))) rfl (v_set (d := .int (minI a (cnt vs (ind S) : Int))) (v_b (v_bcons (v_var rfl) (v_bcons (v_b (v_bcons (v_f (v_comp (v_iseq (v_var rfl) rfl) (by rw [List.length_map]; omega) c1)) v_nil) rfl) v_nil)) ?_) rfl) e⟩
    show Res.ok (D.int (minI a (((vs.filter fun v => one (v.map (ind S))).map rowD).length : Int))) b = _
    rw [List.length_map]
    rfl
theorem GP.take {u : Int} {L : List Nat} (G : GP u P L) (k : Nat) : GP u (P.take k) (L.take k) :=
  ⟨G.pos, by rw [G.eq, List.map_take], G.asc.sublist (List.take_sublist _ _), fun c hc => G.sm c (List.mem_of_mem_take hc)⟩
theorem VP.take (h : VP P) (k : Nat) (hk : 3 ≤ k) : VP (P.take k) := by
  have lo := h.lo
  have hi := h.hi
  exact ⟨fun p hp => h.x p (List.mem_of_mem_take hp), fun p hp => h.y p (List.mem_of_mem_take hp), h.asc.sublist (List.take_sublist _ _), by rw [List.length_take]; omega, by rw [List.length_take]; omega⟩
theorem VP.lines (h : VP P) (b : Bx) : f__law_lines [.tup (P.map pt)] b = .ok (.lst ((rowsL P).map rowD)) b :=
  law_lines_ok h.pts.fr (fun p hp => ⟨(h.x p hp).qb, (h.y p hp).qb⟩) h.pts.nd (by have := h.hi; omega) b
/-- the few: from step 18 on -/
theorem few_ok {u : Int} {L : List Nat} (G : GP u P L) (h : VP P) (e2 e3 e4 e5 e6 e7 e8 e9 e11 : Option D) (b : Bx) : sSeq s18 (sSeq s19 (sSeq s20 (sSeq s21 (sSeq s22 s23)))) (EN (pD P) e2 e3 e4 e5 e6 e7 e8 e9 e11 none none none none) b = .ok (.rt (.bl true)) b := by
  have lo := h.lo
  have G6 := G.take 6
  have h6 := h.take 6 (by decide)
  have l6 : (P.take 6).length ≤ 6 := by rw [List.length_take]; omega
  have lo6 := h6.lo
  have hi6 := h6.hi
  generalize hF : P.take 6 = F at *
  have fl := rows_few (P := F) hi6
  have a18 : s18 (EN (pD P) e2 e3 e4 e5 e6 e7 e8 e9 e11 none none none none) b = .ok (.nx (EN (pD P) e2 e3 e4 e5 e6 e7 e8 e9 e11 (pD F) none none none)) b := by
    refine v_set (d := .tup (F.map pt)) ?_ rfl
    unfold eSl
    rw [bindA, v_var (d := .tup (P.map pt)) rfl, okB]
    show Res.ok (D.tup (Pu.cutD (P.map pt) none (some 6))) b = _
    rw [cut6, ← List.map_take, hF]
  have lF : ∀ ρ : DEnv, ρ[12]? = some (pD F) → eB lenD (bCons (eVar 12) aNil) ρ b = .ok (.int F.length) b := fun ρ hρ => (v_b (v_bcons (v_var hρ) v_nil) rfl).trans (by
    show Res.ok (D.int ((F.map pt).length : Nat)) b = _
    rw [List.length_map])
  have a19 : s19 (EN (pD P) e2 e3 e4 e5 e6 e7 e8 e9 e11 (pD F) none none none) b = .ok (.nx (EN (pD P) e2 e3 e4 e5 e6 e7 e8 e9 e11 (pD F) none none none)) b := v_ifF (c := false) (v_tB (v_bin (lF _ rfl) v_c (by
    show Res.ok (D.bl (decide ((F.length : Int) < 3))) b = _
    rw [decide_eq_false (by omega)]))) rfl rfl
  have a20 : s20 (EN (pD P) e2 e3 e4 e5 e6 e7 e8 e9 e11 (pD F) none none none) b = .ok (.nx (EN (pD P) e2 e3 e4 e5 e6 e7 e8 e9 e11 (pD F) (rD F) none none)) b := v_set (v_call (v_acons (v_var rfl) rfl v_nil) (h6.lines b)) rfl
  have a21 : s21 (EN (pD P) e2 e3 e4 e5 e6 e7 e8 e9 e11 (pD F) (rD F) none none) b = .ok (.nx (EN (pD P) e2 e3 e4 e5 e6 e7 e8 e9 e11 (pD F) (rD F) (some (.int (rowsL F).length)) none)) b := v_set (len_rD (vs := rowsL F) (f := rowD) rfl b) rfl
  have rgl : (rg F.length).length = F.length := by unfold rg; rw [List.length_map, List.length_range]
  have er : eF (fRg1 (eB lenD (bCons (eVar 12) aNil))) (EN (pD P) e2 e3 e4 e5 e6 e7 e8 e9 e11 (pD F) (rD F) (some (.int (rowsL F).length)) none) b = .ok (.lst ((rg F.length).map D.int)) b := by
    refine v_f ?_
    unfold fRg1
    rw [bindA, lF _ rfl, okB]
    show (if rgOk 0 (F.length : Int) = true then pure (rangeD 0 ((F.length : Int) - 0).toNat) else stuck : M (List D)) b = _
    rw [if_pos (by
      have : F.length = 3 ∨ F.length = 4 ∨ F.length = 5 ∨ F.length = 6 := by omega
      rcases this with z | z | z | z <;> rw [z] <;> decide +kernel)]
    show Res.ok (rangeD 0 ((F.length : Int) - 0).toNat) b = _
    congr 1
    unfold rangeD rg
    rw [Int.sub_zero, Int.toNat_natCast, List.map_map]
    apply List.map_congr_left
    intro i _
    rw [Int.zero_add]
    rfl
  obtain ⟨e15, a22⟩ := pm_for (pD P) e2 e3 e4 e5 e6 e7 e8 e9 e11 (pD F) (vs := rowsL F) (by omega) (fun v hv => rowsL_short hi6 hv) b (PT (rg F.length)) ((rowsL F).length : Int) none
  have same := fewest_same (n := F.length) (by omega) (vs := rowsL F) rowsL_ne (fun v hv => (rowsL_in hv).2.2) ((rowsL F).length : Int)
  have pos := fewest_pos G6 h6.pts lo6 hi6
  rw [same] at pos
  have few := fewest_ok h6 (mx_refl (P := F) (by omega)) (by decide) l6 b
  rw [same] at few
  generalize fmin ((rowsL F).length : Int) ((PT (rg F.length)).map fun S => (cnt (rowsL F) (ind S) : Int)) = z at *
  refine v_seq a18 (v_seq a19 (v_seq a20 (v_seq a21 (v_seq (v_for (v_iseq (v_call (v_acons er rfl v_nil) (law_parts_ok (by rw [rgl]; exact l6) b)) rfl) a22) (v_ret (d := .bl true) (v_andT (v_same (n := 0) (v_call (v_acons (v_var rfl) rfl v_nil) few) (v_var rfl) (.int _ _) (by decide) rfl) (v_bin (v_bin (v_var rfl) v_c rfl) (v_bin (len_rD (vs := rowsL F) (f := rowD) rfl b) v_c rfl) ((eq_bools _ _ b).trans ?_))) rfl)))))
  show Res.ok (D.bl (decide ((0 : Int) < z) == decide ((1 : Int) < ((rowsL F).length : Int)))) b = _
  rw [decide_eq_decide.mpr (show (0 : Int) < z ↔ (1 : Int) < ((rowsL F).length : Int) by omega), beq_self_eq_true]
end
end Lw

set_option Elab.async false
set_option linter.all false
set_option maxRecDepth 100000
set_option maxHeartbeats 4000000
/-! colours: the lap holds -/
namespace Lw
open PySem PySem.Spec PyProof.Rows L2 Pu Ma
theorem lap_ok {c : Nat} {b : Bx} (V : Vb c b) (hc : c + 200000 < 2 ^ 60) : ∃ b', Vb (c + 20000) b' ∧ f__law_right [.box] b = .ok (.bl true) b' := by
  obtain ⟨t, b1, t0, t1, V1, e1⟩ := take_law (n := 10) V (by omega) (by decide) (by decide)
  obtain ⟨w, b2, hw, V2, e2⟩ := law_of_ok V1 (by omega) [2, 3, 4] (by decide) (by decide)
  have w4 : w = 2 ∨ w = 3 ∨ w = 4 := by
    simp only [List.mem_cons, List.not_mem_nil, or_false] at hw
    exact hw
  obtain ⟨m, hm⟩ : ∃ m : Nat, (m : Int) = 3 + t := ⟨(3 + t).toNat, by omega⟩
  obtain ⟨P, u, b3, u3, pw, nd, gq, lm, V3, e3⟩ := law_points_ok (many := m) (w := w) V2 (by omega) (by omega) (by omega) (by omega)
  rw [hm] at e3
  have a1 : s1 (EN none none none none none none none none none none none none none none) b = .ok (.nx (EN (pD P) none none none none none none none none none none none none none)) b3 :=
    v_set (v_call (v_acons (v_var rfl) rfl (v_acons (v_bin v_c (v_call (v_acons (v_var rfl) rfl (v_acons v_c rfl v_nil)) e1) rfl) rfl (v_acons (v_call (v_acons (v_var rfl) rfl (v_acons (v_f (v_lst (v_acons v_c rfl (v_acons v_c rfl (v_acons v_c rfl v_nil))) (Nat.le_of_ble_eq_true rfl))) rfl v_nil)) e2) rfl v_nil))) e3) rfl
  have lP : ∀ (ρ : DEnv) (b : Bx), ρ[1]? = some (pD P) → eB lenD (bCons (eVar 1) aNil) ρ b = .ok (.int P.length) b := fun ρ b hρ => (v_b (v_bcons (v_var hρ) v_nil) rfl).trans (by
    show Res.ok (D.int ((P.map pt).length : Nat)) b = _
    rw [List.length_map])
  have t2 : tB (eBin ltD (eB lenD (bCons (eVar 1) aNil)) (eC (.int 3))) (EN (pD P) none none none none none none none none none none none none none) b3 = .ok (decide ((P.length : Int) < 3)) b3 := v_tB (v_bin (lP _ b3 rfl) v_c rfl)
  by_cases l3 : P.length < 3
  · exact ⟨b3, V3.mono (by omega), v_run (m := 16) rfl (v_seq a1 (v_seqR (v_ifT t2 (decide_eq_true (by omega)) (v_ret v_c rfl))))⟩
  obtain ⟨L, G⟩ := grid_of (u := u) (by omega) (show w ≤ 4 by omega) pw gq
  have vp := G.vp (by omega) pw (by omega)
  have lo := vp.lo
  have hi := vp.hi
  have a2 : s2 (EN (pD P) none none none none none none none none none none none none none) b3 = .ok (.nx (EN (pD P) none none none none none none none none none none none none none)) b3 := v_ifF t2 (decide_eq_false (by omega)) rfl
  have a3 : s3 (EN (pD P) none none none none none none none none none none none none none) b3 = .ok (.nx (EN (pD P) (some (.int P.length)) none none none none none none none none none none none none)) b3 := v_set (lP _ b3 rfl) rfl
  obtain ⟨kd, b4, k0, k1, V4, e4⟩ := take_law (n := 5) V3 (by omega) (by decide) (by decide)
  have a4 : s4 (EN (pD P) (some (.int P.length)) none none none none none none none none none none none none) b3 = .ok (.nx (EN (pD P) (some (.int P.length)) (some (.int kd)) none none none none none none none none none none none)) b4 := v_set (v_call (v_acons (v_var rfl) rfl (v_acons v_c rfl v_nil)) e4) rfl
  obtain ⟨C0, b5, l5, c5, V5, e5⟩ := draws_ok (ρ := EN (pD P) (some (.int P.length)) (some (.int kd)) none none none none none none none none none none none) (show 5 < 16 by decide) rfl (P.map pt) _ b4 V4 (by rw [List.length_map]; omega)
  rw [List.length_map] at l5 V5
  have a5 : s5 (EN (pD P) (some (.int P.length)) (some (.int kd)) none none none none none none none none none none none) b4 = .ok (.nx (EN (pD P) (some (.int P.length)) (some (.int kd)) (cD C0) none none none none none none none none none none)) b5 :=
    v_set (d := .tup (C0.map D.int)) (v_b (v_bcons (v_f (v_comp (b1 := b4) (v_iseq (v_var rfl) rfl) (by rw [List.length_map]; omega) e5)) v_nil) rfl) rfl
  have a6 : ∃ (C : List Int) (b6 : Bx), C.length = P.length ∧ Col01 C ∧ Vb (c + 900) b6 ∧ s6 (EN (pD P) (some (.int P.length)) (some (.int kd)) (cD C0) none none none none none none none none none none) b5 = .ok (.nx (EN (pD P) (some (.int P.length)) (some (.int kd)) (cD C) none none none none none none none none none none)) b6 := by
    have tt : tB (eBin eqD (eVar 3) (eC (.int 0))) (EN (pD P) (some (.int P.length)) (some (.int kd)) (cD C0) none none none none none none none none none none) b5 = .ok (decide (kd = 0)) b5 := v_tB (v_bin (v_var rfl) v_c (eqI _ _ b5))
    by_cases z : kd = 0
    · obtain ⟨r, b6, r0, r1, V6, e6⟩ := take_law (n := 2) V5 (by omega) (by decide) (by decide)
      refine ⟨List.replicate P.length r, b6, List.length_replicate, fun x hx => (by have := List.eq_of_mem_replicate hx; omega), V6.mono (by omega), v_ifT tt (decide_eq_true z) (v_set (v_bin (v_tup (v_acons (v_call (v_acons (v_var rfl) rfl (v_acons v_c rfl v_nil)) e6) rfl v_nil) (Nat.le_of_ble_eq_true rfl)) (v_var rfl) (rep_one r (by omega) (by omega) b6)) rfl)⟩
    · exact ⟨C0, b5, l5, c5, V5.mono (by omega), v_ifF tt (decide_eq_false z) rfl⟩
  obtain ⟨C, b6, hl, hC, V6, a6⟩ := a6
  have a7 : s7 (EN (pD P) (some (.int P.length)) (some (.int kd)) (cD C) none none none none none none none none none none) b6 = .ok (.nx (EN (pD P) (some (.int P.length)) (some (.int kd)) (cD C) none (rD P) none none none none none none none none)) b6 := v_set (v_call (v_acons (v_var rfl) rfl v_nil) (vp.lines b6)) rfl
  have a8 := st8 (P := P) hi hl (some (.int P.length)) (some (.int kd)) b6
  obtain ⟨b9, V9, a9⟩ := st9 vp hC hl (some (.int P.length)) (some (.int kd)) V6 (by omega)
  have a10 := st10 G vp hC hl (some (.int P.length)) (some (.int kd)) b9
  have a11 := st11 (C := C) vp (some (.int P.length)) (some (.int kd)) b9
  have a12 := st12 vp hC hl (some (.int P.length)) (some (.int kd)) b9
  have a13 := st13 vp hC hl (some (.int P.length)) (some (.int kd)) (some (.lst (((due P C).map fun v => cg C (v.headD 0)).map D.int))) b9
  have fl := rows_few (P := P) hi
  obtain ⟨v, b14, hv, V14, e14⟩ := law_of_gen rowD V9 (by omega) (rowsL P) (List.length_pos_iff.mpr (rowsL_pos vp.pts (by omega) hi)) (by omega) fun _ => rfl
  have a14 : s14 (EN (pD P) (some (.int P.length)) (some (.int kd)) (cD C) none (rD P) (uD P C) none (some (.lst (((due P C).map fun v => cg C (v.headD 0)).map D.int))) none none none none none) b9 = .ok (.nx (EN (pD P) (some (.int P.length)) (some (.int kd)) (cD C) (some (rowD v)) (rD P) (uD P C) none (some (.lst (((due P C).map fun v => cg C (v.headD 0)).map D.int))) none none none none none)) b14 := v_set (v_call (v_acons (v_var rfl) rfl (v_acons (v_var rfl) rfl v_nil)) e14) rfl
  obtain ⟨k, b15, k0, k1, V15, e15⟩ := take_law (n := 2) V14 (by omega) (by decide) (by decide)
  have a15 : s15 (EN (pD P) (some (.int P.length)) (some (.int kd)) (cD C) (some (rowD v)) (rD P) (uD P C) none (some (.lst (((due P C).map fun v => cg C (v.headD 0)).map D.int))) none none none none none) b14 = .ok (.nx (EN (pD P) (some (.int P.length)) (some (.int kd)) (cD C) (some (rowD v)) (rD P) (uD P C) (some (.int k)) (some (.lst (((due P C).map fun v => cg C (v.headD 0)).map D.int))) none none none none none)) b15 := v_set (v_call (v_acons (v_var rfl) rfl (v_acons v_c rfl v_nil)) e15) rfl
  have a16 := st16 vp hC hl (some (.int kd)) (some (.lst (((due P C).map fun v => cg C (v.headD 0)).map D.int))) hv k b15
  have a17 := st17 (C := C) hv k (some (.int P.length)) (some (.int kd)) (some (.lst (((due P C).map fun v => cg C (v.headD 0)).map D.int))) b15
  have a18 := few_ok G vp (some (.int P.length)) (some (.int kd)) (cD C) (some (rowD v)) (rD P) (uD P C) (some (.int k)) (some (.lst (((due P C).map fun v => cg C (v.headD 0)).map D.int))) (some (.lst [.bl (hit C k v), .bl false, .bl false, .bl false])) b15
  refine ⟨b15, V15.mono (by omega), v_run (m := 16) rfl ?_⟩
  exact v_seq a1 (v_seq a2 (v_seq a3 (v_seq a4 (v_seq a5 (v_seq a6 (v_seq a7 (v_seq a8 (v_seq a9 (v_seq a10 (v_seq a11 (v_seq a12 (v_seq a13 (v_seq a14 (v_seq a15 (v_seq a16 (v_seq a17 a18))))))))))))))))
end Lw

set_option Elab.async false
set_option linter.all false
set_option maxRecDepth 100000
set_option maxHeartbeats 8000000
/-! colours: the whole -/
namespace Lw
open PySem PySem.Spec PyProof.Rows L2 Pu Ma
def chain (K : DEnv → M Out) : DEnv → M Out := sSeq q1 (sSeq q2 (sSeq q3 K))
theorem l2_chain : l2_law = chain q4 := rfl
def r0 : DEnv := (List.replicate 5 none).set 1 (some .box)
def r1 : DEnv := match chain sNext r0 [] with
  | .ok (.nx ρ) _ => ρ
  | _ => []
theorem chain_eq (K : DEnv → M Out) (b : Bx) : chain K r0 b = K r1 b := by kernel_rfl
theorem r1_len : r1.length = 5 := by kernel_rfl
theorem r1_1 : r1[1]? = some (some .box) := by kernel_rfl
theorem laps {ρ : DEnv} (hl : ρ.length = 5) (h1 : ρ[1]? = some (some .box)) : ∀ (is : List D) (c : Nat) (b : Bx), Vb c b → c + 20000 * is.length + 300000 < 2 ^ 60 → ∃ b', compL [4] (gVar 4) tYesD (eCall f__law_right (aCons (eVar 1) aNil)) ρ is b = .ok ((is.map fun _ => true).map D.bl) b'
  | [], c, b, _, _ => ⟨b, rfl⟩
  | i :: is, c, b, V, hc => by
    rw [List.length_cons] at hc
    obtain ⟨b1, V1, e1⟩ := lap_ok V (by omega)
    obtain ⟨b2, e2⟩ := laps hl h1 is (c + 20000) b1 V1 (by omega)
    refine ⟨b2, comp_cons (c := true) (y := .bl true) (ρ1 := (wipeD ρ [4]).set 4 (some i)) rfl rfl (fun _ => ⟨b1, b2, _, v_call (v_acons (v_var (d := .box) ?_) rfl v_nil) e1, rfl, e2, rfl⟩) fun c => (by cases c)⟩
    show ((ρ.set 4 none).set 4 (some i))[1]? = _
    rw [List.getElem?_set_ne (by decide), List.getElem?_set_ne (by decide), h1]
theorem good : Pu.Good 5 1 l1_law l2_law := good_of (by decide) (by decide) (by decide) (by decide) fun iz V => by
  obtain ⟨b', e⟩ := laps r1_len r1_1 (rangeD 0 4) 0 iz V (by decide)
  refine ⟨b', ?_⟩
  rw [l2_chain]
  show chain q4 r0 iz = _
  rw [chain_eq]
  refine v_ret (d := .bl true) (v_b (v_bcons (v_f (v_comp (b1 := iz) (ds := rangeD 0 4) rfl (by decide) e)) v_nil) ((all_ok _ b').trans rfl)) rfl
end Lw

set_option Elab.async false
set_option linter.all false
set_option maxRecDepth 100000
set_option maxHeartbeats 0
namespace Lw
open PySem PySem.Spec PyProof.Rows L2 Pu
theorem law_sp {K : PySem.W.Frag} {H : Hp} {a : Addr} {ns : List Int} (hl : ns.length ≤ 63) (hO : Only H) (hS : SqL K H a (ns.map V.int)) : spLaw (px K) [.ref a] H (fun v _ => v = .bl true) fun _ _ _ => False := by
  refine ⟨a, ns, rfl, hl, ?_, fun _ => rfl⟩
  rcases hS with h | h
  · rcases h with h | ⟨o, h⟩
    · rcases hO a with z | ⟨o, xs, z⟩
      · rw [z] at h; cases h
      · rw [z] at h; cases h
    · exact .inl ⟨o, h⟩
  · exact .inr fun H' => .inr h
theorem no_cx {P : Program} {w : World} (H : Hp) (s : Shared) (e : Value) (s' : Shared) (h : L2.CX P w [] H s (fun _ _ _ => False) e s') : False := by
  obtain ⟨_, _, _, _, _, _, _, _, _, _, _, _, z⟩ := h
  exact z
/-- the end: a law whose def keeps its promise in every world, by facts at the head -/
theorem end_walk {l : PySem.W.OpenLaw} {k : Nat} {q : Program} {loose : List Str} {XP : (Str → Option Value) → Heap → Prop} {YP : World → Heap → Prop} {d : DefRec}
    (h63 : l.most = some 63) (nodef : d.params.defaults = []) (room : Room k callerA)
    (keeps : ∀ {w : World} {mg : Str → Option Value} {f : Addr} {h : Heap}, YP w h → h.Ns mainGlobals mg → mg d.name = some (.ref f) →
      ∃ (K : PySem.W.Frag) (fd : FuncData), K.In h ∧ (∀ (s : Shared) (u : Value), BindsTo s fd ⟨[u], []⟩ [("script", u)]) ∧ ∀ base : Heap, FnOk l.prog w K mg base (L2.CX l.prog w) k f fd ["script"] (spLaw (px K))) :
    PySem.W.WalkO q loose XP YP l.row.toRowW d [] (fun f us => PySem.call f us) := by
  refine Att.attach_call h63 nodef fun w s0 s1 mg mb f o pm cd doc a us ns G Y i1 i2 i3 named obj nums few gens => ?_
  obtain ⟨K, fd, inK, binds, ok⟩ := keeps Y G.T.g named
  exact law_call inK G.T.g G.T.b G.T.builtins G.T.nolimit gens obj nums (Nat.le_trans few (by decide)) room (fun base _ _ => ok base) binds (fun H only seq => law_sp few only seq) fun H e s' => no_cx H s1 e s'
end Lw
open PySem PySem.W PySem.Calls PyProof.Rows
theorem PySem.Challenge.cw_linesoftwo_k35_main_lines_of_one_colour_holds : PySem.Challenge.rw_linesoftwo_k35_main_lines_of_one_colour.Holds := by
  w_on; o_law
  refine HandSHeadRun.head_any (r := OpenLaw.row PySem.Challenge.rw_linesoftwo_k35_main_lines_of_one_colour) (q := view (OpenLaw.row PySem.Challenge.rw_linesoftwo_k35_main_lines_of_one_colour).prog [67]) (H := Lw.hk) (ob := Lw.ob) (M := 6000) (loose := Lw.loose) (d := HandSHeadRun.topDef (OpenLaw.row PySem.Challenge.rw_linesoftwo_k35_main_lines_of_one_colour).prog 67) (kwd := []) Lw.ob_eq
    (by kernel_rfl) (fun s => by kernel_rfl) Lw.run (by kernel_rfl) (by kernel_rfl) (by kernel_rfl) (by rfl) (by first | assumption | decide +kernel) (by decide +kernel) ⟨rfl, rfl, rfl, rfl, rfl, by decide +kernel⟩ ?hw ?hc
  case hw => w_witness2
  case hc =>
    refine Lw.end_walk (l := PySem.Challenge.rw_linesoftwo_k35_main_lines_of_one_colour) (k := 23) rfl (by kernel_rfl) ⟨rfl, by decide, by decide⟩ ?F
    intro w mg f h Y G named
    obtain ⟨K, inK, c, cx⟩ := Y
    have Z := Lw.fx_of inK G c cx
    obtain ⟨fd, F⟩ := Z.dd 53 "law" 67 rfl rfl
    have e1 : (HandSHeadRun.topDef (OpenLaw.row PySem.Challenge.rw_linesoftwo_k35_main_lines_of_one_colour).prog 67).name = ("law" : PySem.Str) := by kernel_rfl
    rw [e1] at named
    have e2 := named.symm.trans (Z.g 53 "law" rfl)
    cases e2
    exact ⟨K, fd, inK, fun s v => L2.FunD.bindsA (ps := ["script"]) F (fun _ _ _ _ _ _ us hl => match us, hl with | [_], _ => rfl) s [v] rfl, fun base => Lw.ok_law Z F Lw.good⟩
