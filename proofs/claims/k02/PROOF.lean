import PyProof.Rows.All
import Wide.All
import OpenK.AllK
import Wide.FinOn
import HandS.ForMost
import HandS.Words
import HandS.Head3
import HandS.HeadEnd
import HandS.HeadHook2
import HandS.HeadHook4
import KE.KStateDown
import HandS.Ends
import PySem.Challenge.RW_cornerranks_k02_tables_of_anything
import HandS.Wide
import HandS.Gcd
import HandS.TupAny
import HandS.TupMul
import HandS.IsInst
import HandS.Zip
import HandS.Style
import HandS.Deep
import HandS.Star
import HandS.Defaults
import HandS.Rev
import HandS.SortInts
import HandS.Lambda
import PyProof.ReprRoads
import PyProof.Rows.IntBool
import PyProof.NeData
import PyProof.ListMulRoad
import PyProof.FactsAll.tuple_2
import KE.GoesMore
import KE.GoesEnum
import HandS.Iter
import KE.GoesZip
import HandS.Conv
import HandS.RevRange
import HandS.Flow
import HandS.ExcOwn
import PyProof.ExcBaseAll.ValueError
import HandS.EndTab
set_option Elab.async false
set_option linter.all false
section
set_option maxRecDepth 100000
set_option maxHeartbeats 16000000
set_option autoImplicit false
namespace Rf
open PySem PySem.Spec PyProof.Rows L2
def builtNames : List Str := ["len", "int", "abs", "min", "max", "divmod", "all", "any", "sum", "tuple", "list", "sorted", "isinstance", "range", "enumerate", "zip", "reversed", "bool", "str", "repr"]
def makers : List Str := ["_law_right", "_law_is_left"]
def isMk (K : PySem.W.Frag) (x : Str) : Bool := PySem.W.codeHdIn K (He.cT K (x, none)).1 (He.cT K (x, none)).2
def mksK (K : PySem.W.Frag) : List Str := makers.filter (isMk K)
def tabsK (K : PySem.W.Frag) : List (Addr × Str) := (mksK K).map fun x => ((He.cT K (x, none)).2, (x ++ ".<locals>.") ++ "<lambda>")
/-! ## the head's hook: the facts, the tables of code objects, and one more Bool -/
abbrev AlE : Type := He.AlX
abbrev obsE (n : Nat) (fa : List He.Fa) (fn : List He.DefD) (tf : List He.Defn) (ex : PySem.W.Frag → Bool) (g : Addr → Option Obj) : AlE := He.obsX n fa fn [] tf ex g
abbrev hookE (n : Nat) (fa : List He.Fa) (fn : List He.DefD) (tf : List He.Defn) (ex : PySem.W.Frag → Bool) : PySem.W.Hook := He.hookX n fa fn [] tf ex
theorem obsE_eq {n : Nat} {fa : List He.Fa} {fn : List He.DefD} {tf : List He.Defn} {ex : PySem.W.Frag → Bool} {g : Addr → Option Obj} {s : Shared} (h : ∀ a, g a = s.heap.get? a) : obsE n fa fn tf ex g = (hookE n fa fn tf ex).obs s := He.obsX_eq h
def valE (fn : List He.DefD) : AlE := ((He.valD fn, []), true)
theorem obsE_app {n : Nat} {fa fa2 : List He.Fa} {a b : List He.DefD} {tf : List He.Defn} {ex : PySem.W.Frag → Bool} {g : Addr → Option Obj} (h1 : obsE n fa a tf ex g = valE a) (h2 : obsE n fa2 b [] (fun _ => true) g = valE b) : obsE n (fa ++ fa2) (a ++ b) tf ex g = valE (a ++ b) := by
  unfold obsE valE He.obsX He.obsT He.obsD He.valD at h1 h2 ⊢
  simp only [Prod.mk.injEq, Bool.and_eq_true, List.map_nil, and_true] at h1 h2 ⊢
  obtain ⟨⟨⟨a1, a2⟩, a3⟩, a4⟩ := h1
  obtain ⟨⟨⟨b1, b2⟩, b3⟩, _⟩ := h2
  exact ⟨⟨⟨by rw [List.all_append, a1, b1]; rfl, by rw [List.all_append, a2, b2]; rfl⟩, by rw [List.map_append, List.map_append, a3, b3]⟩, a4⟩

/-- a module's constant -/
inductive Gc where
  | int (i : Int) | tup (is : List Int)
  deriving DecidableEq
def Gc.ok (K : PySem.W.Frag) (x : Str) : Gc → Bool
  | .int i => (He.Fa.int x i).ok K
  | .tup is => (He.Fa.glo x).ok K && He.tupB K x (is.map He.Dv.int)
def gcdOk (K : PySem.W.Frag) : Bool := match PySem.W.nsIn K mainGlobals "gcd" with
  | some (some (.builtin id)) => decide (id = "math.gcd")
  | _ => false
def tabB (tf : List He.Defn) (K : PySem.W.Frag) : Bool := ((mksK K).all fun x => decide ((x, none) ∈ tf)) && (tabsK K).all fun p => (tabsK K).all fun q => !decide (p.1 = q.1) || decide (p.2 = q.2)
def exOf (globs : List (Nat × Str × Gc)) (tf : List He.Defn) (K : PySem.W.Frag) : Bool := gcdOk K && (tabB tf K && globs.all fun r => r.2.2.ok K r.2.1)
def ddOf (top : Nat → Stmt) (q : Nat × Str) : He.DefD := ⟨(q.2, none), q.2, q.2, defArgs (top q.1), defBody (top q.1), defScope (top q.1), [], []⟩
def faOf (names : List (Nat × Str)) (exc : List Str) : List He.Fa := names.map (fun q => .glo q.2) ++ (builtNames.map .free ++ exc.flatMap fun x => [.glo x, .exc x, .exm x x true])
def fnOf (top : Nat → Stmt) (names : List (Nat × Str)) : List He.DefD := names.map (ddOf top)
end Rf
end

section
set_option maxRecDepth 100000
set_option maxHeartbeats 0
set_option autoImplicit false
namespace Rf
open PySem PySem.Spec PyProof.Rows L2
def top (i : Nat) : Stmt := PySem.Challenge.pw_cornerranks_k02_tables_of_anything.main.body.getD i (.Pass ⟨0, 0, 0, 0⟩)
def globs : List (Nat × Str × Gc) := [(0, "ZERO", .tup [0, 1]), (2, "MOST", .int 6)]
def fnames0 : List (Nat × Str) := [(7, "is_whole"), (8, "is_between"), (9, "are_wholes"), (10, "divisor_of"), (13, "is_ratio"), (14, "ratio"), (15, "plus"), (16, "times"), (18, "is_row"), (19, "are_rows"), (20, "noughts"), (21, "row_plus"), (22, "row_scaled"), (23, "mixed"), (24, "flipped"), (25, "multiplied"), (28, "is_tabled"), (29, "is_lotted"), (30, "part_by"), (32, "check_table")]
def fnames1 : List (Nat × Str) := [(33, "check_lot"), (34, "check_lots"), (36, "is_table"), (37, "turned_over"), (38, "product"), (39, "part"), (41, "_law_well"), (42, "_law_draw"), (43, "_law_pick"), (44, "_law_lean"), (45, "_law_dot"), (46, "_law_flip"), (47, "_law_mul"), (48, "_law_number"), (49, "_law_line"), (50, "_law_lines"), (51, "_law_any"), (52, "_law_many"), (53, "_law_lot"), (54, "_law_piece")]
def fnames2 : List (Nat × Str) := [(55, "_law_is_whole"), (56, "_law_is_number"), (57, "_law_is_line"), (58, "_law_is_grid"), (59, "_law_is_whole_table"), (60, "_law_same"), (61, "_law_odd"), (62, "_law_bent"), (63, "_law_right"), (64, "law")]
def fnames : List (Nat × Str) := fnames0 ++ (fnames1 ++ (fnames2))
def excs : List Str := []
def tfs : List He.Defn := [("_law_right", none)]
end Rf
namespace Hd
open PySem PySem.Spec PyProof.Rows L2
abbrev R : PySem.W.OpenRow := PySem.W.OpenLaw.row PySem.Challenge.rw_cornerranks_k02_tables_of_anything
abbrev fa : List He.Fa := Rf.faOf Rf.fnames Rf.excs
abbrev tf : List He.Defn := Rf.tfs
abbrev fn : List He.DefD := Rf.fnOf Rf.top Rf.fnames
abbrev ex : PySem.W.Frag → Bool := Rf.exOf Rf.globs Rf.tfs
abbrev hk : PySem.W.Hook := Rf.hookE 2 fa fn tf ex
def ob (s : PySem.W.SharedT) : Rf.AlE := Rf.obsE 2 fa fn tf ex (HandSHeadRun.getT s)
theorem ob_eq (s : PySem.W.SharedT) : ob s = hk.obs s.abs := Rf.obsE_eq (HandSHeadRun.getT_eq s)
def loose0 : List PySem.Str := ["gcd", "CornerError", "InvalidTable", "InvalidLot", "UnlikeSizes", "is_whole", "is_between", "are_wholes", "divisor_of", "ZERO", "is_ratio", "ratio", "plus", "times", "is_row", "are_rows", "noughts", "row_plus", "row_scaled", "mixed"]
def loose1 : List PySem.Str := ["flipped", "multiplied", "MOST", "is_tabled", "is_lotted", "part_by", "check_table", "check_lot", "check_lots", "is_table", "turned_over", "product", "part", "_law_well", "_law_draw", "_law_pick", "_law_lean", "_law_dot", "_law_flip", "_law_mul"]
def loose2 : List PySem.Str := ["_law_number", "_law_line", "_law_lines", "_law_any", "_law_many", "_law_lot", "_law_piece", "_law_is_whole", "_law_is_number", "_law_is_line", "_law_is_grid", "_law_is_whole_table", "_law_same", "_law_odd", "_law_bent", "_law_right"]
def loose : List PySem.Str := loose0 ++ (loose1 ++ (loose2))
theorem run_of {α β γ δ : Type} {o : Option α} {f : α → β} {g : α → γ} {h : α → δ} {b : β} {c : γ} {d : δ} (h1 : o.map f = some b) (h2 : o.map g = some c) (h3 : o.map h = some d) : o.map (fun x => (f x, g x, h x)) = some (b, c, d) := by
  cases o with
  | none => cases h1
  | some x => cases h1; cases h2; cases h3; rfl
theorem run1 (w : World) : (HandSHeadRun.wholeF (fun p => HandSHeadRun.stepQ (HandSHeadRun.denQ HandSHeadRun.tabQ) p w) HandSHeadRun.fenceQ 60000 R.prog).map (fun x => HandSHeadRun.looksF R.prog x.1.heap x.2.abs) = some true := by
  kernel_rfl
theorem run2 (w : World) : (HandSHeadRun.wholeF (fun p => HandSHeadRun.stepQ (HandSHeadRun.denQ HandSHeadRun.tabQ) p w) HandSHeadRun.fenceQ 60000 R.prog).map (fun x => HandSHeadRun.seenQ (PySem.W.view R.prog [0, 64]) loose (PySem.importedModules R.prog.main.body) (fun s => PySem.W.xlAt (PySem.W.view R.prog [0, 64]) [] s && PySem.W.recOk R.toRowW.records s) x.2.abs) = some (PySem.W.openGood (PySem.W.view R.prog [0, 64]) loose) := by
  kernel_rfl
theorem run3 (w : World) : (HandSHeadRun.wholeF (fun p => HandSHeadRun.stepQ (HandSHeadRun.denQ HandSHeadRun.tabQ) p w) HandSHeadRun.fenceQ 60000 R.prog).map (fun x => ob x.2) = some (hk.val w) := by
  kernel_rfl
theorem run (w : World) : HandSHeadRun.RunEqI R (PySem.W.view R.prog [0, 64]) hk ob 60000 loose w := run_of (run1 w) (run2 w) (run3 w)
end Hd
end

section
set_option maxRecDepth 100000
set_option maxHeartbeats 4000000
set_option autoImplicit false
namespace Rf
open PySem PySem.Spec PyProof.Rows L2

/-! ## pure data -/
inductive D where
  | non | bl (b : Bool) | int (i : Int) | str (x : Str) | tup (xs : List D) | lst (xs : List D) | fro (xs : List D) | loc (n : Nat) | dct
abbrev Sto := List (List D)
abbrev DEnv := List (Option D)

/-! ## what stands for what: B the addresses of lists that may change, L those of the store -/
/-- a list that nobody changes: frozen in the heap, or written in K -/
def FrL (K : PySem.W.Frag) (B : Addr → Prop) (H : Hp) (a : Addr) (vs : List V) : Prop :=
  (∃ o : Obj, H a = some (.frz o (.lst vs))) ∨ (H a = some (.lst vs) ∧ ¬ B a) ∨ ∃ (o : Obj) (its : Array Value) (n : Nat), K.lookup a = some o ∧ o.cls = .type "list" ∧ o.dict = none ∧ o.data = .seq its n ∧ its.size ≤ sizeLine ∧ Vals vs its.toList
mutual
inductive Rp (K : PySem.W.Frag) (B : Addr → Prop) (L : List Addr) (H : Hp) : D → V → Prop
  | non : Rp K B L H .non .non
  | bl (b : Bool) : Rp K B L H (.bl b) (.bl b)
  | int (i : Int) : Rp K B L H (.int i) (.int i)
  | str (x : Str) : Rp K B L H (.str x) (.str x)
  | tup {a : Addr} {xs : List D} {vs : List V} : SqT K H a vs → Rps K B L H xs vs → Rp K B L H (.tup xs) (.ref a)
  | lst {a : Addr} {xs : List D} {vs : List V} : H a = some (.lst vs) → ¬ B a → Rps K B L H xs vs → Rp K B L H (.lst xs) (.ref a)
  | fro {a : Addr} {xs : List D} {vs : List V} : FrL K B H a vs → Rps K B L H xs vs → Rp K B L H (.fro xs) (.ref a)
  | loc {n : Nat} {a : Addr} : L[n]? = some a → Rp K B L H (.loc n) (.ref a)
  | dct {a : Addr} : H a = some (.dK []) → Rp K B L H .dct (.ref a)
inductive Rps (K : PySem.W.Frag) (B : Addr → Prop) (L : List Addr) (H : Hp) : List D → List V → Prop
  | nil : Rps K B L H [] []
  | cons {d : D} {v : V} {ds : List D} {vs : List V} : Rp K B L H d v → Rps K B L H ds vs → Rps K B L H (d :: ds) (v :: vs)
end

/-- no table of code objects -/
def noT (o : HO) : Prop := ∀ ps, o ≠ .tbl ps
/-- nothing stands there, but perhaps a table -/
def ntH (H : Hp) (a : Addr) : Prop := ∀ o, H a = some o → ∃ ps, o = .tbl ps
theorem ntH_of {H : Hp} {a : Addr} (h : H a = none) : ntH H a := fun o e => by rw [h] at e; cases e
theorem ntH_no {H : Hp} {a : Addr} {o : HO} (n : ntH H a) (h : H a = some o) (z : noT o) : False := by
  obtain ⟨ps, e⟩ := n o h
  exact z ps e
theorem noT_lst (vs : List V) : noT (.lst vs) := fun _ z => nomatch z
def Ext (L : List Addr) (H H' : Hp) : Prop := ∀ a o, H a = some o → noT o → a ∉ L → H' a = some o
/-- all but the addresses of B (and the tables) are kept -/
def ExtB (B : Addr → Prop) (H H' : Hp) : Prop := ∀ a o, H a = some o → noT o → ¬ B a → H' a = some o
theorem Ext.refl (L : List Addr) (H : Hp) : Ext L H H := fun _ _ h _ _ => h

/-! ## tables of code objects: of the defs that make lambdas -/
abbrev TabsK (K : PySem.W.Frag) (H : Hp) : Prop := LamX.Tabs (tabsK K) H
theorem tab_upd {H : Hp} {P : Addr} {q : Str} {p : Addr} {o : HO} (t : LamX.TabS H P q) (h : H p = none ∨ ∃ vs, H p = some (.lst vs)) : LamX.TabS (upd H p o) P q := by
  have ne : ∀ {a : Addr} {u : HO}, H a = some u → (∀ vs, u ≠ .lst vs) → a ≠ p := fun {a u} e n z => by
    rw [z] at e
    rcases h with h | ⟨vs, h⟩
    · rw [h] at e; cases e
    · rw [h] at e; cases e; exact n vs rfl
  obtain ⟨ps, h1, h2, h3⟩ := t
  refine ⟨ps, by rw [upd_ne (ne h1 fun _ z => nomatch z)]; exact h1, h2, fun pos cv hc => ?_⟩
  obtain ⟨c, e1, e2⟩ := h3 pos cv hc
  refine ⟨c, e1, ?_⟩
  rw [upd_ne (ne e2 fun vs z => by unfold LamX.CodeO at z; cases z)]
  exact e2
theorem tabs_upd {K : PySem.W.Frag} {H : Hp} {p : Addr} {o : HO} (t : TabsK K H) (h : H p = none ∨ ∃ vs, H p = some (.lst vs)) : TabsK K (upd H p o) := fun q hq => tab_upd (t q hq) h

/-- the state is well -/
structure Wd (K : PySem.W.Frag) (B : Addr → Prop) (L : List Addr) (S : Sto) (H : Hp) : Prop where
  sub : ∀ a ∈ L, B a
  nd : L.Nodup
  lists : ∀ a, B a → ∃ vs, H a = some (.lst vs)
  len : L.length = S.length
  sto : ∀ (n : Nat) (xs : List D), S[n]? = some xs → ∃ a vs, L[n]? = some a ∧ H a = some (.lst vs) ∧ Rps K B L H xs vs
  tabs : TabsK K H

/-- a move: addresses that nobody held may come, what is no store's list is kept -/
structure Mv (B : Addr → Prop) (L : List Addr) (H : Hp) (B' : Addr → Prop) (L' : List Addr) (H' : Hp) : Prop where
  up : ∀ a, B a → B' a
  dn : ∀ a, B' a → B a ∨ ntH H a
  pre : ∃ new, L' = L ++ new ∧ ∀ a ∈ new, ntH H a
  ext : Ext L H H'

theorem Mv.refl (B : Addr → Prop) (L : List Addr) (H : Hp) : Mv B L H B L H := ⟨fun _ h => h, fun _ h => .inl h, ⟨[], (List.append_nil L).symm, fun _ h => nomatch h⟩, Ext.refl L H⟩

section
variable {K : PySem.W.Frag} {B B' B1 B2 : Addr → Prop} {L L' L1 L2 : List Addr} {H H' H1 H2 : Hp} {S S' S1 : Sto}

theorem Wd.tracked (w : Wd K B L S H) {a : Addr} (h : B a) : ¬ ntH H a := fun e => by
  obtain ⟨vs, q⟩ := w.lists a h
  exact ntH_no e q (noT_lst vs)
theorem Wd.notBt (w : Wd K B L S H) {a : Addr} (h : ntH H a) : ¬ B a := fun b => w.tracked b h
theorem Wd.notB (w : Wd K B L S H) {a : Addr} (h : H a = none) : ¬ B a := w.notBt (ntH_of h)
theorem Wd.notL (w : Wd K B L S H) {a : Addr} (h : H a = none) : a ∉ L := fun b => w.tracked (w.sub a b) (ntH_of h)

/-- what is tracked stays tracked -/
theorem Mv.free (m : Mv B L H B' L' H') (w : Wd K B L S H) (w' : Wd K B' L' S' H') {a : Addr} (h : ntH H' a) : ntH H a := fun o e => by
  by_cases hl : a ∈ L
  · exact absurd h (w'.tracked (m.up a (w.sub a hl)))
  · refine Classical.byContradiction fun z => ?_
    have n : noT o := fun ps q => z ⟨ps, q⟩
    exact ntH_no h (m.ext a o e n hl) n
theorem Mv.trans (m : Mv B L H B1 L1 H1) (m2 : Mv B1 L1 H1 B2 L2 H2) (w : Wd K B L S H) (w1 : Wd K B1 L1 S1 H1) : Mv B L H B2 L2 H2 := by
  obtain ⟨n1, e1, f1⟩ := m.pre
  obtain ⟨n2, e2, f2⟩ := m2.pre
  have fr : ∀ a, ntH H1 a → ntH H a := fun a h => m.free w w1 h
  refine ⟨fun a h => m2.up a (m.up a h), fun a h => ?_, ⟨n1 ++ n2, by rw [e2, e1, List.append_assoc], fun a h => ?_⟩, fun a o e n hl => ?_⟩
  · rcases m2.dn a h with h | h
    · exact m.dn a h
    · exact .inr (fr a h)
  · rcases List.mem_append.mp h with h | h
    · exact f1 a h
    · exact fr a (f2 a h)
  · refine m2.ext a o (m.ext a o e n hl) n fun z => ?_
    rw [e1] at z
    rcases List.mem_append.mp z with z | z
    · exact hl z
    · exact ntH_no (f1 a z) e n

theorem SqT.extB {a : Addr} {vs : List V} (h : SqT K H a vs) (hB : ∀ a, B a → ∃ vs, H a = some (.lst vs)) (e : ExtB B H H') : SqT K H' a vs := by
  rcases h with (h | ⟨o, h⟩) | h
  · refine .inl (.inl (e a _ h (fun _ z => nomatch z) fun b => ?_))
    obtain ⟨ws, q⟩ := hB a b
    rw [h] at q; cases q
  · refine .inl (.inr ⟨o, e a _ h (fun _ z => nomatch z) fun b => ?_⟩)
    obtain ⟨ws, q⟩ := hB a b
    rw [h] at q; cases q
  · exact .inr h

theorem FrL.extB {a : Addr} {vs : List V} (h : FrL K B H a vs) (hB : ∀ a, B a → ∃ vs, H a = some (.lst vs)) (e : ExtB B H H') (hn : ∀ a, B' a → B a ∨ ntH H a) : FrL K B' H' a vs := by
  rcases h with ⟨o, h⟩ | ⟨h, n⟩ | h
  · refine .inl ⟨o, e a _ h (fun _ z => nomatch z) fun b => ?_⟩
    obtain ⟨ws, q⟩ := hB a b
    rw [h] at q; cases q
  · exact .inr (.inl ⟨e a _ h (noT_lst _) n, fun b => (hn a b).elim n fun z => ntH_no z h (noT_lst _)⟩)
  · exact .inr (.inr h)
theorem FrL.sqL {a : Addr} {vs : List V} (h : FrL K B H a vs) : SqL K H a vs := by
  rcases h with ⟨o, h⟩ | ⟨h, _⟩ | h
  · exact .inl (.inr ⟨o, h⟩)
  · exact .inl (.inl h)
  · exact .inr h
mutual
theorem Rp.mono (hB : ∀ a, B a → ∃ vs, H a = some (.lst vs)) (e : ExtB B H H') (hn : ∀ a, B' a → B a ∨ ntH H a) (hL : ∀ (n : Nat) (a : Addr), L[n]? = some a → L'[n]? = some a) : ∀ {d : D} {v : V}, Rp K B L H d v → Rp K B' L' H' d v
  | _, _, .non => .non
  | _, _, .bl b => .bl b
  | _, _, .int i => .int i
  | _, _, .str x => .str x
  | _, _, .tup h r => .tup (SqT.extB h hB e) (Rps.mono hB e hn hL r)
  | _, _, .lst h n r => .lst (e _ _ h (noT_lst _) n) (fun b => (hn _ b).elim n fun z => ntH_no z h (noT_lst _)) (Rps.mono hB e hn hL r)
  | _, _, .fro h r => .fro (FrL.extB h hB e hn) (Rps.mono hB e hn hL r)
  | _, _, .loc h => .loc (hL _ _ h)
  | _, _, .dct h => .dct (e _ _ h (fun _ z => nomatch z) fun b => by obtain ⟨ws, q⟩ := hB _ b; rw [h] at q; cases q)
theorem Rps.mono (hB : ∀ a, B a → ∃ vs, H a = some (.lst vs)) (e : ExtB B H H') (hn : ∀ a, B' a → B a ∨ ntH H a) (hL : ∀ (n : Nat) (a : Addr), L[n]? = some a → L'[n]? = some a) : ∀ {ds : List D} {vs : List V}, Rps K B L H ds vs → Rps K B' L' H' ds vs
  | _, _, .nil => .nil
  | _, _, .cons a b => .cons (Rp.mono hB e hn hL a) (Rps.mono hB e hn hL b)
end

theorem get_pre {new : List Addr} {n : Nat} {a : Addr} (h : L[n]? = some a) : (L ++ new)[n]? = some a := by
  have hl : n < L.length := (List.getElem?_eq_some_iff.mp h).1
  rw [List.getElem?_append_left hl]; exact h
theorem Mv.get (m : Mv B L H B' L' H') {n : Nat} {a : Addr} (h : L[n]? = some a) : L'[n]? = some a := by
  obtain ⟨new, e, _⟩ := m.pre
  rw [e]; exact get_pre h
theorem Mv.extB (m : Mv B L H B' L' H') (w : Wd K B L S H) : ExtB B H H' := fun a o e n hb => m.ext a o e n fun z => hb (w.sub a z)
theorem Rp.mv {d : D} {v : V} (r : Rp K B L H d v) (w : Wd K B L S H) (m : Mv B L H B' L' H') : Rp K B' L' H' d v := r.mono w.lists (m.extB w) m.dn fun _ _ => m.get
theorem Rps.mv {ds : List D} {vs : List V} (r : Rps K B L H ds vs) (w : Wd K B L S H) (m : Mv B L H B' L' H') : Rps K B' L' H' ds vs := r.mono w.lists (m.extB w) m.dn fun _ _ => m.get

theorem Rps.length : ∀ {ds : List D} {vs : List V}, Rps K B L H ds vs → ds.length = vs.length
  | _, _, .nil => rfl
  | _, _, .cons _ r => congrArg Nat.succ (Rps.length r)
theorem Rps.get : ∀ {ds : List D} {vs : List V} {i : Nat} {d : D}, Rps K B L H ds vs → ds[i]? = some d → ∃ v, vs[i]? = some v ∧ Rp K B L H d v
  | _, _, _, _, .nil, h => by simp at h
  | _, _, 0, _, .cons a _, h => by simp at h; subst h; exact ⟨_, rfl, a⟩
  | _, _, i + 1, _, .cons _ r, h => by
    obtain ⟨v, e, q⟩ := Rps.get (i := i) r (by simpa using h)
    exact ⟨v, by simpa using e, q⟩
theorem Rps.getV : ∀ {ds : List D} {vs : List V} {i : Nat} {v : V}, Rps K B L H ds vs → vs[i]? = some v → ∃ d, ds[i]? = some d ∧ Rp K B L H d v
  | _, _, _, _, .nil, h => by simp at h
  | _, _, 0, _, .cons a _, h => by simp at h; subst h; exact ⟨_, rfl, a⟩
  | _, _, i + 1, _, .cons _ r, h => by
    obtain ⟨v, e, q⟩ := Rps.getV (i := i) r (by simpa using h)
    exact ⟨v, by simpa using e, q⟩
theorem Rps.append : ∀ {ds es : List D} {vs ws : List V}, Rps K B L H ds vs → Rps K B L H es ws → Rps K B L H (ds ++ es) (vs ++ ws)
  | _, _, _, _, .nil, r => r
  | _, _, _, _, .cons a r, q => .cons a (Rps.append r q)
theorem Rps.take : ∀ {ds : List D} {vs : List V} (n : Nat), Rps K B L H ds vs → Rps K B L H (ds.take n) (vs.take n)
  | _, _, 0, _ => .nil
  | _, _, _ + 1, .nil => .nil
  | _, _, n + 1, .cons a r => .cons a (Rps.take n r)
theorem Rps.drop : ∀ {ds : List D} {vs : List V} (n : Nat), Rps K B L H ds vs → Rps K B L H (ds.drop n) (vs.drop n)
  | _, _, 0, r => r
  | _, _, _ + 1, .nil => .nil
  | _, _, n + 1, .cons _ r => Rps.drop n r
theorem Rps.set : ∀ {ds : List D} {vs : List V} {d : D} {v : V} (n : Nat), Rps K B L H ds vs → Rp K B L H d v → Rps K B L H (ds.set n d) (vs.set n v)
  | _, _, _, _, _, .nil, _ => .nil
  | _, _, _, _, 0, .cons _ r, q => .cons q r
  | _, _, _, _, n + 1, .cons a r, q => .cons a (Rps.set n r q)
theorem Rps.eraseIdx : ∀ {ds : List D} {vs : List V} (n : Nat), Rps K B L H ds vs → Rps K B L H (ds.eraseIdx n) (vs.eraseIdx n)
  | _, _, _, .nil => .nil
  | _, _, 0, .cons _ r => r
  | _, _, n + 1, .cons a r => .cons a (Rps.eraseIdx n r)
theorem Rps.reverse : ∀ {ds : List D} {vs : List V}, Rps K B L H ds vs → Rps K B L H ds.reverse vs.reverse
  | _, _, .nil => .nil
  | _, _, .cons a r => by
    rw [List.reverse_cons, List.reverse_cons]
    exact (Rps.reverse r).append (.cons a .nil)
theorem Rps.repl {ds : List D} {vs : List V} (r : Rps K B L H ds vs) : ∀ n : Nat, Rps K B L H (List.replicate n ds).flatten (List.replicate n vs).flatten
  | 0 => .nil
  | n + 1 => by
    rw [List.replicate_succ, List.replicate_succ, List.flatten_cons, List.flatten_cons]
    exact r.append (Rps.repl r n)

/-! ### a new object -/
theorem upd_ext {L : List Addr} {p : Addr} {o : HO} (h : H p = none) : Ext L H (upd H p o) := fun a u e _ _ => by rw [upd_ne (ne_of_none e h)]; exact e
theorem mv_new {p : Addr} {o : HO} (h : H p = none) : Mv B L H B L (upd H p o) := ⟨fun _ h => h, fun _ h => .inl h, ⟨[], (List.append_nil L).symm, fun _ h => nomatch h⟩, upd_ext h⟩
theorem Wd.new {p : Addr} {o : HO} (w : Wd K B L S H) (h : H p = none) : Wd K B L S (upd H p o) := by
  have e : ExtB B H (upd H p o) := fun a u q _ _ => by rw [upd_ne (ne_of_none q h)]; exact q
  refine ⟨w.sub, w.nd, fun a b => ?_, w.len, fun n xs q => ?_, tabs_upd w.tabs (.inl h)⟩
  · obtain ⟨vs, q⟩ := w.lists a b
    exact ⟨vs, by rw [upd_ne (ne_of_none q h)]; exact q⟩
  · obtain ⟨a, vs, e1, e2, r⟩ := w.sto n xs q
    exact ⟨a, vs, e1, by rw [upd_ne (ne_of_none e2 h)]; exact e2, r.mono w.lists e (fun _ b => .inl b) fun _ _ z => z⟩
/-- .. a list that may be owned: p joins B -/
theorem Wd.own {p : Addr} {vs : List V} (w : Wd K B L S H) (h : H p = none) : Wd K (fun a => B a ∨ a = p) L S (upd H p (.lst vs)) := by
  have e : ExtB B H (upd H p (.lst vs)) := fun a u q _ _ => by rw [upd_ne (ne_of_none q h)]; exact q
  refine ⟨fun a z => .inl (w.sub a z), w.nd, fun a b => ?_, w.len, fun n xs q => ?_, tabs_upd w.tabs (.inl h)⟩
  · rcases b with b | b
    · obtain ⟨ws, q⟩ := w.lists a b
      exact ⟨ws, by rw [upd_ne (ne_of_none q h)]; exact q⟩
    · rw [b]; exact ⟨vs, upd_same⟩
  · obtain ⟨a, ws, e1, e2, r⟩ := w.sto n xs q
    exact ⟨a, ws, e1, by rw [upd_ne (ne_of_none e2 h)]; exact e2, r.mono w.lists e (fun _ b => b.elim .inl fun z => .inr (by rw [z]; exact ntH_of h)) fun _ _ z => z⟩
theorem Rp.own {p : Addr} {o : HO} {d : D} {v : V} (r : Rp K B L H d v) (w : Wd K B L S H) (h : H p = none) : Rp K (fun a => B a ∨ a = p) L (upd H p o) d v :=
  r.mono w.lists (fun a u q _ _ => by rw [upd_ne (ne_of_none q h)]; exact q) (fun _ b => b.elim .inl fun z => .inr (by rw [z]; exact ntH_of h)) fun _ _ z => z
theorem Rps.own {p : Addr} {o : HO} {d : List D} {v : List V} (r : Rps K B L H d v) (w : Wd K B L S H) (h : H p = none) : Rps K (fun a => B a ∨ a = p) L (upd H p o) d v :=
  r.mono w.lists (fun a u q _ _ => by rw [upd_ne (ne_of_none q h)]; exact q) (fun _ b => b.elim .inl fun z => .inr (by rw [z]; exact ntH_of h)) fun _ _ z => z
end
end Rf
end

section
set_option maxRecDepth 100000
set_option maxHeartbeats 4000000
set_option autoImplicit false
namespace Rf
open PySem PySem.Spec PyProof.Rows L2

/-! ## the own syntax -/
inductive Op where
  | add | sub | mul | fdiv | mod | pow
  deriving DecidableEq
inductive Cp where
  | eq | ne | lt | le | gt | ge | isN | notN | inn | notin
  deriving DecidableEq
inductive Ty where
  | int | bool | tuple | str | list
  deriving DecidableEq
inductive Pr where
  | len | int | abs | min2 | max2 | divmod | gcd | all | any | sum | tup | lst | min1 | max1 | sorted | repr
  deriving DecidableEq
inductive Tg where
  | name (i : Nat) | tup (is : List Nat) | nest (i : Nat) (is : List Nat)
mutual
inductive E where
  | var (i : Nat) | int (i : Int) | bl (b : Bool) | non | str (x : Str) | glob (g : Nat)
  | tup (es : Es) | lst (es : Es) | tupA (a b : E) | tupB (b a : E) | orT (a : E)
  | bin (op : Op) (a b : E) | neg (a : E) | not (a : E)
  | cmp (c : Cp) (a b : E) | chain (c c' : Cp) (a b d : E)
  | and (a b : E) | or (a b : E) | ite (c a b : E)
  | call (f : Nat) (es : Es)
  | callK (f : Nat) (ks : List Str) (perm : List Nat) (es zs : Es)
  | prim (p : Pr) (es : Es)
  | isi (a : E) (t : Ty)
  | idx (a i : E) | sl (a : E) (lo hi : Eo)
  | comp (it : It) (tg : Tg) (own : List (Str × Nat)) (c : Eo) (elt : E)
  | comp2 (it : It) (tg : Tg) (it1 : It) (tg1 : Tg) (own : List (Str × Nat)) (vs1 : List Nat) (c : Eo) (elt : E)
  | rvs (a : E) | dct
  | alloc (e : E)
  | pop (o : E) (i : Eo)
  | rngv (t : Bool) (r : Rg)
  | told (t : Bool) (x : Str) (e : E)
inductive Es where
  | nil | cons (e : E) (es : Es)
inductive Eo where
  | no | so (e : E)
inductive It where
  | seq (e : E) | rng1 (e : E) | rng2 (a b : E) | rng3 (a b d : E) | enu (e : E) | zip (a b : E) | zip3 (a b d : E) | rev (e : E) | rrng (r : Rg)
inductive Rg where
  | one (e : E) | two (a b : E)
end
/-- an assignment's target among several -/
inductive Lt where
  | name (i : Nat) | sub (o i : E) | tgt (g : Tg)
mutual
inductive S where
  | set (i : Nat) (e : E)
  | par (is : List Nat) (es : Es)
  | unp (ts : List Lt) (e : E)
  | setx (o i e : E)
  | app (o e : E)
  | exp (e : E)
  | ret (e : E) | retn
  | ite (c : E) (t f : Ss)
  | for (it : It) (tg : Tg) (b : Ss)
  | while (c : E) (b : Ss)
  | pass | brk | cont | never | rais (x : Str)
inductive Ss where
  | nil | cons (s : S) (r : Ss)
end

/-! ## values -/
mutual
def D.beq : D → D → Bool
  | .non, .non => true
  | .bl a, .bl b => a == b
  | .int a, .int b => decide (a = b)
  | .str a, .str b => decide (a = b)
  | .tup xs, .tup ys => D.beqs xs ys
  | .lst xs, .lst ys => D.beqs xs ys
  | .fro xs, .fro ys => D.beqs xs ys
  | .loc a, .loc b => decide (a = b)
  | .dct, .dct => true
  | _, _ => false
def D.beqs : List D → List D → Bool
  | [], [] => true
  | x :: xs, y :: ys => D.beq x y && D.beqs xs ys
  | _, _ => false
end
mutual
theorem D.beq_eq : ∀ (a b : D), D.beq a b = true → a = b
  | .non, b, h => by cases b <;> simp_all [D.beq]
  | .bl x, b, h => by cases b <;> simp_all [D.beq]
  | .int x, b, h => by cases b <;> simp_all [D.beq]
  | .str x, b, h => by cases b <;> simp_all [D.beq]
  | .loc x, b, h => by cases b <;> simp_all [D.beq]
  | .dct, b, h => by cases b <;> simp_all [D.beq]
  | .tup xs, b, h => by
    cases b with
    | tup ys => rw [D.beqs_eq xs ys (by simpa [D.beq] using h)]
    | _ => simp [D.beq] at h
  | .lst xs, b, h => by
    cases b with
    | lst ys => rw [D.beqs_eq xs ys (by simpa [D.beq] using h)]
    | _ => simp [D.beq] at h
  | .fro xs, b, h => by
    cases b with
    | fro ys => rw [D.beqs_eq xs ys (by simpa [D.beq] using h)]
    | _ => simp [D.beq] at h
theorem D.beqs_eq : ∀ (a b : List D), D.beqs a b = true → a = b
  | [], b, h => by cases b <;> simp_all [D.beqs]
  | x :: xs, b, h => by
    cases b with
    | nil => simp [D.beqs] at h
    | cons y ys =>
      simp only [D.beqs, Bool.and_eq_true] at h
      rw [D.beq_eq x y h.1, D.beqs_eq xs ys h.2]
end
mutual
theorem D.beq_refl : ∀ a : D, D.beq a a = true
  | .non | .bl _ | .int _ | .str _ | .loc _ | .dct => by simp [D.beq]
  | .tup xs | .lst xs | .fro xs => by simp only [D.beq]; exact D.beqs_refl xs
theorem D.beqs_refl : ∀ a : List D, D.beqs a a = true
  | [] => rfl
  | x :: xs => by simp only [D.beqs, D.beq_refl x, D.beqs_refl xs, Bool.and_self]
end
mutual
def pyD : D → Option PyData
  | .non => some .none
  | .bl b => some (.bool b)
  | .int i => some (.int i)
  | .str x => some (.str x)
  | .tup xs => (pyDs xs).map .tuple
  | .lst xs => (pyDs xs).map .list
  | .fro xs => (pyDs xs).map .list
  | .loc _ => none
  | .dct => none
def pyDs : List D → Option (List PyData)
  | [] => some []
  | x :: xs => (pyD x).bind fun a => (pyDs xs).map fun r => a :: r
end
def res (S : Sto) : D → Option D
  | .loc n => (S[n]?).map .lst
  | d => some d
def seqOf (S : Sto) : D → Option (List D)
  | .tup xs => some xs
  | .lst xs => some xs
  | .fro xs => some xs
  | .loc n => S[n]?
  | _ => none
/-- a list, whatever it is -/
def lstOf (S : Sto) : D → Option (List D)
  | .lst xs => some xs
  | .fro xs => some xs
  | .loc n => S[n]?
  | _ => none
def eqD0 (S : Sto) (a b : D) : Option Bool := (res S a).bind fun a => (res S b).bind fun b => (pyD a).bind fun p => (pyD b).bind fun q =>
  if SeqAt.shaped p && SeqAt.shaped q then some (PyData.eqv p q) else none
/-- a tuple beside (), texts -/
def emD : D → D → Option Bool
  | .tup xs, .tup [] => some xs.isEmpty
  | .str x, .str y => some (decide (x = y))
  | _, _ => none
def eqD (S : Sto) (a b : D) : Option Bool := match eqD0 S a b with
  | some r => some r
  | none => emD a b
def flatD : D → Bool
  | .non | .bl _ | .int _ | .str _ => true
  | _ => false
def flatEq : D → D → Bool
  | .non, .non => true
  | .bl a, .bl b => a == b
  | .int a, .int b => a == b
  | .str a, .str b => a == b
  | .int a, .bl b => a == (if b then 1 else 0)
  | .bl a, .int b => (if a then 1 else 0) == b
  | _, _ => false
def inD (S : Sto) (x b : D) : Option Bool := (seqOf S b).bind fun xs => if flatD x && xs.all flatD then some (xs.any fun y => flatEq y x) else none
def isBl : D → Bool → Bool
  | .bl a, b => a == b
  | _, _ => false
def cmpD (S : Sto) : Cp → D → D → Option Bool
  | .eq, a, b => eqD S a b
  | .ne, a, b => (eqD S a b).map fun k => !k
  | .lt, .int i, .int j => some (decide (i < j))
  | .le, .int i, .int j => some (decide (i ≤ j))
  | .gt, .int i, .int j => some (decide (j < i))
  | .ge, .int i, .int j => some (decide (j ≤ i))
  | .isN, .non, .non => some true
  | .isN, .loc _, .non => some false
  | .isN, _, .non => some false
  | .isN, x, .bl b => some (isBl x b)
  | .notN, .non, .non => some false
  | .notN, _, .non => some true
  | .notN, x, .bl b => some (!isBl x b)
  | .inn, a, b => inD S a b
  | .notin, a, b => (inD S a b).map fun k => !k
  | _, _, _ => none
def many : Nat := 1000000
/-- a list that may be joined -/
def mutOf (S : Sto) : D → Option (List D)
  | .lst xs => some xs
  | .loc n => S[n]?
  | _ => none
def opD (S : Sto) : Op → D → D → Option D
  | .add, .int i, .int j => some (.int (i + j))
  | .add, .bl b, .int j => some (.int (b2i b + j))
  | .sub, .int i, .bl b => some (.int (i - b2i b))
  | .sub, .bl b, .int j => some (.int (b2i b - j))
  | .mul, .int i, .bl b => some (.int (i * b2i b))
  | .add, .tup xs, .tup ys => if xs.length + ys.length ≤ many then some (.tup (xs ++ ys)) else none
  | .add, a, b => (mutOf S a).bind fun xs => (mutOf S b).bind fun ys => if xs.length + ys.length ≤ many then some (.lst (xs ++ ys)) else none
  | .sub, .int i, .int j => some (.int (i - j))
  | .mul, .int i, .int j => if i.natAbs.log2 + j.natAbs.log2 < 1000000 then some (.int (i * j)) else none
  | .mul, .tup xs, .int k => if 0 ≤ k ∧ k ≤ 1000 ∧ 0 < xs.length ∧ xs.length ≤ 1000 then some (.tup (List.replicate k.toNat xs).flatten) else none
  | .mul, .lst xs, .int k => if 0 ≤ k ∧ k ≤ 1000 ∧ xs.length ≤ 1000 then some (.lst (List.replicate k.toNat xs).flatten) else none
  | .fdiv, .int i, .int j => if j ≠ 0 ∧ j.natAbs.log2 < 9000 then some (.int (i.fdiv j)) else none
  | .mod, .int i, .int j => if j ≠ 0 then some (.int (i.fmod j)) else none
  | .pow, .int i, .int j => if 0 ≤ j ∧ j ≤ 1000 ∧ i.natAbs < 2 ^ 64 then some (.int (i ^ j.toNat)) else none
  | _, _, _ => none
def isiD : D → Ty → Bool
  | .bl _, .bool | .bl _, .int | .int _, .int | .str _, .str | .tup _, .tuple | .lst _, .list | .fro _, .list | .loc _, .list => true
  | _, _ => false
def idxD (S : Sto) (a i : D) : Option D := match i with
  | .int k => (seqOf S a).bind fun xs => atI xs k
  | _ => none
def cutD (xs : List D) (lo hi : Option Int) : List D := (xs.drop (HT.sIx xs.length 0 lo)).take (HT.sIx xs.length xs.length hi - HT.sIx xs.length 0 lo)
def slD (S : Sto) (a : D) (lo hi : Option Int) : Option D := match a with
  | .tup xs => some (.tup (cutD xs lo hi))
  | a => (lstOf S a).map fun xs => .lst (cutD xs lo hi)
def allBl : List D → Option (List Bool)
  | [] => some []
  | .bl b :: r => (allBl r).map fun bs => b :: bs
  | _ => none
def allInt : List D → Option (List Int)
  | [] => some []
  | .int b :: r => (allInt r).map fun bs => b :: bs
  | _ => none
def minL : List Int → Int
  | [] => 0
  | [x] => x
  | x :: xs => min x (minL xs)
def maxL : List Int → Int
  | [] => 0
  | [x] => x
  | x :: xs => max x (maxL xs)
def insI (x : Int) : List Int → List Int
  | [] => [x]
  | y :: ys => if x ≤ y then x :: y :: ys else y :: insI x ys
def sortI : List Int → List Int
  | [] => []
  | x :: xs => insI x (sortI xs)
/-- what repr shows -/
def shS (S : Sto) : D → Option PyData
  | .lst xs => (pyDs xs).map .list
  | .tup xs => (pyDs xs).map .tuple
  | .loc n => (S[n]?).bind fun xs => (pyDs xs).map .list
  | _ => none
def shOk (p : PyData) : Bool := PyData.showable p && (!PyData.hasDict p && (decide (p.depth ≤ 64) && decide ((PyData.shown p).length ≤ sizeLine)))
def prD (S : Sto) : Pr → List D → Option D
  | .len, [a] => (seqOf S a).map fun xs => .int xs.length
  | .int, [.int i] => some (.int i)
  | .int, [.bl b] => some (.int (if b then 1 else 0))
  | .abs, [.int i] => some (.int (if i < 0 then -i else i))
  | .min2, [.int i, .int j] => some (.int (if j < i then j else i))
  | .max2, [.int i, .int j] => some (.int (if j > i then j else i))
  | .divmod, [.int i, .int j] => if 0 < j ∧ j < 1073741824 then some (.tup [.int (i / j), .int (i % j)]) else none
  | .gcd, [.int i, .int j] => some (.int ((Nat.gcd i.natAbs j.natAbs : Nat) : Int))
  | .all, [a] => (lstOf S a).bind fun xs => (allBl xs).map fun bs => .bl (bs.all id)
  | .any, [a] => (lstOf S a).bind fun xs => (allBl xs).map fun bs => .bl (bs.any id)
  | .sum, [a] => (seqOf S a).bind fun xs => (allInt xs).map fun ns => .int ns.sum
  | .tup, [a] => (seqOf S a).map .tup
  | .lst, [a] => (seqOf S a).map .lst
  | .min1, [a] => (seqOf S a).bind fun xs => (allInt xs).bind fun ns => if 0 < ns.length then some (.int (minL ns)) else none
  | .max1, [a] => (lstOf S a).bind fun xs => (allInt xs).bind fun ns => if 0 < ns.length then some (.int (maxL ns)) else none
  | .sorted, [a] => (lstOf S a).bind fun xs => (allInt xs).map fun ns => .lst ((sortI ns).map .int)
  | .repr, [a] => (shS S a).bind fun p => if shOk p then some (.str (PyData.shown p)) else none
  | _, _ => none

/-! ## walks -/
/-- what is walked: the items, and the stores' lists that may not change meanwhile -/
structure Wk where
  items : List D
  held : List (Nat × List D)
def Wk.still (w : Wk) (S : Sto) : Bool := w.held.all fun p => match S[p.1]? with
  | some xs => D.beqs xs p.2
  | none => false
def heldOf (S : Sto) : D → List (Nat × List D)
  | .loc n => match S[n]? with
    | some xs => [(n, xs)]
    | none => []
  | _ => []
def seqWk (S : Sto) (a : D) : Option Wk := (seqOf S a).map fun xs => ⟨xs, heldOf S a⟩
def zipWk (S : Sto) (a b : D) : Option Wk := (seqOf S a).bind fun xs => (seqOf S b).map fun ys => ⟨(xs.zip ys).map fun p => .tup [p.1, p.2], heldOf S a ++ heldOf S b⟩
def zip3Wk (S : Sto) (a b d : D) : Option Wk := (seqOf S a).bind fun xs => (seqOf S b).bind fun ys => (seqOf S d).map fun zs => ⟨(xs.zip (ys.zip zs)).map fun p => .tup [p.1, p.2.1, p.2.2], heldOf S a ++ (heldOf S b ++ heldOf S d)⟩
def enuWk (S : Sto) (a : D) : Option Wk := (seqOf S a).map fun xs => ⟨xs.zipIdx.map fun p => .tup [.int (p.2 : Nat), p.1], heldOf S a⟩
def revWk (S : Sto) (a : D) : Option Wk := (seqOf S a).map fun xs => ⟨xs.reverse, heldOf S a⟩
def rngWk (i j : Int) : Option Wk := if (-1000000 ≤ i ∧ i ≤ 1000000) ∧ (-1000000 ≤ j ∧ j ≤ 1000000) then some ⟨(List.range (j - i).toNat).map fun k => .int (i + (k : Nat)), []⟩ else none
/-- range(i, j, -1) -/
def rngdWk (i j c : Int) : Option Wk := if c = -1 ∧ (-1000000 ≤ i ∧ i ≤ 1000000) ∧ (-1000000 ≤ j ∧ j ≤ 1000000) then some ⟨(List.range (i - j).toNat).map fun k => .int (i + (k : Nat) * -1), []⟩ else none
/-- the truth of tuples and of None -/
def truD : D → Option Bool
  | .tup xs => some (!xs.isEmpty)
  | .non => some false
  | _ => none
def setAll : DEnv → List Nat → List D → Option DEnv
  | σ, [], [] => some σ
  | σ, i :: is, d :: ds => setAll (σ.set i (some d)) is ds
  | _, _, _ => none
def nestD (i : Nat) (is : List Nat) (d : D) (σ : DEnv) : Option DEnv := match d with
  | .tup [x, .tup xs] => setAll (σ.set i (some x)) is xs
  | _ => none
def tgD : Tg → D → DEnv → Option DEnv
  | .name i, d, σ => some (σ.set i (some d))
  | .tup is, .tup xs, σ => setAll σ is xs
  | .tup _, _, _ => none
  | .nest i is, d, σ => nestD i is d σ
def wipeD (σ : DEnv) : List Nat → DEnv
  | [] => σ
  | v :: vs => (wipeD σ vs).set v none
def compLoop (f : D → Sto → Option (Option D × Sto)) (w : Sto → Bool) : List D → Sto → Option (List D × Sto)
  | [], S => some ([], S)
  | x :: xs, S => match f x S with
    | none => none
    | some (o, S1) => if w S1 then (match compLoop f w xs S1 with
      | none => none
      | some (ys, S2) => some (match o with
        | some y => (y :: ys, S2)
        | none => (ys, S2))) else none

def loopS (f : D → Sto → Option Sto) (w : Sto → Bool) : List D → Sto → Option Sto
  | [], S => some S
  | x :: xs, S => match f x S with
    | none => none
    | some S1 => if w S1 then loopS f w xs S1 else none
def appD (S : Sto) (o d : D) : Option Sto := match o with
  | .loc n => (S[n]?).bind fun xs => if xs.length < many then some (S.set n (xs ++ [d])) else none
  | _ => none
/-- [::-1] -/
def rvD (S : Sto) (a : D) : Option D := match a with
  | .tup xs => some (.tup xs.reverse)
  | x => (lstOf S x).map fun xs => .lst xs.reverse
def popIx (n : Nat) (k : Int) : Option Nat := if n ≤ many then ixN n k else none
theorem popIx_ok {n j : Nat} {k : Int} (h : popIx n k = some j) : n ≤ many ∧ ixN n k = some j := by
  unfold popIx at h
  split at h
  · rename_i hn; exact ⟨hn, h⟩
  · cases h
/-- the ints of a range, as values -/
def rgD (i j : Int) : List D := (List.range (j - i).toNat).map fun k => .int (i + (k : Nat))
def rgOk (i j : Int) : Bool := decide ((-1000000 ≤ i ∧ i ≤ 1000000) ∧ (-1000000 ≤ j ∧ j ≤ 1000000))
/-- a range from its end -/
def rrngWk (i j : Int) : Option Wk := if rgOk i j = true then some ⟨(List.range (j - i).toNat).map fun k => .int (i + (((j - i).toNat : Nat) : Int) - 1 + (k : Nat) * (-1)), []⟩ else none
/-- the keywords' values in the parameters' order -/
def pick {α : Type} (perm : List Nat) (us : List α) : List α := perm.filterMap fun j => us[j]?
abbrev Cal := Nat → List D → Sto → Option (D × Sto)
/-- from this number on: the run of a def that ends with an exception -/
def rzN : Nat := 1000000
/-- what a caught call gives -/
def toldD (t : Bool) (d : D) : D := if t then .tup [.bl true, d] else .lst [d]
def untoldD (t : Bool) : D := if t then .tup [.bl false] else .lst []
section
variable (G : Nat → Option D) (c : Cal)
mutual
def ev : E → DEnv → Sto → Option (D × Sto)
  | .var i, σ, S => match σ[i]? with
    | some (some d) => some (d, S)
    | _ => none
  | .int i, _, S => some (.int i, S)
  | .bl b, _, S => some (.bl b, S)
  | .non, _, S => some (.non, S)
  | .str x, _, S => some (.str x, S)
  | .glob g, _, S => (G g).map fun d => (d, S)
  | .tup es, σ, S => match evs es σ S with
    | some (ds, S1) => some (.tup ds, S1)
    | none => none
  | .tupA a b, σ, S => match ev a σ S with
    | some (x, S1) => (match ev b σ S1 with
      | some (y, S2) => (seqOf S2 y).bind fun ys => if ys.length < many then some (.tup (x :: ys), S2) else none
      | none => none)
    | none => none
  | .tupB b a, σ, S => match ev b σ S with
    | some (y, S1) => (match seqOf S1 y with
      | some ys => (match ev a σ S1 with
        | some (x, S2) => if ys.length < many then some (.tup (ys ++ [x]), S2) else none
        | none => none)
      | none => none)
    | none => none
  | .lst es, σ, S => match evs es σ S with
    | some (ds, S1) => some (.lst ds, S1)
    | none => none
  | .bin op a b, σ, S => match ev a σ S with
    | some (x, S1) => (match ev b σ S1 with
      | some (y, S2) => (match opD S2 op x y with
        | some d => some (d, S2)
        | none => none)
      | none => none)
    | none => none
  | .neg a, σ, S => match ev a σ S with
    | some (.int i, S1) => some (.int (-i), S1)
    | _ => none
  | .not a, σ, S => match ev a σ S with
    | some (.bl b, S1) => some (.bl (!b), S1)
    | _ => none
  | .cmp k a b, σ, S => match ev a σ S with
    | some (x, S1) => (match ev b σ S1 with
      | some (y, S2) => (match cmpD S2 k x y with
        | some d => some (.bl d, S2)
        | none => none)
      | none => none)
    | none => none
  | .chain k k' a b d, σ, S => match ev a σ S with
    | some (x, S1) => (match ev b σ S1 with
      | some (y, S2) => (match cmpD S2 k x y with
        | some true => (match ev d σ S2 with
          | some (z, S3) => (match cmpD S3 k' y z with
            | some r => some (.bl r, S3)
            | none => none)
          | none => none)
        | some false => some (.bl false, S2)
        | none => none)
      | none => none)
    | none => none
  | .and a b, σ, S => match ev a σ S with
    | some (.bl true, S1) => ev b σ S1
    | some (.bl false, S1) => some (.bl false, S1)
    | _ => none
  | .or a b, σ, S => match ev a σ S with
    | some (.bl true, S1) => some (.bl true, S1)
    | some (.bl false, S1) => ev b σ S1
    | _ => none
  | .orT a, σ, S => match ev a σ S with
    | some (x, S1) => (match truD x with
      | some true => some (x, S1)
      | some false => some (.tup [], S1)
      | none => none)
    | none => none
  | .ite t a b, σ, S => match ev t σ S with
    | some (.bl true, S1) => ev a σ S1
    | some (.bl false, S1) => ev b σ S1
    | _ => none
  | .call f es, σ, S => match evs es σ S with
    | some (ds, S1) => c f ds S1
    | none => none
  | .callK f _ perm es zs, σ, S => match evs es σ S with
    | some (ds, S1) => (match evs zs σ S1 with
      | some (us, S2) => c f (ds ++ pick perm us) S2
      | none => none)
    | none => none
  | .prim p es, σ, S => match evs es σ S with
    | some (ds, S1) => (match prD S1 p ds with
      | some d => some (d, S1)
      | none => none)
    | none => none
  | .isi a t, σ, S => match ev a σ S with
    | some (x, S1) => some (.bl (isiD x t), S1)
    | none => none
  | .idx a i, σ, S => match ev a σ S with
    | some (x, S1) => (match ev i σ S1 with
      | some (y, S2) => (match idxD S2 x y with
        | some d => some (d, S2)
        | none => none)
      | none => none)
    | none => none
  | .sl a lo hi, σ, S => match ev a σ S with
    | some (x, S1) => (match evo lo σ S1 with
      | some (l, S2) => (match evo hi σ S2 with
        | some (h, S3) => (match slD S3 x l h with
          | some d => some (d, S3)
          | none => none)
        | none => none)
      | none => none)
    | none => none
  | .comp it tg own t elt, σ, S => match evIt it σ S with
    | some (w, S1) => if w.items.length ≤ many then (match compLoop (fun x S => match tgD tg x (wipeD σ (own.map (·.2))) with
        | none => none
        | some σ1 => (match evt t σ1 S with
          | some (true, S2) => (match ev elt σ1 S2 with
            | some (d, S3) => some (some d, S3)
            | none => none)
          | some (false, S2) => some (none, S2)
          | none => none)) w.still w.items S1 with
      | some (ys, S2) => some (.lst ys, S2)
      | none => none) else none
    | none => none
  | .comp2 it tg it1 tg1 own vs1 t elt, σ, S => match evIt it σ S with
    | some (w, S1) => if w.items.length ≤ many then (match loopS (fun x S => match tgD tg x (wipeD σ (own.map (·.2))) with
        | none => none
        | some σ1 => (match evIt it1 σ1 S with
          | some (w1, S2) => if w1.items.length ≤ many then loopS (fun y S => match tgD tg1 y (wipeD σ1 vs1) with
              | none => none
              | some σ2 => (match evt t σ2 S with
                | some (true, S3) => (match ev elt σ2 S3 with
                  | some (d, S4) => appD S4 (.loc S1.length) d
                  | none => none)
                | some (false, S3) => some S3
                | none => none)) w1.still w1.items S2 else none
          | none => none)) w.still w.items (S1 ++ [[]]) with
      | some S2 => some (.loc S1.length, S2)
      | none => none) else none
    | none => none
  | .rvs a, σ, S => match ev a σ S with
    | some (x, S1) => (match rvD S1 x with
      | some d => some (d, S1)
      | none => none)
    | none => none
  | .dct, _, S => some (.dct, S)
  | .alloc e, σ, S => match ev e σ S with
    | some (.lst xs, S1) => some (.loc S1.length, S1 ++ [xs])
    | _ => none
  | .pop o i, σ, S => match ev o σ S with
    | some (.loc n, S1) => (match evo i σ S1 with
      | some (k, S2) => (match S2[n]? with
        | some xs => (match popIx xs.length (k.getD (-1)) with
          | some j => (match xs[j]? with
            | some y => some (y, S2.set n (xs.eraseIdx j))
            | none => none)
          | none => none)
        | none => none)
      | none => none)
    | _ => none
  | .rngv t r, σ, S => match evR r σ S with
    | some (i, j, S1) => if rgOk i j = true then some (if t then .tup (rgD i j) else .lst (rgD i j), S1) else none
    | none => none
  | .told t x e, σ, S => match ev e σ S with
    | some (d, S1) => some (toldD t d, S1)
    | none => (match evX e σ S with
      | some (y, S1) => if y = x then some (untoldD t, S1) else none
      | none => none)
/-- an expression that raises: the class's name -/
def evX : E → DEnv → Sto → Option (Str × Sto)
  | .call f es, σ, S => match evs es σ S with
    | some (ds, S1) => (match c (f + rzN) ds S1 with
      | some (.str y, S2) => some (y, S2)
      | _ => none)
    | none => none
  | .callK f _ perm es zs, σ, S => match evs es σ S with
    | some (ds, S1) => (match evs zs σ S1 with
      | some (us, S2) => (match c (f + rzN) (ds ++ pick perm us) S2 with
        | some (.str y, S3) => some (y, S3)
        | _ => none)
      | none => none)
    | none => none
  | _, _, _ => none
def evR : Rg → DEnv → Sto → Option (Int × Int × Sto)
  | .one b, σ, S => match ev b σ S with
    | some (.int j, S1) => some (0, j, S1)
    | _ => none
  | .two a b, σ, S => match ev a σ S with
    | some (.int i, S1) => (match ev b σ S1 with
      | some (.int j, S2) => some (i, j, S2)
      | _ => none)
    | _ => none
def evs : Es → DEnv → Sto → Option (List D × Sto)
  | .nil, _, S => some ([], S)
  | .cons e es, σ, S => match ev e σ S with
    | some (d, S1) => (match evs es σ S1 with
      | some (ds, S2) => some (d :: ds, S2)
      | none => none)
    | none => none
/-- a slice's part -/
def evo : Eo → DEnv → Sto → Option (Option Int × Sto)
  | .no, _, S => some (none, S)
  | .so e, σ, S => match ev e σ S with
    | some (.int i, S1) => some (some i, S1)
    | _ => none
/-- a test, True where none is written -/
def evt : Eo → DEnv → Sto → Option (Bool × Sto)
  | .no, _, S => some (true, S)
  | .so e, σ, S => match ev e σ S with
    | some (.bl b, S1) => some (b, S1)
    | _ => none
def evIt : It → DEnv → Sto → Option (Wk × Sto)
  | .seq e, σ, S => match ev e σ S with
    | some (a, S1) => (seqWk S1 a).map fun w => (w, S1)
    | none => none
  | .rng1 e, σ, S => match ev e σ S with
    | some (.int j, S1) => (rngWk 0 j).map fun w => (w, S1)
    | _ => none
  | .rng2 a b, σ, S => match ev a σ S with
    | some (.int i, S1) => (match ev b σ S1 with
      | some (.int j, S2) => (rngWk i j).map fun w => (w, S2)
      | _ => none)
    | _ => none
  | .rng3 a b d, σ, S => match ev a σ S with
    | some (.int i, S1) => (match ev b σ S1 with
      | some (.int j, S2) => (match ev d σ S2 with
        | some (.int c, S3) => (rngdWk i j c).map fun w => (w, S3)
        | _ => none)
      | _ => none)
    | _ => none
  | .enu e, σ, S => match ev e σ S with
    | some (a, S1) => (enuWk S1 a).map fun w => (w, S1)
    | none => none
  | .zip a b, σ, S => match ev a σ S with
    | some (x, S1) => (match ev b σ S1 with
      | some (y, S2) => (zipWk S2 x y).map fun w => (w, S2)
      | none => none)
    | none => none
  | .zip3 a b d, σ, S => match ev a σ S with
    | some (x, S1) => (match ev b σ S1 with
      | some (y, S2) => (match ev d σ S2 with
        | some (z, S3) => (zip3Wk S3 x y z).map fun w => (w, S3)
        | none => none)
      | none => none)
    | none => none
  | .rev e, σ, S => match ev e σ S with
    | some (a, S1) => (revWk S1 a).map fun w => (w, S1)
    | none => none
  | .rrng r, σ, S => match evR r σ S with
    | some (i, j, S1) => (rrngWk i j).map fun w => (w, S1)
    | none => none
end

def in2F (G : Nat → Option D) (c : Cal) (tg1 : Tg) (vs1 : List Nat) (t : Eo) (elt : E) (n : Nat) (σ1 : DEnv) : D → Sto → Option Sto := fun y S => match tgD tg1 y (wipeD σ1 vs1) with
  | none => none
  | some σ2 => (match evt G c t σ2 S with
    | some (true, S3) => (match ev G c elt σ2 S3 with
      | some (d, S4) => appD S4 (.loc n) d
      | none => none)
    | some (false, S3) => some S3
    | none => none)
def out2F (G : Nat → Option D) (c : Cal) (tg : Tg) (it1 : It) (tg1 : Tg) (own : List (Str × Nat)) (vs1 : List Nat) (t : Eo) (elt : E) (n : Nat) (σ : DEnv) : D → Sto → Option Sto := fun x S => match tgD tg x (wipeD σ (own.map (·.2))) with
  | none => none
  | some σ1 => (match evIt G c it1 σ1 S with
    | some (w1, S2) => if w1.items.length ≤ many then loopS (in2F G c tg1 vs1 t elt n σ1) w1.still w1.items S2 else none
    | none => none)

/-! ## statements -/
inductive Fl where
  | nx | rt (d : D) | bk | ct
def setxD (S : Sto) (o i d : D) : Option Sto := match o, i with
  | .loc n, .int k => (S[n]?).bind fun xs => (ixN xs.length k).map fun j => S.set n (xs.set j d)
  | _, _ => none
def ltD (t : Lt) (d : D) (σ : DEnv) (S : Sto) : Option (DEnv × Sto) := match t with
  | .name i => some (σ.set i (some d), S)
  | .sub o i => match ev G c o σ S with
    | some (x, S1) => (match ev G c i σ S1 with
      | some (y, S2) => (setxD S2 x y d).map fun S3 => (σ, S3)
      | none => none)
    | none => none
  | .tgt g => (tgD g d σ).map fun τ => (τ, S)
def ltsD : List Lt → List D → DEnv → Sto → Option (DEnv × Sto)
  | [], [], σ, S => some (σ, S)
  | t :: ts, d :: ds, σ, S => match ltD G c t d σ S with
    | some (σ1, S1) => ltsD ts ds σ1 S1
    | none => none
  | _, _, _, _ => none
def forLoop (f : D → DEnv → Sto → Option (Fl × DEnv × Sto)) (w : Sto → Bool) : List D → DEnv → Sto → Option (Fl × DEnv × Sto)
  | [], σ, S => some (.nx, σ, S)
  | x :: xs, σ, S => match f x σ S with
    | some (.nx, σ1, S1) => if w S1 then forLoop f w xs σ1 S1 else none
    | some (.ct, σ1, S1) => if w S1 then forLoop f w xs σ1 S1 else none
    | some (.bk, σ1, S1) => some (.nx, σ1, S1)
    | some (.rt d, σ1, S1) => some (.rt d, σ1, S1)
    | none => none
def whileLoop (t : DEnv → Sto → Option (D × Sto)) (f : DEnv → Sto → Option (Fl × DEnv × Sto)) : Nat → DEnv → Sto → Option (Fl × DEnv × Sto)
  | 0, _, _ => none
  | k + 1, σ, S => match t σ S with
    | some (.bl true, S1) => (match f σ S1 with
      | some (.nx, σ1, S2) => whileLoop t f k σ1 S2
      | some (.ct, σ1, S2) => whileLoop t f k σ1 S2
      | some (.bk, σ1, S2) => some (.nx, σ1, S2)
      | some (.rt d, σ1, S2) => some (.rt d, σ1, S2)
      | none => none)
    | some (.bl false, S1) => some (.nx, σ, S1)
    | _ => none
mutual
def sv (W : Nat) : S → DEnv → Sto → Option (Fl × DEnv × Sto)
  | .set i e, σ, S => match ev G c e σ S with
    | some (d, S1) => some (.nx, σ.set i (some d), S1)
    | none => none
  | .par is es, σ, S => match evs G c es σ S with
    | some (ds, S1) => (setAll σ is ds).map fun σ1 => (.nx, σ1, S1)
    | none => none
  | .unp ts e, σ, S => match ev G c e σ S with
    | some (.tup xs, S1) => (ltsD G c ts xs σ S1).map fun p => (.nx, p.1, p.2)
    | _ => none
  | .setx o i e, σ, S => match ev G c e σ S with
    | some (d, S1) => (ltD G c (.sub o i) d σ S1).map fun p => (.nx, p.1, p.2)
    | none => none
  | .app o e, σ, S => match ev G c o σ S with
    | some (x, S1) => (match ev G c e σ S1 with
      | some (d, S2) => (appD S2 x d).map fun S3 => (.nx, σ, S3)
      | none => none)
    | none => none
  | .exp e, σ, S => match ev G c e σ S with
    | some (_, S1) => some (.nx, σ, S1)
    | none => none
  | .ret e, σ, S => match ev G c e σ S with
    | some (d, S1) => some (.rt d, σ, S1)
    | none => none
  | .retn, σ, S => some (.rt .non, σ, S)
  | .ite t a b, σ, S => match ev G c t σ S with
    | some (.bl true, S1) => svs W a σ S1
    | some (.bl false, S1) => svs W b σ S1
    | _ => none
  | .for it tg b, σ, S => match evIt G c it σ S with
    | some (w, S1) => forLoop (fun x σ S => match tgD tg x σ with
      | some σ1 => svs W b σ1 S
      | none => none) w.still w.items σ S1
    | none => none
  | .while t b, σ, S => whileLoop (fun σ S => ev G c t σ S) (fun σ S => svs W b σ S) W σ S
  | .pass, σ, S => some (.nx, σ, S)
  | .brk, σ, S => some (.bk, σ, S)
  | .cont, σ, S => some (.ct, σ, S)
  | .never, _, _ => none
  | .rais _, _, _ => none
def svs (W : Nat) : Ss → DEnv → Sto → Option (Fl × DEnv × Sto)
  | .nil, σ, S => some (.nx, σ, S)
  | .cons s r, σ, S => match sv W s σ S with
    | some (.nx, σ1, S1) => svs W r σ1 S1
    | some (.rt d, σ1, S1) => some (.rt d, σ1, S1)
    | some (.bk, σ1, S1) => some (.bk, σ1, S1)
    | some (.ct, σ1, S1) => some (.ct, σ1, S1)
    | none => none
end
mutual
/-- a statement that raises -/
def svX (W : Nat) : S → DEnv → Sto → Option (Str × Sto)
  | .exp e, σ, S => evX G c e σ S
  | .ret e, σ, S => evX G c e σ S
  | .rais x, _, S => some (x, S)
  | .ite t a b, σ, S => match ev G c t σ S with
    | some (.bl true, S1) => svsX W a σ S1
    | some (.bl false, S1) => svsX W b σ S1
    | _ => none
  | _, _, _ => none
def svsX (W : Nat) : Ss → DEnv → Sto → Option (Str × Sto)
  | .nil, _, _ => none
  | .cons s r, σ, S => match sv G c W s σ S with
    | some (.nx, σ1, S1) => svsX W r σ1 S1
    | some _ => none
    | none => svX W s σ S
end
end

/-! ## defs -/
structure Fn where
  name : Str
  np : Nat
  N : List Str
  keep : Bool
  body : Ss
def mapO {α β : Type} (f : α → Option β) : List α → Option (List β)
  | [] => some []
  | x :: xs => match f x with
    | some y => (match mapO f xs with
      | some ys => some (y :: ys)
      | none => none)
    | none => none
/-- the own lists become values -/
def frz (S : Sto) (b : Nat) : Nat → D → Option D
  | 0, _ => none
  | k + 1, .tup xs => (mapO (frz S b k) xs).map .tup
  | k + 1, .lst xs => (mapO (frz S b k) xs).map .lst
  | k + 1, .fro xs => (mapO (frz S b k) xs).map .fro
  | k + 1, .loc n => if n < b then some (.loc n) else (S[n]?).bind fun xs => (mapO (frz S b k) xs).map .lst
  | _ + 1, d => some d
def fin (keep : Bool) (b : Nat) (d : D) (S : Sto) : Option (D × Sto) :=
  if keep || decide (S.length = b) then some (d, S) else match frz S b 20 d with
    | some d' => (match mapO (mapO (frz S b 20)) (S.take b) with
      | some S' => some (d', S')
      | none => none)
    | none => none
def beg (fn : Fn) (ds : List D) : DEnv := ds.map some ++ List.replicate (fn.N.length - ds.length) none
def runF (G : Nat → Option D) (T : Nat → Option Fn) (W : Nat) : Nat → Cal
  | 0, _, _, _ => none
  | k + 1, f, ds, S => match T f with
    | none => if rzN ≤ f then (match T (f - rzN) with
      | none => none
      | some fn => if ds.length = fn.np then (match svsX G (runF G T W k) W fn.body (beg fn ds) S with
        | some (y, S1) => fin fn.keep S.length (.str y) S1
        | none => none) else none) else none
    | some fn => if ds.length = fn.np then (match svs G (runF G T W k) W fn.body (beg fn ds) S with
      | some (.rt d, _, S1) => fin fn.keep S.length d S1
      | some (.nx, _, S1) => fin fn.keep S.length .non S1
      | _ => none) else none
end Rf
end

section
set_option maxRecDepth 100000
set_option maxHeartbeats 4000000
set_option autoImplicit false
namespace Rf
open PySem PySem.Spec PyProof.Rows L2

/-! ## what comes behind a value -/
/-- a list just made, that nobody else holds -/
def Frs (K : PySem.W.Frag) (B : Addr → Prop) (L : List Addr) (S : Sto) (H H' : Hp) (xs : List D) (u : V) : Prop :=
  ∃ p vs, u = .ref p ∧ ntH H p ∧ H' p = some (.lst vs) ∧ Wd K (fun a => B a ∨ a = p) L S H' ∧ Rps K (fun a => B a ∨ a = p) L H' xs vs
def PV (K : PySem.W.Frag) (B : Addr → Prop) (L : List Addr) (S : Sto) (H : Hp) (d : D) (Q : VK) : Prop :=
  ∀ u H', Ext L H H' → Wd K B L S H' → Rp K B L H' d u → Q u H'
/-- .. where a list is a new one -/
def PF (K : PySem.W.Frag) (B : Addr → Prop) (L : List Addr) (S : Sto) (H : Hp) (d : D) (Q : VK) : Prop :=
  ∀ u H', Ext L H H' → Wd K B L S H' → Rp K B L H' d u → (∀ xs, d = .lst xs → Frs K B L S H H' xs u) → Q u H'

section
variable {K : PySem.W.Frag} {B : Addr → Prop} {L : List Addr} {S : Sto} {H : Hp} {Q : VK}
theorem PV.pf {d : D} (q : PV K B L S H d Q) : PF K B L S H d Q := fun u H' a b c _ => q u H' a b c
theorem PV.here {d : D} {u : V} (q : PV K B L S H d Q) (w : Wd K B L S H) (r : Rp K B L H d u) : Q u H := q u H (Ext.refl L H) w r
theorem PF.here {d : D} {u : V} (q : PF K B L S H d Q) (w : Wd K B L S H) (r : Rp K B L H d u) (n : ∀ xs, d ≠ .lst xs) : Q u H := q u H (Ext.refl L H) w r fun xs e => absurd e (n xs)
theorem Rp.new {p : Addr} {o : HO} {d : D} {v : V} (r : Rp K B L H d v) (w : Wd K B L S H) (h : H p = none) : Rp K B L (upd H p o) d v := r.mv w (mv_new h)
theorem Rps.new {p : Addr} {o : HO} {d : List D} {v : List V} (r : Rps K B L H d v) (w : Wd K B L S H) (h : H p = none) : Rps K B L (upd H p o) d v := r.mv w (mv_new h)
theorem PV.tup {xs : List D} {vs : List V} (q : PV K B L S H (.tup xs) Q) (w : Wd K B L S H) (r : Rps K B L H xs vs) {p : Addr} (h : H p = none) : Q (.ref p) (upd H p (.tup vs)) :=
  q _ _ (upd_ext h) (w.new h) (.tup (SqT.of upd_same) (r.new w h))
theorem PF.tup {xs : List D} {vs : List V} (q : PF K B L S H (.tup xs) Q) (w : Wd K B L S H) (r : Rps K B L H xs vs) {p : Addr} (h : H p = none) : Q (.ref p) (upd H p (.tup vs)) :=
  q _ _ (upd_ext h) (w.new h) (.tup (SqT.of upd_same) (r.new w h)) fun _ e => nomatch e
theorem PF.lst {xs : List D} {vs : List V} (q : PF K B L S H (.lst xs) Q) (w : Wd K B L S H) (r : Rps K B L H xs vs) {p : Addr} (h : H p = none) : Q (.ref p) (upd H p (.lst vs)) :=
  q _ _ (upd_ext h) (w.new h) (.lst upd_same (w.notB h) (r.new w h)) fun ys e => by
    cases e
    exact ⟨p, vs, rfl, ntH_of h, upd_same, w.own h, r.own w h⟩
theorem PV.lst {xs : List D} {vs : List V} (q : PV K B L S H (.lst xs) Q) (w : Wd K B L S H) (r : Rps K B L H xs vs) {p : Addr} (h : H p = none) : Q (.ref p) (upd H p (.lst vs)) := q.pf.lst w r h

theorem Rp.sqT {xs : List D} {v : V} (r : Rp K B L H (.tup xs) v) : ∃ a vs, v = .ref a ∧ SqT K H a vs ∧ Rps K B L H xs vs := by
  cases r with
  | tup h q => exact ⟨_, _, rfl, h, q⟩
/-- any list -/
theorem Rp.sqL {d : D} {xs : List D} {v : V} (w : Wd K B L S H) (r : Rp K B L H d v) (e : lstOf S d = some xs) : ∃ a vs, v = .ref a ∧ SqL K H a vs ∧ Rps K B L H xs vs := by
  cases r with
  | lst h n q => cases e; exact ⟨_, _, rfl, .inl (.inl h), q⟩
  | fro h q => cases e; exact ⟨_, _, rfl, h.sqL, q⟩
  | @loc n a h =>
    obtain ⟨b, vs, e1, e2, q⟩ := w.sto n xs e
    rw [h] at e1; cases e1
    exact ⟨_, _, rfl, .inl (.inl e2), q⟩
  | _ => cases e
theorem Rp.mut {d : D} {xs : List D} {v : V} (w : Wd K B L S H) (r : Rp K B L H d v) (e : mutOf S d = some xs) : ∃ a vs, v = .ref a ∧ H a = some (.lst vs) ∧ Rps K B L H xs vs := by
  cases r with
  | lst h n q => cases e; exact ⟨_, _, rfl, h, q⟩
  | @loc n a h =>
    obtain ⟨b, vs, e1, e2, q⟩ := w.sto n xs e
    rw [h] at e1; cases e1
    exact ⟨_, _, rfl, e2, q⟩
  | _ => cases e
theorem Rp.sq {d : D} {xs : List D} {v : V} (w : Wd K B L S H) (r : Rp K B L H d v) (e : seqOf S d = some xs) : ∃ a vs, v = .ref a ∧ (SqL K H a vs ∨ SqT K H a vs) ∧ Rps K B L H xs vs := by
  cases d with
  | tup ys =>
    cases e
    obtain ⟨a, vs, e1, h, q⟩ := r.sqT
    exact ⟨a, vs, e1, .inr h, q⟩
  | lst ys => obtain ⟨a, vs, e1, h, q⟩ := r.sqL w (xs := xs) e; exact ⟨a, vs, e1, .inl h, q⟩
  | fro ys => obtain ⟨a, vs, e1, h, q⟩ := r.sqL w (xs := xs) e; exact ⟨a, vs, e1, .inl h, q⟩
  | loc n => obtain ⟨a, vs, e1, h, q⟩ := r.sqL w (xs := xs) e; exact ⟨a, vs, e1, .inl h, q⟩
  | _ => cases e
theorem many_le : many ≤ sizeLine := by rw [sizeLine_eq]; decide
end

/-! ## operators -/
def rOp (K : PySem.W.Frag) (op : Sto → D → D → Option D) : R2 := fun v w H Q => ∃ B L S x y d, Wd K B L S H ∧ Rp K B L H x v ∧ Rp K B L H y w ∧ op S x y = some d ∧ PF K B L S H d Q

section
variable {X : Cx}
open PySem.IntBool in
theorem op_addBI : OpR X (binaryOp .Add) (fun x y H Q => ∃ i k, x = .bl k ∧ y = .int i ∧ Q (.int (b2i k + i)) H) := by
  intro pins s σ H x y v u Q I rx ry h
  obtain ⟨i, k, rfl, rfl, q⟩ := h
  cases rx
  obtain ⟨t, rfl⟩ := ry
  exact add_bool_int ⟨.int (b2i k + i), H, I.tok _, ⟨_, rfl⟩, q⟩
open PySem.IntBool in
theorem op_subBI : OpR X (binaryOp .Sub) (fun x y H Q => ∃ i k, x = .bl k ∧ y = .int i ∧ Q (.int (b2i k - i)) H) := by
  intro pins s σ H x y v u Q I rx ry h
  obtain ⟨i, k, rfl, rfl, q⟩ := h
  cases rx
  obtain ⟨t, rfl⟩ := ry
  exact IntBool.sub_bool_int ⟨.int (b2i k - i), H, I.tok _, ⟨_, rfl⟩, q⟩
theorem op_subIB : OpR X (binaryOp .Sub) (fun x y H Q => ∃ i k, x = .int i ∧ y = .bl k ∧ Q (.int (i - b2i k)) H) := by
  intro pins s σ H x y v u Q I rx ry h
  obtain ⟨i, k, rfl, rfl, q⟩ := h
  obtain ⟨t, rfl⟩ := rx
  cases ry
  exact IntBool.sub_int_bool ⟨.int (i - b2i k), H, I.tok _, ⟨_, rfl⟩, q⟩
theorem op_mulIB : OpR X (binaryOp .Mult) (fun x y H Q => ∃ i k, x = .int i ∧ y = .bl k ∧ Q (.int (i * b2i k)) H) := by
  intro pins s σ H x y v u Q I rx ry h
  obtain ⟨i, k, rfl, rfl, q⟩ := h
  obtain ⟨t, rfl⟩ := rx
  cases ry
  exact IntBool.mul_int_bool ⟨.int (i * b2i k), H, I.tok _, ⟨_, rfl⟩, q⟩
theorem or_add : OpR X (binaryOp .Add) (rOp X.K (fun S => opD S .add)) := by
  rintro pins s σ H v w ov ow Q I rv rw ⟨B, L, S, x, y, d, wd, rx, ry, e, q⟩
  have lists : ((∃ xs, x = .lst xs) ∨ ∃ n, x = .loc n) → wpAny (model X.prog X.w) X.A (binaryOp .Add ov ow) (EP X pins σ Q) X.xe s := fun hx => by
    have e' : ((mutOf S x).bind fun xs => (mutOf S y).bind fun ys => if xs.length + ys.length ≤ many then some (D.lst (xs ++ ys)) else none) = some d := by
      rcases hx with ⟨xs, rfl⟩ | ⟨n, rfl⟩ <;> exact e
    obtain ⟨xs, e1, e2⟩ := Option.bind_eq_some_iff.mp e'
    obtain ⟨ys, e3, e4⟩ := Option.bind_eq_some_iff.mp e2
    split at e4
    · rename_i hl
      cases e4
      obtain ⟨a, vs, rfl, ha, qa⟩ := rx.mut wd e1
      obtain ⟨b, ws, rfl, hb, qb⟩ := ry.mut wd e3
      have l1 := qa.length
      have l2 := qb.length
      have hm := many_le
      exact op_cat pins s σ H _ _ ov ow Q I rv rw ⟨_, _, _, _, rfl, rfl, ha, hb, by omega, fun p hp => q.lst wd (qa.append qb) hp⟩
    · cases e4
  cases x with
  | int i =>
    cases y with
    | int j =>
      cases e
      cases rx; cases ry
      exact op_add pins s σ H _ _ ov ow Q I rv rw ⟨i, j, rfl, rfl, q.here wd (.int _) fun _ z => nomatch z⟩
    | _ => cases e
  | bl b =>
    cases y with
    | int j =>
      cases e
      cases rx; cases ry
      exact op_addBI pins s σ H _ _ ov ow Q I rv rw ⟨j, b, rfl, rfl, q.here wd (.int _) fun _ z => nomatch z⟩
    | _ => cases e
  | tup xs =>
    cases y with
    | tup ys =>
      simp only [opD] at e
      split at e
      · rename_i hl
        cases e
        obtain ⟨a, vs, rfl, ha, qa⟩ := rx.sqT
        obtain ⟨b, ws, rfl, hb, qb⟩ := ry.sqT
        have l1 := qa.length
        have l2 := qb.length
        have hm := many_le
        refine op_catA pins s σ H _ _ ov ow Q I rv rw ⟨a, b, vs, ws, rfl, rfl, ha, hb, by omega, fun z => ?_, fun _ z => ?_, fun _ _ p hp => q.tup wd (qa.append qb) hp⟩
        · subst z
          cases qa
          exact q.here wd (.tup hb qb) fun _ z => nomatch z
        · subst z
          cases qb
          rw [List.append_nil] at q
          exact q.here wd (.tup ha qa) fun _ z => nomatch z
      · cases e
    | _ => cases e
  | lst xs => exact lists (.inl ⟨_, rfl⟩)
  | loc n => exact lists (.inr ⟨_, rfl⟩)
  | _ => cases e
theorem or_sub : OpR X (binaryOp .Sub) (rOp X.K (fun S => opD S .sub)) := by
  rintro pins s σ H v w ov ow Q I rv rw ⟨B, L, S, x, y, d, wd, rx, ry, e, q⟩
  cases x with
  | int i =>
    cases y with
    | int j =>
      cases e
      cases rx; cases ry
      exact op_sub pins s σ H _ _ ov ow Q I rv rw ⟨i, j, rfl, rfl, q.here wd (.int _) fun _ z => nomatch z⟩
    | bl b =>
      cases e
      cases rx; cases ry
      exact op_subIB pins s σ H _ _ ov ow Q I rv rw ⟨i, b, rfl, rfl, q.here wd (.int _) fun _ z => nomatch z⟩
    | _ => cases e
  | bl b =>
    cases y with
    | int j =>
      cases e
      cases rx; cases ry
      exact op_subBI pins s σ H _ _ ov ow Q I rv rw ⟨j, b, rfl, rfl, q.here wd (.int _) fun _ z => nomatch z⟩
    | _ => cases e
  | _ => cases e
theorem or_mod : OpR X (binaryOp .Mod) (rOp X.K (fun S => opD S .mod)) := by
  rintro pins s σ H v w ov ow Q I rv rw ⟨B, L, S, x, y, d, wd, rx, ry, e, q⟩
  cases x with
  | int i =>
    cases y with
    | int j =>
      simp only [opD] at e
      split at e
      · rename_i hj
        cases e
        cases rx; cases ry
        exact op_modN pins s σ H _ _ ov ow Q I rv rw ⟨i, j, rfl, rfl, hj, q.here wd (.int _) fun _ z => nomatch z⟩
      · cases e
    | _ => cases e
  | _ => cases e
theorem or_pow : OpR X (binaryOp .Pow) (rOp X.K (fun S => opD S .pow)) := by
  rintro pins s σ H v w ov ow Q I rv rw ⟨B, L, S, x, y, d, wd, rx, ry, e, q⟩
  cases x with
  | int i =>
    cases y with
    | int j =>
      simp only [opD] at e
      split at e
      · rename_i hj
        cases e
        cases rx; cases ry
        exact op_pow pins s σ H _ _ ov ow Q I rv rw ⟨i, j, rfl, rfl, ⟨hj.1, by omega, hj.2.2⟩, q.here wd (.int _) fun _ z => nomatch z⟩
      · cases e
    | _ => cases e
  | _ => cases e
/-- // by any divisor other than 0 below 2 ^ 9000 -/
def CDivA (_ j : Int) : Prop := j ≠ 0 ∧ j.natAbs.log2 < 9000
theorem op_fdivA : OpR X (binaryOp .FloorDiv) (rI CDivA fun i j => .int (i.fdiv j)) := opI fun i j _ _ _ _ _ hc q => floordiv_int hc.1 q (.inl (PyProof.noPylong_of_log2 hc.2))
theorem or_fdiv : OpR X (binaryOp .FloorDiv) (rOp X.K (fun S => opD S .fdiv)) := by
  rintro pins s σ H v w ov ow Q I rv rw ⟨B, L, S, x, y, d, wd, rx, ry, e, q⟩
  cases x with
  | int i =>
    cases y with
    | int j =>
      simp only [opD] at e
      split at e
      · rename_i hj
        cases e
        cases rx; cases ry
        exact op_fdivA pins s σ H _ _ ov ow Q I rv rw ⟨i, j, rfl, rfl, hj, q.here wd (.int _) fun _ z => nomatch z⟩
      · cases e
    | _ => cases e
  | _ => cases e

/-! ### tuple * k, k = 0 and k = 1 -/
open PySem.AutoSeq1 (wpAny_loadPart')
open PySem.MeetsSeq PySem.MeetsSeq2 PySem.MeetsSeq3
theorem tuple_mulW1 (l : Addr) (items : Array Value) (n : Nat) (dd : Option Addr) (sl : Array (Option Value)) (u : Tok) :
    Meets (Builtin.«tuple.__mul__» ⟨[.ref l, .int 1 u], []⟩) (fun _ R s => s.heap.get? l = some { cls := .type "tuple", dict := dd, data := .seq items n, slots := sl } ∧
      R (.ok (.ret (Value.ref l))) s) :=
  .of_wp fun prog w A R s h => by
    obtain ⟨hp, g, d, tk, os⟩ := s
    obtain ⟨hl, h⟩ := h
    have f1 := AutoSeq1.idx_int
    have c0 : (decide ((1 : Int) < -(2 ^ 63)) || decide ((1 : Int) ≥ 2 ^ 63)) = false := by decide
    have c1 : (items.isEmpty || ((1 : Int) == 1)) = true := by simp
    wp_walk using wpAny_loadPart' hl
    all_goals repeat (first
      | (refine wpAny_ite_false (decide_eq_false (by rw [c0]; exact Bool.false_ne_true)) ?_; wp_walk using wpAny_loadPart' hl)
      | (refine wpAny_ite_true (decide_eq_true (by rw [c1])) ?_; wp_walk using wpAny_loadPart' hl))
    exact ⟨_, rfl, h⟩
theorem tuple_mulW0 (l : Addr) (items : Array Value) (n : Nat) (dd : Option Addr) (sl : Array (Option Value)) (u : Tok) (hi : items.isEmpty = false) :
    Meets (Builtin.«tuple.__mul__» ⟨[.ref l, .int 0 u], []⟩) (fun _ R s => s.heap.get? l = some { cls := .type "tuple", dict := dd, data := .seq items n, slots := sl } ∧
      R (.ok (.ret (Value.ref s.heap.objs.size))) { s with heap := s.heap.push { cls := Value.type "tuple", data := Data.seq #[] }, toks := s.toks }) :=
  .of_wp fun prog w A R s h => by
    obtain ⟨hp, g, d, tk, os⟩ := s
    obtain ⟨hl, h⟩ := h
    have f1 := AutoSeq1.idx_int
    have c0 : (decide ((0 : Int) < -(2 ^ 63)) || decide ((0 : Int) ≥ 2 ^ 63)) = false := by decide
    have c1 : (items.isEmpty || ((0 : Int) == 1)) = false := by rw [hi]; rfl
    have c2 : (decide ((0 : Int) ≤ 0) || items.isEmpty) = true := by simp
    have hsz : (#[] : Array Value).size ≤ sizeLine := Nat.zero_le _
    wp_walk using wpAny_loadPart' hl
    all_goals repeat (first
      | (refine wpAny_ite_false (decide_eq_false (by rw [c0]; exact Bool.false_ne_true)) ?_; wp_walk using wpAny_loadPart' hl)
      | (refine wpAny_ite_false (decide_eq_false (by rw [c1]; exact Bool.false_ne_true)) ?_; wp_walk using wpAny_loadPart' hl)
      | (refine wpAny_ite_true (decide_eq_true (by rw [c2])) ?_; wp_walk using wpAny_loadPart' hl)
      | (refine wpAny_ite_false (decide_eq_false (Nat.not_lt.mpr hsz)) ?_; wp_walk using wpAny_loadPart' hl))
    exact ⟨_, rfl, h⟩
theorem op_repT1 : OpR X (binaryOp .Mult) (fun x y H Q => ∃ l xs, x = .ref l ∧ y = .int 1 ∧ SqT X.K H l xs ∧ Q (.ref l) H) := by
  intro pins s σ H x y v u Q I rx ry h
  obtain ⟨l, xs, rfl, rfl, hT, q⟩ := h
  cases rx
  obtain ⟨t, rfl⟩ := ry
  obtain ⟨its, r, ⟨⟨cls, dd, data, sl⟩, ho, hc, n, hd⟩, hs⟩ := I.tuple hT
  simp only at hc hd
  subst hc hd
  exact wpAny_binaryOp_repeat_ref (T := "tuple") (U := "int") (by decide) ⟨_, ho, rfl⟩ (fun s' => typeIs_int s' 1 t) noFill_tuple_mul F.fills_int_mul F.slot_int_rmul repeat_tuple F.slot_int_index.lookup
    (call_meets F.slot_int_rmul (typeIs_int s 1 t) F.entry_int_rmul (F.args_int_rmul_2 _ _) (int_rmul_tuple 1 t l its.toArray n dd sl)
      ⟨ho, rfl, ⟨_, ho, rfl⟩, call_meets F.slot_tuple_mul ⟨_, ho, rfl⟩ F.entry_tuple_mul (F.args_tuple_mul_2 _ _) (tuple_mulW1 l its.toArray n dd sl t) ⟨ho, ⟨.ref l, H, I, rfl, q⟩⟩⟩)
theorem op_repT0 : OpR X (binaryOp .Mult) (fun x y H Q => ∃ l xs, x = .ref l ∧ y = .int 0 ∧ SqT X.K H l xs ∧ xs ≠ [] ∧ ∀ p, H p = none → Q (.ref p) (upd H p (.tup []))) := by
  intro pins s σ H x y v u Q I rx ry h
  obtain ⟨l, xs, rfl, rfl, hT, hne, q⟩ := h
  cases rx
  obtain ⟨t, rfl⟩ := ry
  obtain ⟨its, r, ⟨⟨cls, dd, data, sl⟩, ho, hc, n, hd⟩, hs⟩ := I.tuple hT
  simp only at hc hd
  subst hc hd
  have hi : its.toArray.isEmpty = false := by
    cases r with
    | nil => exact absurd rfl hne
    | cons _ _ => rfl
  refine wpAny_binaryOp_repeat_ref (T := "tuple") (U := "int") (by decide) ⟨_, ho, rfl⟩ (fun s' => typeIs_int s' 0 t) noFill_tuple_mul F.fills_int_mul F.slot_int_rmul repeat_tuple F.slot_int_index.lookup
    (call_meets F.slot_int_rmul (typeIs_int s 0 t) F.entry_int_rmul (F.args_int_rmul_2 _ _) (int_rmul_tuple 0 t l its.toArray n dd sl)
      ⟨ho, rfl, ⟨_, ho, rfl⟩, call_meets F.slot_tuple_mul ⟨_, ho, rfl⟩ F.entry_tuple_mul (F.args_tuple_mul_2 _ _) (tuple_mulW0 l its.toArray n dd sl t hi) ⟨ho, ?_⟩⟩)
  refine ⟨.ref s.heap.objs.size, _, I.laid (t' := s.toks) (o := .tup []) (fun b ob q => Heap.get?_push_of_some _ q) (Nat.le_refl _) ?_, rfl, q _ (I.hok.fresh (Nat.le_refl _))⟩
  exact ⟨Nat.zero_le _, [], .nil, IsTup.new _ _⟩
theorem or_mul : OpR X (binaryOp .Mult) (rOp X.K (fun S => opD S .mul)) := by
  rintro pins s σ H v w ov ow Q I rv rw ⟨B, L, S, x, y, d, wd, rx, ry, e, q⟩
  cases x with
  | int i =>
    cases y with
    | int j =>
      simp only [opD] at e
      split at e
      · rename_i hj
        cases e
        cases rx; cases ry
        exact op_mulW pins s σ H _ _ ov ow Q I rv rw ⟨i, j, rfl, rfl, hj, q.here wd (.int _) fun _ z => nomatch z⟩
      · cases e
    | bl b =>
      simp only [opD] at e
      cases e
      cases rx; cases ry
      exact op_mulIB pins s σ H _ _ ov ow Q I rv rw ⟨i, b, rfl, rfl, q.here wd (.int _) fun _ z => nomatch z⟩
    | _ => cases e
  | tup xs =>
    cases y with
    | int k =>
      simp only [opD] at e
      split at e
      · rename_i hj
        obtain ⟨h0, h1, h2, h3⟩ := hj
        cases e
        obtain ⟨a, vs, rfl, ha, qa⟩ := rx.sqT
        cases ry
        have l1 := qa.length
        have hne : vs ≠ [] := fun z => by rw [z] at l1; simp at l1; rw [l1] at h2; simp at h2
        have r2 := qa.repl k.toNat
        by_cases k0 : k = 0
        · subst k0
          exact op_repT0 pins s σ H _ _ ov ow Q I rv rw ⟨a, vs, rfl, rfl, ha, hne, fun p hp => q.tup wd r2 hp⟩
        · by_cases k1 : k = 1
          · subst k1
            refine op_repT1 pins s σ H _ _ ov ow Q I rv rw ⟨a, vs, rfl, rfl, ha, q.here wd ?_ fun _ z => nomatch z⟩
            have e1 : (List.replicate (1 : Int).toNat xs).flatten = xs := by simp
            rw [e1]
            exact .tup ha qa
          · exact op_repT pins s σ H _ _ ov ow Q I rv rw ⟨a, k, vs, rfl, rfl, ha, hne, by omega, h1, by omega, fun p hp => q.tup wd r2 hp⟩
      · cases e
    | _ => cases e
  | lst xs =>
    cases y with
    | int k =>
      simp only [opD] at e
      split at e
      · rename_i hj
        obtain ⟨h0, h1, h3⟩ := hj
        cases e
        cases rx with
        | lst ha na qa =>
          cases ry
          have l1 := qa.length
          have r2 := qa.repl k.toNat
          refine op_rep pins s σ H _ _ ov ow Q I rv rw ⟨_, k, _, rfl, rfl, ha, by omega, by omega, ?_, fun p hp => q.lst wd r2 hp⟩
          have a1 : xs.length * k.toNat ≤ 1000 * 1000 := Nat.mul_le_mul (by omega) (by omega)
          have hs : sizeLine = 16777216 := sizeLine_eq
          rw [l1] at a1
          omega
      · cases e
    | _ => cases e
  | _ => cases e

/-! ## comparisons -/
def rCp (K : PySem.W.Frag) (k : Cp) : R2 := fun v w H Q => ∃ B L S x y b, Wd K B L S H ∧ Rp K B L H x v ∧ Rp K B L H y w ∧ cmpD S k x y = some b ∧ Q (.bl b) H
mutual
theorem Rp.dp {K : PySem.W.Frag} {B : Addr → Prop} {L : List Addr} {H : Hp} : ∀ {d : D} {v : V} {p : PyData}, Rp K B L H d v → pyD d = some p → Dp K H v p
  | .non, _, _, .non, e => by cases e; exact .non
  | .bl b, _, _, .bl _, e => by cases e; exact .bl b
  | .int i, _, _, .int _, e => by cases e; exact .int i
  | .str x, _, _, .str _, e => by cases e; exact .str x
  | .tup xs, _, _, .tup h r, e => by
    simp only [pyD] at e
    obtain ⟨ps, e1, e2⟩ := Option.map_eq_some_iff.mp e
    subst e2
    exact .tup h (Rps.dp r e1)
  | .lst xs, _, _, .lst h n r, e => by
    simp only [pyD] at e
    obtain ⟨ps, e1, e2⟩ := Option.map_eq_some_iff.mp e
    subst e2
    exact .lst (.inl (.inl h)) (Rps.dp r e1)
  | .fro xs, _, _, .fro h r, e => by
    simp only [pyD] at e
    obtain ⟨ps, e1, e2⟩ := Option.map_eq_some_iff.mp e
    subst e2
    exact .lst h.sqL (Rps.dp r e1)
  | .loc n, _, _, .loc _, e => by cases e
  | .dct, _, _, .dct _, e => by cases e
theorem Rps.dp {K : PySem.W.Frag} {B : Addr → Prop} {L : List Addr} {H : Hp} : ∀ {d : List D} {v : List V} {p : List PyData}, Rps K B L H d v → pyDs d = some p → DpAll K H v p
  | [], _, _, .nil, e => by cases e; exact .nil
  | x :: xs, _, _, .cons a r, e => by
    simp only [pyDs] at e
    obtain ⟨p1, e1, e2⟩ := Option.bind_eq_some_iff.mp e
    obtain ⟨ps, e3, e4⟩ := Option.map_eq_some_iff.mp e2
    subst e4
    exact .cons (Rp.dp a e1) (Rps.dp r e3)
end
/-- a location as the list that it is -/
theorem Rp.res {K : PySem.W.Frag} {B : Addr → Prop} {L : List Addr} {S : Sto} {H : Hp} {d d' : D} {v : V} {p : PyData} (w : Wd K B L S H) (r : Rp K B L H d v) (e : res S d = some d') (ep : pyD d' = some p) : Dp K H v p := by
  cases d with
  | loc n =>
    obtain ⟨xs, e1, e2⟩ := Option.map_eq_some_iff.mp e
    subst e2
    cases r with
    | loc h =>
      obtain ⟨b, vs, f1, f2, q⟩ := w.sto n xs e1
      rw [h] at f1; cases f1
      simp only [pyD] at ep
      obtain ⟨ps, g1, g2⟩ := Option.map_eq_some_iff.mp ep
      subst g2
      exact .lst (.inl (.inl f2)) (Rps.dp q g1)
  | _ => cases e; exact r.dp ep
theorem eqD0_ok {K : PySem.W.Frag} {B : Addr → Prop} {L : List Addr} {S : Sto} {H : Hp} {x y : D} {v w : V} {b : Bool} (wd : Wd K B L S H) (rx : Rp K B L H x v) (ry : Rp K B L H y w) (e : eqD0 S x y = some b) :
    ∃ p q, Dp K H v p ∧ Dp K H w q ∧ SeqAt.shaped p = true ∧ SeqAt.shaped q = true ∧ b = PyData.eqv p q := by
  unfold eqD0 at e
  obtain ⟨a, e1, e⟩ := Option.bind_eq_some_iff.mp e
  obtain ⟨c, e2, e⟩ := Option.bind_eq_some_iff.mp e
  obtain ⟨p, e3, e⟩ := Option.bind_eq_some_iff.mp e
  obtain ⟨q, e4, e⟩ := Option.bind_eq_some_iff.mp e
  split at e
  · rename_i hs
    rw [Bool.and_eq_true] at hs
    cases e
    exact ⟨p, q, rx.res wd e1 e3, ry.res wd e2 e4, hs.1, hs.2, rfl⟩
  · cases e
/-- a tuple beside (): nobody asks the items -/
theorem emD_ok {K : PySem.W.Frag} {B : Addr → Prop} {L : List Addr} {H : Hp} {x y : D} {v w : V} {b : Bool} (rx : Rp K B L H x v) (ry : Rp K B L H y w) (e : emD x y = some b) :
    (∃ (l m : Addr) (vs : List V), v = .ref l ∧ w = .ref m ∧ SqT K H l vs ∧ SqT K H m [] ∧ b = vs.isEmpty) ∨ ∃ s t : Str, v = .str s ∧ w = .str t ∧ b = decide (s = t) := by
  unfold emD at e
  split at e
  · rename_i xs
    cases e
    obtain ⟨l, vs, rfl, h1, q1⟩ := rx.sqT
    obtain ⟨m, ws, rfl, h2, q2⟩ := ry.sqT
    cases q2
    refine .inl ⟨l, m, vs, rfl, rfl, h1, h2, ?_⟩
    cases q1 <;> rfl
  · cases e
    cases rx
    cases ry
    exact .inr ⟨_, _, rfl, rfl, rfl⟩
  · cases e
theorem eqD_ok {K : PySem.W.Frag} {B : Addr → Prop} {L : List Addr} {S : Sto} {H : Hp} {x y : D} {v w : V} {b : Bool} (wd : Wd K B L S H) (rx : Rp K B L H x v) (ry : Rp K B L H y w) (e : eqD S x y = some b) :
    (∃ p q, Dp K H v p ∧ Dp K H w q ∧ SeqAt.shaped p = true ∧ SeqAt.shaped q = true ∧ b = PyData.eqv p q) ∨ (∃ (l m : Addr) (vs : List V), v = .ref l ∧ w = .ref m ∧ SqT K H l vs ∧ SqT K H m [] ∧ b = vs.isEmpty) ∨ (∃ s t : Str, v = .str s ∧ w = .str t ∧ b = decide (s = t)) := by
  unfold eqD at e
  split at e
  · rename_i r e0
    cases e
    exact .inl (eqD0_ok wd rx ry e0)
  · exact .inr (emD_ok rx ry e)
theorem all_min0 {n : Nat} : ((List.range (min n 0)).all (fun _ => true) && n == 0) = decide (n = 0) := by
  rw [Nat.min_zero]
  cases n <;> rfl
theorem oc_emp (hu : X.A.units + 64 < cLine) {s : Shared} {pins : List (Addr × Obj)} {σ : L2.St} {H : Hp} {l m : Addr} {vs : List V} {Q : Value → Shared → Prop} {E : Value → Shared → Prop} (I : Inv X pins σ H s) (h1 : SqT X.K H l vs) (h2 : SqT X.K H m []) (neg : Bool)
    (q : Q (.bool (if neg then !vs.isEmpty else vs.isEmpty)) s) : wpAny (model X.prog X.w) X.A (compareOp (if neg then .NotEq else .Eq) (.ref l) (.ref m)) Q E s := by
  obtain ⟨its, rv, p1, _⟩ := I.tuple h1
  obtain ⟨jts, rw', p2, _⟩ := I.tuple h2
  cases rw'
  have hsz : decide (its.toArray.size = 0) = vs.isEmpty := by
    have := rv.length
    cases vs with
    | nil => cases rv; rfl
    | cons v vs => cases rv; rfl
  have hr : X.A.units < cLine := by omega
  cases neg with
  | true =>
    have z := PySem.SeqAt.RcNeAt.tuples (A := X.A) (s := s) (e := fun _ => true) p1 p2 hr (fun j j1 j2 => absurd j2 (Nat.not_lt_zero _))
    refine z X.prog X.w E Q ?_
    have e0 : (([] : List Value).toArray).size = 0 := rfl
    rw [e0, all_min0, hsz]
    exact q
  | false =>
    have z := PySem.SeqAt.RcAt.tuples (A := X.A) (s := s) (e := fun _ => true) p1 p2 hr (fun j j1 j2 => absurd j2 (Nat.not_lt_zero _))
    refine z X.prog X.w E Q ?_
    have e0 : (([] : List Value).toArray).size = 0 := rfl
    rw [e0, all_min0, hsz]
    exact q
theorem str_dec {x y : Str} : decide (V.str x = V.str y) = decide (x = y) := by rw [decide_eq_decide]; simp
theorem oc_eq (hu : X.A.units + 64 < cLine) : OpR X (compareOp .Eq) (rCp X.K .eq) := by
  rintro pins s σ H v w ov ow Q I rv rw ⟨B, L, S, x, y, b, wd, rx, ry, e, q⟩
  rcases eqD_ok wd rx ry e with ⟨p, r, h1, h2, h3, h4, rfl⟩ | ⟨l, m, vs, rfl, rfl, h1, h2, rfl⟩ | ⟨xs, ys, rfl, rfl, rfl⟩
  · exact op_eqD hu pins s σ H _ _ ov ow Q I rv rw ⟨p, r, h1, h2, h3, h4, q⟩
  · cases rv
    cases rw
    exact oc_emp hu I h1 h2 false (by simp only [Bool.false_eq_true, if_false]; exact ⟨.bl _, _, I, rfl, q⟩)
  · exact L2.op_eq pins s σ H _ _ ov ow Q I rv rw ⟨rfl, by rw [str_dec]; exact q⟩
theorem oc_ne (hu : X.A.units + 64 < cLine) : OpR X (compareOp .NotEq) (rCp X.K .ne) := by
  rintro pins s σ H v w ov ow Q I rv rw ⟨B, L, S, x, y, b, wd, rx, ry, e, q⟩
  obtain ⟨c, e1, rfl⟩ := Option.map_eq_some_iff.mp (show (eqD S x y).map (fun k => !k) = some b from e)
  rcases eqD_ok wd rx ry e1 with ⟨p, r, h1, h2, h3, h4, rfl⟩ | ⟨l, m, vs, rfl, rfl, h1, h2, rfl⟩ | ⟨xs, ys, rfl, rfl, rfl⟩
  · exact op_neD hu pins s σ H _ _ ov ow Q I rv rw ⟨p, r, h1, h2, h3, h4, q⟩
  · cases rv
    cases rw
    exact oc_emp hu I h1 h2 true (by simp only [if_true]; exact ⟨.bl _, _, I, rfl, q⟩)
  · exact L2.op_ne pins s σ H _ _ ov ow Q I rv rw ⟨rfl, by rw [str_dec]; exact q⟩
theorem oc_int {k : Cp} {op : CmpOp} {g : Int → Int → Bool} (ho : OpR X (compareOp op) (rI0 fun i j => .bl (g i j))) (hk : ∀ S x y b, cmpD S k x y = some b → ∃ i j, x = .int i ∧ y = .int j ∧ b = g i j) : OpR X (compareOp op) (rCp X.K k) := by
  rintro pins s σ H v w ov ow Q I rv rw ⟨B, L, S, x, y, b, wd, rx, ry, e, q⟩
  obtain ⟨i, j, rfl, rfl, rfl⟩ := hk S x y b e
  cases rx; cases ry
  exact ho pins s σ H _ _ ov ow Q I rv rw ⟨i, j, rfl, rfl, q⟩
theorem oc_lt : OpR X (compareOp .Lt) (rCp X.K .lt) := oc_int op_lt fun S x y b e => by
  cases x <;> cases y <;> first | cases e; exact ⟨_, _, rfl, rfl, rfl⟩ | cases e
theorem oc_le : OpR X (compareOp .LtE) (rCp X.K .le) := oc_int op_le fun S x y b e => by
  cases x <;> cases y <;> first | cases e; exact ⟨_, _, rfl, rfl, rfl⟩ | cases e
theorem oc_gt : OpR X (compareOp .Gt) (rCp X.K .gt) := oc_int op_gt fun S x y b e => by
  cases x <;> cases y <;> first | cases e; exact ⟨_, _, rfl, rfl, rfl⟩ | cases e
theorem oc_ge : OpR X (compareOp .GtE) (rCp X.K .ge) := oc_int op_ge fun S x y b e => by
  cases x <;> cases y <;> first | cases e; exact ⟨_, _, rfl, rfl, rfl⟩ | cases e
theorem oc_isN : OpR X (compareOp .Is) (rCp X.K .isN) := by
  rintro pins s σ H v w ov ow Q I rv rw ⟨B, L, S, x, y, b, wd, rx, ry, e, q⟩
  cases y with
  | non =>
    cases ry
    refine op_isN pins s σ H _ _ ov ow Q I rv rw ⟨rfl, ?_⟩
    cases rx <;> (cases e; exact q)
  | bl b0 =>
    cases ry
    cases (show ow = Value.bool b0 from rw)
    cases rx with
    | non => cases e; cases (show ov = Value.none from rv); exact wpAny_is_other rfl (by intro z; cases z) (fin_bl I q rfl)
    | bl a => cases e; cases (show ov = Value.bool a from rv); exact wpAny_is_plain rfl (fin_bl I q (by cases a <;> cases b0 <;> rfl))
    | int i => cases e; obtain ⟨t, rfl⟩ := (show ∃ t, ov = Value.int i t from rv); exact wpAny_is_other rfl (by intro z; cases z) (fin_bl I q rfl)
    | str i => cases e; obtain ⟨t, rfl⟩ := (show ∃ t, ov = Value.str i t from rv); exact wpAny_is_other rfl (by intro z; cases z) (fin_bl I q rfl)
    | @tup a _ _ _ _ => cases e; cases (show ov = Value.ref a from rv); exact wpAny_is_other rfl (by intro z; cases z) (fin_bl I q rfl)
    | @lst a _ _ _ _ _ => cases e; cases (show ov = Value.ref a from rv); exact wpAny_is_other rfl (by intro z; cases z) (fin_bl I q rfl)
    | @fro a _ _ _ _ => cases e; cases (show ov = Value.ref a from rv); exact wpAny_is_other rfl (by intro z; cases z) (fin_bl I q rfl)
    | @loc _ a _ => cases e; cases (show ov = Value.ref a from rv); exact wpAny_is_other rfl (by intro z; cases z) (fin_bl I q rfl)
    | @dct a _ => cases e; cases (show ov = Value.ref a from rv); exact wpAny_is_other rfl (by intro z; cases z) (fin_bl I q rfl)
  | _ => cases x <;> cases e
theorem oc_notN : OpR X (compareOp .IsNot) (rCp X.K .notN) := by
  rintro pins s σ H v w ov ow Q I rv rw ⟨B, L, S, x, y, b, wd, rx, ry, e, q⟩
  cases y with
  | non =>
    cases ry
    refine op_notN pins s σ H _ _ ov ow Q I rv rw ⟨rfl, ?_⟩
    cases rx <;> (cases e; exact q)
  | bl b0 =>
    cases ry
    cases (show ow = Value.bool b0 from rw)
    cases rx with
    | non => cases e; cases (show ov = Value.none from rv); exact wpAny_isNot_other rfl (by intro z; cases z) (fin_bl I q rfl)
    | bl a => cases e; cases (show ov = Value.bool a from rv); exact wpAny_isNot_plain rfl (fin_bl I q (by cases a <;> cases b0 <;> rfl))
    | int i => cases e; obtain ⟨t, rfl⟩ := (show ∃ t, ov = Value.int i t from rv); exact wpAny_isNot_other rfl (by intro z; cases z) (fin_bl I q rfl)
    | str i => cases e; obtain ⟨t, rfl⟩ := (show ∃ t, ov = Value.str i t from rv); exact wpAny_isNot_other rfl (by intro z; cases z) (fin_bl I q rfl)
    | @tup a _ _ _ _ => cases e; cases (show ov = Value.ref a from rv); exact wpAny_isNot_other rfl (by intro z; cases z) (fin_bl I q rfl)
    | @lst a _ _ _ _ _ => cases e; cases (show ov = Value.ref a from rv); exact wpAny_isNot_other rfl (by intro z; cases z) (fin_bl I q rfl)
    | @fro a _ _ _ _ => cases e; cases (show ov = Value.ref a from rv); exact wpAny_isNot_other rfl (by intro z; cases z) (fin_bl I q rfl)
    | @loc _ a _ => cases e; cases (show ov = Value.ref a from rv); exact wpAny_isNot_other rfl (by intro z; cases z) (fin_bl I q rfl)
    | @dct a _ => cases e; cases (show ov = Value.ref a from rv); exact wpAny_isNot_other rfl (by intro z; cases z) (fin_bl I q rfl)
  | _ => cases x <;> cases e
end
end Rf
end

section
set_option maxRecDepth 100000
set_option maxHeartbeats 4000000
set_option autoImplicit false
namespace Rf
open PySem PySem.Spec PyProof.Rows L2
/-! ## in -/
section
variable {K : PySem.W.Frag} {B : Addr → Prop} {L : List Addr} {S : Sto} {H : Hp} {Q : VK}
theorem Rp.flat {d : D} {v : V} (r : Rp K B L H d v) (f : flatD d = true) : flatV v = true := by
  cases r <;> first | rfl | cases f
theorem Rps.flat : ∀ {ds : List D} {vs : List V}, Rps K B L H ds vs → ds.all flatD = true → vs.all flatV = true
  | _, _, .nil, _ => rfl
  | _, _, .cons a r, h => by
    rw [List.all_cons, Bool.and_eq_true] at h ⊢
    exact ⟨a.flat h.1, Rps.flat r h.2⟩
theorem flatEq_eq {x y : D} {v w : V} (rx : Rp K B L H x v) (ry : Rp K B L H y w) (fx : flatD x = true) (fy : flatD y = true) : eqV v w = flatEq x y := by
  cases rx <;> cases ry <;> first | rfl | (simp [flatD] at fx; done) | (simp [flatD] at fy; done)
theorem Rps.inV_eq {x : D} {v : V} (rx : Rp K B L H x v) (fx : flatD x = true) : ∀ {ds : List D} {vs : List V}, Rps K B L H ds vs → ds.all flatD = true → inV v vs = ds.any fun y => flatEq y x
  | _, _, .nil, _ => rfl
  | _, _, .cons (d := d) (v := u) a r, h => by
    rw [List.all_cons, Bool.and_eq_true] at h
    have ih := Rps.inV_eq rx fx r h.2
    unfold inV at ih ⊢
    rw [List.any_cons, List.any_cons, ih, flatEq_eq a rx h.1 fx]
end
section
variable {X : Cx}
theorem oc_in : OpR X (compareOp .In) (rCp X.K .inn) := by
  rintro pins s σ H v w ov ow Q I rv rw ⟨B, L, S, x, y, b, wd, rx, ry, e, q⟩
  obtain ⟨xs, e1, e⟩ := Option.bind_eq_some_iff.mp (show (seqOf S y).bind _ = some b from e)
  split at e
  · rename_i hf
    rw [Bool.and_eq_true] at hf
    cases e
    obtain ⟨a, vs, rfl, hs, qs⟩ := ry.sq wd e1
    refine op_in_seq pins s σ H _ _ ov ow Q I rv rw ⟨a, vs, rfl, hs, rx.flat hf.1, qs.flat hf.2, ?_⟩
    rw [qs.inV_eq rx hf.1 hf.2]
    exact q
  · cases e
theorem oc_notin : OpR X (compareOp .NotIn) (rCp X.K .notin) := by
  rintro pins s σ H v w ov ow Q I rv rw ⟨B, L, S, x, y, b, wd, rx, ry, e, q⟩
  obtain ⟨c, e0, rfl⟩ := Option.map_eq_some_iff.mp (show (inD S x y).map (fun k => !k) = some b from e)
  obtain ⟨xs, e1, e⟩ := Option.bind_eq_some_iff.mp (show (seqOf S y).bind _ = some c from e0)
  split at e
  · rename_i hf
    rw [Bool.and_eq_true] at hf
    cases e
    obtain ⟨a, vs, rfl, hs, qs⟩ := ry.sq wd e1
    refine op_notIn_seq pins s σ H _ _ ov ow Q I rv rw ⟨a, vs, rfl, hs, rx.flat hf.1, qs.flat hf.2, ?_⟩
    rw [qs.inV_eq rx hf.1 hf.2]
    exact q
  · cases e
end

/-! ## subscripts, slices -/
section
variable {X : Cx}
theorem atI_map {K : PySem.W.Frag} {B : Addr → Prop} {L : List Addr} {H : Hp} {xs : List D} {vs : List V} {k : Int} {d : D} (r : Rps K B L H xs vs) (e : atI xs k = some d) : ∃ v, atI vs k = some v ∧ Rp K B L H d v := by
  unfold atI at e ⊢
  obtain ⟨j, e1, e2⟩ := Option.bind_eq_some_iff.mp e
  rw [← r.length, e1]
  exact r.get e2
def rIdx (K : PySem.W.Frag) : R2 := fun v w H Q => ∃ B L S x y d, Wd K B L S H ∧ Rp K B L H x v ∧ Rp K B L H y w ∧ idxD S x y = some d ∧ PV K B L S H d Q
theorem ix_any : IxR X (rIdx X.K) := by
  rintro ev es pins s σ H v w ov ow Q I rv rw ⟨B, L, S, x, y, d, wd, rx, ry, e, q⟩ hsub
  cases y with
  | int k =>
    obtain ⟨xs, e1, e2⟩ := Option.bind_eq_some_iff.mp (show (seqOf S x).bind _ = some d from e)
    obtain ⟨a, vs, rfl, hs, qs⟩ := rx.sq wd e1
    obtain ⟨u, e3, ru⟩ := atI_map qs e2
    cases ry
    refine ix_seq ev es pins s σ H _ _ ov ow Q I rv rw ?_ hsub
    rcases hs with hs | hs
    · exact .inl ⟨a, vs, k, u, rfl, rfl, hs, e3, q.here wd ru⟩
    · exact .inr (.inl ⟨a, vs, k, u, rfl, rfl, hs, e3, q.here wd ru⟩)
  | _ => cases e
def rSl (K : PySem.W.Frag) : V → Option Int → Option Int → Hp → VK → Prop := fun v lo hi H Q => ∃ B L S x d, Wd K B L S H ∧ Rp K B L H x v ∧ slD S x lo hi = some d ∧ PF K B L S H d Q
theorem cut_ok {K : PySem.W.Frag} {B : Addr → Prop} {L : List Addr} {H : Hp} {xs : List D} {vs : List V} {lo hi : Option Int} (r : Rps K B L H xs vs) : Rps K B L H (cutD xs lo hi) (cutV vs lo hi) := by
  unfold cutD cutV
  rw [r.length]
  exact (r.drop _).take _
theorem cut_whole {xs : List D} {lo hi : Option Int} (h : HT.sIx xs.length 0 lo = 0 ∧ HT.sIx xs.length xs.length hi = xs.length) : cutD xs lo hi = xs := by
  unfold cutD
  rw [h.1, h.2]
  simp
theorem sl_any : SlR X (rSl X.K) := by
  rintro pins s σ H v ov vl vu lo hi sl Q I rv hs pl pu ⟨B, L, S, x, d, wd, rx, e, q⟩
  have lists : ∀ xs, lstOf S x = some xs → d = .lst (cutD xs lo hi) → ∃ T id, typeLookup (.type T) "__getitem__" = pure (some (.builtin id)) ∧ s.TypeIs ov T ∧ wpAny (model X.prog X.w) X.A (getItem ov (.ref sl)) (EP X pins σ Q) X.xe s := fun xs e1 e2 => by
    obtain ⟨a, vs, rfl, hl, qs⟩ := rx.sqL wd e1
    subst e2
    exact sl_list pins s σ H _ ov vl vu lo hi sl Q I rv hs pl pu ⟨a, vs, rfl, hl, fun p hp => q.lst wd (cut_ok qs) hp⟩
  cases x with
  | tup xs =>
    cases e
    obtain ⟨a, vs, rfl, ha, qa⟩ := rx.sqT
    refine sl_tupA pins s σ H _ ov vl vu lo hi sl Q I rv hs pl pu ⟨a, vs, rfl, ha, fun z => ?_, fun _ p hp => q.tup wd (cut_ok qa) hp⟩
    rw [← qa.length] at z
    rw [cut_whole z] at q
    exact q.here wd (.tup ha qa) fun _ z => nomatch z
  | lst xs => cases e; exact lists xs rfl rfl
  | fro xs => cases e; exact lists xs rfl rfl
  | loc n =>
    obtain ⟨xs, e1, e2⟩ := Option.map_eq_some_iff.mp (show (lstOf S (.loc n)).map _ = some d from e)
    exact lists xs e1 e2.symm
  | _ => cases e
end

/-! ## built-ins -/
def rPr (K : PySem.W.Frag) (p : Pr) : List V → Hp → VK → Prop := fun vs H Q => ∃ B L S ds d, Wd K B L S H ∧ Rps K B L H ds vs ∧ prD S p ds = some d ∧ PF K B L S H d Q
section
variable {K : PySem.W.Frag} {B : Addr → Prop} {L : List Addr} {S : Sto} {H : Hp} {Q : VK}
theorem Rps.one {d : D} {vs : List V} (r : Rps K B L H [d] vs) : ∃ v, vs = [v] ∧ Rp K B L H d v := by
  cases r with
  | cons a r => cases r; exact ⟨_, rfl, a⟩
theorem Rps.two {d e : D} {vs : List V} (r : Rps K B L H [d, e] vs) : ∃ v w, vs = [v, w] ∧ Rp K B L H d v ∧ Rp K B L H e w := by
  cases r with
  | cons a r =>
    cases r with
    | cons b r => cases r; exact ⟨_, _, rfl, a, b⟩
theorem Rps.bls : ∀ {ds : List D} {vs : List V} {bs : List Bool}, Rps K B L H ds vs → allBl ds = some bs → vs = bs.map V.bl
  | [], _, _, .nil, e => by cases e; rfl
  | d :: ds, _, _, .cons a r, e => by
    cases d with
    | bl b =>
      obtain ⟨cs, e1, e2⟩ := Option.map_eq_some_iff.mp (show (allBl ds).map (fun bs => b :: bs) = _ from e)
      subst e2
      cases a
      rw [Rps.bls r e1]; rfl
    | _ => cases e
theorem Rps.ints : ∀ {ds : List D} {vs : List V} {bs : List Int}, Rps K B L H ds vs → allInt ds = some bs → vs = bs.map V.int
  | [], _, _, .nil, e => by cases e; rfl
  | d :: ds, _, _, .cons a r, e => by
    cases d with
    | int b =>
      obtain ⟨cs, e1, e2⟩ := Option.map_eq_some_iff.mp (show (allInt ds).map (fun bs => b :: bs) = _ from e)
      subst e2
      cases a
      rw [Rps.ints r e1]; rfl
    | _ => cases e
theorem rps_ints : ∀ ns : List Int, Rps K B L H (ns.map .int) (ns.map V.int)
  | [] => .nil
  | n :: ns => .cons (.int n) (rps_ints ns)
theorem minL_mem : ∀ (ns : List Int), 0 < ns.length → minL ns ∈ ns
  | [x], _ => by simp [minL]
  | x :: y :: r, _ => by
    have ih := minL_mem (y :: r) (by simp)
    show min x (minL (y :: r)) ∈ _
    rcases Int.le_total x (minL (y :: r)) with h | h
    · rw [Int.min_eq_left h]; simp
    · rw [Int.min_eq_right h]; exact List.mem_cons_of_mem _ ih
theorem minL_le : ∀ (ns : List Int), ∀ x ∈ ns, minL ns ≤ x
  | [x], y, h => by simp at h; rw [h]; simp [minL]
  | x :: y :: r, z, h => by
    show min x (minL (y :: r)) ≤ z
    rcases List.mem_cons.mp h with h | h
    · rw [h]; exact Int.min_le_left _ _
    · exact Int.le_trans (Int.min_le_right _ _) (minL_le (y :: r) z h)
theorem maxL_mem : ∀ (ns : List Int), 0 < ns.length → maxL ns ∈ ns
  | [x], _ => by simp [maxL]
  | x :: y :: r, _ => by
    have ih := maxL_mem (y :: r) (by simp)
    show max x (maxL (y :: r)) ∈ _
    rcases Int.le_total x (maxL (y :: r)) with h | h
    · rw [Int.max_eq_right h]; exact List.mem_cons_of_mem _ ih
    · rw [Int.max_eq_left h]; simp
theorem maxL_le : ∀ (ns : List Int), ∀ x ∈ ns, x ≤ maxL ns
  | [x], y, h => by simp at h; rw [h]; simp [maxL]
  | x :: y :: r, z, h => by
    show z ≤ max x (maxL (y :: r))
    rcases List.mem_cons.mp h with h | h
    · rw [h]; exact Int.le_max_left _ _
    · exact Int.le_trans (maxL_le (y :: r) z h) (Int.le_max_right _ _)
theorem insI_perm (x : Int) : ∀ ys : List Int, (insI x ys).Perm (x :: ys)
  | [] => .refl _
  | y :: ys => by
    unfold insI
    split
    · exact .refl _
    · exact ((insI_perm x ys).cons y).trans (.swap x y ys)
theorem sortI_perm : ∀ ys : List Int, (sortI ys).Perm ys
  | [] => .refl _
  | y :: ys => (insI_perm y (sortI ys)).trans ((sortI_perm ys).cons y)
theorem insI_sorted (x : Int) : ∀ ys : List Int, ys.Pairwise (· ≤ ·) → (insI x ys).Pairwise (· ≤ ·)
  | [], _ => by simp [insI]
  | y :: ys, h => by
    unfold insI
    rw [List.pairwise_cons] at h
    split
    · rename_i hxy
      refine List.pairwise_cons.mpr ⟨fun z hz => ?_, List.pairwise_cons.mpr h⟩
      rcases List.mem_cons.mp hz with e | hz
      · rw [e]; exact hxy
      · exact Int.le_trans hxy (h.1 z hz)
    · rename_i hxy
      refine List.pairwise_cons.mpr ⟨fun z hz => ?_, insI_sorted x ys h.2⟩
      rcases List.mem_cons.mp ((insI_perm x ys).mem_iff.mp hz) with e | hz
      · rw [e]; omega
      · exact h.1 z hz
theorem sortI_sorted : ∀ ys : List Int, (sortI ys).Pairwise (· ≤ ·)
  | [] => .nil
  | y :: ys => insI_sorted y _ (sortI_sorted ys)
theorem sorted_one : ∀ {a b : List Int}, a.Perm b → a.Pairwise (· ≤ ·) → b.Pairwise (· ≤ ·) → a = b
  | [], b, p, _, _ => p.symm.eq_nil.symm
  | x :: a, [], p, _, _ => absurd p.eq_nil (by simp)
  | x :: a, y :: b, p, ha, hb => by
    have ha' := List.pairwise_cons.mp ha
    have hb' := List.pairwise_cons.mp hb
    have h1 : x = y := by
      have m1 : x ∈ y :: b := p.mem_iff.mp List.mem_cons_self
      have m2 : y ∈ x :: a := p.mem_iff.mpr List.mem_cons_self
      rcases List.mem_cons.mp m1 with e | m1
      · exact e
      · rcases List.mem_cons.mp m2 with e | m2
        · exact e.symm
        · exact Int.le_antisymm (ha'.1 y m2) (hb'.1 x m1)
    subst h1
    rw [sorted_one (List.Perm.cons_inv p) ha'.2 hb'.2]
end
section
variable {X : Cx}
theorem pr_len : CallR X (.builtin "len") (rPr X.K .len) := by
  rintro pins s σ H vs us Q I r ⟨B, L, S, ds, d, wd, rd, e, q⟩
  match ds, e, rd with
  | [a], e, rd =>
    obtain ⟨xs, e1, rfl⟩ := Option.map_eq_some_iff.mp (show (seqOf S a).map _ = some d from e)
    obtain ⟨v, rfl, rv⟩ := rd.one
    obtain ⟨p, ws, rfl, hs, qs⟩ := rv.sq wd e1
    have hl := qs.length
    refine call_len pins s σ H _ us Q I r ⟨.ref p, xs.length, rfl, ?_, q.here wd (.int _) fun _ z => nomatch z⟩
    rcases hs with hs | hs
    · exact .inl ⟨ws, hs, hl⟩
    · exact .inr ⟨ws, hs, hl⟩
theorem pr_int : CallR X (.type "int") (rPr X.K .int) := by
  rintro pins s σ H vs us Q I r ⟨B, L, S, ds, d, wd, rd, e, q⟩
  match ds, e, rd with
  | [.int i], e, rd =>
    cases e
    obtain ⟨v, rfl, rv⟩ := rd.one
    cases rv
    exact call_int1 pins s σ H _ us Q I r (.inl ⟨i, rfl, q.here wd (.int _) fun _ z => nomatch z⟩)
  | [.bl b], e, rd =>
    cases e
    obtain ⟨v, rfl, rv⟩ := rd.one
    cases rv
    exact call_int1 pins s σ H _ us Q I r (.inr ⟨b, rfl, q.here wd (.int _) fun _ z => nomatch z⟩)
theorem pr_abs : CallR X (.builtin "abs") (rPr X.K .abs) := by
  rintro pins s σ H vs us Q I r ⟨B, L, S, ds, d, wd, rd, e, q⟩
  match ds, e, rd with
  | [.int i], e, rd =>
    cases e
    obtain ⟨v, rfl, rv⟩ := rd.one
    cases rv
    exact call_abs pins s σ H _ us Q I r ⟨i, rfl, q.here wd (.int _) fun _ z => nomatch z⟩
theorem pr_min2 (hc : X.calm = true) : CallR X (.builtin "min") (rPr X.K .min2) := by
  rintro pins s σ H vs us Q I r ⟨B, L, S, ds, d, wd, rd, e, q⟩
  match ds, e, rd with
  | [.int i, .int j], e, rd =>
    cases e
    obtain ⟨v, w, rfl, rv, rw⟩ := rd.two
    cases rv; cases rw
    exact call_min2 hc pins s σ H _ us Q I r ⟨i, j, rfl, q.here wd (.int _) fun _ z => nomatch z⟩
theorem pr_max2 (hc : X.calm = true) : CallR X (.builtin "max") (rPr X.K .max2) := by
  rintro pins s σ H vs us Q I r ⟨B, L, S, ds, d, wd, rd, e, q⟩
  match ds, e, rd with
  | [.int i, .int j], e, rd =>
    cases e
    obtain ⟨v, w, rfl, rv, rw⟩ := rd.two
    cases rv; cases rw
    exact call_max2 hc pins s σ H _ us Q I r ⟨i, j, rfl, q.here wd (.int _) fun _ z => nomatch z⟩
theorem pr_divmod : CallR X (.builtin "divmod") (rPr X.K .divmod) := by
  rintro pins s σ H vs us Q I r ⟨B, L, S, ds, d, wd, rd, e, q⟩
  match ds, e, rd with
  | [.int i, .int j], e, rd =>
    simp only [prD] at e
    split at e
    · rename_i hj
      cases e
      obtain ⟨v, w, rfl, rv, rw⟩ := rd.two
      cases rv; cases rw
      exact call_divmod pins s σ H _ us Q I r ⟨i, j, rfl, hj, fun p hp => q.tup wd (.cons (.int _) (.cons (.int _) .nil)) hp⟩
    · cases e
theorem pr_gcd : CallR X (.builtin "math.gcd") (rPr X.K .gcd) := by
  rintro pins s σ H vs us Q I r ⟨B, L, S, ds, d, wd, rd, e, q⟩
  match ds, e, rd with
  | [.int i, .int j], e, rd =>
    cases e
    obtain ⟨v, w, rfl, rv, rw⟩ := rd.two
    cases rv; cases rw
    exact cr_gcd pins s σ H _ us Q I r ⟨i, j, rfl, q.here wd (.int _) fun _ z => nomatch z⟩
end
section
variable {prog : Program} {w : World} {A : Around} {E : Value → Shared → Prop} {s : Shared} {l : Addr} {its : List Value} {ns : List Int} {Q : Value → Shared → Prop}
theorem iter_intTup {xs : Array (Int × Tok)} (hl : s.heap.IsTuple l (intItems xs))
    (h : ∀ s₂ : Shared, s₂ = { s with heap := s.heap.push { cls := .type "tuple_iterator", data := .fields #[.ref l, .int 0 0] } } →
      (s₂.heap.IsTupleIter s.heap.objs.size l 0 ∧ s₂.heap.IsTuple l (intItems xs)) → (∀ b ∈ [s.heap.objs.size, l], b < s₂.heap.objs.size) → l ≠ s.heap.objs.size → Q (.ref s.heap.objs.size) s₂) :
    wpAny (model prog w) A (pyIter (.ref l)) Q E s := by
  have hlt : l < s.heap.objs.size := by obtain ⟨_, e, _⟩ := id hl; exact Heap.lt_size e
  refine wpAny_pyIter_tuple hl (h _ rfl ⟨⟨_, Heap.get?_push_size _ rfl, rfl, rfl⟩, hl.push _⟩ (fun b hb => ?_) (Nat.ne_of_lt hlt))
  show b < (s.heap.push _).objs.size
  rw [Heap.size_push]
  rcases List.mem_cons.mp hb with rfl | hb
  · exact Nat.lt_succ_self _
  · rcases List.mem_cons.mp hb with rfl | hb
    · exact Nat.lt_succ_of_lt hlt
    · cases hb
theorem sumT_raw (hh : A.handled = none) (hl : s.heap.IsTuple l its.toArray) (hi : IntsAre its ns)
    (h : ∀ h' tk t', (∀ b o, s.heap.get? b = some o → h'.get? b = some o) → Q (.int ns.sum t') { s with heap := h', toks := tk }) : wpAny (model prog w) A (call (.builtin "sum") [.ref l]) Q E s := by
  obtain ⟨xs, e⟩ := hi.allInts.items
  have hn : numsOf (intItems xs).toList = ns := by rw [← e]; exact hi.numsOf
  rw [nums_intItems] at hn
  rw [e] at hl
  refine call_sum_walkG (iter_intTup hl fun s₂ e st hfp hlI => ?_)
  subst e
  refine ⟨_, _, _, _, _, _, numAt xs, rfl, Walks.tuple (A := A.in1) hh _ l hlI (intItems xs), st, hfp, (fun _ _ => intItems_at), fun h' tk t' hk => ?_⟩
  have := h h' tk t' fun b o eo => hk b o (fun hm => by
    rcases List.mem_cons.mp hm with e1 | hm
    · exact absurd (e1 ▸ Heap.lt_size eo) (Nat.lt_irrefl _)
    · cases hm) (Heap.get?_push_of_some _ eo)
  have es : preSum (numAt xs) (intItems xs).size = ns.sum := by
    rw [show (intItems xs).size = xs.size by simp [intItems], preSum_eq, List.take_of_length_le (by simp), hn]
  rw [es]
  exact this
theorem minT_intTup {xs : Array (Int × Tok)} (hh : A.handled = none) (hl : s.heap.IsTuple l (intItems xs)) (hne : 0 < xs.size)
    (h : ∀ v h' tk, (intItems xs)[argBest (fun i j => decide (numAt xs i < numAt xs j)) (xs.size - 1)]? = some v → (∀ b o, s.heap.get? b = some o → h'.get? b = some o) → Q v { s with heap := h', toks := tk }) :
    wpAny (model prog w) A (call (.builtin "min") [.ref l]) Q E s := by
  refine call_min_walk (iter_intTup hl fun s₂ e st hfp hlI => ?_)
  subst e
  refine ⟨_, _, _, _, _, _, _, rfl, Walks.tuple (A := A.in1) hh _ l hlI (intItems xs), st, hfp, by simpa [intItems] using hne, CmpOf.ints_lt (numAt xs) (fun _ _ => intItems_at), fun v h' tk hP hk => ?_⟩
  exact h v h' tk (by simpa [intItems] using hP) fun b o eo => hk b o (fun hm => by
    rcases List.mem_cons.mp hm with e1 | hm
    · exact absurd (e1 ▸ Heap.lt_size eo) (Nat.lt_irrefl _)
    · cases hm) (Heap.get?_push_of_some _ eo)
theorem minT_raw (hh : A.handled = none) (hl : s.heap.IsTuple l its.toArray) (hi : IntsAre its ns) (hne : 0 < ns.length)
    (h : ∀ h' tk M t', (∀ b o, s.heap.get? b = some o → h'.get? b = some o) → M ∈ ns → (∀ a, a ∈ ns → M ≤ a) → Q (.int M t') { s with heap := h', toks := tk }) : wpAny (model prog w) A (call (.builtin "min") [.ref l]) Q E s := by
  obtain ⟨xs, e⟩ := hi.allInts.items
  have hn : numsOf (intItems xs).toList = ns := by rw [← e]; exact hi.numsOf
  rw [nums_intItems] at hn
  subst hn
  rw [e] at hl
  have hsz : 0 < xs.size := by simpa using hne
  refine minT_intTup hh hl hsz fun v h' tk hv hk => ?_
  obtain ⟨t, rfl⟩ := intItems_at hv
  obtain ⟨h1, h2⟩ := argBest_lt (numAt xs) (xs.size - 1)
  refine h h' tk _ t hk ?_ fun a ha => ?_
  · rw [numAt_eq]; exact PySem.getD_mem (by rw [List.length_map, Array.length_toList]; omega)
  · obtain ⟨j, hj, rfl⟩ := mem_getD ha
    rw [List.length_map, Array.length_toList] at hj
    rw [← numAt_eq]; exact h2 j (by omega)
end
section
variable {X : Cx}
def rSumT (K : PySem.W.Frag) : List V → Hp → VK → Prop := fun vs H Q => ∃ (a : Addr) (ns : List Int), vs = [V.ref a] ∧ SqT K H a (ns.map V.int) ∧ Q (.int ns.sum) H
theorem cr_sumT (hc : X.calm = true) : CallR X (.builtin "sum") (rSumT X.K) := by
  intro pins s σ H vs us Q I r h
  obtain ⟨a, ns, rfl, hs, q⟩ := h
  obtain ⟨its, rv, hl, _⟩ := I.tuple hs
  rw [Vals.ref1 r]
  exact sumT_raw (I.ok.hd hc) hl rv.ints fun h' tk t' hk => ⟨.int _, H, I.kept hk, ⟨_, rfl⟩, q⟩
def rMinT (K : PySem.W.Frag) : List V → Hp → VK → Prop := fun vs H Q => ∃ (a : Addr) (ns : List Int), vs = [V.ref a] ∧ SqT K H a (ns.map V.int) ∧ 0 < ns.length ∧ ∀ m, m ∈ ns → (∀ y, y ∈ ns → m ≤ y) → Q (.int m) H
theorem cr_minT (hc : X.calm = true) : CallR X (.builtin "min") (rMinT X.K) := by
  intro pins s σ H vs us Q I r h
  obtain ⟨a, ns, rfl, hs, hne, q⟩ := h
  obtain ⟨its, rv, hl, _⟩ := I.tuple hs
  rw [Vals.ref1 r]
  exact minT_raw (I.ok.hd hc) hl rv.ints hne fun h' tk m t' hk h1 h2 => ⟨.int _, H, I.kept hk, ⟨_, rfl⟩, q m h1 h2⟩
theorem pr_all (hc : X.calm = true) : CallR X (.builtin "all") (rPr X.K .all) := by
  rintro pins s σ H vs us Q I r ⟨B, L, S, ds, d, wd, rd, e, q⟩
  match ds, e, rd with
  | [a], e, rd =>
    obtain ⟨xs, e1, e2⟩ := Option.bind_eq_some_iff.mp (show (lstOf S a).bind _ = some d from e)
    obtain ⟨bs, e3, rfl⟩ := Option.map_eq_some_iff.mp e2
    obtain ⟨v, rfl, rv⟩ := rd.one
    obtain ⟨p, ws, rfl, hs, qs⟩ := rv.sqL wd e1
    have eb := qs.bls e3
    subst eb
    exact cr_all hc pins s σ H _ us Q I r ⟨p, bs, rfl, hs, q.here wd (.bl _) fun _ z => nomatch z⟩
theorem pr_any (hc : X.calm = true) : CallR X (.builtin "any") (rPr X.K .any) := by
  rintro pins s σ H vs us Q I r ⟨B, L, S, ds, d, wd, rd, e, q⟩
  match ds, e, rd with
  | [a], e, rd =>
    obtain ⟨xs, e1, e2⟩ := Option.bind_eq_some_iff.mp (show (lstOf S a).bind _ = some d from e)
    obtain ⟨bs, e3, rfl⟩ := Option.map_eq_some_iff.mp e2
    obtain ⟨v, rfl, rv⟩ := rd.one
    obtain ⟨p, ws, rfl, hs, qs⟩ := rv.sqL wd e1
    have eb := qs.bls e3
    subst eb
    exact cr_any hc pins s σ H _ us Q I r ⟨p, bs, rfl, hs, q.here wd (.bl _) fun _ z => nomatch z⟩
theorem pr_sum (hc : X.calm = true) : CallR X (.builtin "sum") (rPr X.K .sum) := by
  rintro pins s σ H vs us Q I r ⟨B, L, S, ds, d, wd, rd, e, q⟩
  match ds, e, rd with
  | [a], e, rd =>
    obtain ⟨xs, e1, e2⟩ := Option.bind_eq_some_iff.mp (show (seqOf S a).bind _ = some d from e)
    obtain ⟨bs, e3, rfl⟩ := Option.map_eq_some_iff.mp e2
    obtain ⟨v, rfl, rv⟩ := rd.one
    obtain ⟨p, ws, rfl, hs, qs⟩ := rv.sq wd e1
    have eb := qs.ints e3
    subst eb
    rcases hs with hs | hs
    · exact cr_sum hc pins s σ H _ us Q I r ⟨p, bs, rfl, hs, q.here wd (.int _) fun _ z => nomatch z⟩
    · exact cr_sumT hc pins s σ H _ us Q I r ⟨p, bs, rfl, hs, q.here wd (.int _) fun _ z => nomatch z⟩
theorem pr_tup : CallR X (.type "tuple") (rPr X.K .tup) := by
  rintro pins s σ H vs us Q I r ⟨B, L, S, ds, d, wd, rd, e, q⟩
  match ds, e, rd with
  | [a], e, rd =>
    obtain ⟨xs, e1, rfl⟩ := Option.map_eq_some_iff.mp (show (seqOf S a).map _ = some d from e)
    obtain ⟨v, rfl, rv⟩ := rd.one
    obtain ⟨p, ws, rfl, hs, qs⟩ := rv.sq wd e1
    rcases hs with hs | hs
    · exact call_tuple_of pins s σ H _ us Q I r ⟨p, ws, rfl, .inl ⟨hs, fun l hl => q.tup wd qs hl⟩⟩
    · exact call_tuple_of pins s σ H _ us Q I r ⟨p, ws, rfl, .inr ⟨hs, q.here wd (.tup hs qs) fun _ z => nomatch z⟩⟩
theorem pr_lst : CallR X (.type "list") (rPr X.K .lst) := by
  rintro pins s σ H vs us Q I r ⟨B, L, S, ds, d, wd, rd, e, q⟩
  match ds, e, rd with
  | [a], e, rd =>
    obtain ⟨xs, e1, rfl⟩ := Option.map_eq_some_iff.mp (show (seqOf S a).map _ = some d from e)
    obtain ⟨v, rfl, rv⟩ := rd.one
    obtain ⟨p, ws, rfl, hs, qs⟩ := rv.sq wd e1
    exact call_list_of pins s σ H _ us Q I r ⟨p, ws, rfl, hs, fun l hl => q.lst wd qs hl⟩
theorem pr_min1 (hc : X.calm = true) : CallR X (.builtin "min") (rPr X.K .min1) := by
  rintro pins s σ H vs us Q I r ⟨B, L, S, ds, d, wd, rd, e, q⟩
  match ds, e, rd with
  | [a], e, rd =>
    obtain ⟨xs, e1, e2⟩ := Option.bind_eq_some_iff.mp (show (seqOf S a).bind _ = some d from e)
    obtain ⟨bs, e3, e4⟩ := Option.bind_eq_some_iff.mp e2
    split at e4
    · rename_i hl
      cases e4
      obtain ⟨v, rfl, rv⟩ := rd.one
      obtain ⟨p, ws, rfl, hs, qs⟩ := rv.sq wd e1
      have eb := qs.ints e3
      subst eb
      have fin : ∀ m, m ∈ bs → (∀ y, y ∈ bs → m ≤ y) → Q (.int m) H := fun m hm hle => by
        have e5 : m = minL bs := Int.le_antisymm (hle _ (minL_mem bs hl)) (minL_le bs m hm)
        rw [e5]
        exact q.here wd (.int _) fun _ z => nomatch z
      rcases hs with hs | hs
      · exact cr_min hc pins s σ H _ us Q I r ⟨p, bs, rfl, hs, hl, fin⟩
      · exact cr_minT hc pins s σ H _ us Q I r ⟨p, bs, rfl, hs, hl, fin⟩
    · cases e4
theorem pr_max1 (hc : X.calm = true) : CallR X (.builtin "max") (rPr X.K .max1) := by
  rintro pins s σ H vs us Q I r ⟨B, L, S, ds, d, wd, rd, e, q⟩
  match ds, e, rd with
  | [a], e, rd =>
    obtain ⟨xs, e1, e2⟩ := Option.bind_eq_some_iff.mp (show (lstOf S a).bind _ = some d from e)
    obtain ⟨bs, e3, e4⟩ := Option.bind_eq_some_iff.mp e2
    split at e4
    · rename_i hl
      cases e4
      obtain ⟨v, rfl, rv⟩ := rd.one
      obtain ⟨p, ws, rfl, hs, qs⟩ := rv.sqL wd e1
      have eb := qs.ints e3
      subst eb
      refine cr_max hc pins s σ H _ us Q I r ⟨p, bs, rfl, hs, hl, fun m hm hle => ?_⟩
      have e5 : m = maxL bs := Int.le_antisymm (maxL_le bs m hm) (hle _ (maxL_mem bs hl))
      rw [e5]
      exact q.here wd (.int _) fun _ z => nomatch z
    · cases e4
theorem pr_sorted : CallR X (.builtin "sorted") (rPr X.K .sorted) := by
  rintro pins s σ H vs us Q I r ⟨B, L, S, ds, d, wd, rd, e, q⟩
  match ds, e, rd with
  | [a], e, rd =>
    obtain ⟨xs, e1, e2⟩ := Option.bind_eq_some_iff.mp (show (lstOf S a).bind _ = some d from e)
    obtain ⟨bs, e3, rfl⟩ := Option.map_eq_some_iff.mp e2
    obtain ⟨v, rfl, rv⟩ := rd.one
    obtain ⟨p, ws, rfl, hs, qs⟩ := rv.sqL wd e1
    have eb := qs.ints e3
    subst eb
    refine cr_sortedI pins s σ H _ us Q I r ⟨p, bs, rfl, hs, fun ns' p' pm sd hp => ?_⟩
    have e5 : ns' = sortI bs := sorted_one (pm.trans (sortI_perm bs).symm) sd (sortI_sorted bs)
    rw [e5]
    exact q.lst wd (rps_ints _) hp

theorem shS_res {S : Sto} {a : D} {p : PyData} (h : shS S a = some p) : ∃ d, res S a = some d ∧ pyD d = some p ∧ (∃ xs, p = .list xs ∨ p = .tuple xs) := by
  cases a with
  | lst xs =>
    obtain ⟨ps, e, rfl⟩ := Option.map_eq_some_iff.mp (show (pyDs xs).map _ = some p from h)
    exact ⟨_, rfl, by simp only [pyD, e, Option.map_some], ps, .inl rfl⟩
  | tup xs =>
    obtain ⟨ps, e, rfl⟩ := Option.map_eq_some_iff.mp (show (pyDs xs).map _ = some p from h)
    exact ⟨_, rfl, by simp only [pyD, e, Option.map_some], ps, .inr rfl⟩
  | loc n =>
    obtain ⟨xs, e1, h⟩ := Option.bind_eq_some_iff.mp (show (S[n]?).bind _ = some p from h)
    obtain ⟨ps, e, rfl⟩ := Option.map_eq_some_iff.mp h
    exact ⟨.lst xs, by simp only [res, e1, Option.map_some], by simp only [pyD, e, Option.map_some], ps, .inl rfl⟩
  | _ => cases h
theorem pr_repr (gA : X.A.guards = some []) (hu : X.A.units + 70 < cLine) : CallR X (.builtin "repr") (rPr X.K .repr) := by
  rintro pins s σ H vs us Q I r ⟨B, L, S, ds, d, wd, rd, e, q⟩
  match ds, e, rd with
  | [a], e, rd =>
    obtain ⟨p, e1, e2⟩ := Option.bind_eq_some_iff.mp (show (shS S a).bind _ = some d from e)
    split at e2
    · rename_i ok
      cases e2
      unfold shOk at ok
      rw [Bool.and_eq_true, Bool.and_eq_true, Bool.and_eq_true, decide_eq_true_eq, decide_eq_true_eq, Bool.not_eq_true'] at ok
      obtain ⟨k1, k2, k3, k4⟩ := ok
      obtain ⟨d0, f1, f2, xs, hx⟩ := shS_res e1
      obtain ⟨v, rfl, rv⟩ := rd.one
      cases r with
      | cons r0 r1 =>
        cases r1
        have dp := rv.res wd f1 f2
        obtain ⟨as, rr⟩ := Dp.reads I p v _ dp r0
        have fin : ∀ (h' : Heap) (u : Tok) (tk : Nat), (∀ b o, s.heap.get? b = some o → h'.get? b = some o) → EP X pins σ Q (.str (PyData.shown p) u) { s with heap := h', toks := tk } := fun h' u tk hk =>
          ⟨.str (PyData.shown p), H, I.kept hk, ⟨u, rfl⟩, q.here wd (.str _) fun _ z => nomatch z⟩
        rcases hx with rfl | rfl
        · cases rr with
          | list h1 h2 h3 h4 => exact repr_of_reads' (.list h1 h2 h3 h4) k1 (fun z => by rw [k2] at z; cases z) gA (by omega) (fun _ _ z => z) fin k4
        · cases rr with
          | tuple h1 h2 h3 h4 => exact repr_of_reads' (.tuple h1 h2 h3 h4) k1 (fun z => by rw [k2] at z; cases z) gA (by omega) (fun _ _ z => z) fin k4
    · cases e2

/-! ## isinstance -/
def tyS : Ty → String
  | .int => "int" | .bool => "bool" | .tuple => "tuple" | .str => "str" | .list => "list"
def rIs (K : PySem.W.Frag) (t : Ty) : List V → Hp → VK → Prop := fun vs H Q => ∃ B L S x v, Wd K B L S H ∧ Rp K B L H x v ∧ vs = [v, .ty (tyS t)] ∧ Q (.bl (isiD x t)) H
/-- the type of a value -/
def tyD : D → String
  | .non => "NoneType" | .bl _ => "bool" | .int _ => "int" | .str _ => "str" | .tup _ => "tuple" | .lst _ => "list" | .fro _ => "list" | .loc _ => "list" | .dct => "dict"
theorem Rp.tyX {K : PySem.W.Frag} {B : Addr → Prop} {L : List Addr} {S : Sto} {H : Hp} {d : D} {v : V} (w : Wd K B L S H) (r : Rp K B L H d v) : TyX K H v (.type (tyD d)) := by
  cases r with
  | non => exact .base .non
  | bl b => exact .base (.bl b)
  | int i => exact .base (.int i)
  | str x => exact .base (.str x)
  | tup h q =>
    rcases h with (h | ⟨o, h⟩) | ⟨o, its, n, h1, h2, _⟩
    · exact .base (.tup h)
    · exact .fTuple h
    · exact .kTuple h1 h2
  | lst h n q => exact .base (.lst h)
  | fro h q =>
    rcases h with ⟨o, h⟩ | ⟨h, _⟩ | ⟨o, its, n, h1, h2, _⟩
    · exact .base (.frz h)
    · exact .base (.lst h)
    · exact .kList h1 h2
  | loc h =>
    obtain ⟨vs, q⟩ := w.lists _ (w.sub _ (List.mem_of_getElem? h))
    exact .base (.lst q)
  | dct h => exact .base (.dK h)
theorem kit_all {K : PySem.W.Frag} : ∀ d t, PySem.W.kitOne K (.type (tyD d)) (.type (tyS t)) = some (isiD d t) := by
  intro d t
  refine kit_ty ?_
  cases d <;> cases t <;> (simp only [tyD, tyS, isiD]; decide +kernel)
theorem pr_isi {t : Ty} : CallR X (.builtin "isinstance") (rIs X.K t) := by
  rintro pins s σ H vs us Q I r ⟨B, L, S, x, v, wd, rx, rfl, q⟩
  exact call_isi pins s σ H _ us Q I r ⟨v, .ty (tyS t), .type (tyD x), .type (tyS t), isiD x t, rfl, .ty _, rx.tyX wd, kit_all x t, q⟩
end
end Rf
end

section
set_option maxRecDepth 100000
set_option maxHeartbeats 4000000
set_option autoImplicit false
namespace PySem
open Sem (wp)
open AutoSeq1 (wpAny_loadPart')
theorem RE_newT (l : Addr) (items : Array Value) :
    Meets (Builtin.«enumerate.__new__» ⟨[.type "enumerate", .ref l], []⟩) (fun _ R s => s.heap.IsTuple l items ∧
      R (.ok (.ret (.ref (s.heap.push { cls := .type "tuple_iterator", data := .fields #[.ref l, .int 0 0] }).objs.size)))
        { s with heap := (s.heap.push { cls := .type "tuple_iterator", data := .fields #[.ref l, .int 0 0] }).push { cls := .type "enumerate", data := .fields #[.none, .bool false, .ref s.heap.objs.size, rawInt 0, .none, .none] } }) :=
  .of_wp fun prog w A R s h => by
    obtain ⟨hp, g, d, tk, os⟩ := s; obtain ⟨h1, h⟩ := h
    have hsub := sub_enumerate
    have q1 : ∀ {A' : Around} {E : Value → Shared → Prop} {Q : Value → Shared → Prop}, Q (.ref hp.objs.size) ⟨hp.push { cls := .type "tuple_iterator", data := .fields #[.ref l, .int 0 0] }, g, d, tk, os⟩ → wpAny (model prog w) A' (pyIter (.ref l)) Q E ⟨hp, g, d, tk, os⟩ :=
      fun q => wpAny_pyIter_tuple h1 q
    wp_walk using q1
    refine wpAny_stack_any fun st => wpAny_pure ?_
    split
    · rename_i c _ _ _ _ _
      cases (c == Value.type "enumerate")
      · wp_walk using q1
        exact ⟨_, rfl, h⟩
      · wp_walk using q1
        exact ⟨_, rfl, h⟩
    · wp_walk using q1
      exact ⟨_, rfl, h⟩
theorem RE_call {prog : Program} {w : World} {A : Around} {E : Value → Shared → Prop} {s : Shared} {l : Addr} {items : Array Value} {Q : Value → Shared → Prop} (hL : s.heap.IsTuple l items)
    (h : ∀ h', IsEnum h' (s.heap.objs.size + 1) s.heap.objs.size 0 .none → h'.IsTupleIter s.heap.objs.size l 0 → h'.objs.size = s.heap.objs.size + 2 →
      (∀ b o, s.heap.get? b = some o → h'.get? b = some o) → Q (.ref (s.heap.objs.size + 1)) { s with heap := h' }) :
    wpAny (model prog w) A (call (.type "enumerate") [.ref l]) Q E s := by
  refine callType_new F.called_enumerate (by decide) (F.typeCall_enumerate_1 _) (F.newCall_enumerate_1 _) (fun obj => F.args_object_init_2 obj _) F.entry_enumerate_new
    (RE_newT l items) ⟨hL, ?_⟩
  have hz : (s.heap.push { cls := .type "tuple_iterator", data := .fields #[.ref l, .int 0 0] }).objs.size = s.heap.objs.size + 1 := Heap.size_push ..
  show _ ∧ _
  rw [hz]
  have he : IsEnum ((s.heap.push { cls := .type "tuple_iterator", data := .fields #[.ref l, .int 0 0] }).push
      { cls := .type "enumerate", data := .fields #[.none, .bool false, .ref s.heap.objs.size, rawInt 0, .none, .none] }) (s.heap.objs.size + 1) s.heap.objs.size 0 .none := by
    have := Heap.get?_push_size (s.heap.push { cls := .type "tuple_iterator", data := .fields #[.ref l, .int 0 0] })
      (o := { cls := .type "enumerate", data := .fields #[.none, .bool false, .ref s.heap.objs.size, rawInt 0, .none, .none] }) rfl
    rw [hz] at this; exact this
  refine ⟨⟨_, he, rfl⟩, h _ he ⟨_, Heap.get?_push_of_some _ (Heap.get?_push_size _ rfl), rfl, rfl⟩ (by rw [Heap.size_push, hz]) fun b o x => Heap.get?_push_of_some _ (Heap.get?_push_of_some _ x)⟩
end PySem
namespace Rf
open PySem PySem.Spec PyProof.Rows L2
/-- the tuple at a, each item in a new pair -/
def ItE (K : PySem.W.Frag) (a : Addr) : L2.It :=
  ⟨fun i H => ∃ (xs : List V) (x : V), SqT K H a xs ∧ xs[i]? = some x, fun i H v H' => ∃ T x, v = .ref T ∧ H T = none ∧ H' = upd H T (.tup [.int (i : Nat), x]) ∧ ∀ xs, SqT K H a xs → xs[i]? = some x, fun i H => ∃ xs : List V, SqT K H a xs ∧ xs.length ≤ i⟩
theorem turn_enumT {P : Program} {w : World} {K : PySem.W.Frag} {elts : List Expr} {kk : Nat} {tpos : Pos} (a e it : Addr) :
    Turn P w K (.Tuple elts kk tpos) (ItE K a) [e, it] e (fun i h => (∃ old, IsEnum h e it ((i : Nat) : Int) old) ∧ h.IsTupleIter it a i ∧ e ≠ it) where
  mem := by simp
  obj := fun i h st b hb => by
    obtain ⟨⟨old, he⟩, ⟨o, ho, hc, hd⟩, _⟩ := st
    have e' : b = e ∨ b = it := by simpa using hb
    rcases e' with z | z
    · rw [z]; exact ⟨_, he, fun v q => nomatch q⟩
    · rw [z]; exact ⟨o, ho, fun v q => by rw [hd] at q; cases q⟩
  keep := fun i h h' st k => let ⟨⟨old, he⟩, hi, hne⟩ := st; ⟨⟨old, k e (by simp) _ he⟩, hi.at fun o q => k it (by simp) o q, hne⟩
  item := by
    intro X hP hw hK hc i pins s σ H E I hf st hg
    subst hP hw hK
    obtain ⟨⟨old, he⟩, hit, hne⟩ := st
    obtain ⟨xs, x, hq, hx⟩ := hg
    obtain ⟨its, rv, p, hz⟩ := I.tuple hq
    obtain ⟨u, hu, ru⟩ := rv.get hx
    have p : s.heap.IsTuple a its.toArray := p
    have hel : e < s.heap.objs.size := Heap.lt_size he
    have hil : it < s.heap.objs.size := by obtain ⟨_, q, _⟩ := hit; exact Heap.lt_size q
    have hai : a ≠ it := fun z => by
      obtain ⟨o, q1, q2, _⟩ := hit
      obtain ⟨o', r1, r2, _⟩ := p
      rw [z, q1] at r1; cases r1
      rw [q2] at r2; exact absurd (Value.type.inj r2) (by decide)
    have hae : e ≠ a := fun z => by
      obtain ⟨o', r1, r2, _⟩ := p
      have he' : s.heap.get? e = _ := he
      rw [← z, he'] at r1; cases r1
      exact absurd (Value.type.inj r2) (by decide)
    have hlt : i < its.toArray.size := by
      have := (List.getElem?_eq_some_iff.mp hu).1
      simpa using this
    refine wpAny_pyNext_enum_itemD (Draws.tuple (show X.A.in1.handled = none from I.ok.hd hc) it a hai its.toArray) he ⟨hit, p⟩ hlt hne (by simp [hne, hae]) fun x' h' tk hP ho st' hT hsz hk => ?_
    have ex : x' = u := by
      have hP' : its.toArray[i]? = some x' := hP
      rw [List.getElem?_toArray, hu] at hP'
      exact (Option.some.inj hP').symm
    subst ex
    refine ⟨_, rfl, wpAny_letOwnedTupleGo_enum (s := { s with heap := h', toks := tk + 1 }) ho fun h'' he' sb => ?_⟩
    have hT2 : h''.get? s.heap.objs.size = some { cls := .type "tuple", data := .seq #[.int i tk, x'] } := (sb.2 _ (Nat.ne_of_gt hel)).trans hT
    have new : ObjOk X.prog X.w (upd H s.heap.objs.size (.tup [.int (i : Nat), x])) h'' s.heap.objs.size (.tup [.int (i : Nat), x]) :=
      ⟨by show 2 ≤ sizeLine; decide, [.int i tk, x'], .cons ⟨_, rfl⟩ (.cons ru .nil), ⟨_, hT2, rfl, _, rfl⟩⟩
    have I1 : Inv X pins σ (upd H s.heap.objs.size (.tup [.int (i : Nat), x])) { s with heap := h'', toks := tk + 1 } :=
      I.turnedNew (ch := [e, it]) (fun b ob hb q => (sb.2 b (fun z => hb (by simp [z]))).trans (hk b ob (fun z => hb (by simp [z])) (fun z => hb (by simp [z])) q)) hf (Nat.le_refl _) new
    refine ⟨.ref s.heap.objs.size, _, I1, rfl, ⟨_, x, rfl, I.hok.fresh (Nat.le_refl _), rfl, fun ys hy => by rw [I.tuple_inj hy hq]; exact hx⟩, ⟨⟨x', ?_⟩, st'.1.at fun o q => (sb.2 it (Ne.symm hne)).trans q, hne⟩, fun b hb => ?_⟩
    · have e1 : ((i + 1 : Nat) : Int) = (i : Int) + 1 := by omega
      rw [e1]; exact he'
    · have hb' : b < s.heap.objs.size := by
        have e' : b = e ∨ b = it := by simpa using hb
        rcases e' with z | z
        · rw [z]; exact hel
        · rw [z]; exact hil
      rw [upd_ne (Nat.ne_of_lt hb')]
      exact (hf b hb).1
  done := by
    intro X hP hw hK hc i pins s σ H E I hf st hg
    subst hP hw hK
    obtain ⟨⟨old, he⟩, hit, hne⟩ := st
    obtain ⟨xs, hq, hx⟩ := hg
    obtain ⟨its, rv, p, hz⟩ := I.tuple hq
    have p : s.heap.IsTuple a its.toArray := p
    obtain ⟨f0, f1, f2, f3, f4, f5⟩ := hf it (by simp)
    have hl := rv.length
    have hTy : s.TypeIs (.ref e) "enumerate" := ⟨_, he, rfl⟩
    unfold pyNext
    refine wpAny_bind (wpAny_attempt (wpAny_callSpecial?_slot (name := Str.ofString "__next__") hTy PySem.F.slot_enumerate_next
      (wpAny_call_entry PySem.F.slot_enumerate_next hTy PySem.F.entry_enumerate_next ?_ (PySem.F.args_enumerate_next_1 _))))
    show wpAny _ _ (field (.ref e) 2 >>= _) _ _ _
    refine wpAny_bind (wpAny_field he rfl (x := .ref it) rfl ?_)
    refine wpAny_bind (wpAny_nextOf_tuple_end (I.ok.hd hc) hit p (by simp; omega) fun h' x he' hx' => ?_)
    obtain ⟨o, ho, hcx⟩ := hx'
    refine wpAny_bind (wpAny_isInstance (T := "StopIteration") (b := true) ⟨o, ho, hcx⟩ isSubtype_stop ?_)
    exact wpAny_pure ⟨rfl, I.turned (t' := s.toks) (fun b o hb q => he' b o hb q) f0 f1 f3 f4 f5⟩
  self := fun A i s Q E st h => let ⟨⟨_, he⟩, _⟩ := st; wpAny_pyIter_enum he h
def iEnumT (K : PySem.W.Frag) (ta : TA) : TI := fun σ H R => ta σ H fun vs H1 => ∃ a xs, vs = [.ref a] ∧ SqT K H1 a xs ∧ R (ItE K a) H1
theorem pi_enumT {X : Cx} {e : Expr} {ta : TA} {p pos tpos : Pos} {elts : List Expr} {kk : Nat} (hg : Gl X "enumerate") (hm : X.mg "enumerate" = none) (ha : PA X [e] ta) (hs : starEach [e] X.env = [(false, eval e X.env)] := by rfl) :
    PI X (.Tuple elts kk tpos) (.Call (.Name "enumerate" p) [e] [] pos) (iEnumT X.K ta) := by
  refine ⟨fun pins s σ H R I h => ?_⟩
  refine Call_ (ld_blt I hg hm boot_enumerate (PyProof.Rows.callWith_type1 (thn (ha.run pos pins s σ H _ I h) fun us s1 ⟨vs, H1, I1, r1, q1⟩ => ?_) hs rfl))
  obtain ⟨a, xs, ex, hq, q⟩ := q1
  subst ex
  cases r1 with
  | cons r rr =>
    cases rr
    cases r
    obtain ⟨its, rv, p', hz⟩ := I1.tuple hq
    refine RE_call (show s1.heap.IsTuple a its.toArray from p') fun h' he hit hsz hk => wpAny_pyIter_enum he ?_
    have I2 : Inv X pins σ H1 { s1 with heap := h' } := I1.kept (t' := s1.toks) hk
    refine ⟨s1.heap.objs.size + 1, [s1.heap.objs.size + 1, s1.heap.objs.size], _, _, H1, rfl, I2, turn_enumT a (s1.heap.objs.size + 1) s1.heap.objs.size, ⟨⟨.none, he⟩, hit, Nat.succ_ne_self _⟩, fun b hb => ?_, q⟩
    have e' : b = s1.heap.objs.size + 1 ∨ b = s1.heap.objs.size := by simpa using hb
    have hle : s1.heap.objs.size ≤ b := by
      rcases e' with z | z
      · rw [z]; exact Nat.le_add_right _ _
      · rw [z]; exact Nat.le_refl _
    exact I1.fpOk hle (I1.hok.fresh hle)
end Rf
end

section
set_option maxRecDepth 100000
set_option maxHeartbeats 4000000
set_option autoImplicit false
namespace Rf
open PySem PySem.Spec PyProof.Rows L2
/-! ## zip of a tuple and a list in any mix (t: is it a tuple) -/
def SqX : Bool → PySem.W.Frag → Hp → Addr → List V → Prop
  | true => SqT
  | false => SqL
def CurX : Bool → Heap → Addr → Addr → Nat → Prop
  | true => fun h it l i => h.IsTupleIter it l i
  | false => fun h it l i => h.IsListIter it l i
def StoX : Bool → Heap → Addr → Array Value → Prop
  | true => fun h l items => h.IsTuple l items
  | false => fun h l items => h.IsList l items
def newX : Bool → Addr → Obj
  | true => fun l => { cls := .type "tuple_iterator", data := .fields #[.ref l, .int 0 0] }
  | false => fun l => { cls := .type "list_iterator", data := .fields #[.ref l, .int 0 0] }
theorem draws_X {P : Program} {w : World} {A : Around} (hh : A.handled = none) (it l : Addr) (hne : l ≠ it) (items : Array Value) :
    ∀ t : Bool, Draws P w A it [it, l] items.size (fun i v => items[i]? = some v) (fun i h => CurX t h it l i ∧ StoX t h l items)
  | true => Draws.tuple hh it l hne items
  | false => Draws.list hh it l hne items
theorem begins_X (l : Addr) (items : Array Value) : ∀ t : Bool, Begins (.ref l) (newX t l) (fun h => StoX t h l items)
  | true => begins_tuple l items
  | false => begins_list l items
theorem cur_new {h : Heap} {it l : Addr} : ∀ {t : Bool}, h.get? it = some (newX t l) → CurX t h it l 0
  | true, e => ⟨_, e, rfl, rfl⟩
  | false, e => ⟨_, e, rfl, rfl⟩
theorem CurX.at {h h' : Heap} {it l : Addr} {i : Nat} : ∀ {t : Bool}, CurX t h it l i → (∀ o, h.get? it = some o → h'.get? it = some o) → CurX t h' it l i
  | true, c, k => Heap.IsTupleIter.at c k
  | false, c, k => Heap.IsListIter.at c k
theorem CurX.obj {h : Heap} {it l : Addr} {i : Nat} : ∀ {t : Bool}, CurX t h it l i → ∃ o v, h.get? it = some o ∧ o.data = .fields v
  | true, ⟨o, e, _, d⟩ => ⟨o, _, e, d⟩
  | false, ⟨o, e, _, d⟩ => ⟨o, _, e, d⟩
theorem CurX.lt {h : Heap} {it l : Addr} {i : Nat} {t : Bool} (c : CurX t h it l i) : it < h.objs.size := by
  obtain ⟨o, _, e, _⟩ := c.obj
  exact Heap.lt_size e
section
variable {X : Cx} {pins : List (Addr × Obj)} {σ : L2.St} {H : Hp} {s : Shared} {a : Addr}
theorem inv_X (I : Inv X pins σ H s) {xs : List V} : ∀ {t : Bool}, SqX t X.K H a xs → ∃ its : List Value, Vals xs its ∧ StoX t s.heap a its.toArray ∧ a < s.heap.objs.size
  | true, h => by
    obtain ⟨its, r, p, _⟩ := I.tuple h
    obtain ⟨o, ho, _⟩ := id p
    exact ⟨its, r, p, Heap.lt_size ho⟩
  | false, h => by
    obtain ⟨its, r, p, _⟩ := I.list h
    exact ⟨its, r, p.isList, p.lt⟩
theorem inj_X (I : Inv X pins σ H s) {xs ys : List V} : ∀ {t : Bool}, SqX t X.K H a xs → SqX t X.K H a ys → xs = ys
  | true, h, h' => I.tuple_inj h h'
  | false, h, h' => I.list_inj h h'
end
/-- the items of both, as they stand at each turn, in new pairs -/
def ItzM (K : PySem.W.Frag) (t1 t2 : Bool) (a b : Addr) : L2.It where
  go i H := ∃ (xs ys : List V) (x y : V), SqX t1 K H a xs ∧ SqX t2 K H b ys ∧ xs[i]? = some x ∧ ys[i]? = some y
  yld i H v H' := ∃ T x y, v = .ref T ∧ H T = none ∧ H' = upd H T (.tup [x, y]) ∧ (∀ l, SqX t1 K H a l → l[i]? = some x) ∧ ∀ l, SqX t2 K H b l → l[i]? = some y
  stop i H := ∃ xs ys : List V, SqX t1 K H a xs ∧ SqX t2 K H b ys ∧ min xs.length ys.length = i
theorem five {z TI TO i1 i2 c : Addr} (h : c ∈ [z, TI, TO, i1, i2]) : c = z ∨ c = TI ∨ c = TO ∨ c = i1 ∨ c = i2 := by simpa using h
theorem off5 {z TI TO i1 i2 c : Addr} (h : c ∉ [z, TI, TO, i1, i2]) : c ≠ z ∧ c ≠ TO ∧ c ≠ i1 ∧ c ≠ i2 :=
  ⟨fun e => h (by simp [e]), fun e => h (by simp [e]), fun e => h (by simp [e]), fun e => h (by simp [e])⟩
theorem turn_zipM {P : Program} {w : World} {K : PySem.W.Frag} {elts : List Expr} {kk : Nat} {tpos : Pos} {t1 t2 : Bool} {a b z TI TO i1 i2 : Addr}
    (S : ZipSep2 z TI TO i1 i2 [i1, a] [i2, b]) (n1 : a ≠ i1) (n2 : b ≠ i2) :
    Turn P w K (.Tuple elts kk tpos) (ItzM K t1 t2 a b) [z, TI, TO, i1, i2] z
      (fun i h => IsZip h z TI TO .none ∧ IsTupOf2 h TI (.ref i1) (.ref i2) ∧ (∃ x y, IsTupOf2 h TO x y) ∧ CurX t1 h i1 a i ∧ CurX t2 h i2 b i) where
  mem := by simp
  obj := fun i h st c hc => by
    obtain ⟨hz, hTI, ⟨x, y, hTO⟩, c1, c2⟩ := st
    obtain ⟨o1, v1, e1, d1⟩ := c1.obj
    obtain ⟨o2, v2, e2, d2⟩ := c2.obj
    rcases five hc with rfl | rfl | rfl | rfl | rfl
    · exact ⟨_, hz, fun v q => nomatch q⟩
    · exact ⟨_, hTI, fun v q => nomatch q⟩
    · exact ⟨_, hTO, fun v q => nomatch q⟩
    · exact ⟨o1, e1, fun v q => by rw [d1] at q; cases q⟩
    · exact ⟨o2, e2, fun v q => by rw [d2] at q; cases q⟩
  keep := fun i h h' st k =>
    let ⟨hz, hTI, ⟨x, y, hTO⟩, c1, c2⟩ := st
    ⟨k z (by simp) _ hz, k TI (by simp) _ hTI, ⟨x, y, k TO (by simp) _ hTO⟩, c1.at (fun o => k i1 (by simp) o), c2.at (fun o => k i2 (by simp) o)⟩
  item := by
    intro X hP hw hK hc i pins s σ H E I hf st hg
    subst hP hw hK
    obtain ⟨hz, hTI, ⟨x0, y0, hTO⟩, c1, c2⟩ := st
    obtain ⟨xs, ys, x, y, q1, q2, hx, hy⟩ := hg
    obtain ⟨its, rv, p1, _⟩ := inv_X I q1
    obtain ⟨jts, ru, p2, _⟩ := inv_X I q2
    obtain ⟨u, hu, r1⟩ := rv.get hx
    obtain ⟨u', hu', r2⟩ := ru.get hy
    have in1 : i < its.toArray.size := by
      have := (List.getElem?_eq_some_iff.mp hu).1
      simpa using this
    have in2 : i < jts.toArray.size := by
      have := (List.getElem?_eq_some_iff.mp hu').1
      simpa using this
    have hzl := Heap.lt_size hz
    have hh : X.A.in1.handled = none := I.ok.hd hc
    refine wpAny_pyNext_zipD2_item S (draws_X hh i1 a n1 its.toArray t1) (draws_X hh i2 b n2 jts.toArray t2) hz hTI hTO ⟨c1, p1⟩ ⟨c2, p2⟩ in1 in2
      fun x1 x2 h' tk g1 g2 z' TO' s1 s2 hT hsz hk => ?_
    have ex1 : x1 = u := by
      have g : its.toArray[i]? = some x1 := g1
      rw [List.getElem?_toArray, hu] at g
      exact (Option.some.inj g).symm
    have ex2 : x2 = u' := by
      have g : jts.toArray[i]? = some x2 := g2
      rw [List.getElem?_toArray, hu'] at g
      exact (Option.some.inj g).symm
    subst ex1 ex2
    refine ⟨_, rfl, wpAny_letOwnedTupleGo_zip (s := { s with heap := h', toks := tk }) z' fun h2 z2 sb => ?_⟩
    have made : h2.get? s.heap.objs.size = some { cls := .type "tuple", data := .seq #[x1, x2] } := (sb.2 _ (Nat.ne_of_gt hzl)).trans hT
    have ob : ObjOk X.prog X.w (upd H s.heap.objs.size (.tup [x, y])) h2 s.heap.objs.size (.tup [x, y]) :=
      ⟨(by show 2 ≤ sizeLine; decide), [x1, x2], .cons r1 (.cons r2 .nil), ⟨_, made, rfl, _, rfl⟩⟩
    have I1 := I.turnedNew (h' := h2) (t' := tk) (ch := [z, TI, TO, i1, i2])
      (fun c o hb q => by
        obtain ⟨b1, b2, b3, b4⟩ := off5 hb
        exact (sb.2 c b1).trans (hk c o b1 b2 b3 b4 q)) hf (Nat.le_refl _) ob
    refine ⟨.ref s.heap.objs.size, _, I1, rfl, ⟨_, x, y, rfl, I.hok.fresh (Nat.le_refl _), rfl,
      fun l hl => (by rw [inj_X I hl q1]; exact hx), fun l hl => (by rw [inj_X I hl q2]; exact hy)⟩, ⟨z2, ?_, ⟨x1, x2, ?_⟩, ?_, ?_⟩, fun c hcm => ?_⟩
    · exact (sb.2 _ S.TIz).trans (hk _ _ S.TIz S.TITO S.TIi1 S.TIi2 hTI)
    · exact (sb.2 _ S.TOz).trans TO'
    · exact s1.1.at fun o q => (sb.2 _ S.zi1.symm).trans q
    · exact s2.1.at fun o q => (sb.2 _ S.zi2.symm).trans q
    · have hlt : c < s.heap.objs.size := by
        rcases five hcm with rfl | rfl | rfl | rfl | rfl
        · exact hzl
        · exact Heap.lt_size hTI
        · exact Heap.lt_size hTO
        · exact c1.lt
        · exact c2.lt
      rw [upd_ne (Nat.ne_of_lt hlt)]
      exact (hf c hcm).1
  done := by
    intro X hP hw hK hc i pins s σ H E I hf st hg
    subst hP hw hK
    obtain ⟨hz, hTI, ⟨x0, y0, hTO⟩, c1, c2⟩ := st
    obtain ⟨xs, ys, q1, q2, hend⟩ := hg
    obtain ⟨its, rv, p1, _⟩ := inv_X I q1
    obtain ⟨jts, ru, p2, _⟩ := inv_X I q2
    have l1 := rv.length
    have l2 := ru.length
    have hh : X.A.in1.handled = none := I.ok.hd hc
    refine wpAny_pyNext_zipD2_end S (draws_X hh i1 a n1 its.toArray t1) (draws_X hh i2 b n2 jts.toArray t2) hz hTI hTO ⟨c1, p1⟩ ⟨c2, p2⟩
      (by simp; omega) (by simp; omega) (by simp; omega) fun h' tk hk => ⟨rfl, I.turnedL (t' := tk) (ch := [z, TI, TO, i1, i2]) (fun c o hb q => ?_) hf⟩
    obtain ⟨b1, b2, b3, b4⟩ := off5 hb
    exact hk c o b1 b2 b3 b4 q
  self := fun A i s Q E st h => wpAny_pyIter_zip st.1 h
def iZipM (K : PySem.W.Frag) (ta : TA) : TI := fun σ H R => ta σ H fun vs H1 => ∃ t1 t2 a b xs ys, vs = [.ref a, .ref b] ∧ SqX t1 K H1 a xs ∧ SqX t2 K H1 b ys ∧ R (ItzM K t1 t2 a b) H1
theorem pi_zipM {X : Cx} {e e2 : Expr} {ta : TA} {p pos tpos : Pos} {elts : List Expr} {kk : Nat} (hg : Gl X "zip") (hm : X.mg "zip" = none) (ha : PA X [e, e2] ta)
    (hs : starEach [e, e2] X.env = (false, eval e X.env) :: starEach [e2] X.env) (hpl : (backTo pos (starEach [e2] X.env)).any (·.1) = false) :
    PI X (.Tuple elts kk tpos) (.Call (.Name "zip" p) [e, e2] [] pos) (iZipM X.K ta) := by
  refine ⟨fun pins s σ H R I h => ?_⟩
  refine Call_ (ld_blt I hg hm PyProof.Rows.boot_zip (PyProof.Rows.callWith_type1 (thn (ha.run pos pins s σ H _ I h) fun us s1 ⟨vs, H1, I1, r1, q1⟩ => ?_) hs hpl))
  obtain ⟨t1, t2, a, b, xs, ys, ex, hqx, hqy, q⟩ := q1
  subst ex
  cases r1 with
  | cons r rr =>
    cases rr with
    | cons r' rr =>
      cases rr
      cases r
      cases r'
      obtain ⟨its, rv, p1, lt1⟩ := inv_X I1 hqx
      obtain ⟨jts, ru, p2, lt2⟩ := inv_X I1 hqy
      have below1 : ∀ c ∈ [a], c < s1.heap.objs.size := fun c hc => by rw [List.mem_singleton.mp hc]; exact lt1
      have below2 : ∀ c ∈ [b], c < s1.heap.objs.size := fun c hc => by rw [List.mem_singleton.mp hc]; exact lt2
      refine zip_begins2 (begins_X a its.toArray t1) (begins_X b jts.toArray t2) p1 p2 fun h' hz hTI hTO g1 g2 hsz hk => wpAny_pyIter_zip hz ?_
      have I2 : Inv X pins σ H1 { s1 with heap := h' } := I1.kept (t' := s1.toks) hk
      have d1 : a ≠ s1.heap.objs.size := Nat.ne_of_lt lt1
      have d2 : b ≠ s1.heap.objs.size + 1 := Nat.ne_of_lt (Nat.lt_succ_of_lt lt2)
      refine ⟨s1.heap.objs.size + 4, [s1.heap.objs.size + 4, s1.heap.objs.size + 2, s1.heap.objs.size + 3, s1.heap.objs.size, s1.heap.objs.size + 1], _, _, H1, rfl, I2,
        turn_zipM (zip_sep2 below1 below2) d1 d2, ⟨hz, hTI, ⟨_, _, hTO⟩, cur_new g1, cur_new g2⟩, fun c hcm => ?_, q⟩
      have hle : s1.heap.objs.size ≤ c := by
        rcases five hcm with rfl | rfl | rfl | rfl | rfl
        · exact Nat.le_add_right _ 4
        · exact Nat.le_add_right _ 2
        · exact Nat.le_add_right _ 3
        · exact Nat.le_refl _
        · exact Nat.le_add_right _ 1
      exact I1.fpOk hle (I1.hok.fresh hle)
/-! ## zip of three -/
def ItzN (K : PySem.W.Frag) (t1 t2 t3 : Bool) (a b d : Addr) : L2.It where
  go i H := ∃ (xs ys zs : List V) (x y z : V), SqX t1 K H a xs ∧ SqX t2 K H b ys ∧ SqX t3 K H d zs ∧ xs[i]? = some x ∧ ys[i]? = some y ∧ zs[i]? = some z
  yld i H v H' := ∃ T x y z, v = .ref T ∧ H T = none ∧ H' = upd H T (.tup [x, y, z]) ∧ (∀ l, SqX t1 K H a l → l[i]? = some x) ∧ (∀ l, SqX t2 K H b l → l[i]? = some y) ∧ ∀ l, SqX t3 K H d l → l[i]? = some z
  stop i H := ∃ xs ys zs : List V, SqX t1 K H a xs ∧ SqX t2 K H b ys ∧ SqX t3 K H d zs ∧ min (min xs.length ys.length) zs.length = i
theorem six {z TI TO i1 i2 i3 c : Addr} (h : c ∈ [z, TI, TO, i1, i2, i3]) : c = z ∨ c = TI ∨ c = TO ∨ c = i1 ∨ c = i2 ∨ c = i3 := by simpa using h
theorem off6 {z TI TO i1 i2 i3 c : Addr} (h : c ∉ [z, TI, TO, i1, i2, i3]) : c ≠ z ∧ c ≠ TO ∧ c ≠ i1 ∧ c ≠ i2 ∧ c ≠ i3 :=
  ⟨fun e => h (by simp [e]), fun e => h (by simp [e]), fun e => h (by simp [e]), fun e => h (by simp [e]), fun e => h (by simp [e])⟩
theorem turn_zipN {P : Program} {w : World} {K : PySem.W.Frag} {elts : List Expr} {kk : Nat} {tpos : Pos} {t1 t2 t3 : Bool} {a b d z TI TO i1 i2 i3 : Addr}
    (S : ZipSep3 z TI TO i1 i2 i3 [i1, a] [i2, b] [i3, d]) (n1 : a ≠ i1) (n2 : b ≠ i2) (n3 : d ≠ i3) :
    Turn P w K (.Tuple elts kk tpos) (ItzN K t1 t2 t3 a b d) [z, TI, TO, i1, i2, i3] z
      (fun i h => IsZip h z TI TO .none ∧ IsTupOf3 h TI (.ref i1) (.ref i2) (.ref i3) ∧ (∃ x y u, IsTupOf3 h TO x y u) ∧ CurX t1 h i1 a i ∧ CurX t2 h i2 b i ∧ CurX t3 h i3 d i) where
  mem := by simp
  obj := fun i h st c hc => by
    obtain ⟨hz, hTI, ⟨x, y, u, hTO⟩, c1, c2, c3⟩ := st
    obtain ⟨o1, v1, e1, d1⟩ := c1.obj
    obtain ⟨o2, v2, e2, d2⟩ := c2.obj
    obtain ⟨o3, v3, e3, d3⟩ := c3.obj
    rcases six hc with rfl | rfl | rfl | rfl | rfl | rfl
    · exact ⟨_, hz, fun v q => nomatch q⟩
    · exact ⟨_, hTI, fun v q => nomatch q⟩
    · exact ⟨_, hTO, fun v q => nomatch q⟩
    · exact ⟨o1, e1, fun v q => by rw [d1] at q; cases q⟩
    · exact ⟨o2, e2, fun v q => by rw [d2] at q; cases q⟩
    · exact ⟨o3, e3, fun v q => by rw [d3] at q; cases q⟩
  keep := fun i h h' st k =>
    let ⟨hz, hTI, ⟨x, y, u, hTO⟩, c1, c2, c3⟩ := st
    ⟨k z (by simp) _ hz, k TI (by simp) _ hTI, ⟨x, y, u, k TO (by simp) _ hTO⟩, c1.at (fun o => k i1 (by simp) o), c2.at (fun o => k i2 (by simp) o), c3.at (fun o => k i3 (by simp) o)⟩
  item := by
    intro X hP hw hK hc i pins s σ H E I hf st hg
    subst hP hw hK
    obtain ⟨hz, hTI, ⟨x0, y0, u0, hTO⟩, c1, c2, c3⟩ := st
    obtain ⟨xs, ys, zs, x, y, zz, q1, q2, q3, hx, hy, hzz⟩ := hg
    obtain ⟨its, rv, p1, _⟩ := inv_X I q1
    obtain ⟨jts, ru, p2, _⟩ := inv_X I q2
    obtain ⟨kts, rt, p3, _⟩ := inv_X I q3
    obtain ⟨u, hu, r1⟩ := rv.get hx
    obtain ⟨u', hu', r2⟩ := ru.get hy
    obtain ⟨u2, hu2, r3⟩ := rt.get hzz
    have in1 : i < its.toArray.size := by
      have := (List.getElem?_eq_some_iff.mp hu).1
      simpa using this
    have in2 : i < jts.toArray.size := by
      have := (List.getElem?_eq_some_iff.mp hu').1
      simpa using this
    have in3 : i < kts.toArray.size := by
      have := (List.getElem?_eq_some_iff.mp hu2).1
      simpa using this
    have hzl := Heap.lt_size hz
    have hh : X.A.in1.handled = none := I.ok.hd hc
    refine wpAny_pyNext_zipD3_item S (draws_X hh i1 a n1 its.toArray t1) (draws_X hh i2 b n2 jts.toArray t2) (draws_X hh i3 d n3 kts.toArray t3) hz hTI hTO ⟨c1, p1⟩ ⟨c2, p2⟩ ⟨c3, p3⟩ in1 in2 in3
      fun x1 x2 x3 h' tk g1 g2 g3 z' TO' s1 s2 s3 hT hsz hk => ?_
    have ex1 : x1 = u := by
      have g : its.toArray[i]? = some x1 := g1
      rw [List.getElem?_toArray, hu] at g
      exact (Option.some.inj g).symm
    have ex2 : x2 = u' := by
      have g : jts.toArray[i]? = some x2 := g2
      rw [List.getElem?_toArray, hu'] at g
      exact (Option.some.inj g).symm
    have ex3 : x3 = u2 := by
      have g : kts.toArray[i]? = some x3 := g3
      rw [List.getElem?_toArray, hu2] at g
      exact (Option.some.inj g).symm
    subst ex1 ex2 ex3
    refine ⟨_, rfl, wpAny_letOwnedTupleGo_zip (s := { s with heap := h', toks := tk }) z' fun h2 z2 sb => ?_⟩
    have made : h2.get? s.heap.objs.size = some { cls := .type "tuple", data := .seq #[x1, x2, x3] } := (sb.2 _ (Nat.ne_of_gt hzl)).trans hT
    have ob : ObjOk X.prog X.w (upd H s.heap.objs.size (.tup [x, y, zz])) h2 s.heap.objs.size (.tup [x, y, zz]) :=
      ⟨(by show 3 ≤ sizeLine; decide), [x1, x2, x3], .cons r1 (.cons r2 (.cons r3 .nil)), ⟨_, made, rfl, _, rfl⟩⟩
    have I1 := I.turnedNew (h' := h2) (t' := tk) (ch := [z, TI, TO, i1, i2, i3])
      (fun c o hb q => by
        obtain ⟨b1, b2, b3, b4, b5⟩ := off6 hb
        exact (sb.2 c b1).trans (hk c o b1 b2 b3 b4 b5 q)) hf (Nat.le_refl _) ob
    refine ⟨.ref s.heap.objs.size, _, I1, rfl, ⟨_, x, y, zz, rfl, I.hok.fresh (Nat.le_refl _), rfl,
      fun l hl => (by rw [inj_X I hl q1]; exact hx), fun l hl => (by rw [inj_X I hl q2]; exact hy), fun l hl => (by rw [inj_X I hl q3]; exact hzz)⟩, ⟨z2, ?_, ⟨x1, x2, x3, ?_⟩, ?_, ?_, ?_⟩, fun c hcm => ?_⟩
    · exact (sb.2 _ S.TIz).trans (hk _ _ S.TIz S.TITO S.TIi1 S.TIi2 S.TIi3 hTI)
    · exact (sb.2 _ S.TOz).trans TO'
    · exact s1.1.at fun o q => (sb.2 _ S.zi1.symm).trans q
    · exact s2.1.at fun o q => (sb.2 _ S.zi2.symm).trans q
    · exact s3.1.at fun o q => (sb.2 _ S.zi3.symm).trans q
    · have hlt : c < s.heap.objs.size := by
        rcases six hcm with rfl | rfl | rfl | rfl | rfl | rfl
        · exact hzl
        · exact Heap.lt_size hTI
        · exact Heap.lt_size hTO
        · exact c1.lt
        · exact c2.lt
        · exact c3.lt
      rw [upd_ne (Nat.ne_of_lt hlt)]
      exact (hf c hcm).1
  done := by
    intro X hP hw hK hc i pins s σ H E I hf st hg
    subst hP hw hK
    obtain ⟨hz, hTI, ⟨x0, y0, u0, hTO⟩, c1, c2, c3⟩ := st
    obtain ⟨xs, ys, zs, q1, q2, q3, hend⟩ := hg
    obtain ⟨its, rv, p1, _⟩ := inv_X I q1
    obtain ⟨jts, ru, p2, _⟩ := inv_X I q2
    obtain ⟨kts, rt, p3, _⟩ := inv_X I q3
    have l1 := rv.length
    have l2 := ru.length
    have l3 := rt.length
    have hh : X.A.in1.handled = none := I.ok.hd hc
    refine wpAny_pyNext_zipD3_end S (draws_X hh i1 a n1 its.toArray t1) (draws_X hh i2 b n2 jts.toArray t2) (draws_X hh i3 d n3 kts.toArray t3) hz hTI hTO ⟨c1, p1⟩ ⟨c2, p2⟩ ⟨c3, p3⟩
      (by simp; omega) (by simp; omega) (by simp; omega) (by simp; omega) fun h' tk hk => ⟨rfl, I.turnedL (t' := tk) (ch := [z, TI, TO, i1, i2, i3]) (fun c o hb q => ?_) hf⟩
    obtain ⟨b1, b2, b3, b4, b5⟩ := off6 hb
    exact hk c o b1 b2 b3 b4 b5 q
  self := fun A i s Q E st h => wpAny_pyIter_zip st.1 h
def iZipN (K : PySem.W.Frag) (ta : TA) : TI := fun σ H R => ta σ H fun vs H1 => ∃ t1 t2 t3 a b d xs ys zs, vs = [.ref a, .ref b, .ref d] ∧ SqX t1 K H1 a xs ∧ SqX t2 K H1 b ys ∧ SqX t3 K H1 d zs ∧ R (ItzN K t1 t2 t3 a b d) H1
theorem pi_zipN {X : Cx} {e e2 e3 : Expr} {ta : TA} {p pos tpos : Pos} {elts : List Expr} {kk : Nat} (hg : Gl X "zip") (hm : X.mg "zip" = none) (ha : PA X [e, e2, e3] ta)
    (hs : starEach [e, e2, e3] X.env = (false, eval e X.env) :: starEach [e2, e3] X.env) (hpl : (backTo pos (starEach [e2, e3] X.env)).any (·.1) = false) :
    PI X (.Tuple elts kk tpos) (.Call (.Name "zip" p) [e, e2, e3] [] pos) (iZipN X.K ta) := by
  refine ⟨fun pins s σ H R I h => ?_⟩
  refine Call_ (ld_blt I hg hm PyProof.Rows.boot_zip (PyProof.Rows.callWith_type1 (thn (ha.run pos pins s σ H _ I h) fun us s1 ⟨vs, H1, I1, r1, q1⟩ => ?_) hs hpl))
  obtain ⟨t1, t2, t3, a, b, d, xs, ys, zs, ex, hqx, hqy, hqz, q⟩ := q1
  subst ex
  cases r1 with
  | cons r rr =>
    cases rr with
    | cons r' rr =>
      cases rr with
      | cons r2 rr =>
      cases rr
      cases r
      cases r'
      cases r2
      obtain ⟨its, rv, p1, lt1⟩ := inv_X I1 hqx
      obtain ⟨jts, ru, p2, lt2⟩ := inv_X I1 hqy
      obtain ⟨kts, rt, p3, lt3⟩ := inv_X I1 hqz
      have below1 : ∀ c ∈ [a], c < s1.heap.objs.size := fun c hc => by rw [List.mem_singleton.mp hc]; exact lt1
      have below2 : ∀ c ∈ [b], c < s1.heap.objs.size := fun c hc => by rw [List.mem_singleton.mp hc]; exact lt2
      have below3 : ∀ c ∈ [d], c < s1.heap.objs.size := fun c hc => by rw [List.mem_singleton.mp hc]; exact lt3
      refine zip_begins3 (begins_X a its.toArray t1) (begins_X b jts.toArray t2) (begins_X d kts.toArray t3) p1 p2 p3 fun h' hz hTI hTO g1 g2 g3 hsz hk => wpAny_pyIter_zip hz ?_
      have I2 : Inv X pins σ H1 { s1 with heap := h' } := I1.kept (t' := s1.toks) hk
      have d1 : a ≠ s1.heap.objs.size := Nat.ne_of_lt lt1
      have d2 : b ≠ s1.heap.objs.size + 1 := Nat.ne_of_lt (Nat.lt_succ_of_lt lt2)
      have d3 : d ≠ s1.heap.objs.size + 2 := Nat.ne_of_lt (Nat.lt_succ_of_lt (Nat.lt_succ_of_lt lt3))
      refine ⟨s1.heap.objs.size + 5, [s1.heap.objs.size + 5, s1.heap.objs.size + 3, s1.heap.objs.size + 4, s1.heap.objs.size, s1.heap.objs.size + 1, s1.heap.objs.size + 2], _, _, H1, rfl, I2,
        turn_zipN (zip_sep3 below1 below2 below3) d1 d2 d3, ⟨hz, hTI, ⟨_, _, _, hTO⟩, cur_new g1, cur_new g2, cur_new g3⟩, fun c hcm => ?_, q⟩
      have hle : s1.heap.objs.size ≤ c := by
        rcases six hcm with rfl | rfl | rfl | rfl | rfl | rfl
        · exact Nat.le_add_right _ 5
        · exact Nat.le_add_right _ 3
        · exact Nat.le_add_right _ 4
        · exact Nat.le_refl _
        · exact Nat.le_add_right _ 1
        · exact Nat.le_add_right _ 2
      exact I1.fpOk hle (I1.hok.fresh hle)
end Rf
end

section
set_option maxRecDepth 100000
set_option maxHeartbeats 4000000
set_option autoImplicit false
namespace Rf
open PySem PySem.Spec PyProof.Rows L2

/-! ## the slots -/
structure REnv (K : PySem.W.Frag) (B : Addr → Prop) (L : List Addr) (H : Hp) (σ : DEnv) (σV : L2.St) : Prop where
  len : σ.length = σV.length
  get : ∀ (i : Nat) (d : D), σ[i]? = some (some d) → ∃ v, σV[i]? = some (some v) ∧ Rp K B L H d v
section
variable {K : PySem.W.Frag} {B B' : Addr → Prop} {L L' : List Addr} {S S' : Sto} {H H' : Hp} {σ : DEnv} {σV : L2.St}
theorem REnv.mv (r : REnv K B L H σ σV) (w : Wd K B L S H) (m : Mv B L H B' L' H') : REnv K B' L' H' σ σV := ⟨r.len, fun i d e => by
  obtain ⟨v, e1, q⟩ := r.get i d e
  exact ⟨v, e1, q.mv w m⟩⟩
theorem REnv.set {d : D} {v : V} (r : REnv K B L H σ σV) (i : Nat) (q : Rp K B L H d v) : REnv K B L H (σ.set i (some d)) (σV.set i (some v)) := ⟨by rw [List.length_set, List.length_set]; exact r.len, fun j e h => by
  by_cases hj : i = j
  · subst hj
    by_cases hl : i < σ.length
    · rw [List.getElem?_set_self hl] at h
      cases h
      exact ⟨v, List.getElem?_set_self (by rw [← r.len]; exact hl), q⟩
    · rw [List.getElem?_eq_none (by rw [List.length_set]; omega)] at h; cases h
  · rw [List.getElem?_set_ne hj] at h ⊢
    exact r.get j e h⟩
theorem REnv.setN (r : REnv K B L H σ σV) (i : Nat) : REnv K B L H (σ.set i none) (σV.set i none) := ⟨by rw [List.length_set, List.length_set]; exact r.len, fun j e h => by
  by_cases hj : i = j
  · subst hj
    by_cases hl : i < σ.length
    · rw [List.getElem?_set_self hl] at h; cases h
    · rw [List.getElem?_eq_none (by rw [List.length_set]; omega)] at h; cases h
  · rw [List.getElem?_set_ne hj] at h ⊢
    exact r.get j e h⟩
theorem REnv.wipe (r : REnv K B L H σ σV) : ∀ vs : List Nat, REnv K B L H (wipeD σ vs) (L2.wipe σV vs)
  | [] => r
  | v :: vs => (REnv.wipe r vs).setN v
end
theorem wipe_set_in {i : Nat} {x : Option V} : ∀ {vs : List Nat} {σ : L2.St}, i ∈ vs → L2.wipe (σ.set i x) vs = L2.wipe σ vs
  | v :: vs, σ, h => by
    unfold L2.wipe
    by_cases hi : i ∈ vs
    · rw [wipe_set_in hi]
    · rcases List.mem_cons.mp h with e | h
      · subst e
        have key : ∀ {us : List Nat} {τ : L2.St}, i ∉ us → L2.wipe (τ.set i x) us = (L2.wipe τ us).set i x := by
          intro us
          induction us with
          | nil => intro τ _; rfl
          | cons u us ih =>
            intro τ hu
            unfold L2.wipe
            rw [ih (fun z => hu (List.mem_cons_of_mem _ z)), List.set_comm]
            exact fun e => hu (by rw [e]; exact List.mem_cons_self)
        rw [key hi, List.set_set]
      · exact absurd h hi
theorem wipe_wipe : ∀ {vs us : List Nat} {σ : L2.St}, (∀ v ∈ vs, v ∈ us) → L2.wipe (L2.wipe σ vs) us = L2.wipe σ us
  | [], _, _, _ => rfl
  | v :: vs, us, σ, h => by
    show L2.wipe ((L2.wipe σ vs).set v none) us = _
    rw [wipe_set_in (h v List.mem_cons_self)]
    exact wipe_wipe fun u hu => h u (List.mem_cons_of_mem _ hu)

/-! ## names, marks of the tree -/
def visB (sc : Scope) (x : Str) : Bool := match sc.names.lookup x with
  | some .local => true
  | some .cell => true
  | some .free => true
  | _ => false
theorem visB_ok {sc : Scope} {x : Str} (h : visB sc x = true) : Vis sc x := by
  unfold visB at h
  unfold Vis
  split at h <;> first | (rename_i e; first | exact .inl e | exact .inr (.inl e) | exact .inr (.inr e)) | cases h
def locB (sc : Scope) (x : Str) : Bool := match sc.names.lookup x with
  | some .local => true
  | some .cell => true
  | _ => false
theorem locB_ok {sc : Scope} {x : Str} (h : locB sc x = true) : L2.Loc sc x := by
  unfold locB at h
  unfold L2.Loc
  split at h <;> first | (rename_i e; first | exact .inl e | exact .inr e) | cases h
def glB (sc : Scope) (x : Str) : Bool := (match sc.names.lookup x with
  | some .globalImplicit => true
  | _ => false) && !(x == ("__debug__" : Str))
theorem glB_ok {sc : Scope} {x : Str} (h : glB sc x = true) : sc.names.lookup x = some .globalImplicit ∧ (x == ("__debug__" : Str)) = false := by
  unfold glB at h
  rw [Bool.and_eq_true] at h
  refine ⟨?_, by simpa using h.2⟩
  have h1 := h.1
  split at h1
  · assumption
  · cases h1
def notStar : Expr → Bool
  | .Starred _ _ => false
  | _ => true
theorem starEach_cons {e : Expr} {es : List Expr} {env : PySem.Env} (h : notStar e = true) : starEach (e :: es) env = (false, eval e env) :: starEach es env := by
  cases e <;> first | rfl | cases h
def notStars : List Expr → Bool
  | [] => true
  | e :: es => notStar e && notStars es
theorem plainArgs {pos : Pos} {env : PySem.Env} : ∀ {es : List Expr}, notStars es = true → (backTo pos (starEach es env)).any (·.1) = false
  | [], _ => rfl
  | e :: es, h => by
    unfold notStars at h
    rw [Bool.and_eq_true] at h
    rw [starEach_cons h.1]
    have ih := plainArgs (pos := pos) (env := env) h.2
    unfold backTo at ih ⊢
    rw [List.map_cons, List.any_cons, ih]
    rfl
def plainTest : Expr → Bool
  | .UnaryOp .Not _ _ => false
  | .BoolOp _ _ _ => false
  | .IfExp _ _ _ _ => false
  | .Compare _ _ _ _ => false
  | _ => true
theorem plainTest_ok {e : Expr} {env : PySem.Env} (h : plainTest e = true) (whole : Sem Value) : isTrue e env whole = (do let v ← whole; standAt e.pos; holding [v] (truthy v)) := by
  cases e with
  | UnaryOp op x p => cases op <;> first | rfl | cases h
  | _ => first | rfl | cases h
def noSlice : Expr → Bool
  | .Slice _ _ _ _ => false
  | _ => true
theorem noSlice_ok {e : Expr} (h : noSlice e = true) : PlainIx e := by
  intro o i
  cases e <;> first | rfl | cases h
def noSet : Expr → Bool
  | .Set _ _ _ => false
  | _ => true
theorem noSet_ok {e : Expr} {env : PySem.Env} (h : noSet e = true) (x : Value) : foldedSetIterable e env x = pure x := by
  cases e <;> first | rfl | cases h
def noCall : Expr → Bool
  | .Call _ _ _ _ => false
  | _ => true
theorem noCall_ok {e : Expr} {env : PySem.Env} {f : Str} (h : noCall e = true) : attributeBase e f env (eval e env) = eval e env := by
  cases e <;> first | rfl | cases h
def noComp : Expr → Bool
  | .ListComp _ _ _ _ => false
  | .SetComp _ _ _ _ => false
  | .DictComp _ _ _ _ _ => false
  | _ => true
theorem noComp_ok {e : Expr} {env : PySem.Env} {t : Option Expr} {l : Nat} (h : noComp e = true) : swapsWith e t l env = pure false := by
  cases e <;> first | rfl | cases h

/-! ## the checker of expressions -/
structure Tab where
  fns : Nat → Option Fn
  glob : Nat → Option Str
  gcd : Bool
  kws : List (Nat × Nat × List Str × List Nat)
  /-- the def that catches: its name, whether it gives pairs, the class's name -/
  told : Option (Str × Bool × Str)
  exc : List Str
  /-- the defs that show values; whether this is one -/
  gns : List Str
  grd : Bool
def Tab.at_ (T : Tab) (x : Str) : Tab := { T with told := if makers.contains x then T.told else none, grd := T.gns.contains x }
/-- may x be called with n arguments here -/
def gOk (T : Tab) (x : Str) (n : Nat) : Bool := !T.gns.contains x || (T.grd && decide (n ≠ 0))
def opB : Op → Operator → Bool
  | .add, .Add | .sub, .Sub | .mul, .Mult | .fdiv, .FloorDiv | .mod, .Mod | .pow, .Pow => true
  | _, _ => false
def cpB : Cp → CmpOp → Bool
  | .eq, .Eq | .ne, .NotEq | .lt, .Lt | .le, .LtE | .gt, .Gt | .ge, .GtE | .isN, .Is | .notN, .IsNot | .inn, .In | .notin, .NotIn => true
  | _, _ => false
def prS : Pr → Str
  | .len => "len" | .int => "int" | .abs => "abs" | .min2 => "min" | .max2 => "max" | .divmod => "divmod" | .gcd => "gcd" | .all => "all" | .any => "any" | .sum => "sum" | .tup => "tuple" | .lst => "list"
  | .min1 => "min" | .max1 => "max" | .sorted => "sorted" | .repr => "repr"
def prA : Pr → Nat
  | .min2 | .max2 | .divmod | .gcd => 2
  | _ => 1
/-- an expression whose list is a new one -/
def fresh : E → Bool
  | .lst _ => true
  | .comp _ _ _ _ _ => true
  | .prim .lst _ => true
  | .prim .sorted _ => true
  | .rngv false _ => true
  | .bin .mul _ _ => true
  | .bin .add _ _ => true
  | .sl _ _ _ => true
  | _ => false
def chkNames (sc : Scope) (N : List Str) : List Nat → List Expr → Bool
  | [], [] => true
  | i :: is, .Name x _ :: es => decide (N[i]? = some x) && locB sc x && chkNames sc N is es
  | _, _ => false
def chkNest (sc : Scope) (N : List Str) (i : Nat) (is : List Nat) : Expr → Bool
  | .Tuple [.Name x _, .Tuple es _ _] _ _ => decide (N[i]? = some x) && locB sc x && chkNames sc N is es
  | _ => false
def chkTg (sc : Scope) (N : List Str) : Tg → Expr → Bool
  | .name i, .Name x _ => decide (N[i]? = some x) && locB sc x
  | .tup is, .Tuple es _ _ => chkNames sc N is es
  | .nest i is, e => chkNest sc N i is e
  | _, _ => false
def tgIn (own : List Nat) : Tg → Bool
  | .name i => decide (i ∈ own)
  | .tup is => is.all fun i => decide (i ∈ own)
  | .nest i is => decide (i ∈ own) && is.all fun i => decide (i ∈ own)
def kwOk : List Str → List Keyword → Bool
  | [], [] => true
  | x :: xs, ⟨n, _, _⟩ :: r => decide (n = some x) && kwOk xs r
  | _, _ => false
def kwVals : List Keyword → List Expr
  | [] => []
  | ⟨_, e, _⟩ :: r => e :: kwVals r
theorem kwOk_ok {pos : Pos} {env : PySem.Env} : ∀ {ks : List Str} {kws : List Keyword}, kwOk ks kws = true →
    (backToKw pos (keywordEach kws env)).all (·.1.isSome) = true ∧ (backToKw pos (keywordEach kws env)).filterMap (·.1) = ks ∧ (backToKw pos (keywordEach kws env)).any (·.1.isNone) = false ∧ kws.length = ks.length
  | [], [], _ => ⟨rfl, rfl, rfl, rfl⟩
  | x :: xs, ⟨n, e, p⟩ :: r, h => by
    simp only [kwOk, Bool.and_eq_true, decide_eq_true_eq] at h
    obtain ⟨h1, h2⟩ := h
    obtain ⟨a, b, c, d⟩ := kwOk_ok (pos := pos) (env := env) h2
    subst h1
    have e1 : backToKw pos (keywordEach (⟨some x, e, p⟩ :: r) env) = (some x, do let v ← eval e env; standAt pos; pure v) :: backToKw pos (keywordEach r env) := rfl
    rw [e1]
    refine ⟨by rw [List.all_cons, a]; rfl, by rw [List.filterMap_cons, b], by rw [List.any_cons, c]; rfl, congrArg Nat.succ d⟩
  | [], _ :: _, h => by cases h
  | _ :: _, [], h => by cases h
theorem kwVals_len : ∀ kws : List Keyword, (kwVals kws).length = kws.length
  | [] => rfl
  | ⟨_, _, _⟩ :: r => congrArg Nat.succ (kwVals_len r)
def isTup : Expr → Bool
  | .Tuple _ _ _ => true
  | _ => false
def isiArgs : List Expr → Option (Expr × Str)
  | [y, .Name z _] => some (y, z)
  | _ => none
theorem isiArgs_ok {xs : List Expr} {y : Expr} {z : Str} (h : isiArgs xs = some (y, z)) : ∃ p, xs = [y, .Name z p] := by
  unfold isiArgs at h
  split at h
  · cases h; exact ⟨_, rfl⟩
  · cases h
def oneGen : List Comprehension → Option (Expr × Expr × List Expr)
  | [⟨g, i, ifs, a⟩] => if a = 0 then some (g, i, ifs) else none
  | _ => none
theorem oneGen_ok {gs : List Comprehension} {g i : Expr} {ifs : List Expr} (h : oneGen gs = some (g, i, ifs)) : gs = [⟨g, i, ifs, 0⟩] := by
  unfold oneGen at h
  split at h
  · split at h
    · rename_i ha
      cases h
      rw [ha]
    · cases h
  · cases h
/-- two for, the test at the last one -/
def twoGen : List Comprehension → Option (Expr × Expr × Expr × Expr × List Expr)
  | [⟨g, i, [], a⟩, ⟨g1, i1, ifs, b⟩] => if a = 0 ∧ b = 0 then some (g, i, g1, i1, ifs) else none
  | _ => none
theorem twoGen_ok {gs : List Comprehension} {g i g1 i1 : Expr} {ifs : List Expr} (h : twoGen gs = some (g, i, g1, i1, ifs)) : gs = [⟨g, i, [], 0⟩, ⟨g1, i1, ifs, 0⟩] := by
  unfold twoGen at h
  split at h
  · split at h
    · rename_i ha
      cases h
      rw [ha.1, ha.2]
    · cases h
  · cases h
/-- xs[::-1] -/
def rvArg : Expr → Option Expr
  | .Subscript x (.Slice none none (some (.UnaryOp .USub (.Constant (.int 1) _ _) _)) _) _ => some x
  | _ => none
theorem rvArg_ok {e x : Expr} (h : rvArg e = some x) : ∃ k p1 p2 p3 pos, e = .Subscript x (.Slice none none (some (.UnaryOp .USub (.Constant (.int 1) k p1) p2)) p3) pos := by
  unfold rvArg at h
  split at h
  · cases h; exact ⟨_, _, _, _, _, rfl⟩
  · cases h
/-- range(b), range(a, b) -/
def rngArgs : Expr → Option (Str × List Expr)
  | .Call (.Name x _) [y] [] _ => some (x, [y])
  | .Call (.Name x _) [y, z] [] _ => some (x, [y, z])
  | _ => none
theorem rngArgs_1 {e y : Expr} {x : Str} (h : rngArgs e = some (x, [y])) : ∃ p q, e = .Call (.Name x p) [y] [] q := by
  unfold rngArgs at h
  split at h
  · cases h; exact ⟨_, _, rfl⟩
  · cases h
  · cases h
theorem rngArgs_2 {e y z : Expr} {x : Str} (h : rngArgs e = some (x, [y, z])) : ∃ p q, e = .Call (.Name x p) [y, z] [] q := by
  unfold rngArgs at h
  split at h
  · cases h
  · cases h; exact ⟨_, _, rfl⟩
  · cases h
/-- names alone -/
def chkVs (N : List Str) (sc : Scope) : Es → List Expr → Bool
  | .nil, [] => true
  | .cons (.var i) es, .Name x _ :: xs => decide (N[i]? = some x) && visB sc x && !(x == ("__debug__" : Str)) && !(x == ("__classdict__" : Str)) && chkVs N sc es xs
  | _, _ => false
def chkTE (T : Tab) (N : List Str) (sc : Scope) : E → Expr → Bool
  | .call f es, .Call (.Name x _) xs [] _ => glB sc x && decide ((T.fns f).map (·.name) = some x ∧ T.gns.contains x = false) && notStars xs && chkVs N sc es xs
  | .callK f ks perm es zs, .Call (.Name x _) xs kws _ => glB sc x && decide ((T.fns f).map (·.name) = some x ∧ T.gns.contains x = false) && notStars xs && kwOk ks kws && decide ((f, xs.length, ks, perm) ∈ T.kws) && chkVs N sc es xs && chkVs N sc zs (kwVals kws)
  | _, _ => false
def noArgs : Arguments → Bool
  | ⟨[], [], none, [], [], none, []⟩ => true
  | _ => false
theorem noArgs_ok {a : Arguments} (h : noArgs a = true) : a = ⟨[], [], none, [], [], none, []⟩ := by
  unfold noArgs at h
  split at h
  · rfl
  · cases h
def chkTold (T : Tab) (N : List Str) (sc : Scope) (t : Bool) (x : Str) (a : E) : Expr → Bool
  | .Call (.Name g _) [.Lambda ps body scp _] [] _ => decide (T.told = some (g, t, x)) && glB sc g && noArgs ps && LamX.lamSB sc scp && chkTE T N scp a body
  | _ => false
mutual
def chkE (T : Tab) (N : List Str) : Scope → E → Expr → Bool
  | sc, .var i, e => match e with
    | .Name x _ => decide (N[i]? = some x) && visB sc x && !(x == ("__debug__" : Str)) && !(x == ("__classdict__" : Str))
    | _ => false
  | _, .int i, e => match e with
    | .Constant (.int j) _ _ => decide (i = j)
    | _ => false
  | _, .bl b, e => match e with
    | .Constant (.bool c) _ _ => b == c
    | _ => false
  | _, .non, e => match e with
    | .Constant .none _ _ => true
    | _ => false
  | _, .str x, e => match e with
    | .Constant (.str y) _ _ => decide (x = y)
    | _ => false
  | sc, .glob g, e => match e with
    | .Name x _ => glB sc x && decide (T.glob g = some x)
    | _ => false
  | sc, .tup es, e => match e with
    | .Tuple xs _ _ => decide (xs.length ≤ 1000) && chkEs T N sc es xs
    | _ => false
  | sc, .tupA a b, e => match e with
    | .Tuple [x, .Starred y _] _ _ => notStar x && chkE T N sc a x && chkE T N sc b y
    | _ => false
  | sc, .tupB b a, e => match e with
    | .Tuple [.Starred y _, x] _ _ => notStar x && chkE T N sc b y && chkE T N sc a x
    | _ => false
  | sc, .lst es, e => match e with
    | .List xs _ => decide (xs.length ≤ 1000) && chkEs T N sc es xs
    | _ => false
  | sc, .bin op a b, e => match e with
    | .BinOp x o y _ => opB op o && chkE T N sc a x && chkE T N sc b y
    | _ => false
  | sc, .neg a, e => match e with
    | .UnaryOp .USub x _ => chkE T N sc a x
    | _ => false
  | sc, .not a, e => match e with
    | .UnaryOp .Not x _ => chkE T N sc a x
    | _ => false
  | sc, .cmp k a b, e => match e with
    | .Compare x [o] [y] _ => cpB k o && !behindInMarks o y && chkE T N sc a x && chkE T N sc b y
    | _ => false
  | sc, .chain k k' a b d, e => match e with
    | .Compare x [o, o'] [y, z] _ => cpB k o && cpB k' o' && !lastMarks [o, o'] [y, z] && chkE T N sc a x && chkE T N sc b y && chkE T N sc d z
    | _ => false
  | sc, .and a b, e => match e with
    | .BoolOp .And [x, y] _ => chkE T N sc a x && chkE T N sc b y
    | .BoolOp .And (x :: y :: z :: r) p => chkE T N sc a x && chkE T N sc b (.BoolOp .And (y :: z :: r) p)
    | _ => false
  | sc, .or a b, e => match e with
    | .BoolOp .Or [x, y] _ => chkE T N sc a x && chkE T N sc b y
    | .BoolOp .Or (x :: y :: z :: r) p => chkE T N sc a x && chkE T N sc b (.BoolOp .Or (y :: z :: r) p)
    | _ => false
  | sc, .orT a, e => match e with
    | .BoolOp .Or [x, .Tuple [] _ _] _ => chkE T N sc a x
    | _ => false
  | sc, .ite t a b, e => match e with
    | .IfExp x y z _ => chkE T N sc t x && chkE T N sc a y && chkE T N sc b z
    | _ => false
  | sc, .call f es, e => match e with
    | .Call (.Name x _) xs [] _ => glB sc x && decide ((T.fns f).map (·.name) = some x ∧ gOk T x xs.length = true) && notStars xs && chkEs T N sc es xs
    | _ => false
  | sc, .callK f ks perm es zs, e => match e with
    | .Call (.Name x _) xs kws _ => glB sc x && decide ((T.fns f).map (·.name) = some x ∧ T.gns.contains x = false) && notStars xs && kwOk ks kws && decide ((f, xs.length, ks, perm) ∈ T.kws) && chkEs T N sc es xs && chkEs T N sc zs (kwVals kws)
    | _ => false
  | sc, .prim p es, e => match e with
    | .Call (.Name x _) xs [] _ => glB sc x && decide (x = prS p) && decide (xs.length = prA p) && ((T.gcd || decide (p ≠ .gcd)) && (T.grd || decide (p ≠ .repr))) && notStars xs && chkEs T N sc es xs
    | _ => false
  | sc, .isi a t, e => match e with
    | .Call (.Name x _) xs [] _ => (match isiArgs xs with
      | some (y, z) => glB sc x && glB sc z && decide (x = "isinstance") && decide (z = Str.ofString (tyS t)) && notStar y && chkE T N sc a y
      | none => false)
    | _ => false
  | sc, .idx a i, e => match e with
    | .Subscript x y _ => noSlice y && chkE T N sc a x && chkE T N sc i y
    | _ => false
  | sc, .sl a lo hi, e => match e with
    | .Subscript x (.Slice l h none _) _ => chkE T N sc a x && chkO T N sc lo l && chkO T N sc hi h
    | _ => false
  | sc, .comp it tg own t elt, e => match e with
    | .ListComp x gs scp _ => (match oneGen gs with
      | some (g, i, ifs) => chkIt T N sc it g i && blkC N sc scp own && chkTg scp N tg g && tgIn (own.map (·.2)) tg && chkIf T N scp t ifs && chkE T N scp elt x && noSet i
      | none => false)
    | _ => false
  | sc, .comp2 it tg it1 tg1 own vs1 t elt, e => match e with
    | .ListComp x gs scp _ => (match twoGen gs with
      | some (g, i, g1, i1, ifs) => chkIt T N sc it g i && blkC N sc scp own && chkTg scp N tg g && tgIn (own.map (·.2)) tg && chkIt T N scp it1 g1 i1 && chkTg scp N tg1 g1 && tgIn vs1 tg1 && (vs1.all fun i => decide (i ∈ own.map (·.2))) && chkIf T N scp t ifs && chkE T N scp elt x && noSet i && noSet i1
      | none => false)
    | _ => false
  | sc, .rvs a, e => match rvArg e with
    | some x => chkE T N sc a x
    | none => false
  | _, .dct, e => match e with
    | .Dict [] [] _ => true
    | _ => false
  | sc, .alloc a, e => fresh a && chkE T N sc a e
  | sc, .pop o i, e => match e with
    | .Call (.Attribute x m ap) xs [] cp => decide (m = "pop") && noCall x && (ap.endLine == cp.line) && notStars xs && chkE T N sc o x && chkPop T N sc i xs
    | _ => false
  | sc, .rngv t r, e => match e with
    | .Call (.Name x _) [y] [] _ => glB sc x && decide (x = if t then "tuple" else "list") && notStar y && chkRg T N sc r y
    | _ => false
  | sc, .told t x a, e => chkTold T N sc t x a e
def chkRg (T : Tab) (N : List Str) : Scope → Rg → Expr → Bool
  | sc, .one b, r => match rngArgs r with
    | some (x, [y]) => glB sc x && decide (x = "range") && notStar y && chkE T N sc b y
    | _ => false
  | sc, .two a b, r => match rngArgs r with
    | some (x, [y, z]) => glB sc x && decide (x = "range") && notStar y && notStar z && chkE T N sc a y && chkE T N sc b z
    | _ => false
def chkEs (T : Tab) (N : List Str) : Scope → Es → List Expr → Bool
  | _, .nil, xs => match xs with
    | [] => true
    | _ => false
  | sc, .cons e es, xs => match xs with
    | x :: xs => notStar x && chkE T N sc e x && chkEs T N sc es xs
    | _ => false
def chkO (T : Tab) (N : List Str) : Scope → Eo → Option Expr → Bool
  | _, .no, x => match x with
    | none => true
    | _ => false
  | sc, .so e, x => match x with
    | some x => chkE T N sc e x
    | _ => false
def chkIf (T : Tab) (N : List Str) : Scope → Eo → List Expr → Bool
  | _, .no, xs => match xs with
    | [] => true
    | _ => false
  | sc, .so e, xs => match xs with
    | [x] => chkE T N sc e x
    | _ => false
def chkPop (T : Tab) (N : List Str) : Scope → Eo → List Expr → Bool
  | _, .no, xs => match xs with
    | [] => true
    | _ => false
  | sc, .so e, xs => match xs with
    | [x] => chkE T N sc e x
    | _ => false
def chkIt (T : Tab) (N : List Str) : Scope → It → Expr → Expr → Bool
  | sc, .seq e, _, i => chkE T N sc e i
  | sc, .rng1 e, _, i => match i with
    | .Call (.Name x _) [y] [] _ => glB sc x && decide (x = "range") && notStar y && chkE T N sc e y
    | _ => false
  | sc, .rng2 a b, _, i => match i with
    | .Call (.Name x _) [y, z] [] _ => glB sc x && decide (x = "range") && notStar y && notStar z && chkE T N sc a y && chkE T N sc b z
    | _ => false
  | sc, .rng3 a b d, _, i => match i with
    | .Call (.Name x _) [y, z, u] [] _ => glB sc x && decide (x = "range") && notStar y && notStar z && notStar u && chkE T N sc a y && chkE T N sc b z && chkE T N sc d u
    | _ => false
  | sc, .enu e, g, i => match i with
    | .Call (.Name x _) [y] [] _ => isTup g && glB sc x && decide (x = "enumerate") && notStar y && chkE T N sc e y
    | _ => false
  | sc, .zip a b, g, i => match i with
    | .Call (.Name x _) [y, z] [] _ => isTup g && glB sc x && decide (x = "zip") && notStar y && notStar z && chkE T N sc a y && chkE T N sc b z
    | _ => false
  | sc, .zip3 a b d, g, i => match i with
    | .Call (.Name x _) [y, z, u] [] _ => isTup g && glB sc x && decide (x = "zip") && notStar y && notStar z && notStar u && chkE T N sc a y && chkE T N sc b z && chkE T N sc d u
    | _ => false
  | sc, .rev e, _, i => match i with
    | .Call (.Name x _) [y] [] _ => glB sc x && decide (x = "reversed") && notStar y && chkE T N sc e y
    | _ => false
  | sc, .rrng r, _, i => match i with
    | .Call (.Name x _) [y] [] _ => glB sc x && decide (x = "reversed") && notStar y && chkRg T N sc r y
    | _ => false
end
end Rf
end

section
set_option maxRecDepth 100000
set_option maxHeartbeats 4000000
set_option autoImplicit false
namespace Rf
open PySem PySem.Spec PyProof.Rows L2
/-! ## defs that run where nothing is being shown -/
structure FnG (P : Program) (w : World) (K : PySem.W.Frag) (mg : Str → Option Value) (base : Heap) (CX : CXT) (k : Nat) (f : Addr) (fd : FuncData) (ps : List Str) (sp : Sp) : Prop where
  ar : ∀ {vs : List V} {H : Hp} {Q : VK} {E : XK}, sp vs H Q E → vs.length = ps.length
  go : ∀ {A : Around} {outer : List PySem.Env} {s : Shared} {H : Hp} {args : Args} {us : List Value} {vs : List V} {Q : VK} {E : XK}, A.guards = some [] → Room k A → Env0 P w K mg base A outer s H → BindsTo s fd args (ps.zip us) → Vals vs us → sp vs H Q E →
    codeAny (model P w) A (.call (.ref f) args) (CR CX outer P w H s Q E) s
section
variable {P : Program} {w : World} {K : PySem.W.Frag} {mg : Str → Option Value} {base : Heap} {CX : CXT} {k : Nat} {f : Addr} {fd : FuncData} {ps : List Str} {sp : Sp}
theorem FnG.of (F : FnOk P w K mg base CX k f fd ps sp) : FnG P w K mg base CX k f fd ps sp := ⟨fun z => F.len _ _ _ _ z, fun _ hr e hb r z => F.run _ _ _ _ _ _ _ _ _ hr e hb r z⟩
/-- by its body -/
theorem fnG_of {name qual : Str} {params : Arguments} {body : List Stmt} {scope : Scope} {dV kV doc pm cdv ct oc : Value} {an od : Option Addr} {osl : Array (Option Value)} {N : List Str}
    (lk : K.lookup f = some ⟨oc, od, .func (PySem.W.fnOf name qual params body scope dV kV doc pm an cdv ct), osl⟩) (hcd : PySem.W.codeIn K cdv qual = true) (S : FnScope N ps scope) (ar : ∀ {vs : List V} {H : Hp} {Q : VK} {E : XK}, sp vs H Q E → vs.length = ps.length)
    (hbody : ∀ (A : Around) (outer : List PySem.Env) (s : Shared) (H : Hp) (vs : List V) (Q : VK) (E : XK), A.guards = some [] → Room k (A.deeper (envOfC qual scope s.heap.objs.size f cdv)) → sp vs H Q E →
      ∃ t, PSs (cxOf CX P w K mg base N qual scope f cdv A outer s H E) body t ∧ t { nx := fun _ H' => Q .non H', rt := Q } (L2.start N vs) H) :
    FnG P w K mg base CX (k + 1) f (PySem.W.fnOf name qual params body scope dV kV doc pm an cdv ct) ps sp where
  ar := ar
  go := by
    intro A outer s H args us vs Q E gA hr e0 hb r z
    have inK : K.In s.heap := e0.mod.kin.keeps fun b o e => (e0.bs b o e).1
    have par : ∀ y ∈ ps.zip us, scope.names.lookup y.1 = some .local ∨ (scope.names.lookup y.1 = some .cell ∧ ((cellsFrom (s.heap.objs.size + 1) scope.names []).lookup y.1).isSome = true) := by
      rintro ⟨n, v⟩ hy
      cases S.par n (List.of_mem_zip hy).1 with
      | inl q => exact .inl q
      | inr q => exact .inr ⟨q, PySem.W.cellsFrom_some _ _ _ (.inl q)⟩
    refine codeAny_call_function hr.depth (inK _ _ lk) rfl S.co S.gen rfl (PySem.W.codeRec_of inK hcd) (hb _ _ _ _ (wpAny_newFunctionEnv_cells S.kind par ?_))
    rintro env rfl s1 x
    obtain ⟨t, pt, ht⟩ := hbody A outer s H vs Q E gA (hr.deeper _) z
    have J := inv_start (CX := CX) (E := E) S hr.hd e0 (ar z) r x
    refine ⟨(e0.mod.nolimit.keeps fun b o e => (e0.bs b o e).1).keeps x.toInCall.keep, codeAny_func (wpAny_mono (pt.run [] s1 _ H _ J ht) (fun fl s' hs => ?_) fun _ _ hs => hs)⟩
    cases fl with
    | ret u =>
      obtain ⟨v, σ', H', J', rv, q⟩ := hs
      exact ⟨v, H', J'.os, J'.bare, J'.base, J'.hok, rv, q⟩
    | next =>
      obtain ⟨σ', H', J', q⟩ := hs
      exact ⟨.non, H', J'.os, J'.bare, J'.base, J'.hok, rfl, q⟩
    | brk => exact hs.elim fun _ z => z.elim fun _ z => z.2.elim
    | cont => exact hs.elim fun _ z => z.elim fun _ z => z.2.elim
end
section
variable {X : Cx} {CX : CXT} {k : Nat} {f : Addr} {fd : FuncData} {ps : List Str} {sp : Sp} {E : XK} {x : Str} {p pos : Pos} {e : Expr} {es : List Expr} {t : TA}
theorem pe_callG (F : FnG X.prog X.w X.K X.mg X.base CX k f fd ps sp) (gA : X.A.guards = some []) (hr : Room k X.A) (hg : Gl X x) (hm : X.mg x = some (.ref f)) (hk : PySem.W.keepIn X.K (.ref f) = true) (hb : Binds X.K fd ps []) (hx : Passes CX X E)
    (ha : PA X (e :: es) t) (hdb : (x == ("__debug__" : Str)) = false) (he : starEach (e :: es) X.env = (false, eval e X.env) :: starEach es X.env) (hpl : (backTo pos (starEach es X.env)).any (·.1) = false) :
    PE X (.Call (.Name x p) (e :: es) [] pos) (tCall sp [] E t) where
  run := by
    intro pins s σ H Q I h
    have call_it : ∀ (us : List Value) (s1 : Shared) (vs : List V) (H1 : Hp), Inv X pins σ H1 s1 → Vals vs us → sp (vs ++ []) H1 Q E → wpAny (model X.prog X.w) X.A (PySem.call (.ref f) us) (EP X pins σ Q) X.xe s1 := by
      intro us s1 vs H1 I1 r z
      rw [List.append_nil] at z
      have hl : (us ++ []).length = ps.length := by rw [List.append_nil, ← r.length]; exact F.ar z
      have b := hb s1 us I1.kIn hl
      rw [List.append_nil] at b
      refine wpAny_call (codeAny_mono (F.go gA hr I1.env0 b r z) ?_)
      intro r s' q
      match r, q with
      | .error e, q => exact hx pins σ H1 s1 e s' I1 q
      | .ok (.ret u), q => exact I1.after q
      | .ok .next, q => exact q.elim
      | .ok .brk, q => exact q.elim
      | .ok .cont, q => exact q.elim
    refine wpAny_Call_Name_kw (ld_glob I hg hm (PySem.W.callWith_K (h₀ := X.base) I.ok.mod.kin hk (thn (ha.run pos pins s σ H _ I h) ?_) he hpl) hdb)
    rintro us s1 ⟨vs, H1, I1, r, z⟩
    exact ⟨I1.kIn, call_it us s1 vs H1 I1 r z⟩
end
end Rf
end

section
set_option maxRecDepth 100000
set_option maxHeartbeats 4000000
set_option autoImplicit false
namespace Rf
open PySem PySem.Spec PyProof.Rows L2

/-! ## weaker readings -/
section
variable {X : Cx}
theorem PE_imp {e : Expr} {t t' : TE} (h : PE X e t) (k : ∀ σ H Q, t' σ H Q → t σ H Q) : PE X e t' := ⟨fun pins s σ H Q I q => h.run pins s σ H Q I (k σ H Q q)⟩
theorem PT_imp {e : Expr} {t t' : TT} (h : PT X e t) (k : ∀ σ H Q, t' σ H Q → t σ H Q) : PT X e t' := ⟨fun pins s σ H Q I q => h.run pins s σ H Q I (k σ H Q q)⟩
theorem PW_imp {e : Expr} {t t' : TT} (h : PW X e t) (k : ∀ σ H Q, t' σ H Q → t σ H Q) : PW X e t' := ⟨fun wh pins s σ H Q I q => h.run wh pins s σ H Q I (k σ H Q q)⟩
theorem PA_imp {es : List Expr} {t t' : TA} (h : PA X es t) (k : ∀ σ H Q, t' σ H Q → t σ H Q) : PA X es t' := ⟨fun pos pins s σ H Q I q => h.run pos pins s σ H Q I (k σ H Q q)⟩
theorem PK_imp {es : List Keyword} {t t' : TA} (h : PK X es t) (k : ∀ σ H Q, t' σ H Q → t σ H Q) : PK X es t' := ⟨fun pos pins s σ H Q I q => h.run pos pins s σ H Q I (k σ H Q q)⟩
theorem PTs_imp {es : List Expr} {t t' : TT} (h : PTs X es t) (k : ∀ σ H Q, t' σ H Q → t σ H Q) : PTs X es t' := ⟨fun pins s σ H Q I q => h.run pins s σ H Q I (k σ H Q q)⟩
theorem PO_imp {e : Option Expr} {t t' : TO} (h : PO X e t) (k : ∀ σ H Q, t' σ H Q → t σ H Q) : PO X e t' := ⟨fun pins s σ H Q I q => h.run pins s σ H Q I (k σ H Q q)⟩
theorem PG_imp {e : Expr} {t t' : TG} (h : PG X e t) (k : ∀ v σ H Q, t' v σ H Q → t v σ H Q) : PG X e t' := ⟨fun pins s σ H v u Q I r q => h.run pins s σ H v u Q I r (k v σ H Q q)⟩
theorem PI_imp {g e : Expr} {t t' : TI} (h : PI X g e t) (k : ∀ σ H R, t' σ H R → t σ H R) : PI X g e t' := ⟨fun pins s σ H R I q => h.run pins s σ H R I (k σ H R q)⟩
theorem PI_or {g e : Expr} {t t' : TI} (h : PI X g e t) (h' : PI X g e t') : PI X g e (fun σ H R => t σ H R ∨ t' σ H R) := ⟨fun pins s σ H R I q => by
  rcases q with q | q
  · exact h.run pins s σ H R I q
  · exact h'.run pins s σ H R I q⟩
theorem PS_imp {e : Stmt} {t t' : TS} (h : PS X e t) (k : ∀ D σ H, t' D σ H → t D σ H) : PS X e t' := ⟨fun pins s σ H D I q => h.run pins s σ H D I (k D σ H q)⟩
theorem PSs_imp {e : List Stmt} {t t' : TS} (h : PSs X e t) (k : ∀ D σ H, t' D σ H → t D σ H) : PSs X e t' := ⟨fun pins s σ H D I q => h.run pins s σ H D I (k D σ H q)⟩
theorem OpR_imp {f : Value → Value → Sem Value} {r r' : R2} (h : OpR X f r) (k : ∀ x y H Q, r' x y H Q → r x y H Q) : OpR X f r' := fun pins s σ H x y v u Q I a b q => h pins s σ H x y v u Q I a b (k x y H Q q)
end

/-! ## the readings of the own syntax -/
section
variable (K : PySem.W.Frag) (G : Nat → Option D) (c : Cal)
/-- what is wanted behind an expression that ends in d, S' -/
def Post (B : Addr → Prop) (L : List Addr) (H : Hp) (S' : Sto) (d : D) (fr : Bool) (Q : VK) : Prop :=
  ∀ v B' L' H', Mv B L H B' L' H' → Wd K B' L' S' H' → Rp K B' L' H' d v → (fr = true → ∀ xs, d = .lst xs → Frs K B' L' S' H H' xs v) → Q v H'
def tEv (e : E) : TE := fun σV H Q => ∃ B L σ S d S', Wd K B L S H ∧ REnv K B L H σ σV ∧ ev G c e σ S = some (d, S') ∧ Post K B L H S' d (fresh e) Q
def tEvT (e : E) : TT := fun σV H Q => ∃ B L σ S b S', Wd K B L S H ∧ REnv K B L H σ σV ∧ ev G c e σ S = some (.bl b, S') ∧ ∀ B' L' H', Mv B L H B' L' H' → Wd K B' L' S' H' → Q b H'
def tEvs (es : Es) : TA := fun σV H Q => ∃ B L σ S ds S', Wd K B L S H ∧ REnv K B L H σ σV ∧ evs G c es σ S = some (ds, S') ∧ ∀ vs B' L' H', Mv B L H B' L' H' → Wd K B' L' S' H' → Rps K B' L' H' ds vs → Q vs H'
def tEvo (e : Eo) : TO := fun σV H Q => ∃ B L σ S o S', Wd K B L S H ∧ REnv K B L H σ σV ∧ evo G c e σ S = some (o, S') ∧ ∀ B' L' H', Mv B L H B' L' H' → Wd K B' L' S' H' → Q o H'
def tEvI (e : Eo) : TT := fun σV H Q => ∃ B L σ S b S', Wd K B L S H ∧ REnv K B L H σ σV ∧ evt G c e σ S = some (b, S') ∧ ∀ B' L' H', Mv B L H B' L' H' → Wd K B' L' S' H' → Q b H'
/-- the walk J serves the items of w from this state on -/
def WkOk (J : L2.It) (w : Wk) (B : Addr → Prop) (L : List Addr) (S : Sto) (H : Hp) : Prop :=
  ∀ B' L' S' H', Mv B L H B' L' H' → Wd K B' L' S' H' → w.still S' = true → ∀ i : Nat,
    (w.items.length = i → J.stop i H') ∧ ∀ d, w.items[i]? = some d → J.go i H' ∧ ∀ x H2, J.yld i H' x H2 → Mv B' L' H' B' L' H2 ∧ Wd K B' L' S' H2 ∧ Rp K B' L' H2 d x
def tEvIt (e : It) : TI := fun σV H R => ∃ B L σ S w S', Wd K B L S H ∧ REnv K B L H σ σV ∧ evIt G c e σ S = some (w, S') ∧ ∀ J B' L' H', Mv B L H B' L' H' → Wd K B' L' S' H' → WkOk K J w B' L' S' H' → w.still S' = true → R J H'
def tEvR (r : Rg) : L2.St → Hp → (Int → Int → Hp → Prop) → Prop := fun σV H Q => ∃ B L σ S i j S', Wd K B L S H ∧ REnv K B L H σ σV ∧ evR G c r σ S = some (i, j, S') ∧ ∀ B' L' H', Mv B L H B' L' H' → Wd K B' L' S' H' → Q i j H'
def tTg (g : Tg) : TG := fun v σV H Q => ∃ B L S σ d σ', Wd K B L S H ∧ REnv K B L H σ σV ∧ Rp K B L H d v ∧ tgD g d σ = some σ' ∧
  ∀ σV', REnv K B L H σ' σV' → (∀ us, tgIn us g = true → L2.wipe σV' us = L2.wipe σV us) → Q σV' H
end

section
variable {K : PySem.W.Frag} {G : Nat → Option D} {c : Cal} {B B1 B2 B' : Addr → Prop} {L L1 L2' L' : List Addr} {S S1 S2 S' : Sto} {H H1 H2 H' : Hp} {σ : DEnv} {σV : L2.St}
theorem mvE (e : Ext L H H') : Mv B L H B L H' := ⟨fun _ h => h, fun _ h => .inl h, ⟨[], (List.append_nil L).symm, fun _ h => nomatch h⟩, e⟩
theorem Frs.back {xs : List D} {v : V} (w : Wd K B L S H) (w1 : Wd K B1 L1 S1 H1) (m : Mv B L H B1 L1 H1) (f : Frs K B' L' S' H1 H' xs v) : Frs K B' L' S' H H' xs v := by
  obtain ⟨p, vs, e, h, r⟩ := f
  exact ⟨p, vs, e, m.free w w1 h, r⟩
/-- the value comes by a rule over values, behind the operands -/
theorem Post.pf {d : D} {fr : Bool} {Q : VK} (q : Post K B L H S1 d fr Q) (w : Wd K B L S H) (w1 : Wd K B1 L1 S1 H1) (m : Mv B L H B1 L1 H1) : PF K B1 L1 S1 H1 d Q :=
  fun u H' e w' r f => q u B1 L1 H' (m.trans (mvE e) w w1) w' r fun _ xs ed => (f xs ed).back w w1 m
theorem Post.pv {d : D} {Q : VK} (q : Post K B L H S1 d false Q) (w : Wd K B L S H) (w1 : Wd K B1 L1 S1 H1) (m : Mv B L H B1 L1 H1) : PV K B1 L1 S1 H1 d Q :=
  fun u H' e w' r => q u B1 L1 H' (m.trans (mvE e) w w1) w' r fun z => nomatch z
theorem Post.here {d : D} {fr : Bool} {Q : VK} {v : V} (q : Post K B L H S d fr Q) (w : Wd K B L S H) (r : Rp K B L H d v) (hf : fr = false ∨ ∀ xs, d ≠ .lst xs) : Q v H :=
  q v B L H (Mv.refl B L H) w r fun z xs e => hf.elim (fun y => by rw [y] at z; cases z) fun y => absurd e (y xs)
/-- two in a row -/
theorem two {a b : E} {x y : D} {R : V → V → Hp → Prop} (w : Wd K B L S H) (r : REnv K B L H σ σV) (ea : ev G c a σ S = some (x, S1)) (eb : ev G c b σ S1 = some (y, S2))
    (k : ∀ v u B' L' H', Mv B L H B' L' H' → Wd K B' L' S2 H' → REnv K B' L' H' σ σV → Rp K B' L' H' x v → Rp K B' L' H' y u → R v u H') :
    tEv K G c a σV H fun v H1 => tEv K G c b σV H1 fun u H2 => R v u H2 :=
  ⟨B, L, σ, S, x, S1, w, r, ea, fun v B1 L1 H1 m w1 rv _ => ⟨B1, L1, σ, S1, y, S2, w1, r.mv w m, eb, fun u B2 L2 H2 m2 w2 ru _ =>
    k v u B2 L2 H2 (m.trans m2 w w1) w2 ((r.mv w m).mv w1 m2) (rv.mv w1 m2) ru⟩⟩
theorem three {S3 : Sto} {a b d : E} {x y z : D} {R : V → V → V → Hp → Prop} (w : Wd K B L S H) (r : REnv K B L H σ σV) (ea : ev G c a σ S = some (x, S1)) (eb : ev G c b σ S1 = some (y, S2)) (ed : ev G c d σ S2 = some (z, S3))
    (k : ∀ v u t B' L' H', Mv B L H B' L' H' → Wd K B' L' S3 H' → REnv K B' L' H' σ σV → Rp K B' L' H' x v → Rp K B' L' H' y u → Rp K B' L' H' z t → R v u t H') :
    tEv K G c a σV H fun v H1 => tEv K G c b σV H1 fun u H2 => tEv K G c d σV H2 fun t H3 => R v u t H3 :=
  ⟨B, L, σ, S, x, S1, w, r, ea, fun v B1 L1 H1 m w1 rv _ => ⟨B1, L1, σ, S1, y, S2, w1, r.mv w m, eb, fun u B2 L2 H2 m2 w2 ru _ => ⟨B2, L2, σ, S2, z, S3, w2, (r.mv w m).mv w1 m2, ed, fun t B3 L3 H3 m3 w3 rt _ =>
    k v u t B3 L3 H3 ((m.trans m2 w w1).trans m3 w w2) w3 (((r.mv w m).mv w1 m2).mv w2 m3) ((rv.mv w1 m2).mv w2 m3) (ru.mv w2 m3) rt⟩⟩⟩
theorem one {a : E} {x : D} {R : V → Hp → Prop} (w : Wd K B L S H) (r : REnv K B L H σ σV) (ea : ev G c a σ S = some (x, S1))
    (k : ∀ v B' L' H', Mv B L H B' L' H' → Wd K B' L' S1 H' → REnv K B' L' H' σ σV → Rp K B' L' H' x v → R v H') : tEv K G c a σV H R :=
  ⟨B, L, σ, S, x, S1, w, r, ea, fun v B1 L1 H1 m w1 rv _ => k v B1 L1 H1 m w1 (r.mv w m) rv⟩
theorem tst {a : E} {x : Bool} {R : Bool → Hp → Prop} (w : Wd K B L S H) (r : REnv K B L H σ σV) (ea : ev G c a σ S = some (.bl x, S1))
    (k : ∀ B' L' H', Mv B L H B' L' H' → Wd K B' L' S1 H' → REnv K B' L' H' σ σV → R x H') : tEvT K G c a σV H R :=
  ⟨B, L, σ, S, x, S1, w, r, ea, fun B1 L1 H1 m w1 => k B1 L1 H1 m w1 (r.mv w m)⟩
theorem args {es : Es} {ds : List D} {R : List V → Hp → Prop} (w : Wd K B L S H) (r : REnv K B L H σ σV) (ea : evs G c es σ S = some (ds, S1))
    (k : ∀ vs B' L' H', Mv B L H B' L' H' → Wd K B' L' S1 H' → REnv K B' L' H' σ σV → Rps K B' L' H' ds vs → R vs H') : tEvs K G c es σV H R :=
  ⟨B, L, σ, S, ds, S1, w, r, ea, fun v B1 L1 H1 m w1 rv => k v B1 L1 H1 m w1 (r.mv w m) rv⟩
/-- .. on from a state behind -/
theorem Post.on {d : D} {fr fr' : Bool} {Q : VK} (q : Post K B L H S2 d fr Q) (w : Wd K B L S H) (w1 : Wd K B1 L1 S1 H1) (m : Mv B L H B1 L1 H1) (hf : fr = true → fr' = true) : Post K B1 L1 H1 S2 d fr' Q :=
  fun v B' L' H' m2 w2 rv f => q v B' L' H' (m.trans m2 w w1) w2 rv fun z xs e => (f (hf z) xs e).back w w1 m
end

/-! ## the context -/
/-- a def's promise: what the evaluator says, of its end or of its exception -/
def spF (K : PySem.W.Frag) (G : Nat → Option D) (T : Nat → Option Fn) (W k f np : Nat) : Sp := fun vs H Q Ex => ∃ B L S ds, Wd K B L S H ∧ Rps K B L H ds vs ∧ ds.length = np ∧
  ((∃ d S', runF G T W k f ds S = some (d, S') ∧ ∀ v B' L' H', Mv B L H B' L' H' → Wd K B' L' S' H' → Rp K B' L' H' d v → Q v H') ∨
    ∃ y S', runF G T W k (f + rzN) ds S = some (.str y, S') ∧ ∀ B' L' H', Mv B L H B' L' H' → Wd K B' L' S' H' → Ex (.ref (He.ga K y)) none H')
/-- a class of exceptions -/
structure ExcOk (K : PySem.W.Frag) (mg : Str → Option Value) (x : Str) : Prop where
  m : mg x = some (.ref (He.ga K x))
  f : PySem.W.excIn K (He.ga K x) He.veBase "ValueError.__new__" = true
  kp : PySem.W.keepIn K (.ref (He.ga K x)) = true
  sub : PySem.W.subIn K (.ref (He.ga K x)) (.type "BaseException") = some true
  ty : PySem.W.typeIn K (.ref (He.ga K x)) = some (.type "type")
def retB (t : Bool) (a : Str) : Expr → Bool
  | .Tuple [.Constant (.bool true) _ _, .Call (.Name b _) [] [] _] _ _ => t && decide (b = a)
  | .List [.Call (.Name b _) [] [] _] _ => !t && decide (b = a)
  | _ => false
def ret0B (t : Bool) : Expr → Bool
  | .Tuple [.Constant (.bool false) _ _] _ _ => t
  | .List [] _ => !t
  | _ => false
/-- try: return .. a() .. / except x: return .. -/
def toldB (t : Bool) (x a : Str) (sg : Scope) : List Stmt → Bool
  | [.Try [.Return (some r) _] [.ExceptHandler (some (.Name y _)) none [.Return (some r0) _] _] [] [] _] => decide (y = x) && retB t a r && ret0B t r0 && decide (sg.names.lookup x = some .globalImplicit) && !(x == ("__debug__" : Str)) && visB sg a && !(a == ("__debug__" : Str)) && !(a == ("__classdict__" : Str))
  | _ => false
/-- the def that catches -/
structure ToldD (K : PySem.W.Frag) (mg : Str → Option Value) (g : Str) (t : Bool) (x : Str) : Prop where
  ex : ∃ (f : Addr) (a : Str) (pg : Arguments) (bg : List Stmt) (sg : Scope) (kV doc pm cdv ct oc : Value) (an od : Option Addr) (osl : Array (Option Value)), mg g = some (.ref f) ∧ PySem.W.keepIn K (.ref f) = true ∧
    K.lookup f = some ⟨oc, od, .func (PySem.W.fnOf g g pg bg sg .none kV doc pm an cdv ct), osl⟩ ∧ PySem.W.codeIn K cdv g = true ∧ L2.Binds K (PySem.W.fnOf g g pg bg sg .none kV doc pm an cdv ct) [a] [] ∧ FnScope [a] [a] sg ∧ toldB t x a sg bg = true
  exm : PySem.W.exmOne K (.ref (He.ga K x)) (.ref (He.ga K x)) = some true
  exc : mg x = some (.ref (He.ga K x))
/-- where lambdas may be made -/
structure LamOk (X : Cx) (k : Nat) (g : Str) (t : Bool) (x : Str) : Prop where
  d : ToldD X.K X.mg g t x
  tb : ∃ c P, X.env.code = .ref c ∧ LamX.TabB X.base X.mg c P ∧ (P, X.env.qual ++ "<lambda>") ∈ tabsK X.K ∧ ∀ p ∈ tabsK X.K, p.1 = P → p.2 = X.env.qual ++ "<lambda>"
  room : Room (3 * k + 2) X.A
structure CO (T : Tab) (G : Nat → Option D) (W k : Nat) (N : List Str) (sc : Scope) (X : Cx) : Prop where
  names : X.N = N
  nd : N.Nodup
  calm : X.calm = true
  room : Room (3 * k) X.A
  vis : ∀ x, Vis sc x → Vis X.env.scope x
  loc : ∀ x, L2.Loc sc x → L2.Loc X.env.scope x ∧ (X.fn x = true ∨ X.env.scope.names.lookup x = some .local)
  gl : ∀ x, sc.names.lookup x = some .globalImplicit → Gl X x
  cf : ∀ x, sc.names.lookup x = some .cell ∨ sc.names.lookup x = some .free → X.env.scope.names.lookup x = some .cell ∨ X.env.scope.names.lookup x = some .free
  bl : ∀ x ∈ builtNames, X.mg x = none
  gcd : T.gcd = true → X.mg "gcd" = some (.builtin "math.gcd")
  glob : ∀ (g : Nat) (x : Str), T.glob g = some x → ∃ v u, X.mg x = some u ∧ RelV v u ∧ ∀ d, G g = some d → ∀ B L H, Rp X.K B L H d v
  fns : ∀ (f : Nat) (fn : Fn), T.fns f = some fn → T.gns.contains fn.name = false → ∃ fa fd ps, FnOk X.prog X.w X.K X.mg X.base (L2.CX X.prog X.w) (3 * k) fa fd ps (spF X.K G T.fns W k f fn.np) ∧ X.mg fn.name = some (.ref fa) ∧ PySem.W.keepIn X.K (.ref fa) = true ∧ Binds X.K fd ps [] ∧ ∀ n ks perm, (f, n, ks, perm) ∈ T.kws → KBn X.K fd ps n ks (fun us ws => us ++ pick perm ws) (fun us ws => us ++ pick perm ws)
  exc : ∀ x ∈ T.exc, ExcOk X.K X.mg x
  gfn : T.grd = true → X.A.guards = some [] ∧ ∀ (f : Nat) (fn : Fn), T.fns f = some fn → ∃ fa fd ps, FnG X.prog X.w X.K X.mg X.base (L2.CX X.prog X.w) (3 * k) fa fd ps (spF X.K G T.fns W k f fn.np) ∧ X.mg fn.name = some (.ref fa) ∧ PySem.W.keepIn X.K (.ref fa) = true ∧ Binds X.K fd ps []
  lam : ∀ g t x, T.told = some (g, t, x) → LamOk X k g t x
  hi : ∀ (f : Nat) (fn : Fn), T.fns f = some fn → T.fns (f + rzN) = none

theorem lookup_mapF {f : Str × NameKind → Str × NameKind} (hf : ∀ n k, f (n, k) = (n, k) ∨ (k = .free ∧ f (n, k) = (n, .cell))) : ∀ {names : List (Str × NameKind)} {x : Str} {k : NameKind}, names.lookup x = some k →
    (names.map f).lookup x = some k ∨ (k = .free ∧ (names.map f).lookup x = some .cell)
  | [], x, k, h => by simp at h
  | (n, k₀) :: r, x, k, h => by
    have ih := @lookup_mapF f hf r x k
    rw [List.map_cons]
    cases hx : x == n with
    | true =>
      simp only [List.lookup_cons, hx] at h
      cases h
      rcases hf n k₀ with e | ⟨z, e⟩ <;> rw [e] <;> simp only [List.lookup_cons, hx]
      · exact .inl trivial
      · exact .inr ⟨z, trivial⟩
    | false =>
      simp only [List.lookup_cons, hx] at h
      rcases hf n k₀ with e | ⟨z, e⟩ <;> rw [e] <;> simp only [List.lookup_cons, hx] <;> exact ih h
theorem relS_fwd {sc : Scope} {names : List (Str × NameKind)} {x : Str} {k : NameKind} (h : names.lookup x = some k) :
    (names.map fun (n, k) => if (k == NameKind.free && sc.kind == .function && sc.names.lookup n == some .cell) then (n, NameKind.cell) else (n, k)).lookup x = some k ∨
    (k = .free ∧ (names.map fun (n, k) => if (k == NameKind.free && sc.kind == .function && sc.names.lookup n == some .cell) then (n, NameKind.cell) else (n, k)).lookup x = some .cell) := by
  refine lookup_mapF (fun n k => ?_) h
  show (if (k == NameKind.free && sc.kind == .function && sc.names.lookup n == some .cell) = true then (n, NameKind.cell) else (n, k)) = (n, k) ∨ (k = .free ∧ (if (k == NameKind.free && sc.kind == .function && sc.names.lookup n == some .cell) = true then (n, NameKind.cell) else (n, k)) = (n, .cell))
  by_cases hc : (k == NameKind.free && sc.kind == .function && sc.names.lookup n == some .cell) = true
  · refine .inr ⟨?_, if_pos hc⟩
    simp only [Bool.and_eq_true, beq_iff_eq] at hc
    exact hc.1.1
  · exact .inl (if_neg hc)
section
variable {T : Tab} {G : Nat → Option D} {W k : Nat} {N : List Str} {sc scp : Scope} {X : Cx}
theorem blk_scope (s : Shared) (H : Hp) (C : Addr) (cl : List (Str × Addr)) (fp : List Addr) : (X.blk s H scp (compEnvC scp cl C X.env) fp).env.scope = relS scp X.env.scope := rfl
theorem CO.blk (o : CO T G W k N sc X) {s : Shared} {H : Hp} {C : Addr} {cl : List (Str × Addr)} {fp : List Addr} : CO T G W k N scp (X.blk s H scp (compEnvC scp cl C X.env) fp) := by
  have hs : (X.blk s H scp (compEnvC scp cl C X.env) fp).env.scope.names = scp.names.map fun (n, k) => if (k == NameKind.free && X.env.scope.kind == .function && X.env.scope.names.lookup n == some .cell) then (n, NameKind.cell) else (n, k) := rfl
  refine ⟨o.names, o.nd, o.calm, o.room, fun x h => ?_, fun x h => ?_, fun x h => ?_, fun x h => ?_, o.bl, o.gcd, o.glob, o.fns, o.exc, o.gfn, fun g t x h => ⟨(o.lam g t x h).d, (o.lam g t x h).tb, (o.lam g t x h).room⟩, o.hi⟩
  · unfold Vis at h ⊢
    rw [hs]
    rcases h with h | h | h <;> rcases relS_fwd (sc := X.env.scope) h with e | ⟨z, e⟩ <;> first | cases z | skip
    · exact .inl e
    · exact .inr (.inl e)
    · exact .inr (.inr e)
    · exact .inr (.inl e)
  · unfold L2.Loc at h ⊢
    rw [hs]
    rcases h with h | h <;> rcases relS_fwd (sc := X.env.scope) h with e | ⟨z, e⟩ <;> first | cases z | skip
    · exact ⟨.inl e, .inr e⟩
    · exact ⟨.inr e, .inl (by show (scp.names.lookup x == some NameKind.cell) = true; rw [h]; rfl)⟩
  · show (X.blk s H scp (compEnvC scp cl C X.env) fp).env.scope.names.lookup x = _
    rw [hs]
    rcases relS_fwd (sc := X.env.scope) h with e | ⟨z, e⟩
    · exact e
    · cases z
  · rw [hs]
    rcases h with h | h <;> rcases relS_fwd (sc := X.env.scope) h with e | ⟨z, e⟩ <;> first | cases z | skip
    · exact .inl e
    · exact .inr e
    · exact .inl e
theorem CO.blkOk (o : CO T G W k N sc X) {own : List (Str × Nat)} (h : blkC N sc scp own = true) : BlkOk X.N X.env.scope scp own := by
  have b := blkOk_by h
  rw [o.names]
  exact ⟨b.kind, b.uniq, b.ix, fun y hy e => o.cf _ (b.free y hy e), b.own⟩
theorem CO.ndX (o : CO T G W k N sc X) : X.N.Nodup := by rw [o.names]; exact o.nd
end
end Rf
end

section
set_option maxRecDepth 100000
set_option maxHeartbeats 4000000
set_option autoImplicit false
namespace Rf
open PySem PySem.Spec PyProof.Rows L2
section
variable {K : PySem.W.Frag} {B B1 B' : Addr → Prop} {L L1 L' : List Addr} {S S1 S' : Sto} {H H1 H' : Hp}

/-! ## what is walked -/
theorem still_app {a b : List (Nat × List D)} {xs : List D} (h : (Wk.mk xs (a ++ b)).still S = true) : (Wk.mk xs a).still S = true ∧ (Wk.mk xs b).still S = true := by
  unfold Wk.still at h ⊢
  rw [List.all_append, Bool.and_eq_true] at h
  exact h
theorem still_of {n : Nat} {ys xs : List D} (h : (Wk.mk ys [(n, xs)]).still S = true) : S[n]? = some xs := by
  unfold Wk.still at h
  simp only [List.all_cons, List.all_nil, Bool.and_true] at h
  split at h
  · rename_i zs e
    rw [D.beqs_eq _ _ h] at e
    exact e
  · cases h
theorem still_items {a : List (Nat × List D)} {xs ys : List D} (h : (Wk.mk xs a).still S = true) : (Wk.mk ys a).still S = true := h
theorem heldOf_some {n : Nat} {xs : List D} (e : S[n]? = some xs) : heldOf S (.loc n) = [(n, xs)] := by simp only [heldOf, e]
theorem heldOf_none {n : Nat} (e : S[n]? = none) : heldOf S (.loc n) = [] := by simp only [heldOf, e]
theorem still_start {d : D} {ys : List D} : (Wk.mk ys (heldOf S d)).still S = true := by
  cases d with
  | loc n =>
    cases e : S[n]? with
    | none => rw [heldOf_none e]; rfl
    | some xs =>
      rw [heldOf_some e]
      simp only [Wk.still, List.all_cons, List.all_nil, Bool.and_true, e]
      exact D.beqs_refl xs
  | _ => rfl
theorem still_start2 {d e : D} {ys : List D} : (Wk.mk ys (heldOf S d ++ heldOf S e)).still S = true := by
  have h1 := still_start (S := S) (d := d) (ys := ys)
  have h2 := still_start (S := S) (d := e) (ys := ys)
  unfold Wk.still at h1 h2 ⊢
  rw [List.all_append, h1, h2]
  rfl
theorem still_start3 {d e f : D} {ys : List D} : (Wk.mk ys (heldOf S d ++ (heldOf S e ++ heldOf S f))).still S = true := by
  have h1 := still_start (S := S) (d := d) (ys := ys)
  have h2 := still_start2 (S := S) (d := e) (e := f) (ys := ys)
  unfold Wk.still at h1 h2 ⊢
  rw [List.all_append, h1, h2]
  rfl
/-- a list that is walked, as it stands later -/
theorem srcL {d : D} {v : V} {xs ys : List D} (w : Wd K B L S H) (r : Rp K B L H d v) (e : lstOf S d = some xs) : ∃ a, v = .ref a ∧ (∃ vs, SqL K H a vs) ∧
    ∀ B' L' S' H', Mv B L H B' L' H' → Wd K B' L' S' H' → (Wk.mk ys (heldOf S d)).still S' = true → ∃ vs, SqL K H' a vs ∧ Rps K B' L' H' xs vs := by
  obtain ⟨a, vs, rfl, hs, qs⟩ := r.sqL w e
  refine ⟨a, rfl, ⟨vs, hs⟩, fun B' L' S' H' m w' st => ?_⟩
  cases r with
  | lst h n q =>
    cases e
    have hl : a ∉ L := fun z => n (w.sub a z)
    exact ⟨_, .inl (.inl (m.ext a _ h (noT_lst _) hl)), q.mv w m⟩
  | fro h q =>
    cases e
    exact ⟨_, (Rf.FrL.extB h w.lists (m.extB w) m.dn).sqL, q.mv w m⟩
  | @loc n a h =>
    have e' : S[n]? = some xs := e
    have st' : (Wk.mk ys [(n, xs)]).still S' = true := by
      rw [heldOf_some e'] at st
      exact st
    obtain ⟨b, us, e1, e2, q⟩ := w'.sto n xs (still_of st')
    rw [m.get h] at e1; cases e1
    exact ⟨us, .inl (.inl e2), q⟩
  | _ => cases e
theorem srcT {v : V} {xs : List D} (w : Wd K B L S H) (r : Rp K B L H (.tup xs) v) : ∃ a, v = .ref a ∧ (∃ vs, SqT K H a vs) ∧
    ∀ B' L' S' H', Mv B L H B' L' H' → Wd K B' L' S' H' → ∃ vs, SqT K H' a vs ∧ Rps K B' L' H' xs vs := by
  obtain ⟨a, vs, rfl, hs, qs⟩ := r.sqT
  exact ⟨a, rfl, ⟨vs, hs⟩, fun B' L' S' H' m w' => ⟨vs, Rf.SqT.extB hs w.lists (m.extB w), qs.mv w m⟩⟩

theorem mv_here (w : Wd K B L S H) : Mv B L H B L H ∧ Wd K B L S H := ⟨Mv.refl B L H, w⟩
theorem wk_list {a : Addr} {xs : List D} {hd : List (Nat × List D)}
    (src : ∀ B' L' S' H', Mv B L H B' L' H' → Wd K B' L' S' H' → (Wk.mk xs hd).still S' = true → ∃ vs, SqL K H' a vs ∧ Rps K B' L' H' xs vs) : WkOk K (Itl K a) ⟨xs, hd⟩ B L S H := by
  intro B' L' S' H' m w' st i
  obtain ⟨vs, hs, qs⟩ := src B' L' S' H' m w' st
  refine ⟨fun h => ⟨vs, hs, by rw [← qs.length]; exact Nat.le_of_eq h⟩, fun d e => ?_⟩
  obtain ⟨v, e1, rv⟩ := qs.get e
  refine ⟨⟨vs, v, hs, e1⟩, fun x H2 y => ?_⟩
  obtain ⟨rfl, f⟩ := y
  have e2 := f vs hs
  rw [e1] at e2; cases e2
  exact ⟨Mv.refl _ _ _, w', rv⟩
theorem wk_tup {a : Addr} {xs : List D} {hd : List (Nat × List D)}
    (src : ∀ B' L' S' H', Mv B L H B' L' H' → Wd K B' L' S' H' → ∃ vs, SqT K H' a vs ∧ Rps K B' L' H' xs vs) : WkOk K (Itt K a) ⟨xs, hd⟩ B L S H := by
  intro B' L' S' H' m w' st i
  obtain ⟨vs, hs, qs⟩ := src B' L' S' H' m w'
  refine ⟨fun h => ⟨vs, hs, by rw [← qs.length]; exact Nat.le_of_eq h⟩, fun d e => ?_⟩
  obtain ⟨v, e1, rv⟩ := qs.get e
  refine ⟨⟨vs, v, hs, e1⟩, fun x H2 y => ?_⟩
  obtain ⟨rfl, f⟩ := y
  have e2 := f vs hs
  rw [e1] at e2; cases e2
  exact ⟨Mv.refl _ _ _, w', rv⟩
theorem wk_rng {lo : Int} {n : Nat} : WkOk K (Itr lo n) ⟨(List.range n).map fun k => .int (lo + (k : Nat)), []⟩ B L S H := by
  intro B' L' S' H' m w' st i
  refine ⟨fun h => (by have h2 := h; simp at h2; omega : n ≤ i), fun d e => ?_⟩
  rw [List.getElem?_map] at e
  obtain ⟨j, e1, e2⟩ := Option.map_eq_some_iff.mp e
  obtain ⟨hj, e3⟩ := List.getElem?_eq_some_iff.mp e1
  rw [List.getElem_range] at e3
  subst e3 e2
  refine ⟨(by simpa using hj : i < n), fun x H2 y => ?_⟩
  obtain ⟨rfl, rfl⟩ := y
  exact ⟨Mv.refl _ _ _, w', .int _⟩
theorem wk_rngc {lo c : Int} {n : Nat} : WkOk K (Itc lo c n) ⟨(List.range n).map fun k => .int (lo + (k : Nat) * c), []⟩ B L S H := by
  intro B' L' S' H' m w' st i
  refine ⟨fun h => (by have h2 := h; simp at h2; omega : n ≤ i), fun d e => ?_⟩
  rw [List.getElem?_map] at e
  obtain ⟨j, e1, e2⟩ := Option.map_eq_some_iff.mp e
  obtain ⟨hj, e3⟩ := List.getElem?_eq_some_iff.mp e1
  rw [List.getElem_range] at e3
  subst e3 e2
  refine ⟨(by simpa using hj : i < n), fun x H2 y => ?_⟩
  obtain ⟨rfl, rfl⟩ := y
  exact ⟨Mv.refl _ _ _, w', .int _⟩
theorem tup_new {p : Addr} {d e : D} {x y : V} (w : Wd K B L S H) (h : H p = none) (r1 : Rp K B L H d x) (r2 : Rp K B L H e y) :
    Mv B L H B L (upd H p (.tup [x, y])) ∧ Wd K B L S (upd H p (.tup [x, y])) ∧ Rp K B L (upd H p (.tup [x, y])) (.tup [d, e]) (.ref p) :=
  ⟨mv_new h, w.new h, .tup (SqT.of upd_same) (.cons (r1.new w h) (.cons (r2.new w h) .nil))⟩
theorem wk_enum {a : Addr} {xs : List D} {hd : List (Nat × List D)}
    (src : ∀ B' L' S' H', Mv B L H B' L' H' → Wd K B' L' S' H' → (Wk.mk xs hd).still S' = true → ∃ vs, SqL K H' a vs ∧ Rps K B' L' H' xs vs) :
    WkOk K (Ite K a) ⟨xs.zipIdx.map fun p => .tup [.int (p.2 : Nat), p.1], hd⟩ B L S H := by
  intro B' L' S' H' m w' st i
  obtain ⟨vs, hs, qs⟩ := src B' L' S' H' m w' st
  refine ⟨fun h => ⟨vs, hs, by rw [← qs.length]; have h2 := h; simp at h2; omega⟩, fun d e => ?_⟩
  rw [List.getElem?_map] at e
  obtain ⟨⟨z, j⟩, e1, e2⟩ := Option.map_eq_some_iff.mp e
  rw [List.getElem?_zipIdx] at e1
  obtain ⟨z', e3, e4⟩ := Option.map_eq_some_iff.mp e1
  cases e4
  subst e2
  obtain ⟨v, e5, rv⟩ := qs.get e3
  refine ⟨⟨vs, v, hs, e5⟩, fun x H2 y => ?_⟩
  obtain ⟨p, x', rfl, hp, rfl, f⟩ := y
  have e6 := f vs hs
  rw [e5] at e6; cases e6
  have ez : 0 + i = i := Nat.zero_add i
  rw [ez]
  exact tup_new w' hp (.int _) rv
theorem wk_enumT {a : Addr} {xs : List D} {hd : List (Nat × List D)}
    (src : ∀ B' L' S' H', Mv B L H B' L' H' → Wd K B' L' S' H' → ∃ vs, SqT K H' a vs ∧ Rps K B' L' H' xs vs) :
    WkOk K (ItE K a) ⟨xs.zipIdx.map fun p => .tup [.int (p.2 : Nat), p.1], hd⟩ B L S H := by
  intro B' L' S' H' m w' st i
  obtain ⟨vs, hs, qs⟩ := src B' L' S' H' m w'
  refine ⟨fun h => ⟨vs, hs, by rw [← qs.length]; have h2 := h; simp at h2; omega⟩, fun d e => ?_⟩
  rw [List.getElem?_map] at e
  obtain ⟨⟨z, j⟩, e1, e2⟩ := Option.map_eq_some_iff.mp e
  rw [List.getElem?_zipIdx] at e1
  obtain ⟨z', e3, e4⟩ := Option.map_eq_some_iff.mp e1
  cases e4
  subst e2
  obtain ⟨v, e5, rv⟩ := qs.get e3
  refine ⟨⟨vs, v, hs, e5⟩, fun x H2 y => ?_⟩
  obtain ⟨p, x', rfl, hp, rfl, f⟩ := y
  have e6 := f vs hs
  rw [e5] at e6; cases e6
  have ez : 0 + i = i := Nat.zero_add i
  rw [ez]
  exact tup_new w' hp (.int _) rv
theorem zip_get {xs ys : List D} {i : Nat} {d : D} (e : ((xs.zip ys).map fun p => D.tup [p.1, p.2])[i]? = some d) : ∃ x y, xs[i]? = some x ∧ ys[i]? = some y ∧ d = .tup [x, y] := by
  rw [List.getElem?_map] at e
  obtain ⟨⟨x, y⟩, e1, e2⟩ := Option.map_eq_some_iff.mp e
  have h := List.getElem?_zip_eq_some.mp e1
  exact ⟨x, y, h.1, h.2, e2.symm⟩
theorem wk_zipX {t1 t2 : Bool} {a b : Addr} {xs ys : List D} {hd : List (Nat × List D)}
    (s1 : ∀ B' L' S' H', Mv B L H B' L' H' → Wd K B' L' S' H' → (Wk.mk xs hd).still S' = true → ∃ vs, SqX t1 K H' a vs ∧ Rps K B' L' H' xs vs)
    (s2 : ∀ B' L' S' H', Mv B L H B' L' H' → Wd K B' L' S' H' → (Wk.mk xs hd).still S' = true → ∃ vs, SqX t2 K H' b vs ∧ Rps K B' L' H' ys vs) :
    WkOk K (ItzM K t1 t2 a b) ⟨(xs.zip ys).map fun p => .tup [p.1, p.2], hd⟩ B L S H := by
  intro B' L' S' H' m w' st i
  obtain ⟨vs, hs, qs⟩ := s1 B' L' S' H' m w' st
  obtain ⟨us, hu, qu⟩ := s2 B' L' S' H' m w' st
  refine ⟨fun h => ⟨vs, us, hs, hu, ?_⟩, fun d e => ?_⟩
  · rw [← qs.length, ← qu.length]
    simp only [List.length_map, List.length_zip] at h
    exact h
  · obtain ⟨x, y, e1, e2, rfl⟩ := zip_get e
    obtain ⟨v, e3, rv⟩ := qs.get e1
    obtain ⟨u, e4, ru⟩ := qu.get e2
    refine ⟨⟨vs, us, v, u, hs, hu, e3, e4⟩, fun x' H2 z => ?_⟩
    obtain ⟨p, x1, y1, rfl, hp, rfl, f1, f2⟩ := z
    have g1 := f1 vs hs
    have g2 := f2 us hu
    rw [e3] at g1; cases g1
    rw [e4] at g2; cases g2
    exact tup_new w' hp rv ru
theorem tup_new3 {p : Addr} {d e f : D} {x y z : V} (w : Wd K B L S H) (h : H p = none) (r1 : Rp K B L H d x) (r2 : Rp K B L H e y) (r3 : Rp K B L H f z) :
    Mv B L H B L (upd H p (.tup [x, y, z])) ∧ Wd K B L S (upd H p (.tup [x, y, z])) ∧ Rp K B L (upd H p (.tup [x, y, z])) (.tup [d, e, f]) (.ref p) :=
  ⟨mv_new h, w.new h, .tup (SqT.of upd_same) (.cons (r1.new w h) (.cons (r2.new w h) (.cons (r3.new w h) .nil)))⟩
theorem zip_get3 {xs ys zs : List D} {i : Nat} {d : D} (e : ((xs.zip (ys.zip zs)).map fun p => D.tup [p.1, p.2.1, p.2.2])[i]? = some d) : ∃ x y z, xs[i]? = some x ∧ ys[i]? = some y ∧ zs[i]? = some z ∧ d = .tup [x, y, z] := by
  rw [List.getElem?_map] at e
  obtain ⟨⟨x, y, z⟩, e1, e2⟩ := Option.map_eq_some_iff.mp e
  have h := List.getElem?_zip_eq_some.mp e1
  have h2 := List.getElem?_zip_eq_some.mp h.2
  exact ⟨x, y, z, h.1, h2.1, h2.2, e2.symm⟩
theorem wk_zipN {t1 t2 t3 : Bool} {a b c : Addr} {xs ys zs : List D} {hd : List (Nat × List D)}
    (s1 : ∀ B' L' S' H', Mv B L H B' L' H' → Wd K B' L' S' H' → (Wk.mk xs hd).still S' = true → ∃ vs, SqX t1 K H' a vs ∧ Rps K B' L' H' xs vs)
    (s2 : ∀ B' L' S' H', Mv B L H B' L' H' → Wd K B' L' S' H' → (Wk.mk xs hd).still S' = true → ∃ vs, SqX t2 K H' b vs ∧ Rps K B' L' H' ys vs)
    (s3 : ∀ B' L' S' H', Mv B L H B' L' H' → Wd K B' L' S' H' → (Wk.mk xs hd).still S' = true → ∃ vs, SqX t3 K H' c vs ∧ Rps K B' L' H' zs vs) :
    WkOk K (ItzN K t1 t2 t3 a b c) ⟨(xs.zip (ys.zip zs)).map fun p => .tup [p.1, p.2.1, p.2.2], hd⟩ B L S H := by
  intro B' L' S' H' m w' st i
  obtain ⟨vs, hs, qs⟩ := s1 B' L' S' H' m w' st
  obtain ⟨us, hu, qu⟩ := s2 B' L' S' H' m w' st
  obtain ⟨ts, ht, qt⟩ := s3 B' L' S' H' m w' st
  refine ⟨fun h => ⟨vs, us, ts, hs, hu, ht, ?_⟩, fun d e => ?_⟩
  · rw [← qs.length, ← qu.length, ← qt.length]
    simp only [List.length_map, List.length_zip] at h
    omega
  · obtain ⟨x, y, z, e1, e2, e0, rfl⟩ := zip_get3 e
    obtain ⟨v, e3, rv⟩ := qs.get e1
    obtain ⟨u, e4, ru⟩ := qu.get e2
    obtain ⟨t, e5, rt⟩ := qt.get e0
    refine ⟨⟨vs, us, ts, v, u, t, hs, hu, ht, e3, e4, e5⟩, fun x' H2 z => ?_⟩
    obtain ⟨p, x1, y1, z1, rfl, hp, rfl, f1, f2, f3⟩ := z
    have g1 := f1 vs hs
    have g2 := f2 us hu
    have g3 := f3 ts ht
    rw [e3] at g1; cases g1
    rw [e4] at g2; cases g2
    rw [e5] at g3; cases g3
    exact tup_new3 w' hp rv ru rt
/-- a tuple or list that is walked, as it stands later -/
theorem srcX {d : D} {v : V} {xs ys : List D} (w : Wd K B L S H) (r : Rp K B L H d v) (e : seqOf S d = some xs) : ∃ t a, v = .ref a ∧ (∃ vs, SqX t K H a vs) ∧
    ∀ B' L' S' H', Mv B L H B' L' H' → Wd K B' L' S' H' → (Wk.mk ys (heldOf S d)).still S' = true → ∃ vs, SqX t K H' a vs ∧ Rps K B' L' H' xs vs := by
  have lists : lstOf S d = some xs → ∃ t a, v = .ref a ∧ (∃ vs, SqX t K H a vs) ∧
    ∀ B' L' S' H', Mv B L H B' L' H' → Wd K B' L' S' H' → (Wk.mk ys (heldOf S d)).still S' = true → ∃ vs, SqX t K H' a vs ∧ Rps K B' L' H' xs vs := fun f => by
    obtain ⟨a, e1, hs, src⟩ := srcL (ys := ys) w r f
    exact ⟨false, a, e1, hs, src⟩
  cases d with
  | tup zs =>
    cases e
    obtain ⟨a, rfl, hs, src⟩ := srcT w r
    exact ⟨true, a, rfl, hs, fun B' L' S' H' m w' _ => src B' L' S' H' m w'⟩
  | lst zs => exact lists e
  | fro zs => exact lists e
  | loc n => exact lists e
  | _ => cases e
theorem rev_get {xs : List D} {i : Nat} {d : D} (e : xs.reverse[i]? = some d) : i < xs.length ∧ xs[xs.length - 1 - i]? = some d := by
  have hi : i < xs.length := by
    have := (List.getElem?_eq_some_iff.mp e).1
    simpa using this
  exact ⟨hi, by rw [List.getElem?_reverse hi] at e; exact e⟩
theorem wk_revL {a : Addr} {xs : List D} {hd : List (Nat × List D)}
    (src : ∀ B' L' S' H', Mv B L H B' L' H' → Wd K B' L' S' H' → (Wk.mk xs hd).still S' = true → ∃ vs, SqL K H' a vs ∧ Rps K B' L' H' xs vs) : WkOk K (Itv K a xs.length) ⟨xs.reverse, hd⟩ B L S H := by
  intro B' L' S' H' m w' st i
  obtain ⟨vs, hs, qs⟩ := src B' L' S' H' m w' st
  refine ⟨fun h => (by have h2 := h; simp at h2; omega : xs.length ≤ i), fun d e => ?_⟩
  obtain ⟨hi, e1⟩ := rev_get e
  obtain ⟨v, e2, rv⟩ := qs.get e1
  refine ⟨⟨hi, vs, v, hs, e2⟩, fun x H2 y => ?_⟩
  obtain ⟨rfl, f⟩ := y
  have e3 := f vs hs
  rw [e2] at e3; cases e3
  exact ⟨Mv.refl _ _ _, w', rv⟩
theorem wk_revT {a : Addr} {xs : List D} {hd : List (Nat × List D)}
    (src : ∀ B' L' S' H', Mv B L H B' L' H' → Wd K B' L' S' H' → ∃ vs, SqT K H' a vs ∧ Rps K B' L' H' xs vs) : WkOk K (RT.ItvT K a xs.length) ⟨xs.reverse, hd⟩ B L S H := by
  intro B' L' S' H' m w' st i
  obtain ⟨vs, hs, qs⟩ := src B' L' S' H' m w'
  refine ⟨fun h => (by have h2 := h; simp at h2; omega : xs.length ≤ i), fun d e => ?_⟩
  obtain ⟨hi, e1⟩ := rev_get e
  obtain ⟨v, e2, rv⟩ := qs.get e1
  refine ⟨⟨hi, vs, v, hs, e2⟩, fun x H2 y => ?_⟩
  obtain ⟨rfl, f⟩ := y
  have e3 := f vs hs
  rw [e2] at e3; cases e3
  exact ⟨Mv.refl _ _ _, w', rv⟩
end

/-! ## targets -/
section
variable {T : Tab} {G : Nat → Option D} {W k : Nat} {N : List Str} {sc : Scope} {X : Cx}
def gsN : List Nat → TGs
  | [] => gNil
  | i :: is => gCons (gName i) (gsN is)
theorem pgs_names (o : CO T G W k N sc X) : ∀ {is : List Nat} {es : List Expr}, chkNames sc N is es = true → PGs X es (gsN is) ∧ (assignEach es X.env).length = is.length ∧ (assignEach es X.env).findIdx? (·.1) = none
  | [], [], _ => ⟨pgs_nil, rfl, rfl⟩
  | i :: is, e :: es, h => by
    cases e with
    | Name x p =>
      simp only [chkNames, Bool.and_eq_true, decide_eq_true_eq] at h
      obtain ⟨⟨h1, h2⟩, h3⟩ := h
      obtain ⟨r1, r2, r3⟩ := pgs_names o h3
      obtain ⟨l1, l2⟩ := o.loc x (locB_ok h2)
      have ea : assignEach (.Name x p :: es) X.env = (false, assign (.Name x p) X.env) :: assignEach es X.env := rfl
      refine ⟨pgs_cons (pg_name o.ndX (by rw [o.names]; exact h1) l1 l2) r1, ?_, ?_⟩
      · rw [ea, List.length_cons, List.length_cons, r2]
      · rw [ea, List.findIdx?_cons, r3]
        rfl
    | _ => cases h
  | [], _ :: _, h => by cases h
  | _ :: _, [], h => by cases h
theorem gs_ok {K : PySem.W.Frag} {B : Addr → Prop} {L : List Addr} {H : Hp} {Q : L2.St → Hp → Prop} : ∀ {is : List Nat} {ds : List D} {vs : List V} {σ σ' : DEnv} {σV : L2.St}, REnv K B L H σ σV → Rps K B L H ds vs → setAll σ is ds = some σ' →
    (∀ σV', REnv K B L H σ' σV' → (∀ us, (is.all fun i => decide (i ∈ us)) = true → L2.wipe σV' us = L2.wipe σV us) → Q σV' H) → gsN is vs σV H Q
  | [], [], _, σ, σ', σV, r, .nil, e, q => by
    cases e
    exact ⟨rfl, q σV r fun us _ => rfl⟩
  | i :: is, d :: ds, _, σ, σ', σV, r, .cons a b, e, q => by
    refine ⟨_, _, rfl, gs_ok (r.set i a) b e fun σV' r' hw => q σV' r' fun us hu => ?_⟩
    rw [List.all_cons, Bool.and_eq_true, decide_eq_true_eq] at hu
    rw [hw us hu.2, wipe_set_in hu.1]
  | [], _ :: _, _, _, _, _, _, _, e, _ => by cases e
  | _ :: _, [], _, _, _, _, _, _, e, _ => by cases e
theorem setAll_len : ∀ {is : List Nat} {ds : List D} {σ σ' : DEnv}, setAll σ is ds = some σ' → is.length = ds.length
  | [], [], _, _, _ => rfl
  | i :: is, d :: ds, _, _, e => congrArg Nat.succ (setAll_len (is := is) (ds := ds) e)
  | [], _ :: _, _, _, e => by cases e
  | _ :: _, [], _, _, e => by cases e
theorem sTg (o : CO T G W k N sc X) {g : Tg} {e : Expr} (h : chkTg sc N g e = true) : PG X e (tTg X.K g) := by
  cases g with
  | name i =>
    cases e with
    | Name x p =>
      simp only [chkTg, Bool.and_eq_true, decide_eq_true_eq] at h
      obtain ⟨l1, l2⟩ := o.loc x (locB_ok h.2)
      refine PG_imp (pg_name o.ndX (by rw [o.names]; exact h.1) l1 l2) fun v σV H Q => ?_
      rintro ⟨B, L, S, σ, d, σ', w, r, rv, e, q⟩
      cases e
      exact q _ (r.set i rv) fun us hu => wipe_set_in (of_decide_eq_true hu)
    | _ => cases h
  | tup is =>
    cases e with
    | Tuple es kk p =>
      obtain ⟨r1, r2, r3⟩ := pgs_names o (show chkNames sc N is es = true from h)
      refine PG_imp (pg_tup (n := is.length) o.calm r1 r2 r3) fun v σV H Q => ?_
      rintro ⟨B, L, S, σ, d, σ', w, r, rv, e, q⟩
      cases d with
      | tup xs =>
        obtain ⟨a, vs, rfl, ha, qa⟩ := rv.sqT
        exact ⟨a, vs, rfl, ha, by rw [← qa.length]; exact (setAll_len e).symm, gs_ok r qa e q⟩
      | _ => cases e
    | _ => cases h
  | nest i is =>
    have h' : chkNest sc N i is e = true := h
    unfold chkNest at h'
    split at h'
    · rename_i x px es2 k2 p2 k3 p3
      simp only [Bool.and_eq_true, decide_eq_true_eq] at h'
      obtain ⟨⟨h1, h2⟩, h3⟩ := h'
      obtain ⟨l1, l2⟩ := o.loc x (locB_ok h2)
      obtain ⟨r1, r2, r3⟩ := pgs_names o h3
      have p1 := pg_tup (X := X) (pos := p2) (k := k2) (n := is.length) o.calm r1 r2 r3
      refine PG_imp (pg_tup (n := 2) o.calm (pgs_cons (pg_name o.ndX (by rw [o.names]; exact h1) l1 l2) (pgs_cons p1 pgs_nil)) rfl rfl) fun v σV H Q => ?_
      rintro ⟨B, L, S, σ, d, σ', w, r, rv, e, q⟩
      have e' : nestD i is d σ = some σ' := e
      unfold nestD at e'
      split at e'
      · rename_i d1 xs
        have e9 := e'
        obtain ⟨a, vs, rfl, ha, qa⟩ := rv.sqT
        cases qa with
        | cons q1 qa =>
          cases qa with
          | cons q2 qa =>
            cases qa
            obtain ⟨b, ws, rfl, hb, qb⟩ := q2.sqT
            exact ⟨a, _, rfl, ha, rfl, _, _, rfl, _, _, rfl, b, ws, rfl, hb, by rw [← qb.length]; exact (setAll_len e9).symm, gs_ok (r.set i q1) qb e9 fun σV' r' hw => ⟨rfl, q σV' r' fun us hu => by
              have hu' : (decide (i ∈ us) && is.all fun i => decide (i ∈ us)) = true := hu
              rw [Bool.and_eq_true, decide_eq_true_eq] at hu'
              rw [hw us hu'.2, wipe_set_in hu'.1]⟩⟩
      · cases e'
    · cases h'
end

/-! ## a comprehension's loop -/
section
variable {K : PySem.W.Frag}
theorem Mv.keepB {B B' : Addr → Prop} {L L' : List Addr} {H H' : Hp} (m : Mv B L H B' L' H') {a : Addr} {vs : List V} (h : H a = some (.lst vs)) (n : a ∉ L) : H' a = some (.lst vs) ∧ a ∉ L' := by
  refine ⟨m.ext a _ h (noT_lst _) n, fun z => ?_⟩
  obtain ⟨new, e, f⟩ := m.pre
  rw [e] at z
  rcases List.mem_append.mp z with z | z
  · exact n z
  · exact ntH_no (f a z) h (noT_lst _)
/-- an owned list that is no store's is changed -/
theorem own_upd {B : Addr → Prop} {L : List Addr} {S : Sto} {H : Hp} {p : Addr} {vs : List V} (w : Wd K B L S H) (hb : B p) (hn : p ∉ L) :
    Wd K B L S (upd H p (.lst vs)) ∧ ∀ ds us, Rps K B L H ds us → Rps K B L (upd H p (.lst vs)) ds us := by
  have e : ExtB B H (upd H p (.lst vs)) := fun a o q _ nb => by rw [upd_ne fun z => nb (by rw [z]; exact hb)]; exact q
  have mono : ∀ ds us, Rps K B L H ds us → Rps K B L (upd H p (.lst vs)) ds us := fun ds us r => r.mono w.lists e (fun _ b => .inl b) fun _ _ z => z
  refine ⟨⟨w.sub, w.nd, fun a b => ?_, w.len, fun n xs q => ?_, tabs_upd w.tabs (.inr (w.lists p hb))⟩, mono⟩
  · by_cases ha : a = p
    · rw [ha]; exact ⟨vs, upd_same⟩
    · obtain ⟨us, q⟩ := w.lists a b
      exact ⟨us, by rw [upd_ne ha]; exact q⟩
  · obtain ⟨a, us, e1, e2, r⟩ := w.sto n xs q
    have ha : a ≠ p := fun z => hn (by rw [← z]; exact List.mem_of_getElem? e1)
    exact ⟨a, us, e1, by rw [upd_ne ha]; exact e2, mono _ _ r⟩
theorem mv_upd {B0 B : Addr → Prop} {L0 L : List Addr} {H0 H : Hp} {p : Addr} {o : HO} (m : Mv B0 L0 H0 B L H) (h : H0 p = none) : Mv B0 L0 H0 B L (upd H p o) :=
  ⟨m.up, m.dn, m.pre, fun a u e n hl => by rw [upd_ne (ne_of_none e h)]; exact m.ext a u e n hl⟩
/-- p leaves what is owned -/
theorem Wd.less {B : Addr → Prop} {L : List Addr} {S : Sto} {H : Hp} {p : Addr} (w : Wd K B L S H) (hn : p ∉ L) : Wd K (fun a => B a ∧ a ≠ p) L S H :=
  ⟨fun a z => ⟨w.sub a z, fun e => hn (by rw [← e]; exact z)⟩, w.nd, fun a b => w.lists a b.1, w.len, fun n xs q => by
    obtain ⟨a, us, e1, e2, r⟩ := w.sto n xs q
    exact ⟨a, us, e1, e2, r.mono w.lists (fun _ _ z _ _ => z) (fun _ b => .inl b.1) fun _ _ z => z⟩, w.tabs⟩
theorem less_own {B : Addr → Prop} {p : Addr} (h : B p) : (fun a => (B a ∧ a ≠ p) ∨ a = p) = B := by
  funext a
  refine propext ⟨fun z => z.elim (fun y => y.1) fun y => by rw [y]; exact h, fun z => ?_⟩
  by_cases e : a = p
  · exact .inr e
  · exact .inl ⟨z, e⟩
end
end Rf
end

section
set_option maxRecDepth 100000
set_option maxHeartbeats 4000000
set_option autoImplicit false
namespace Rf
open PySem PySem.Spec PyProof.Rows L2

/-! ## a comprehension -/
section
variable {K : PySem.W.Frag} {G : Nat → Option D} {c : Cal}
def compF (G : Nat → Option D) (c : Cal) (tg : Tg) (own : List (Str × Nat)) (t : Eo) (elt : E) (σ : DEnv) : D → Sto → Option (Option D × Sto) := fun x S => match tgD tg x (wipeD σ (own.map (·.2))) with
  | none => none
  | some σ1 => (match evt G c t σ1 S with
    | some (true, S2) => (match ev G c elt σ1 S2 with
      | some (d, S3) => some (some d, S3)
      | none => none)
    | some (false, S2) => some (none, S2)
    | none => none)
theorem compLoop_cons {f : D → Sto → Option (Option D × Sto)} {w : Sto → Bool} {x : D} {xs : List D} {S S2 : Sto} {ys : List D} (e : compLoop f w (x :: xs) S = some (ys, S2)) :
    ∃ o S1 zs, f x S = some (o, S1) ∧ w S1 = true ∧ compLoop f w xs S1 = some (zs, S2) ∧ ys = (match o with | some y => y :: zs | none => zs) := by
  unfold compLoop at e
  cases e1 : f x S with
  | none => rw [e1] at e; cases e
  | some p =>
    obtain ⟨o, S1⟩ := p
    rw [e1] at e
    dsimp only at e
    cases hw : w S1 with
    | false => rw [hw] at e; simp at e
    | true =>
      rw [hw, if_pos rfl] at e
      cases e2 : compLoop f w xs S1 with
      | none => rw [e2] at e; cases e
      | some p =>
        obtain ⟨zs, S3⟩ := p
        rw [e2] at e
        dsimp only at e
        cases o with
        | none => cases e; exact ⟨none, S1, _, rfl, hw, e2, rfl⟩
        | some y => cases e; exact ⟨some y, S1, _, rfl, hw, e2, rfl⟩
theorem compLoop_len {f : D → Sto → Option (Option D × Sto)} {w : Sto → Bool} : ∀ {xs : List D} {S S2 : Sto} {ys : List D}, compLoop f w xs S = some (ys, S2) → ys.length ≤ xs.length
  | [], S, S2, ys, e => by cases e; exact Nat.le_refl _
  | x :: xs, S, S2, ys, e => by
    obtain ⟨o, S1, zs, _, _, e3, rfl⟩ := compLoop_cons e
    have := compLoop_len e3
    cases o <;> simp only [List.length_cons] <;> omega
theorem ev_comp {it : Rf.It} {tg : Tg} {own : List (Str × Nat)} {t : Eo} {elt : E} {σ : DEnv} {S S2 : Sto} {d : D} (e : ev G c (.comp it tg own t elt) σ S = some (d, S2)) :
    ∃ w S1 ys, evIt G c it σ S = some (w, S1) ∧ w.items.length ≤ many ∧ compLoop (compF G c tg own t elt σ) w.still w.items S1 = some (ys, S2) ∧ d = .lst ys := by
  unfold ev at e
  cases e1 : evIt G c it σ S with
  | none => rw [e1] at e; cases e
  | some p =>
    obtain ⟨w, S1⟩ := p
    rw [e1] at e
    dsimp only at e
    split at e
    · rename_i hl
      split at e
      · rename_i ys S3 e2
        cases e
        exact ⟨w, S1, _, rfl, hl, e2, rfl⟩
      · cases e
    · cases e
theorem comp_ok {it : Rf.It} {tg : Tg} {own : List (Str × Nat)} {t : Eo} {elt : E} {σV : L2.St} {H : Hp} {Q : VK} (ht : tgIn (own.map (·.2)) tg = true)
    (h : tEv K G c (.comp it tg own t elt) σV H Q) : tLc (tEvIt K G c it) (tTg K tg) (tEvI K G c t) (tEv K G c elt) (own.map (·.2)) σV H Q := by
  obtain ⟨B, L, σ, S, d, S2, wd, renv, e, q⟩ := h
  obtain ⟨w, S1, ys, e1, hl, e2, rfl⟩ := ev_comp e
  refine ⟨B, L, σ, S, w, S1, wd, renv, e1, fun J B1 L1 H1 m1 wd1 wk st1 => ?_⟩
  intro p hp
  have own1 : Wd K (fun a => B1 a ∨ a = p) L1 S1 (upd H1 p (.lst [])) := wd1.own hp
  have pL1 : p ∉ L1 := wd1.notL hp
  refine ⟨fun i m Hi => m = w.items.length - i ∧ i ≤ w.items.length ∧ ∃ Bi Li Si acc accV zs, Mv B1 L1 H1 Bi Li Hi ∧ Wd K Bi Li Si Hi ∧ Bi p ∧ p ∉ Li ∧ Hi p = some (.lst accV) ∧ Rps K Bi Li Hi acc accV ∧ acc.length ≤ i ∧ w.still Si = true ∧
      compLoop (compF G c tg own t elt σ) w.still (w.items.drop i) Si = some (zs, S2) ∧ acc ++ zs = ys, ⟨_, rfl, Nat.zero_le _, fun a => B1 a ∨ a = p, L1, S1, [], [], ys, ?_, own1, .inr rfl, pL1, upd_same, .nil, Nat.zero_le _, st1, e2, rfl⟩, ?_⟩
  · exact ⟨fun a b => .inl b, fun a b => b.elim .inl fun z => .inr (by rw [z]; exact ntH_of hp), ⟨[], (List.append_nil L1).symm, fun _ z => nomatch z⟩, upd_ext hp⟩
  rintro i m Hi ⟨rfl, hi, Bi, Li, Si, acc, accV, zs, mi, wi, bp, np, ep, ra, la, sti, ei, eys⟩
  obtain ⟨wstop, wgo⟩ := wk Bi Li Si Hi mi wi sti i
  by_cases hlt : i < w.items.length
  · obtain ⟨go, yl⟩ := wgo _ (List.getElem?_eq_getElem hlt)
    refine .inr ⟨go, fun H' => ∃ Bi Li Si acc accV zs, Mv B1 L1 H1 Bi Li H' ∧ Wd K Bi Li Si H' ∧ Bi p ∧ p ∉ Li ∧ H' p = some (.lst accV) ∧ Rps K Bi Li H' acc accV ∧ acc.length ≤ i + 1 ∧ w.still Si = true ∧
      compLoop (compF G c tg own t elt σ) w.still (w.items.drop (i + 1)) Si = some (zs, S2) ∧ acc ++ zs = ys, fun H' hN => ⟨w.items.length - (i + 1), by omega, rfl, hlt, hN⟩, fun x H2 y => ?_⟩
    obtain ⟨my, wy, rx⟩ := yl x H2 y
    rw [List.drop_eq_getElem_cons hlt] at ei
    obtain ⟨o, S1', zs', f1, f2, f3, f4⟩ := compLoop_cons ei
    unfold compF at f1
    cases g1 : tgD tg w.items[i] (wipeD σ (own.map (·.2))) with
    | none => rw [g1] at f1; cases f1
    | some σ1 =>
      rw [g1] at f1
      dsimp only at f1
      have m1y : Mv B1 L1 H1 Bi Li H2 := mi.trans my wd1 wi
      have mHy : Mv B L H Bi Li H2 := m1.trans m1y wd wd1
      have r2 : REnv K Bi Li H2 (wipeD σ (own.map (·.2))) (L2.wipe σV (own.map (·.2))) := (renv.mv wd mHy).wipe _
      refine ⟨Bi, Li, Si, wipeD σ (own.map (·.2)), w.items[i], σ1, wy, r2, rx, g1, fun σV' r' hw => ⟨?_, ?_⟩⟩
      · rw [hw _ ht, wipe_wipe fun v hv => hv]
      · obtain ⟨ep2, _⟩ := my.keepB ep np
        have ra2 := ra.mv wi my
        cases g2 : evt G c t σ1 Si with
        | none => rw [g2] at f1; cases f1
        | some pb =>
          obtain ⟨b, S3⟩ := pb
          rw [g2] at f1
          refine ⟨Bi, Li, σ1, Si, b, S3, wy, r', g2, fun B3 L3 H3 m3 w3 => ?_⟩
          obtain ⟨ep3, np3⟩ := m3.keepB ep2 np
          have ra3 := ra2.mv wy m3
          have m13 := m1y.trans m3 wd1 wy
          cases b with
          | false =>
            cases f1
            rw [if_neg Bool.false_ne_true]
            exact ⟨B3, L3, _, acc, accV, zs', m13, w3, m3.up p bp, np3, ep3, ra3, Nat.le_succ_of_le la, f2, f3, by rw [← eys, f4]⟩
          | true =>
            dsimp only at f1
            rw [if_pos rfl]
            cases g3 : ev G c elt σ1 S3 with
            | none => rw [g3] at f1; cases f1
            | some pd =>
              obtain ⟨d, S4⟩ := pd
              rw [g3] at f1
              cases f1
              refine ⟨B3, L3, σ1, S3, d, _, w3, r'.mv wy m3, g3, fun v B4 L4 H4 m4 w4 rv _ => ?_⟩
              obtain ⟨ep4, np4⟩ := m4.keepB ep3 np3
              have ra4 := ra3.mv w3 m4
              have bp4 := m4.up p (m3.up p bp)
              have m14 := m13.trans m4 wd1 w3
              obtain ⟨w5, mono⟩ := own_upd (vs := accV ++ [v]) w4 bp4 np4
              have ll := ra.length
              have hm := many_le
              refine ⟨accV, ep4, by omega, B4, L4, _, acc ++ [d], accV ++ [v], zs', mv_upd m14 hp, w5, bp4, np4, upd_same, mono _ _ (ra4.append (.cons rv .nil)), by rw [List.length_append]; simp only [List.length_cons, List.length_nil]; omega, f2, f3, by rw [← eys, f4]; simp⟩
  · have en : i = w.items.length := by omega
    refine .inl ⟨wstop (by omega), ?_⟩
    rw [en, List.drop_length] at ei
    cases ei
    rw [List.append_nil] at eys
    subst eys
    have wl := wi.less np
    have mono : ∀ ds us, Rps K Bi Li Hi ds us → Rps K (fun a => Bi a ∧ a ≠ p) Li Hi ds us := fun ds us r => r.mono wi.lists (fun _ _ z _ _ => z) (fun _ b => .inl b.1) fun _ _ z => z
    have nB : ∀ a, B a → a ≠ p := fun a b z => by
      have h1 := wd1.tracked (m1.up a b)
      rw [z] at h1
      exact h1 (ntH_of hp)
    have ml : Mv B L H (fun a => Bi a ∧ a ≠ p) Li Hi := by
      have mm := m1.trans mi wd wd1
      exact ⟨fun a b => ⟨mm.up a b, nB a b⟩, fun a b => mm.dn a b.1, mm.pre, mm.ext⟩
    refine q (.ref p) _ Li Hi ml wl (.lst ep (fun b => b.2 rfl) (mono _ _ ra)) fun _ xs ex => ?_
    cases ex
    refine ⟨p, accV, rfl, m1.free wd wd1 (ntH_of hp), ep, ?_, ?_⟩
    · rw [less_own bp]; exact wi
    · rw [less_own bp]; exact ra
end
end Rf
end

section
set_option maxRecDepth 100000
set_option maxHeartbeats 8000000
set_option autoImplicit false
namespace Rf
open PySem PySem.Spec PyProof.Rows L2

/-! ## the evaluator, read backwards -/
section
variable {G : Nat → Option D} {c : Cal} {σ : DEnv} {S S2 : Sto} {d : D}
theorem ev_tup {es : Es} (e : ev G c (.tup es) σ S = some (d, S2)) : ∃ ds, evs G c es σ S = some (ds, S2) ∧ d = .tup ds := by
  unfold ev at e
  split at e
  · rename_i ds S1 h; cases e; exact ⟨ds, h, rfl⟩
  · cases e
theorem ev_lst {es : Es} (e : ev G c (.lst es) σ S = some (d, S2)) : ∃ ds, evs G c es σ S = some (ds, S2) ∧ d = .lst ds := by
  unfold ev at e
  split at e
  · rename_i ds S1 h; cases e; exact ⟨ds, h, rfl⟩
  · cases e
theorem ev_bin {op : Op} {a b : E} (e : ev G c (.bin op a b) σ S = some (d, S2)) : ∃ x S1 y, ev G c a σ S = some (x, S1) ∧ ev G c b σ S1 = some (y, S2) ∧ opD S2 op x y = some d := by
  unfold ev at e
  split at e
  · rename_i x S1 h1
    split at e
    · rename_i y S3 h2
      split at e
      · rename_i z h3; cases e; exact ⟨x, S1, y, h1, h2, h3⟩
      · cases e
    · cases e
  · cases e
theorem ev_cmp {k : Cp} {a b : E} (e : ev G c (.cmp k a b) σ S = some (d, S2)) : ∃ x S1 y r, ev G c a σ S = some (x, S1) ∧ ev G c b σ S1 = some (y, S2) ∧ cmpD S2 k x y = some r ∧ d = .bl r := by
  unfold ev at e
  split at e
  · rename_i x S1 h1
    split at e
    · rename_i y S3 h2
      split at e
      · rename_i z h3; cases e; exact ⟨x, S1, y, z, h1, h2, h3, rfl⟩
      · cases e
    · cases e
  · cases e
theorem ev_neg {a : E} (e : ev G c (.neg a) σ S = some (d, S2)) : ∃ i, ev G c a σ S = some (.int i, S2) ∧ d = .int (-i) := by
  unfold ev at e
  split at e
  · rename_i i S1 h; cases e; exact ⟨i, h, rfl⟩
  · cases e
theorem ev_not {a : E} (e : ev G c (.not a) σ S = some (d, S2)) : ∃ b, ev G c a σ S = some (.bl b, S2) ∧ d = .bl (!b) := by
  unfold ev at e
  split at e
  · rename_i i S1 h; cases e; exact ⟨i, h, rfl⟩
  · cases e
theorem ev_chain {k k' : Cp} {a b g : E} (e : ev G c (.chain k k' a b g) σ S = some (d, S2)) : ∃ x S1 y S3, ev G c a σ S = some (x, S1) ∧ ev G c b σ S1 = some (y, S3) ∧
    ((cmpD S3 k x y = some true ∧ ∃ z r, ev G c g σ S3 = some (z, S2) ∧ cmpD S2 k' y z = some r ∧ d = .bl r) ∨ (cmpD S3 k x y = some false ∧ S2 = S3 ∧ d = .bl false)) := by
  unfold ev at e
  split at e
  · rename_i x S1 h1
    split at e
    · rename_i y S3 h2
      split at e
      · rename_i h3
        split at e
        · rename_i z S4 h4
          split at e
          · rename_i r h5; cases e; exact ⟨x, S1, y, S3, h1, h2, .inl ⟨h3, z, r, h4, h5, rfl⟩⟩
          · cases e
        · cases e
      · rename_i h3; cases e; exact ⟨x, S1, y, _, h1, h2, .inr ⟨h3, rfl, rfl⟩⟩
      · cases e
    · cases e
  · cases e
theorem ev_and {a b : E} (e : ev G c (.and a b) σ S = some (d, S2)) : (∃ S1, ev G c a σ S = some (.bl true, S1) ∧ ev G c b σ S1 = some (d, S2)) ∨ (ev G c a σ S = some (.bl false, S2) ∧ d = .bl false) := by
  unfold ev at e
  split at e
  · rename_i S1 h; exact .inl ⟨S1, h, e⟩
  · rename_i S1 h; cases e; exact .inr ⟨h, rfl⟩
  · cases e
theorem ev_or {a b : E} (e : ev G c (.or a b) σ S = some (d, S2)) : (∃ S1, ev G c a σ S = some (.bl false, S1) ∧ ev G c b σ S1 = some (d, S2)) ∨ (ev G c a σ S = some (.bl true, S2) ∧ d = .bl true) := by
  unfold ev at e
  split at e
  · rename_i S1 h; cases e; exact .inr ⟨h, rfl⟩
  · rename_i S1 h; exact .inl ⟨S1, h, e⟩
  · cases e
theorem ev_ite {t a b : E} (e : ev G c (.ite t a b) σ S = some (d, S2)) : ∃ k S1, ev G c t σ S = some (.bl k, S1) ∧ (if k = true then ev G c a σ S1 else ev G c b σ S1) = some (d, S2) := by
  unfold ev at e
  split at e
  · rename_i S1 h; exact ⟨true, S1, h, by rw [if_pos rfl]; exact e⟩
  · rename_i S1 h; exact ⟨false, S1, h, by rw [if_neg Bool.false_ne_true]; exact e⟩
  · cases e
theorem ev_call {f : Nat} {es : Es} (e : ev G c (.call f es) σ S = some (d, S2)) : ∃ ds S1, evs G c es σ S = some (ds, S1) ∧ c f ds S1 = some (d, S2) := by
  unfold ev at e
  split at e
  · rename_i ds S1 h; exact ⟨ds, S1, h, e⟩
  · cases e
theorem ev_callK {f : Nat} {ks : List Str} {perm : List Nat} {es zs : Es} (e : ev G c (.callK f ks perm es zs) σ S = some (d, S2)) : ∃ ds S1 us S3, evs G c es σ S = some (ds, S1) ∧ evs G c zs σ S1 = some (us, S3) ∧ c f (ds ++ pick perm us) S3 = some (d, S2) := by
  unfold ev at e
  split at e
  · split at e
    · exact ⟨_, _, _, _, by assumption, by assumption, e⟩
    · cases e
  · cases e
theorem ev_rngv {t : Bool} {r : Rg} (e : ev G c (.rngv t r) σ S = some (d, S2)) : ∃ i j, evR G c r σ S = some (i, j, S2) ∧ rgOk i j = true ∧ d = (if t then .tup (rgD i j) else .lst (rgD i j)) := by
  unfold ev at e
  split at e
  · split at e
    · rename_i h; cases e; exact ⟨_, _, by assumption, h, rfl⟩
    · cases e
  · cases e
theorem evR_one {b : E} {i j : Int} (e : evR G c (.one b) σ S = some (i, j, S2)) : ev G c b σ S = some (.int j, S2) ∧ i = 0 := by
  unfold evR at e
  split at e
  · cases e; exact ⟨by assumption, rfl⟩
  · cases e
theorem evR_two {a b : E} {i j : Int} (e : evR G c (.two a b) σ S = some (i, j, S2)) : ∃ S1, ev G c a σ S = some (.int i, S1) ∧ ev G c b σ S1 = some (.int j, S2) := by
  unfold evR at e
  split at e
  · split at e
    · cases e; exact ⟨_, by assumption, by assumption⟩
    · cases e
  · cases e
theorem ev_prim {p : Pr} {es : Es} (e : ev G c (.prim p es) σ S = some (d, S2)) : ∃ ds, evs G c es σ S = some (ds, S2) ∧ prD S2 p ds = some d := by
  unfold ev at e
  split at e
  · rename_i ds S1 h
    split at e
    · rename_i z h2; cases e; exact ⟨ds, h, h2⟩
    · cases e
  · cases e
theorem ev_isi {a : E} {t : Ty} (e : ev G c (.isi a t) σ S = some (d, S2)) : ∃ x, ev G c a σ S = some (x, S2) ∧ d = .bl (isiD x t) := by
  unfold ev at e
  split at e
  · rename_i x S1 h; cases e; exact ⟨x, h, rfl⟩
  · cases e
theorem ev_idx {a i : E} (e : ev G c (.idx a i) σ S = some (d, S2)) : ∃ x S1 y, ev G c a σ S = some (x, S1) ∧ ev G c i σ S1 = some (y, S2) ∧ idxD S2 x y = some d := by
  unfold ev at e
  split at e
  · rename_i x S1 h1
    split at e
    · rename_i y S3 h2
      split at e
      · rename_i z h3; cases e; exact ⟨x, S1, y, h1, h2, h3⟩
      · cases e
    · cases e
  · cases e
theorem ev_sl {a : E} {lo hi : Eo} (e : ev G c (.sl a lo hi) σ S = some (d, S2)) : ∃ x S1 l S3 h, ev G c a σ S = some (x, S1) ∧ evo G c lo σ S1 = some (l, S3) ∧ evo G c hi σ S3 = some (h, S2) ∧ slD S2 x l h = some d := by
  unfold ev at e
  split at e
  · rename_i x S1 h1
    split at e
    · rename_i l S3 h2
      split at e
      · rename_i h S4 h3
        split at e
        · rename_i z h4; cases e; exact ⟨x, S1, l, S3, h, h1, h2, h3, h4⟩
        · cases e
      · cases e
    · cases e
  · cases e
theorem ev_alloc {a : E} (e : ev G c (.alloc a) σ S = some (d, S2)) : ∃ xs S1, ev G c a σ S = some (.lst xs, S1) ∧ d = .loc S1.length ∧ S2 = S1 ++ [xs] := by
  unfold ev at e
  split at e
  · rename_i xs S1 h; cases e; exact ⟨xs, S1, h, rfl, rfl⟩
  · cases e
theorem ev_pop {o : E} {i : Eo} (e : ev G c (.pop o i) σ S = some (d, S2)) : ∃ n S1 k S3 xs j, ev G c o σ S = some (.loc n, S1) ∧ evo G c i σ S1 = some (k, S3) ∧ S3[n]? = some xs ∧ popIx xs.length (k.getD (-1)) = some j ∧ xs[j]? = some d ∧ S2 = S3.set n (xs.eraseIdx j) := by
  unfold ev at e
  split at e
  · rename_i n S1 h1
    split at e
    · rename_i k S3 h2
      split at e
      · rename_i xs h3
        split at e
        · rename_i j h4
          split at e
          · rename_i y h5; cases e; exact ⟨n, S1, k, S3, xs, j, h1, h2, h3, h4, h5, rfl⟩
          · cases e
        · cases e
      · cases e
    · cases e
  · cases e
end

/-! ## the store is changed -/
section
variable {K : PySem.W.Frag} {B : Addr → Prop} {L : List Addr} {S : Sto} {H : Hp}
theorem nd_ix {l : List Addr} (h : l.Nodup) {i j : Nat} {a : Addr} (h1 : l[i]? = some a) (h2 : l[j]? = some a) : i = j :=
  (List.getElem?_inj (List.getElem?_eq_some_iff.mp h1).1 h).mp (h1.trans h2.symm)
theorem loc_upd {n : Nat} {a : Addr} {xs : List D} {vs : List V} (w : Wd K B L S H) (hn : L[n]? = some a) (r : Rps K B L H xs vs) :
    Mv B L H B L (upd H a (.lst vs)) ∧ Wd K B L (S.set n xs) (upd H a (.lst vs)) ∧ ∀ d u, Rp K B L H d u → Rp K B L (upd H a (.lst vs)) d u := by
  have ba : B a := w.sub a (List.mem_of_getElem? hn)
  have e : ExtB B H (upd H a (.lst vs)) := fun b o q _ nb => by rw [upd_ne fun z => nb (by rw [z]; exact ba)]; exact q
  have mono : ∀ ds us, Rps K B L H ds us → Rps K B L (upd H a (.lst vs)) ds us := fun ds us r => r.mono w.lists e (fun _ b => .inl b) fun _ _ z => z
  have hl : n < L.length := (List.getElem?_eq_some_iff.mp hn).1
  refine ⟨⟨fun _ h => h, fun _ h => .inl h, ⟨[], (List.append_nil L).symm, fun _ h => nomatch h⟩, fun b o q _ nl => ?_⟩, ⟨w.sub, w.nd, fun b hb => ?_, by rw [List.length_set]; exact w.len, fun m ys q => ?_, tabs_upd w.tabs (.inr (w.lists a ba))⟩, fun d u r => r.mono w.lists e (fun _ b => .inl b) fun _ _ z => z⟩
  · rw [upd_ne fun z => nl (by rw [z]; exact List.mem_of_getElem? hn)]; exact q
  · by_cases h : b = a
    · rw [h]; exact ⟨vs, upd_same⟩
    · obtain ⟨us, q⟩ := w.lists b hb
      exact ⟨us, by rw [upd_ne h]; exact q⟩
  · by_cases h : n = m
    · subst h
      rw [List.getElem?_set_self (by rw [← w.len]; exact hl)] at q
      cases q
      exact ⟨a, vs, hn, upd_same, mono _ _ r⟩
    · rw [List.getElem?_set_ne h] at q
      obtain ⟨b, us, e1, e2, r2⟩ := w.sto m ys q
      have hb : b ≠ a := fun z => by
        rw [z] at e1
        exact h (nd_ix w.nd hn e1)
      exact ⟨b, us, e1, by rw [upd_ne hb]; exact e2, mono _ _ r2⟩
/-- a list just made is a store's from now on -/
theorem alloc_ok {H0 : Hp} {xs : List D} {u : V} (w0 : Wd K B L S H) (f : Frs K B L S H0 H xs u) (rp : Rp K B L H (.lst xs) u) : ∃ p, u = .ref p ∧ ntH H0 p ∧ ¬ B p ∧ Wd K (fun a => B a ∨ a = p) (L ++ [p]) (S ++ [xs]) H ∧ Rp K (fun a => B a ∨ a = p) (L ++ [p]) H (.loc S.length) u := by
  obtain ⟨p, vs, rfl, h0, hp, w, r⟩ := f
  cases rp with
  | lst _ nb _ =>
    have nl : p ∉ L := fun z => nb (w0.sub p z)
    have up : ∀ ds us, Rps K (fun a => B a ∨ a = p) L H ds us → Rps K (fun a => B a ∨ a = p) (L ++ [p]) H ds us := fun ds us r => r.mono w.lists (fun _ _ z _ _ => z) (fun _ b => .inl b) fun _ _ z => get_pre z
    have hl : (L ++ [p])[S.length]? = some p := by
      rw [← w.len, List.getElem?_append_right (Nat.le_refl _), Nat.sub_self]; rfl
    refine ⟨p, rfl, h0, nb, ⟨fun a z => ?_, ?_, w.lists, by rw [List.length_append, List.length_append, w.len]; rfl, fun n ys q => ?_, w.tabs⟩, .loc hl⟩
    · rcases List.mem_append.mp z with z | z
      · exact w.sub a z
      · exact .inr (List.mem_singleton.mp z)
    · rw [List.nodup_append]
      exact ⟨w.nd, by simp, fun a ha b hb e => nl (by rw [← List.mem_singleton.mp hb, ← e]; exact ha)⟩
    · by_cases hn : n < S.length
      · rw [List.getElem?_append_left hn] at q
        obtain ⟨a, us, e1, e2, r2⟩ := w.sto n ys q
        exact ⟨a, us, get_pre e1, e2, up _ _ r2⟩
      · have e : n = S.length := by
          have := (List.getElem?_eq_some_iff.mp q).1
          rw [List.length_append] at this
          simp at this
          omega
        subst e
        rw [List.getElem?_append_right (Nat.le_refl _), Nat.sub_self] at q
        cases q
        exact ⟨p, vs, hl, hp, up _ _ r⟩
end
end Rf
end

section
set_option maxRecDepth 100000
set_option maxHeartbeats 4000000
set_option autoImplicit false
namespace Rf
open PySem PySem.Spec PyProof.Rows L2
/-! ## a comprehension with two for -/
section
variable {K : PySem.W.Frag} {G : Nat → Option D} {c : Cal}
theorem loopS_cons {f : D → Sto → Option Sto} {w : Sto → Bool} {x : D} {xs : List D} {S S2 : Sto} (e : loopS f w (x :: xs) S = some S2) : ∃ S1, f x S = some S1 ∧ w S1 = true ∧ loopS f w xs S1 = some S2 := by
  unfold loopS at e
  split at e
  · cases e
  · split at e
    · rename_i S1 h1 hw; exact ⟨S1, h1, hw, e⟩
    · cases e
theorem still_new {w : Wk} {S : Sto} {xs : List D} (h : w.still S = true) : w.still (S ++ [xs]) = true := by
  unfold Wk.still at h ⊢
  rw [List.all_eq_true] at h ⊢
  intro p hp
  have h1 := h p hp
  cases e : S[p.1]? with
  | none => rw [e] at h1; cases h1
  | some zs =>
    rw [e] at h1
    rw [List.getElem?_append_left (List.getElem?_eq_some_iff.mp e).1, e]
    exact h1
theorem ev_comp2 {it it1 : Rf.It} {tg tg1 : Tg} {own : List (Str × Nat)} {vs1 : List Nat} {t : Eo} {elt : E} {σ : DEnv} {S S2 : Sto} {d : D} (e : ev G c (.comp2 it tg it1 tg1 own vs1 t elt) σ S = some (d, S2)) :
    ∃ w S1, evIt G c it σ S = some (w, S1) ∧ w.items.length ≤ many ∧ loopS (out2F G c tg it1 tg1 own vs1 t elt S1.length σ) w.still w.items (S1 ++ [[]]) = some S2 ∧ d = .loc S1.length := by
  unfold ev at e
  split at e
  · rename_i w S1 e1
    split at e
    · rename_i hl
      split at e
      · rename_i S3 e2
        cases e
        exact ⟨w, S1, e1, hl, e2, rfl⟩
      · cases e
    · cases e
  · cases e
theorem appD_loc {S S' : Sto} {n : Nat} {d : D} (h : appD S (.loc n) d = some S') : ∃ xs, S[n]? = some xs ∧ xs.length < many ∧ S' = S.set n (xs ++ [d]) := by
  unfold appD at h
  obtain ⟨xs, g1, g2⟩ := Option.bind_eq_some_iff.mp h
  split at g2
  · rename_i hl
    exact ⟨xs, g1, hl, (Option.some.inj g2).symm⟩
  · cases g2
theorem comp2_ok {it it1 : Rf.It} {tg tg1 : Tg} {own : List (Str × Nat)} {vs1 : List Nat} {t : Eo} {elt : E} {σV : L2.St} {H : Hp} {Q : VK} (ht : tgIn (own.map (·.2)) tg = true) (ht1 : tgIn vs1 tg1 = true)
    (h : tEv K G c (.comp2 it tg it1 tg1 own vs1 t elt) σV H Q) : tLc2 (tEvIt K G c it) (tTg K tg) tYes (tEvIt K G c it1) (tTg K tg1) (tEvI K G c t) (tEv K G c elt) (own.map (·.2)) vs1 σV H Q := by
  obtain ⟨B, L, σ, S, d, S2, wd, renv, e, q⟩ := h
  obtain ⟨w, S1, e1, hl, e2, rfl⟩ := ev_comp2 e
  refine ⟨B, L, σ, S, w, S1, wd, renv, e1, fun J B1 L1 H1 m1 wd1 wk st1 => ?_⟩
  intro p hp
  have wdn : Wd K B1 L1 S1 (upd H1 p (.lst [])) := wd1.new hp
  have rpn : Rp K B1 L1 (upd H1 p (.lst [])) (.lst []) (.ref p) := .lst upd_same (wd1.notB hp) .nil
  obtain ⟨pp, epp, h0, nb, wda, rl⟩ := alloc_ok wdn (H0 := H1) ⟨p, [], rfl, ntH_of hp, upd_same, wd1.own hp, .nil⟩ rpn
  cases epp
  have m01 : Mv B1 L1 H1 (fun a => B1 a ∨ a = p) (L1 ++ [p]) (upd H1 p (.lst [])) := ⟨fun a b => .inl b, fun a b => b.elim .inl fun z => .inr (by rw [z]; exact ntH_of hp), ⟨[p], rfl, fun a z => by rw [List.mem_singleton.mp z]; exact ntH_of hp⟩, upd_ext hp⟩
  have lp : (L1 ++ [p])[S1.length]? = some p := by
    rw [← wd1.len, List.getElem?_append_right (Nat.le_refl _), Nat.sub_self]; rfl
  have lpm : ∀ {Bi : Addr → Prop} {Li : List Addr} {Hi : Hp}, Mv (fun a => B1 a ∨ a = p) (L1 ++ [p]) (upd H1 p (.lst [])) Bi Li Hi → Li[S1.length]? = some p := fun {Bi Li Hi} m => by
    obtain ⟨new, en, _⟩ := m.pre
    rw [en, List.getElem?_append_left (by rw [List.length_append, wd1.len]; exact Nat.lt_succ_self _)]
    exact lp
  refine ⟨fun i m Hi => m = w.items.length - i ∧ i ≤ w.items.length ∧ ∃ Bi Li Si, Mv (fun a => B1 a ∨ a = p) (L1 ++ [p]) (upd H1 p (.lst [])) Bi Li Hi ∧ Wd K Bi Li Si Hi ∧ w.still Si = true ∧
      loopS (out2F G c tg it1 tg1 own vs1 t elt S1.length σ) w.still (w.items.drop i) Si = some S2, ⟨_, rfl, Nat.zero_le _, _, _, S1 ++ [[]], Mv.refl _ _ _, wda, still_new st1, e2⟩, ?_⟩
  rintro i m Hi ⟨rfl, hi, Bi, Li, Si, mi, wi, sti, ei⟩
  have m1i := m01.trans mi wd1 wda
  obtain ⟨wstop, wgo⟩ := wk Bi Li Si Hi m1i wi sti i
  by_cases hlt : i < w.items.length
  · obtain ⟨go, yl⟩ := wgo _ (List.getElem?_eq_getElem hlt)
    refine .inr ⟨go, fun H' => ∃ Bi Li Si, Mv (fun a => B1 a ∨ a = p) (L1 ++ [p]) (upd H1 p (.lst [])) Bi Li H' ∧ Wd K Bi Li Si H' ∧ w.still Si = true ∧
      loopS (out2F G c tg it1 tg1 own vs1 t elt S1.length σ) w.still (w.items.drop (i + 1)) Si = some S2, fun H' hN => ⟨w.items.length - (i + 1), by omega, rfl, hlt, hN⟩, fun x H2 y => ?_⟩
    obtain ⟨my, wy, rx⟩ := yl x H2 y
    rw [List.drop_eq_getElem_cons hlt] at ei
    obtain ⟨S1', f1, f2, f3⟩ := loopS_cons ei
    unfold out2F at f1
    cases g1 : tgD tg w.items[i] (wipeD σ (own.map (·.2))) with
    | none => rw [g1] at f1; cases f1
    | some σ1 =>
      rw [g1] at f1
      dsimp only at f1
      have miy := mi.trans my wda wi
      have m1y := m01.trans miy wd1 wda
      have mHy : Mv B L H Bi Li H2 := m1.trans m1y wd wd1
      have r2 : REnv K Bi Li H2 (wipeD σ (own.map (·.2))) (L2.wipe σV (own.map (·.2))) := (renv.mv wd mHy).wipe _
      refine ⟨Bi, Li, Si, wipeD σ (own.map (·.2)), w.items[i], σ1, wy, r2, rx, g1, fun σV' r' hw => ⟨?_, ?_⟩⟩
      · rw [hw _ ht, wipe_wipe fun v hv => hv]
      · dsimp only [tYes]
        rw [if_pos rfl]
        cases g2 : evIt G c it1 σ1 Si with
        | none => rw [g2] at f1; cases f1
        | some pw =>
          obtain ⟨w1, Sa⟩ := pw
          rw [g2] at f1
          dsimp only at f1
          split at f1
          · rename_i hl1
            refine ⟨Bi, Li, σ1, Si, w1, Sa, wy, r', g2, fun J1 B4 L4 H4 m4 wd4 wk1 st4 => ?_⟩
            refine ⟨fun j k Hj => k = w1.items.length - j ∧ j ≤ w1.items.length ∧ ∃ Bj Lj Sj, Mv B4 L4 H4 Bj Lj Hj ∧ Wd K Bj Lj Sj Hj ∧ w1.still Sj = true ∧
              loopS (in2F G c tg1 vs1 t elt S1.length σ1) w1.still (w1.items.drop j) Sj = some S1', ⟨_, rfl, Nat.zero_le _, _, _, Sa, Mv.refl _ _ _, wd4, st4, f1⟩, ?_⟩
            rintro j k Hj ⟨rfl, hj, Bj, Lj, Sj, mj, wj, stj, ej⟩
            have mi4 := miy.trans m4 wda wy
            have mij := mi4.trans mj wda wd4
            obtain ⟨wstop1, wgo1⟩ := wk1 Bj Lj Sj Hj mj wj stj j
            by_cases hlt1 : j < w1.items.length
            · obtain ⟨go1, yl1⟩ := wgo1 _ (List.getElem?_eq_getElem hlt1)
              refine .inr ⟨go1, fun H' => ∃ Bj Lj Sj, Mv B4 L4 H4 Bj Lj H' ∧ Wd K Bj Lj Sj H' ∧ w1.still Sj = true ∧
                loopS (in2F G c tg1 vs1 t elt S1.length σ1) w1.still (w1.items.drop (j + 1)) Sj = some S1', fun H' hN => ⟨w1.items.length - (j + 1), by omega, rfl, hlt1, hN⟩, fun x1 H5 y1 => ?_⟩
              obtain ⟨my1, wy1, rx1⟩ := yl1 x1 H5 y1
              rw [List.drop_eq_getElem_cons hlt1] at ej
              obtain ⟨S5, k1, k2, k3⟩ := loopS_cons ej
              unfold in2F at k1
              cases g3 : tgD tg1 w1.items[j] (wipeD σ1 vs1) with
              | none => rw [g3] at k1; cases k1
              | some σ2 =>
                rw [g3] at k1
                dsimp only at k1
                have m4y := mj.trans my1 wd4 wj
                have r5 : REnv K Bj Lj H5 (wipeD σ1 vs1) (L2.wipe σV' vs1) := (r'.mv wy (m4.trans m4y wy wd4)).wipe _
                refine ⟨Bj, Lj, Sj, wipeD σ1 vs1, w1.items[j], σ2, wy1, r5, rx1, g3, fun σV2 r6 hw1 => ⟨?_, ?_⟩⟩
                · rw [hw1 _ ht1, wipe_wipe fun v hv => hv]
                · cases g4 : evt G c t σ2 Sj with
                  | none => rw [g4] at k1; cases k1
                  | some pb =>
                    obtain ⟨b, S6⟩ := pb
                    rw [g4] at k1
                    refine ⟨Bj, Lj, σ2, Sj, b, S6, wy1, r6, g4, fun B6 L6 H6 m6 w6 => ?_⟩
                    have m46 := m4y.trans m6 wd4 wy1
                    cases b with
                    | false =>
                      cases k1
                      dsimp only
                      rw [if_neg Bool.false_ne_true]
                      exact ⟨B6, L6, _, m46, w6, k2, k3⟩
                    | true =>
                      dsimp only at k1 ⊢
                      rw [if_pos rfl]
                      cases g5 : ev G c elt σ2 S6 with
                      | none => rw [g5] at k1; cases k1
                      | some pd =>
                        obtain ⟨d, S7⟩ := pd
                        rw [g5] at k1
                        obtain ⟨xs, a1, a2, rfl⟩ := appD_loc k1
                        refine ⟨B6, L6, σ2, S6, d, S7, w6, r6.mv wy1 m6, g5, fun v B7 L7 H7 m7 w7 rv _ => ?_⟩
                        have m47 := m46.trans m7 wd4 w6
                        have l7 : L7[S1.length]? = some p := lpm (mi4.trans m47 wda wd4)
                        obtain ⟨a, vs, b1, b2, b3⟩ := w7.sto _ _ a1
                        rw [l7] at b1
                        cases b1
                        have hm := many_le
                        have ll := b3.length
                        obtain ⟨n1, n2, _⟩ := loc_upd (vs := vs ++ [v]) w7 l7 (b3.append (.cons rv .nil))
                        exact ⟨vs, b2, by omega, B7, L7, _, m47.trans n1 wd4 w7, n2, k2, k3⟩
            · have en : j = w1.items.length := by omega
              refine .inl ⟨wstop1 (by omega), Bj, Lj, Sj, mij, wj, ?_⟩
              rw [en, List.drop_length] at ej
              cases ej
              exact ⟨f2, f3⟩
          · cases f1
  · have en : i = w.items.length := by omega
    refine .inl ⟨wstop (by omega), ?_⟩
    rw [en, List.drop_length] at ei
    cases ei
    exact q (.ref p) Bi Li Hi (m1.trans m1i wd wd1) wi (.loc (lpm mi)) fun z => nomatch z
end
/-! ## xs[::-1], {} -/
section
variable {prog : Program} {w : World} {A : Around} {E : Value → Shared → Prop} {s : Shared}
theorem adjust_rev (n : Nat) : Builtin.Slice.sliceAdjust none none (-1) (n : Int) = ((n : Int) - 1, -1) := by
  unfold Builtin.Slice.sliceAdjust
  rfl
theorem places_rev (n : Nat) : Builtin.Slice.slicePlaces ((n : Int) - 1) (-1) (-1) = n := by
  unfold Builtin.Slice.slicePlaces
  have h1 : ¬ ((-1 : Int) > 0) := by omega
  simp only [h1, if_false]
  split <;> simp <;> omega
theorem sliceApplied_rev {sl : Addr} {vl vu vs : Value} {n : Nat} {Q : Int × Int × Nat → Shared → Prop} (hs : s.heap.IsSliceOf sl vl vu vs) (pl : IsPart vl none) (pu : IsPart vu none) (ps : IsPart vs (some (-1)))
    (h : Q ((n : Int) - 1, -1, n) s) : wpAny (model prog w) A (Builtin.Slice.sliceApplied (.ref sl) (pure (n : Int))) Q E s := by
  obtain ⟨os, hos, hcs, hds⟩ := id hs
  unfold Builtin.Slice.sliceApplied Builtin.Slice.sliceFields
  refine wpAny_bind (wpAny_bind (wpAny_field hos hds (x := vl) rfl (wpAny_bind (wpAny_field hos hds (x := vu) rfl (wpAny_bind (wpAny_field hos hds (x := vs) rfl (wpAny_pure ?_)))))))
  refine wpAny_bind (HT.slicePart_ ps ?_)
  show wpAny _ _ (if ((-1 : Int) == 0) = true then _ else _) _ _ s
  rw [if_neg (by decide)]
  refine wpAny_bind (HT.slicePart_ pl (wpAny_bind (HT.slicePart_ pu (wpAny_bind (wpAny_pure ?_)))))
  show wpAny _ _ (match Builtin.Slice.sliceAdjust none none (-1) (n : Int) with | (lo, hi) => pure (lo, (-1 : Int), Builtin.Slice.slicePlaces lo hi (-1))) _ _ s
  rw [adjust_rev n]
  show wpAny _ _ (pure ((n : Int) - 1, (-1 : Int), Builtin.Slice.slicePlaces ((n : Int) - 1) (-1) (-1))) _ _ s
  rw [places_rev]
  exact wpAny_pure h
theorem pick_rev (xs : Array Value) : ((List.range xs.size).filterMap fun (k : Nat) => xs[((xs.size : Int) - 1 + (k : Int) * -1).toNat]?).toArray = xs.toList.reverse.toArray := by
  refine congrArg List.toArray ?_
  have e1 : ∀ k ∈ List.range xs.size, xs[((xs.size : Int) - 1 + (k : Int) * -1).toNat]? = xs.toList.reverse[k]? := fun k hk => by
    have hk := List.mem_range.mp hk
    rw [List.getElem?_reverse (by rw [Array.length_toList]; exact hk), Array.length_toList, ← Array.getElem?_toList]
    congr 1
    omega
  have fc : ∀ {l : List Nat} {f g : Nat → Option Value}, (∀ k ∈ l, f k = g k) → l.filterMap f = l.filterMap g := fun {l f g} h => by
    induction l with
    | nil => rfl
    | cons a l ih => rw [List.filterMap_cons, List.filterMap_cons, h a List.mem_cons_self, ih fun k hk => h k (List.mem_cons_of_mem _ hk)]
  rw [fc e1]
  have e2 := PySem.W.krv_all xs.toList.reverse.toArray
  rw [List.size_toArray, List.length_reverse, Array.length_toList] at e2
  simpa using e2
theorem getItem_tuple_rev {t sl : Addr} {items : Array Value} {vl vu vs : Value} {Q : Value → Shared → Prop} (ht : IsTup s.heap t items) (hs : s.heap.IsSliceOf sl vl vu vs) (pl : IsPart vl none) (pu : IsPart vu none) (ps : IsPart vs (some (-1)))
    (h : Q (.ref s.heap.objs.size) { s with heap := s.heap.push { cls := .type "tuple", data := .seq items.toList.reverse.toArray } })
    (hsz : items.size ≤ sizeLine) : wpAny (model prog w) A (getItem (.ref t) (.ref sl)) Q E s := by
  have htake : sizeOk (.seq items.toList.reverse.toArray) := by
    show items.toList.reverse.toArray.size ≤ sizeLine
    rw [List.size_toArray, List.length_reverse, Array.length_toList]
    exact hsz
  obtain ⟨os, hos, hcs, hds⟩ := id hs
  have hTs : s.TypeIs (.ref sl) "slice" := ⟨os, hos, hcs⟩
  unfold getItem
  try with_reducible refine wpAny_holding ?_
  first | refine wpAny_bind (wpAny_pure ?_) | skip
  refine wpAny_bind (wpAny_sequenceKey ht.typeIs (by decide) ?_)
  refine wpAny_bind (wpAny_callSpecial?_slot (name := Str.ofString "__getitem__") ht.typeIs PyProof.Rows.slot_tuple_getitem
    (wpAny_call_entry PyProof.Rows.slot_tuple_getitem ht.typeIs entry_tuple_getitem ?_ (args_tuple_getitem _ _)))
  show wpAny _ _ (Builtin.Tuple.tupleItemsOf (.ref t) >>= _) _ _ s
  refine wpAny_bind (tupleItemsOf_ ht ?_)
  refine wpAny_bind (wpAny_typeOf hTs ?_)
  rw [if_pos (by decide)]
  refine wpAny_bind (sliceApplied_rev hs pl pu ps ?_)
  have hno : ¬ ((((items.size : Nat) : Int) - 1 == 0 && (-1 : Int) == 1 && items.size == items.size) = true) := by
    intro q
    rw [Bool.and_eq_true, Bool.and_eq_true] at q
    exact absurd q.1.2 (by decide)
  show wpAny _ _ (if (((items.size : Nat) : Int) - 1 == 0 && (-1 : Int) == 1 && items.size == items.size) = true then _ else _) _ _ s
  rw [if_neg hno, pick_rev]
  first
    | exact wpAny_bind (m := Builtin.Tuple.tupleExact _) (wpAny_newObj_type (wpAny_pure ⟨_, rfl, wpAny_pure h⟩) htake)
    | exact wpAny_bind (m := Builtin.Tuple.tupleExact _) (wpAny_newObj_type (wpAny_bind (wpAny_pure (wpAny_pure ⟨_, rfl, wpAny_pure h⟩))) htake)
    | exact wpAny_bind (wpAny_bind (m := Builtin.Tuple.tupleExact _) (wpAny_newObj_type (wpAny_pure (wpAny_pure ⟨_, rfl, wpAny_pure h⟩)) htake))
    | exact wpAny_bind (wpAny_bind (m := Builtin.Tuple.tupleExact _) (wpAny_newObj_type (wpAny_pure ⟨_, rfl, wpAny_pure h⟩) htake))
end
section
variable {X : Cx}
def tRvs (K : PySem.W.Frag) (te : TE) : TE := fun σ H Q => te σ H fun x H1 => ∃ a xs, x = .ref a ∧ ((SqL K H1 a xs ∧ ∀ p, H1 p = none → Q (.ref p) (upd H1 p (.lst xs.reverse))) ∨ (SqT K H1 a xs ∧ ∀ p, H1 p = none → Q (.ref p) (upd H1 p (.tup xs.reverse))))
theorem pe_rvs {e : Expr} {te : TE} {k : Nat} {p1 p2 p3 pos : Pos} (he : PE X e te) : PE X (.Subscript e (.Slice none none (some (.UnaryOp .USub (.Constant (.int 1) k p1) p2)) p3) pos) (tRvs X.K te) := by
  refine ⟨fun pins s σ H Q I h => ?_⟩
  refine Subscript_ (thn (he.run pins s σ H _ I h) fun v s1 ⟨x, H1, I1, r1, q1⟩ => ?_)
  obtain ⟨a, xs, ex, q⟩ := q1
  subst ex
  cases r1
  have hst : PO X (some (.UnaryOp .USub (.Constant (.int 1) k p1) p2)) (tPart (tUn (rU fun i => .int (-i)) (tC (.int 1)))) := po_some (pe_un un_neg pe_int)
  refine wpAny_Slice (thn (po_none.run pins s1 σ H1 (fun o H2 => o = none ∧ H2 = H1) I1 ⟨rfl, rfl⟩) fun vl s2 ⟨l, H2, I2, pl, el, e2⟩ => ?_)
  subst el e2
  refine thn (po_none.run pins s2 σ H2 (fun o H3 => o = none ∧ H3 = H2) I2 ⟨rfl, rfl⟩) fun vu s3 ⟨u, H3, I3, pu, eu, e3⟩ => ?_
  subst eu e3
  refine thn (hst.run pins s3 σ H3 (fun o H4 => o = some (-1) ∧ H4 = H3) I3 ⟨1, rfl, -1, rfl, rfl, rfl⟩) fun vs s4 ⟨o, H4, I4, ps, eo, e4⟩ => ?_
  subst eo e4
  have I5 : Inv X pins σ H4 { s4 with heap := s4.heap.push { cls := .type "slice", data := .fields #[vl, vu, vs] } } := I4.kept (t' := s4.toks) fun b ob q => Heap.get?_push_of_some _ q
  show wpAny (model X.prog X.w) X.A (subscriptTail e (.Slice none none (some (.UnaryOp .USub (.Constant (.int 1) k p1) p2)) p3) (.ref a) (.ref s4.heap.objs.size)) (EP X pins σ Q) X.xe { s4 with heap := s4.heap.push { cls := .type "slice", data := .fields #[vl, vu, vs] } }
  rcases q with ⟨hx, q⟩ | ⟨hx, q⟩
  · obtain ⟨its, r, ht, hz⟩ := I5.list hx
    have hlen := r.length
    refine tail_any (ops := [.ref a, .ref s4.heap.objs.size]) ht.isList.typeIs (PySem.slot_list_getitem.lookup) ?_ (by with_unfolding_all rfl)
    refine wpAny_getItem_list_slice ht.isList (Heap.IsSliceOf.new _ vl vu vs) pl pu ps (by decide) ?_ (by rw [List.size_toArray]; omega)
    rw [PySem.W.krv_pick]
    refine ⟨.ref _, _, I5.laid (t' := s4.toks) (o := .lst xs.reverse) (fun b ob q => Heap.get?_push_of_some _ q) (Nat.le_refl _) ?_, rfl, q _ (I5.hok.fresh (Nat.le_refl _))⟩
    exact ⟨by rw [List.length_reverse]; exact hz, _, 0, r.reverse, Heap.get?_push_size _ rfl⟩
  · obtain ⟨its, r, ht, hz⟩ := I5.tuple hx
    have hlen := r.length
    refine tail_any (ops := [.ref a, .ref s4.heap.objs.size]) ht.typeIs (PyProof.Rows.slot_tuple_getitem.lookup) ?_ (by with_unfolding_all rfl)
    refine getItem_tuple_rev ht (Heap.IsSliceOf.new _ vl vu vs) pl pu ps ?_ (by rw [List.size_toArray]; omega)
    refine ⟨.ref _, _, I5.laid (t' := s4.toks) (o := .tup xs.reverse) (fun b ob q => Heap.get?_push_of_some _ q) (Nat.le_refl _) ?_, rfl, q _ (I5.hok.fresh (Nat.le_refl _))⟩
    exact ⟨by rw [List.length_reverse]; exact hz, _, r.reverse, IsTup.new _ _⟩
end
section
variable {K : PySem.W.Frag} {G : Nat → Option D} {c : Cal}
theorem ev_rvs {a : E} {σ : DEnv} {S S2 : Sto} {d : D} (e : ev G c (.rvs a) σ S = some (d, S2)) : ∃ x, ev G c a σ S = some (x, S2) ∧ rvD S2 x = some d := by
  unfold ev at e
  split at e
  · split at e
    · rename_i h2; cases e; exact ⟨_, by assumption, h2⟩
    · cases e
  · cases e
theorem rvs_ok {a : E} {σV : L2.St} {H : Hp} {Q : VK} (h : tEv K G c (.rvs a) σV H Q) : tRvs K (tEv K G c a) σV H Q := by
  obtain ⟨B, L, σ, S, d, S2, w, r, ee, q⟩ := h
  obtain ⟨x, e1, e2⟩ := ev_rvs ee
  refine one w r e1 fun v B1 L1 H1 m w1 r1 rv => ?_
  have lists : ∀ xs, lstOf S2 x = some xs → d = .lst xs.reverse → ∃ a xs, v = .ref a ∧ ((SqL K H1 a xs ∧ ∀ p, H1 p = none → Q (.ref p) (upd H1 p (.lst xs.reverse))) ∨ (SqT K H1 a xs ∧ ∀ p, H1 p = none → Q (.ref p) (upd H1 p (.tup xs.reverse)))) := fun xs g1 g2 => by
    obtain ⟨a, vs, rfl, hl, qs⟩ := rv.sqL w1 g1
    subst g2
    exact ⟨a, vs, rfl, .inl ⟨hl, fun p hp => (q.pv w w1 m).lst w1 qs.reverse hp⟩⟩
  cases x with
  | tup xs =>
    cases e2
    obtain ⟨a, vs, rfl, ha, qa⟩ := rv.sqT
    exact ⟨a, vs, rfl, .inr ⟨ha, fun p hp => (q.pv w w1 m).tup w1 qa.reverse hp⟩⟩
  | _ =>
    unfold rvD at e2
    obtain ⟨xs, g1, g2⟩ := Option.map_eq_some_iff.mp e2
    exact lists xs g1 g2.symm
theorem dct_ok {σV : L2.St} {H : Hp} {Q : VK} (h : tEv K G c .dct σV H Q) : tDNewK σV H Q := by
  obtain ⟨B, L, σ, S, d, S2, w, r, ee, q⟩ := h
  unfold ev at ee
  cases ee
  exact fun p hp => (q.pv w w (Mv.refl _ _ _)) _ _ (upd_ext hp) (w.new hp) (.dct upd_same)
end
end Rf
end

section
set_option maxRecDepth 100000
set_option maxHeartbeats 16000000
set_option autoImplicit false
namespace Rf
open PySem PySem.Spec PyProof.Rows L2

section
variable {T : Tab} {G : Nat → Option D} {W k : Nat} {N : List Str} {X : Cx} {sc : Scope}
theorem CO.units (o : CO T G W k N sc X) : X.A.units + 64 < cLine := o.room.units
theorem opR_all (op : Op) {o : Operator} (h : opB op o = true) : OpR X (binaryOp o) (rOp X.K (fun S => opD S op)) := by
  cases op <;> cases o <;> first | cases h | skip
  · exact or_add
  · exact or_sub
  · exact or_mul
  · exact or_fdiv
  · exact or_mod
  · exact or_pow
theorem cpR_all (hu : X.A.units + 64 < cLine) (k : Cp) {o : CmpOp} (h : cpB k o = true) : OpR X (compareOp o) (rCp X.K k) := by
  cases k <;> cases o <;> first | cases h | skip
  · exact oc_eq hu
  · exact oc_ne hu
  · exact oc_lt
  · exact oc_le
  · exact oc_gt
  · exact oc_ge
  · exact oc_isN
  · exact oc_notN
  · exact oc_in
  · exact oc_notin
theorem bl_of (o : CO T G W k N sc X) (x : Str) (h : x ∈ builtNames := by decide +kernel) : X.mg x = none := o.bl x h
/-- a built-in by its name -/
theorem pe_prim (o : CO T G W k N sc X) (p : Pr) {x : Str} {q pos : Pos} {e : Expr} {es : List Expr} {t : TA} (hx : x = prS p) (hg : Gl X x) (hgcd : (T.gcd || decide (p ≠ .gcd)) = true ∧ (T.grd || decide (p ≠ .repr)) = true) (ha : PA X (e :: es) t) (hs : notStar e = true) (hss : notStars es = true) :
    PE X (.Call (.Name x q) (e :: es) [] pos) (tCB (rPr X.K p) t) := by
  subst hx
  have he := starEach_cons (es := es) (env := X.env) hs
  have hp := plainArgs (pos := pos) (env := X.env) hss
  cases p with
  | len => exact pe_callB pr_len hg (bl_of o _) (by decide +kernel) ha (by decide) (by decide) he hp
  | int => exact pe_callTy pr_int hg (bl_of o _) (by decide +kernel) ha (by decide) (by decide) he hp
  | abs => exact pe_callB pr_abs hg (bl_of o _) (by decide +kernel) ha (by decide) (by decide) he hp
  | min2 => exact pe_callB (pr_min2 o.calm) hg (bl_of o _) (by decide +kernel) ha (by decide) (by decide) he hp
  | max2 => exact pe_callB (pr_max2 o.calm) hg (bl_of o _) (by decide +kernel) ha (by decide) (by decide) he hp
  | divmod => exact pe_callB pr_divmod hg (bl_of o _) (by decide +kernel) ha (by decide) (by decide) he hp
  | gcd =>
    have hT : T.gcd = true := by simpa using hgcd.1
    exact pe_callBfun pr_gcd hg (o.gcd hT) ha (by decide) he hp
  | all => exact pe_callB (pr_all o.calm) hg (bl_of o _) (by decide +kernel) ha (by decide) (by decide) he hp
  | any => exact pe_callB (pr_any o.calm) hg (bl_of o _) (by decide +kernel) ha (by decide) (by decide) he hp
  | sum => exact pe_callB (pr_sum o.calm) hg (bl_of o _) (by decide +kernel) ha (by decide) (by decide) he hp
  | tup => exact pe_callTy pr_tup hg (bl_of o _) (by decide +kernel) ha (by decide) (by decide) he hp
  | lst => exact pe_callTy pr_lst hg (bl_of o _) (by decide +kernel) ha (by decide) (by decide) he hp
  | min1 => exact pe_callB (pr_min1 o.calm) hg (bl_of o _) (by decide +kernel) ha (by decide) (by decide) he hp
  | max1 => exact pe_callB (pr_max1 o.calm) hg (bl_of o _) (by decide +kernel) ha (by decide) (by decide) he hp
  | repr =>
    have hT : T.grd = true := by simpa using hgcd.2
    exact pe_callB (pr_repr (o.gfn hT).1 (by have := o.room.un; omega)) hg (bl_of o _) (by decide +kernel) ha (by decide) (by decide) he hp
  | sorted => exact pe_callB pr_sorted hg (bl_of o _) (by decide +kernel) ha (by decide) (by decide) he hp
theorem boot_ty (t : Ty) : bootBuiltins (Str.ofString (tyS t)) = some (.type (tyS t)) := by cases t <;> decide +kernel
theorem ty_in (t : Ty) : Str.ofString (tyS t) ∈ builtNames := by cases t <;> decide +kernel
theorem ty_name (t : Ty) : Str.ofString (tyS t) ≠ "__name__" := by cases t <;> decide
theorem ty_dbg (t : Ty) : (Str.ofString (tyS t) == ("__debug__" : Str)) = false := by cases t <;> decide
theorem isTrue_ite {c a b : Expr} {tA : TT} {ta tb : TT} {pos : Pos} (hc : PT X c tA) (ha : PT X a ta) (hb : PT X b tb) : PT X (.IfExp c a b pos) (fun σ H Q => tA σ H fun k H1 => if k = true then ta σ H1 Q else tb σ H1 Q) := by
  refine ⟨fun pins s σ H Q I h => ?_⟩
  rw [PySem.arm_isTrue_IfExp]
  refine wpAny_bind (thn (hc.run pins s σ H _ I h) fun d s1 ⟨H1, I1, q1⟩ => ?_)
  cases d with
  | true => exact ha.run pins s1 σ H1 Q I1 q1
  | false => exact hb.run pins s1 σ H1 Q I1 q1
/-- a call of an own def -/
theorem passC {E : XK} (h : ∀ cls d H, ¬ E cls d H) : Passes (L2.CX X.prog X.w) X E := fun _ _ _ _ _ _ _ ⟨_, _, _, _, _, _, _, _, _, _, _, _, z⟩ => (h _ _ _ z).elim
theorem pass0 : Passes (L2.CX X.prog X.w) X E0 := passC fun _ _ _ z => z
theorem pe_own {Ex : XK} (o : CO T G W k N sc X) (px : Passes (L2.CX X.prog X.w) X Ex) {f : Nat} {fn : Fn} (hf : T.fns f = some fn) {x : Str} {q pos : Pos} {e : Expr} {es : List Expr} {t : TA} (hx : fn.name = x) (hg : Gl X x) (hd : (x == ("__debug__" : Str)) = false) (gk : gOk T x (e :: es).length = true) (ha : PA X (e :: es) t) (hs : notStar e = true) (hss : notStars es = true) :
    PE X (.Call (.Name x q) (e :: es) [] pos) (tCall (spF X.K G T.fns W k f fn.np) [] Ex t) := by
  cases hc : T.gns.contains x with
  | false =>
    obtain ⟨fa, fd, ps, F, hm, kp, bi, _⟩ := o.fns f fn hf (by rw [hx]; exact hc)
    rw [hx] at hm
    exact pe_call F o.room hg hm kp bi .nil px ha hd (starEach_cons hs) (plainArgs hss)
  | true =>
    unfold gOk at gk
    rw [hc] at gk
    have hT : T.grd = true := by
      simp only [Bool.not_true, Bool.false_or, Bool.and_eq_true] at gk
      exact gk.1
    obtain ⟨gA, fns⟩ := o.gfn hT
    obtain ⟨fa, fd, ps, F, hm, kp, bi⟩ := fns f fn hf
    rw [hx] at hm
    exact pe_callG F gA o.room hg hm kp bi px ha hd (starEach_cons hs) (plainArgs hss)
theorem pe_own0 {Ex : XK} (o : CO T G W k N sc X) (px : Passes (L2.CX X.prog X.w) X Ex) {f : Nat} {fn : Fn} (hf : T.fns f = some fn) {x : Str} {q pos : Pos} (hx : fn.name = x) (hg : Gl X x) (hd : (x == ("__debug__" : Str)) = false) (gk : gOk T x 0 = true) :
    PE X (.Call (.Name x q) [] [] pos) (tCall (spF X.K G T.fns W k f fn.np) [] Ex tNil) := by
  have hc : T.gns.contains fn.name = false := by
    rw [hx]
    unfold gOk at gk
    simpa using gk
  obtain ⟨fa, fd, ps, F, hm, kp, bi, _⟩ := o.fns f fn hf hc
  rw [hx] at hm
  exact pe_call0 F o.room hg hm kp bi .nil px hd
theorem vals_pick {vs : List V} {us : List Value} (r : Vals vs us) : ∀ perm : List Nat, Vals (pick perm vs) (pick perm us)
  | [] => .nil
  | j :: js => by
    have ih := vals_pick r js
    unfold pick at ih ⊢
    cases h : vs[j]? with
    | none => rw [List.filterMap_cons_none h, List.filterMap_cons_none (r.none_of h)]; exact ih
    | some v =>
      obtain ⟨u, h2, rv⟩ := r.get h
      rw [List.filterMap_cons_some h, List.filterMap_cons_some h2]
      exact .cons rv ih
theorem rps_pick {K : PySem.W.Frag} {B : Addr → Prop} {L : List Addr} {H : Hp} {ds : List D} {vs : List V} (r : Rps K B L H ds vs) : ∀ perm : List Nat, Rps K B L H (pick perm ds) (pick perm vs)
  | [] => .nil
  | j :: js => by
    have ih := rps_pick r js
    unfold pick at ih ⊢
    cases h : ds[j]? with
    | none =>
      have h2 : vs[j]? = none := by
        rw [List.getElem?_eq_none_iff] at h ⊢
        rw [← r.length]; exact h
      rw [List.filterMap_cons_none h, List.filterMap_cons_none h2]; exact ih
    | some v =>
      obtain ⟨u, h2, rv⟩ := r.get h
      rw [List.filterMap_cons_some h, List.filterMap_cons_some h2]
      exact .cons rv ih
theorem pe_ownK {Ex : XK} (o : CO T G W k N sc X) (px : Passes (L2.CX X.prog X.w) X Ex) {f n : Nat} {fn : Fn} {ks : List Str} {perm : List Nat} (hf : T.fns f = some fn) {x : Str} {q pos : Pos} {e : Expr} {es : List Expr} {kws : List Keyword} {t tk : TA} (hx : fn.name = x) (hg : Gl X x) (hd : (x == ("__debug__" : Str)) = false)
    (gk : T.gns.contains x = false) (hk : (f, n, ks, perm) ∈ T.kws) (ha : PA X (e :: es) t) (hkw : PK X kws tk) (hs : notStar e = true) (hss : notStars (e :: es) = true) (ko : kwOk ks kws = true) :
    PE X (.Call (.Name x q) (e :: es) kws pos) (tCallN n ks.length (spF X.K G T.fns W k f fn.np) (fun us ws => us ++ pick perm ws) Ex t tk) := by
  obtain ⟨fa, fd, ps, F, hm, kp, bi, kb⟩ := o.fns f fn hf (by rw [hx]; exact gk)
  rw [hx] at hm
  obtain ⟨k1, k2, k3, k4⟩ := kwOk_ok (pos := pos) (env := X.env) ko
  exact pe_callN F o.room hg hm kp (kb n ks perm hk) px ha hkw k1 k2 hd (starEach_cons hs) (by rw [plainArgs hss, k3]; rfl)
theorem pe_ownK0 {Ex : XK} (o : CO T G W k N sc X) (px : Passes (L2.CX X.prog X.w) X Ex) {f : Nat} {fn : Fn} {ks : List Str} {perm : List Nat} (hf : T.fns f = some fn) {x : Str} {q pos : Pos} {kws : List Keyword} {tk : TA} (hx : fn.name = x) (hg : Gl X x) (hd : (x == ("__debug__" : Str)) = false)
    (gk : T.gns.contains x = false) (hk : (f, 0, ks, perm) ∈ T.kws) (hkw : PK X kws tk) (ko : kwOk ks kws = true) :
    PE X (.Call (.Name x q) [] kws pos) (tCallN 0 ks.length (spF X.K G T.fns W k f fn.np) (fun us ws => us ++ pick perm ws) Ex tNil tk) := by
  obtain ⟨fa, fd, ps, F, hm, kp, bi, kb⟩ := o.fns f fn hf (by rw [hx]; exact gk)
  rw [hx] at hm
  obtain ⟨k1, k2, k3, k4⟩ := kwOk_ok (pos := pos) (env := X.env) ko
  refine ⟨fun pins s σ H Q I h => ?_⟩
  refine wpAny_Call_Name_kw (ld_glob I hg hm ?_ hd)
  refine PySem.W.callWith_KW0 (h₀ := X.base) I.ok.mod.kin kp k1 ?_ (by rw [k3]; rfl)
  refine thn (hkw.run pos pins s σ H _ I h) fun ws s2 ⟨zs, H2, I2, rz, l1, l2, q2⟩ => ⟨I2.kIn, ?_⟩
  rw [k2]
  exact run_fnN (us := []) (vs := []) F o.room (kb 0 ks perm hk) px I2 .nil rz rfl l2 q2
theorem runF_len {f : Nat} {fn : Fn} {ds : List D} {S S' : Sto} {d : D} {Tf : Nat → Option Fn} {n : Nat} (hf : Tf f = some fn) (e : runF G Tf W n f ds S = some (d, S')) : ds.length = fn.np := by
  cases n with
  | zero => cases e
  | succ n =>
    unfold runF at e
    rw [hf] at e
    dsimp only at e
    split at e
    · assumption
    · cases e
theorem sp_of {K : PySem.W.Frag} {B B1 : Addr → Prop} {L L1 : List Addr} {H H1 : Hp} {S S1 S2 : Sto} {f : Nat} {fn : Fn} {ds : List D} {d : D} {vs : List V} {Q : VK} {Ex : XK} (hf : T.fns f = some fn) (e : runF G T.fns W k f ds S1 = some (d, S2))
    (q : Post K B L H S2 d false Q) (w : Wd K B L S H) (w1 : Wd K B1 L1 S1 H1) (m : Mv B L H B1 L1 H1) (r : Rps K B1 L1 H1 ds vs) : spF K G T.fns W k f fn.np (vs ++ []) H1 Q Ex := by
  rw [List.append_nil]
  exact ⟨B1, L1, S1, ds, w1, r, runF_len hf e, .inl ⟨d, S2, e, fun v B2 L2 H2 m2 w2 rv => q v B2 L2 H2 (m.trans m2 w w1) w2 rv fun z => nomatch z⟩⟩
theorem runX_len {f : Nat} {fn : Fn} {ds : List D} {S S' : Sto} {d : D} {Tf : Nat → Option Fn} {n : Nat} (hf : Tf f = some fn) (hn : Tf (f + rzN) = none) (e : runF G Tf W n (f + rzN) ds S = some (d, S')) : ds.length = fn.np := by
  cases n with
  | zero => cases e
  | succ n =>
    unfold runF at e
    rw [hn] at e
    dsimp only at e
    rw [if_pos (Nat.le_add_left _ _), Nat.add_sub_cancel, hf] at e
    dsimp only at e
    split at e
    · assumption
    · cases e
/-- what is wanted where an exception leaves -/
def PostX (K : PySem.W.Frag) (B : Addr → Prop) (L : List Addr) (H : Hp) (S' : Sto) (y : Str) (Ex : XK) : Prop := ∀ B' L' H', Mv B L H B' L' H' → Wd K B' L' S' H' → Ex (.ref (He.ga K y)) none H'
theorem spx_of {K : PySem.W.Frag} {B B1 : Addr → Prop} {L L1 : List Addr} {H H1 : Hp} {S S1 S2 : Sto} {f : Nat} {fn : Fn} {ds : List D} {y : Str} {vs : List V} {Q : VK} {Ex : XK} (hf : T.fns f = some fn) (hn : T.fns (f + rzN) = none) (e : runF G T.fns W k (f + rzN) ds S1 = some (.str y, S2))
    (q : PostX K B L H S2 y Ex) (w : Wd K B L S H) (w1 : Wd K B1 L1 S1 H1) (m : Mv B L H B1 L1 H1) (r : Rps K B1 L1 H1 ds vs) : spF K G T.fns W k f fn.np (vs ++ []) H1 Q Ex := by
  rw [List.append_nil]
  exact ⟨B1, L1, S1, ds, w1, r, runX_len hf hn e, .inr ⟨y, S2, e, fun B2 L2 H2 m2 w2 => q B2 L2 H2 (m.trans m2 w w1) w2⟩⟩

/-! ### the parts of what is walked -/
theorem PI_seq {g i : Expr} {e : E} (h : PE X i (tEv X.K G (runF G T.fns W k) e)) : PI X g i (tEvIt X.K G (runF G T.fns W k) (.seq e)) := by
  refine PI_imp (PI_or (pi_list h) (pi_tup h)) fun σV H R => ?_
  rintro ⟨B, L, σ, S, w, S', wd, r, ee, q⟩
  unfold evIt at ee
  split at ee
  · rename_i a S1 e1
    obtain ⟨w', e2, e3⟩ := Option.map_eq_some_iff.mp ee
    cases e3
    unfold seqWk at e2
    obtain ⟨xs, e4, e5⟩ := Option.map_eq_some_iff.mp e2
    subst e5
    cases a with
    | tup ys =>
      cases e4
      refine .inr (one wd r e1 fun v B1 L1 H1 m w1 r1 rv => ?_)
      obtain ⟨a, rfl, hs, src⟩ := srcT w1 rv
      exact ⟨a, rfl, hs, q _ B1 L1 H1 m w1 (wk_tup src) rfl⟩
    | lst ys => exact .inl (one wd r e1 fun v B1 L1 H1 m w1 r1 rv => by
        obtain ⟨a, rfl, hs, src⟩ := srcL (ys := xs) w1 rv e4
        exact ⟨a, rfl, hs, q _ B1 L1 H1 m w1 (wk_list src) still_start⟩)
    | fro ys => exact .inl (one wd r e1 fun v B1 L1 H1 m w1 r1 rv => by
        obtain ⟨a, rfl, hs, src⟩ := srcL (ys := xs) w1 rv e4
        exact ⟨a, rfl, hs, q _ B1 L1 H1 m w1 (wk_list src) still_start⟩)
    | loc n => exact .inl (one wd r e1 fun v B1 L1 H1 m w1 r1 rv => by
        obtain ⟨a, rfl, hs, src⟩ := srcL (ys := xs) w1 rv e4
        exact ⟨a, rfl, hs, q _ B1 L1 H1 m w1 (wk_list src) still_start⟩)
    | _ => cases e4
  · cases ee
theorem PI_rng1 (o : CO T G W k N sc X) {g y : Expr} {p pos : Pos} {e : E} (hg : Gl X "range") (hs : notStar y = true) (h : PE X y (tEv X.K G (runF G T.fns W k) e)) : PI X g (.Call (.Name "range" p) [y] [] pos) (tEvIt X.K G (runF G T.fns W k) (.rng1 e)) := by
  refine PI_imp (pi_range1 hg (bl_of o _) (pa_cons h pa_nil (starEach_cons hs)) (starEach_cons hs)) fun σV H R => ?_
  rintro ⟨B, L, σ, S, w, S', wd, r, ee, q⟩
  unfold evIt at ee
  split at ee
  · rename_i j S1 e1
    obtain ⟨w', e2, e3⟩ := Option.map_eq_some_iff.mp ee
    cases e3
    unfold rngWk at e2
    split at e2
    · rename_i hb
      cases e2
      refine one wd r e1 fun v B1 L1 H1 m w1 r1 rv => ?_
      cases rv
      refine ⟨j, rfl, by omega, by omega, ?_⟩
      have z := q (Itr 0 j.toNat) B1 L1 H1 m w1
      have ez : (j - 0).toNat = j.toNat := by rw [Int.sub_zero]
      rw [ez] at z
      exact z wk_rng rfl
    · cases e2
  · cases ee
theorem PI_rng2 (o : CO T G W k N sc X) {g y z : Expr} {p pos : Pos} {a b : E} (hg : Gl X "range") (hs : notStar y = true) (hs2 : notStar z = true) (h : PE X y (tEv X.K G (runF G T.fns W k) a)) (h2 : PE X z (tEv X.K G (runF G T.fns W k) b)) :
    PI X g (.Call (.Name "range" p) [y, z] [] pos) (tEvIt X.K G (runF G T.fns W k) (.rng2 a b)) := by
  have s2 : starEach [z] X.env = [(false, eval z X.env)] := starEach_cons hs2
  refine PI_imp (pi_range2 hg (bl_of o _) (pa_cons h (pa_cons h2 pa_nil s2) (starEach_cons hs)) (by rw [starEach_cons hs, s2]) s2) fun σV H R => ?_
  rintro ⟨B, L, σ, S, w, S', wd, r, ee, q⟩
  unfold evIt at ee
  split at ee
  · rename_i i S1 e1
    split at ee
    · rename_i j S3 e4
      obtain ⟨w', e2, e3⟩ := Option.map_eq_some_iff.mp ee
      cases e3
      unfold rngWk at e2
      split at e2
      · rename_i hb
        cases e2
        refine two wd r e1 e4 fun v u B1 L1 H1 m w1 r1 rv ru => ?_
        cases rv; cases ru
        exact ⟨i, j, rfl, ⟨by omega, by omega, by omega, by omega⟩, q _ B1 L1 H1 m w1 wk_rng rfl⟩
      · cases e2
    · cases ee
  · cases ee
theorem PI_rng3 (o : CO T G W k N sc X) {g y z u : Expr} {p pos : Pos} {a b d : E} (hg : Gl X "range") (hs : notStar y = true) (hs2 : notStar z = true) (hs3 : notStar u = true) (h : PE X y (tEv X.K G (runF G T.fns W k) a)) (h2 : PE X z (tEv X.K G (runF G T.fns W k) b)) (h3 : PE X u (tEv X.K G (runF G T.fns W k) d)) :
    PI X g (.Call (.Name "range" p) [y, z, u] [] pos) (tEvIt X.K G (runF G T.fns W k) (.rng3 a b d)) := by
  have s3 : starEach [u] X.env = [(false, eval u X.env)] := starEach_cons hs3
  have s2 : starEach [z, u] X.env = (false, eval z X.env) :: starEach [u] X.env := starEach_cons hs2
  refine PI_imp (pi_range3 hg (bl_of o _) (pa_cons h (pa_cons h2 (pa_cons h3 pa_nil s3) s2) (starEach_cons hs)) (starEach_cons hs) (plainArgs (by unfold notStars; rw [hs2]; unfold notStars; rw [hs3]; rfl))) fun σV H R => ?_
  rintro ⟨B, L, σ, S, w, S', wd, r, ee, q⟩
  unfold evIt at ee
  split at ee
  · rename_i i S1 e1
    split at ee
    · rename_i j S3 e4
      split at ee
      · rename_i c S5 e9
        obtain ⟨w', e2, e3⟩ := Option.map_eq_some_iff.mp ee
        cases e3
        unfold rngdWk at e2
        split at e2
        · rename_i hb
          obtain ⟨hc, hb⟩ := hb
          subst hc
          cases e2
          refine three wd r e1 e4 e9 fun v u t B1 L1 H1 m w1 r1 rv ru rt => ?_
          cases rv; cases ru; cases rt
          exact ⟨i, j, -1, (i - j).toNat, rfl, RgC.neg (by omega) (by omega) (by omega) (by omega), q _ B1 L1 H1 m w1 wk_rngc rfl⟩
        · cases e2
      · cases ee
    · cases ee
  · cases ee
theorem PI_enu (o : CO T G W k N sc X) {g y : Expr} {p pos : Pos} {e : E} (ht : isTup g = true) (hg : Gl X "enumerate") (hs : notStar y = true) (h : PE X y (tEv X.K G (runF G T.fns W k) e)) : PI X g (.Call (.Name "enumerate" p) [y] [] pos) (tEvIt X.K G (runF G T.fns W k) (.enu e)) := by
  cases g with
  | Tuple elts kk tp =>
    refine PI_imp (PI_or (pi_enum hg (bl_of o _) (pa_cons h pa_nil (starEach_cons hs)) (starEach_cons hs)) (pi_enumT hg (bl_of o _) (pa_cons h pa_nil (starEach_cons hs)) (starEach_cons hs))) fun σV H R => ?_
    rintro ⟨B, L, σ, S, w, S', wd, r, ee, q⟩
    unfold evIt at ee
    split at ee
    · rename_i a S1 e1
      obtain ⟨w', e2, e3⟩ := Option.map_eq_some_iff.mp ee
      cases e3
      unfold enuWk at e2
      obtain ⟨xs, e4, e5⟩ := Option.map_eq_some_iff.mp e2
      subst e5
      cases a with
      | tup ys =>
        cases e4
        refine .inr (one wd r e1 fun v B1 L1 H1 m w1 r1 rv => ?_)
        obtain ⟨p, rfl, ⟨vs, hs⟩, src⟩ := srcT w1 rv
        exact ⟨p, vs, rfl, hs, q _ B1 L1 H1 m w1 (wk_enumT src) rfl⟩
      | lst ys => exact .inl (one wd r e1 fun v B1 L1 H1 m w1 r1 rv => by
          obtain ⟨p, rfl, ⟨vs, hs⟩, src⟩ := srcL (ys := xs) w1 rv e4
          exact ⟨p, vs, rfl, hs, q _ B1 L1 H1 m w1 (wk_enum src) still_start⟩)
      | fro ys => exact .inl (one wd r e1 fun v B1 L1 H1 m w1 r1 rv => by
          obtain ⟨p, rfl, ⟨vs, hs⟩, src⟩ := srcL (ys := xs) w1 rv e4
          exact ⟨p, vs, rfl, hs, q _ B1 L1 H1 m w1 (wk_enum src) still_start⟩)
      | loc n => exact .inl (one wd r e1 fun v B1 L1 H1 m w1 r1 rv => by
          obtain ⟨p, rfl, ⟨vs, hs⟩, src⟩ := srcL (ys := xs) w1 rv e4
          exact ⟨p, vs, rfl, hs, q _ B1 L1 H1 m w1 (wk_enum src) still_start⟩)
      | _ => cases e4
    · cases ee
  | _ => cases ht
theorem PI_zip (o : CO T G W k N sc X) {g y z : Expr} {p pos : Pos} {a b : E} (ht : isTup g = true) (hg : Gl X "zip") (hs : notStar y = true) (hs2 : notStar z = true) (h : PE X y (tEv X.K G (runF G T.fns W k) a)) (h2 : PE X z (tEv X.K G (runF G T.fns W k) b)) :
    PI X g (.Call (.Name "zip" p) [y, z] [] pos) (tEvIt X.K G (runF G T.fns W k) (.zip a b)) := by
  cases g with
  | Tuple elts kk tp =>
    have s2 : starEach [z] X.env = [(false, eval z X.env)] := starEach_cons hs2
    refine PI_imp (pi_zipM hg (bl_of o _) (pa_cons h (pa_cons h2 pa_nil s2) (starEach_cons hs)) (starEach_cons hs) (plainArgs (by unfold notStars; rw [hs2]; rfl))) fun σV H R => ?_
    rintro ⟨B, L, σ, S, w, S', wd, r, ee, q⟩
    unfold evIt at ee
    split at ee
    · rename_i x S1 e1
      split at ee
      · rename_i x2 S3 e4
        obtain ⟨w', e2, e3⟩ := Option.map_eq_some_iff.mp ee
        cases e3
        unfold zipWk at e2
        obtain ⟨xs, e5, e6⟩ := Option.bind_eq_some_iff.mp e2
        obtain ⟨ys, e7, e8⟩ := Option.map_eq_some_iff.mp e6
        subst e8
        refine two wd r e1 e4 fun v u B1 L1 H1 m w1 r1 rv ru => ?_
        obtain ⟨t1, p1, rfl, ⟨vs, h1⟩, src1⟩ := srcX (ys := xs) w1 rv e5
        obtain ⟨t2, p2, rfl, ⟨us, h2⟩, src2⟩ := srcX (ys := xs) w1 ru e7
        exact ⟨t1, t2, p1, p2, vs, us, rfl, h1, h2, q _ B1 L1 H1 m w1 (wk_zipX (fun B' L' S' H' m w st => src1 B' L' S' H' m w (still_app st).1) (fun B' L' S' H' m w st => src2 B' L' S' H' m w (still_app st).2)) still_start2⟩
      · cases ee
    · cases ee
  | _ => cases ht
theorem PI_zip3 (o : CO T G W k N sc X) {g y z u : Expr} {p pos : Pos} {a b d : E} (ht : isTup g = true) (hg : Gl X "zip") (hs : notStar y = true) (hs2 : notStar z = true) (hs3 : notStar u = true) (h : PE X y (tEv X.K G (runF G T.fns W k) a)) (h2 : PE X z (tEv X.K G (runF G T.fns W k) b)) (h3 : PE X u (tEv X.K G (runF G T.fns W k) d)) :
    PI X g (.Call (.Name "zip" p) [y, z, u] [] pos) (tEvIt X.K G (runF G T.fns W k) (.zip3 a b d)) := by
  cases g with
  | Tuple elts kk tp =>
    have s3 : starEach [u] X.env = [(false, eval u X.env)] := starEach_cons hs3
    have s2 : starEach [z, u] X.env = (false, eval z X.env) :: starEach [u] X.env := starEach_cons hs2
    refine PI_imp (pi_zipN hg (bl_of o _) (pa_cons h (pa_cons h2 (pa_cons h3 pa_nil s3) s2) (starEach_cons hs)) (starEach_cons hs) (plainArgs (by unfold notStars; rw [hs2]; unfold notStars; rw [hs3]; rfl))) fun σV H R => ?_
    rintro ⟨B, L, σ, S, w, S', wd, r, ee, q⟩
    unfold evIt at ee
    split at ee
    · rename_i x S1 e1
      split at ee
      · rename_i x2 S3 e4
        split at ee
        · rename_i x3 S5 e9
          obtain ⟨w', e2, e3⟩ := Option.map_eq_some_iff.mp ee
          cases e3
          unfold zip3Wk at e2
          obtain ⟨xs, e5, e6⟩ := Option.bind_eq_some_iff.mp e2
          obtain ⟨ys, e7, e8⟩ := Option.bind_eq_some_iff.mp e6
          obtain ⟨zs, e10, e11⟩ := Option.map_eq_some_iff.mp e8
          subst e11
          refine three wd r e1 e4 e9 fun v u t B1 L1 H1 m w1 r1 rv ru rt => ?_
          obtain ⟨t1, p1, rfl, ⟨vs, h1⟩, src1⟩ := srcX (ys := xs) w1 rv e5
          obtain ⟨t2, p2, rfl, ⟨us, h2⟩, src2⟩ := srcX (ys := xs) w1 ru e7
          obtain ⟨t3, p3, rfl, ⟨ts, h3⟩, src3⟩ := srcX (ys := xs) w1 rt e10
          exact ⟨t1, t2, t3, p1, p2, p3, vs, us, ts, rfl, h1, h2, h3, q _ B1 L1 H1 m w1 (wk_zipN (fun B' L' S' H' m w st => src1 B' L' S' H' m w (still_app st).1) (fun B' L' S' H' m w st => src2 B' L' S' H' m w (still_app (still_app st).2).1) (fun B' L' S' H' m w st => src3 B' L' S' H' m w (still_app (still_app st).2).2)) still_start3⟩
        · cases ee
      · cases ee
    · cases ee
  | _ => cases ht
theorem PI_rev (o : CO T G W k N sc X) {g y : Expr} {p pos : Pos} {e : E} (hg : Gl X "reversed") (hs : notStar y = true) (h : PE X y (tEv X.K G (runF G T.fns W k) e)) : PI X g (.Call (.Name "reversed" p) [y] [] pos) (tEvIt X.K G (runF G T.fns W k) (.rev e)) := by
  refine PI_imp (RT.pi_revA hg (bl_of o _) h (starEach_cons hs)) fun σV H R => ?_
  rintro ⟨B, L, σ, S, w, S', wd, r, ee, q⟩
  unfold evIt at ee
  split at ee
  · rename_i a S1 e1
    obtain ⟨w', e2, e3⟩ := Option.map_eq_some_iff.mp ee
    cases e3
    unfold revWk at e2
    obtain ⟨xs, e4, e5⟩ := Option.map_eq_some_iff.mp e2
    subst e5
    refine one wd r e1 fun v B1 L1 H1 m w1 r1 rv => ?_
    have lists : lstOf S' a = some xs → ∃ (a : Addr) (xs : List V), v = .ref a ∧ ((SqL X.K H1 a xs ∧ R (Itv X.K a xs.length) H1) ∨ (SqT X.K H1 a xs ∧ R (RT.ItvT X.K a xs.length) H1)) := fun f1 => by
      obtain ⟨p1, vs, rfl, h1, r2⟩ := rv.sqL w1 f1
      obtain ⟨p2, e6, _, src1⟩ := srcL (ys := xs) w1 rv f1
      cases e6
      exact ⟨p1, vs, rfl, .inl ⟨h1, by rw [← r2.length]; exact q _ B1 L1 H1 m w1 (wk_revL src1) still_start⟩⟩
    cases a with
    | tup ys =>
      cases e4
      obtain ⟨p1, vs, rfl, h1, r2⟩ := rv.sqT
      obtain ⟨p2, e6, _, src⟩ := srcT w1 rv
      cases e6
      exact ⟨p1, vs, rfl, .inr ⟨h1, by rw [← r2.length]; exact q _ B1 L1 H1 m w1 (wk_revT src) rfl⟩⟩
    | lst ys => exact lists e4
    | fro ys => exact lists e4
    | loc n => exact lists e4
    | _ => cases e4
  · cases ee
theorem PRg_imp {X : Cx} {e : Expr} {t t' : L2.St → Hp → (Int → Int → Hp → Prop) → Prop} (h : PRg X e t) (k : ∀ σ H Q, t' σ H Q → t σ H Q) : PRg X e t' := fun pins s σ H Q I q => h pins s σ H Q I (k σ H Q q)
theorem rgOk_ok {i j : Int} (h : rgOk i j = true) : RgOk i j := by
  unfold rgOk at h
  rw [decide_eq_true_eq] at h
  exact ⟨by omega, by omega, by omega, by omega, by omega⟩
theorem rps_rg {K : PySem.W.Frag} {B : Addr → Prop} {L : List Addr} {H : Hp} {i : Int} : ∀ l : List Nat, Rps K B L H (l.map fun k : Nat => D.int (i + (k : Nat))) (l.map fun k : Nat => V.int (i + (k : Nat)))
  | [] => .nil
  | k :: l => .cons (.int _) (rps_rg l)
theorem wk_rrng {K : PySem.W.Frag} {B : Addr → Prop} {L : List Addr} {S : Sto} {H : Hp} {lo : Int} {n : Nat} : WkOk K (Itc lo (-1) n) ⟨(List.range n).map fun k => .int (lo + (k : Nat) * (-1)), []⟩ B L S H := by
  intro B' L' S' H' m w' st i
  refine ⟨fun h => (by have h2 := h; simp at h2; omega : n ≤ i), fun d e => ?_⟩
  rw [List.getElem?_map] at e
  obtain ⟨j, e1, e2⟩ := Option.map_eq_some_iff.mp e
  obtain ⟨hj, e3⟩ := List.getElem?_eq_some_iff.mp e1
  rw [List.getElem_range] at e3
  subst e3 e2
  refine ⟨(by simpa using hj : i < n), fun x H2 y => ?_⟩
  obtain ⟨rfl, rfl⟩ := y
  exact ⟨Mv.refl _ _ _, w', .int _⟩
end
end Rf
end

section
set_option maxRecDepth 100000
set_option maxHeartbeats 16000000
set_option autoImplicit false
namespace Rf
open PySem PySem.Spec PyProof.Rows L2

section
variable {T : Tab} {G : Nat → Option D} {W k : Nat} {N : List Str}
theorem args_len {es : Es} {xs : List Expr} {sc : Scope} (h : chkEs T N sc es xs = true) : (es = .nil ∧ xs = []) ∨ ∃ e es' x xs', es = .cons e es' ∧ xs = x :: xs' := by
  cases es with
  | nil =>
    cases xs with
    | nil => exact .inl ⟨rfl, rfl⟩
    | cons x xs => unfold chkEs at h; cases h
  | cons e es =>
    cases xs with
    | nil => unfold chkEs at h; cases h
    | cons x xs => exact .inr ⟨e, es, x, xs, rfl, rfl⟩
theorem evs_nil {c : Cal} {σ : DEnv} {S S1 : Sto} {ds : List D} (e : evs G c .nil σ S = some (ds, S1)) : ds = [] ∧ S1 = S := by
  unfold evs at e; cases e; exact ⟨rfl, rfl⟩
theorem evs_cons {c : Cal} {a : E} {es : Es} {σ : DEnv} {S S2 : Sto} {ds : List D} (e : evs G c (.cons a es) σ S = some (ds, S2)) : ∃ d S1 r, ev G c a σ S = some (d, S1) ∧ evs G c es σ S1 = some (r, S2) ∧ ds = d :: r := by
  unfold evs at e
  split at e
  · rename_i d S1 h1
    split at e
    · rename_i r S3 h2; cases e; exact ⟨d, S1, r, h1, h2, rfl⟩
    · cases e
  · cases e

theorem evs_len {c : Cal} : ∀ {es : Es} {xs : List Expr} {sc : Scope} {σ : DEnv} {S S1 : Sto} {ds : List D}, chkEs T N sc es xs = true → evs G c es σ S = some (ds, S1) → ds.length = xs.length
  | .nil, xs, sc, σ, S, S1, ds, h, e => by
    obtain ⟨rfl, _⟩ := evs_nil e
    cases xs with
    | nil => rfl
    | cons _ _ => unfold chkEs at h; cases h
  | .cons a es, xs, sc, σ, S, S1, ds, h, e => by
    obtain ⟨d, S2, r, _, e2, rfl⟩ := evs_cons e
    cases xs with
    | nil => unfold chkEs at h; cases h
    | cons x xs =>
      simp only [chkEs, Bool.and_eq_true] at h
      rw [List.length_cons, List.length_cons, evs_len h.2 e2]
end

/-! ## exceptions of calls -/
section
variable (K : PySem.W.Frag) (G : Nat → Option D) (c : Cal)
/-- an expression that raises -/
def tEvX (e : E) (Ex : XK) (σV : L2.St) (H : Hp) : Prop := ∃ B L σ S y S', Wd K B L S H ∧ REnv K B L H σ σV ∧ evX G c e σ S = some (y, S') ∧ PostX K B L H S' y Ex
/-- .. or not -/
def tEvB (e : E) (Ex : XK) : TE := fun σV H Q => tEv K G c e σV H Q ∨ tEvX K G c e Ex σV H
end
section
variable {K : PySem.W.Frag} {B : Addr → Prop} {L : List Addr} {S : Sto} {H H' : Hp}
theorem Wd.tables (w : Wd K B L S H) (e : LamX.ExtN H H') (t : TabsK K H') : Wd K B L S H' ∧ Mv B L H B L H' := by
  have eB : ExtB B H H' := fun a o h n _ => e a o h n
  refine ⟨⟨w.sub, w.nd, fun a b => ?_, w.len, fun n xs q => ?_, t⟩, mvE fun a o h n _ => e a o h n⟩
  · obtain ⟨vs, q⟩ := w.lists a b
    exact ⟨vs, e a _ q (noT_lst _)⟩
  · obtain ⟨a, vs, e1, e2, r⟩ := w.sto n xs q
    exact ⟨a, vs, e1, e a _ e2 (noT_lst _), r.mono w.lists eB (fun _ b => .inl b) fun _ _ z => z⟩
end
section
variable {T : Tab} {G : Nat → Option D} {W k : Nat} {N : List Str} {sc : Scope} {X : Cx}
theorem evX_call {c : Cal} {f : Nat} {es : Es} {σ : DEnv} {S S2 : Sto} {y : Str} (e : evX G c (.call f es) σ S = some (y, S2)) : ∃ ds S1, evs G c es σ S = some (ds, S1) ∧ c (f + rzN) ds S1 = some (.str y, S2) := by
  unfold evX at e
  split at e
  · split at e
    · rename_i h2; cases e; exact ⟨_, _, by assumption, h2⟩
    · cases e
  · cases e
theorem evX_callK {c : Cal} {f : Nat} {ks : List Str} {perm : List Nat} {es zs : Es} {σ : DEnv} {S S2 : Sto} {y : Str} (e : evX G c (.callK f ks perm es zs) σ S = some (y, S2)) :
    ∃ ds S1 us S3, evs G c es σ S = some (ds, S1) ∧ evs G c zs σ S1 = some (us, S3) ∧ c (f + rzN) (ds ++ pick perm us) S3 = some (.str y, S2) := by
  unfold evX at e
  split at e
  · split at e
    · split at e
      · rename_i h3; cases e; exact ⟨_, _, _, _, by assumption, by assumption, h3⟩
      · cases e
    · cases e
  · cases e
theorem ev_told {c : Cal} {t : Bool} {x : Str} {a : E} {σ : DEnv} {S S2 : Sto} {d : D} (e : ev G c (.told t x a) σ S = some (d, S2)) : (∃ d0, ev G c a σ S = some (d0, S2) ∧ d = toldD t d0) ∨ (evX G c a σ S = some (x, S2) ∧ d = untoldD t) := by
  unfold ev at e
  split at e
  · rename_i d0 S1 h1; cases e; exact .inl ⟨d0, h1, rfl⟩
  · split at e
    · rename_i y S1 h2
      split at e
      · rename_i hy; cases e; subst hy; exact .inr ⟨h2, rfl⟩
      · cases e
    · cases e
/-- f(es), that may raise -/
theorem own_both {Ex : XK} (o : CO T G W k N sc X) (px : Passes (L2.CX X.prog X.w) X Ex) {f : Nat} {es : Es} {x : Str} {xs : List Expr} {p pos : Pos} (h1 : glB sc x = true) (h2 : (T.fns f).map (·.name) = some x) (gk : gOk T x xs.length = true) (h3 : notStars xs = true)
    (ha : PA X xs (tEvs X.K G (runF G T.fns W k) es)) (hl : (es = .nil ∧ xs = []) ∨ ∃ e es' x xs', es = .cons e es' ∧ xs = x :: xs') : PE X (.Call (.Name x p) xs [] pos) (tEvB X.K G (runF G T.fns W k) (.call f es) Ex) := by
  obtain ⟨g1, g2⟩ := glB_ok h1
  obtain ⟨fn, hf, hn⟩ := Option.map_eq_some_iff.mp h2
  rcases hl with ⟨rfl, rfl⟩ | ⟨e0, es', x0, xs', rfl, rfl⟩
  · refine PE_imp (pe_own0 o px hf hn (o.gl x g1) g2 gk) fun σV H Q => ?_
    rintro (⟨B, L, σ, S, d, S', w, r, ee, q⟩ | ⟨B, L, σ, S, y, S', w, r, ee, q⟩)
    · obtain ⟨ds, S1, e1, e2⟩ := ev_call ee
      obtain ⟨rfl, rfl⟩ := evs_nil e1
      exact sp_of hf e2 q w w (Mv.refl B L H) .nil
    · obtain ⟨ds, S1, e1, e2⟩ := evX_call ee
      obtain ⟨rfl, rfl⟩ := evs_nil e1
      exact spx_of hf (o.hi f fn hf) e2 q w w (Mv.refl B L H) .nil
  · unfold notStars at h3
    rw [Bool.and_eq_true] at h3
    refine PE_imp (pe_own o px hf hn (o.gl x g1) g2 gk ha h3.1 h3.2) fun σV H Q => ?_
    rintro (⟨B, L, σ, S, d, S', w, r, ee, q⟩ | ⟨B, L, σ, S, y, S', w, r, ee, q⟩)
    · obtain ⟨ds, S1, e1, e2⟩ := ev_call ee
      exact args w r e1 fun vs B1 L1 H1 m w1 r1 rv => sp_of hf e2 q w w1 m rv
    · obtain ⟨ds, S1, e1, e2⟩ := evX_call ee
      exact args w r e1 fun vs B1 L1 H1 m w1 r1 rv => spx_of hf (o.hi f fn hf) e2 q w w1 m rv
theorem ownK_both {Ex : XK} (o : CO T G W k N sc X) (px : Passes (L2.CX X.prog X.w) X Ex) {f : Nat} {ks : List Str} {perm : List Nat} {es zs : Es} {x : Str} {xs : List Expr} {kws : List Keyword} {p pos : Pos} (h1 : glB sc x = true) (h2 : (T.fns f).map (·.name) = some x) (gk : T.gns.contains x = false) (h3 : notStars xs = true)
    (h4 : kwOk ks kws = true) (h5 : (f, xs.length, ks, perm) ∈ T.kws) (ha : PA X xs (tEvs X.K G (runF G T.fns W k) es)) (hk : PK X kws (tEvs X.K G (runF G T.fns W k) zs)) (hl : (es = .nil ∧ xs = []) ∨ ∃ e es' x xs', es = .cons e es' ∧ xs = x :: xs')
    (l1 : ∀ {c : Cal} {σ : DEnv} {S S1 : Sto} {ds : List D}, evs G c es σ S = some (ds, S1) → ds.length = xs.length) (l2 : ∀ {c : Cal} {σ : DEnv} {S S1 : Sto} {ds : List D}, evs G c zs σ S = some (ds, S1) → ds.length = (kwVals kws).length) :
    PE X (.Call (.Name x p) xs kws pos) (tEvB X.K G (runF G T.fns W k) (.callK f ks perm es zs) Ex) := by
  obtain ⟨g1, g2⟩ := glB_ok h1
  obtain ⟨fn, hf, hn⟩ := Option.map_eq_some_iff.mp h2
  have hlen : ks.length = kws.length := (kwOk_ok (pos := pos) (env := X.env) h4).2.2.2.symm
  rcases hl with ⟨rfl, rfl⟩ | ⟨e0, es', x0, xs', rfl, rfl⟩
  · refine PE_imp (pe_ownK0 o px hf hn (o.gl x g1) g2 gk h5 hk h4) fun σV H Q => ?_
    rintro (⟨B, L, σ, S, d, S', w, r, ee, q⟩ | ⟨B, L, σ, S, y, S', w, r, ee, q⟩)
    · obtain ⟨ds, S1, us, S3, e1, e2, e3⟩ := ev_callK ee
      obtain ⟨rfl, rfl⟩ := evs_nil e1
      refine args w r e2 fun vs B1 L1 H1 m w1 r1 rv => ⟨rfl, ?_, ?_⟩
      · rw [← rv.length, l2 e2, kwVals_len]; exact hlen.symm
      · have z := sp_of (Ex := Ex) hf e3 q w w1 m (Rps.append .nil (rps_pick rv perm))
        rw [List.append_nil] at z
        exact z
    · obtain ⟨ds, S1, us, S3, e1, e2, e3⟩ := evX_callK ee
      obtain ⟨rfl, rfl⟩ := evs_nil e1
      refine args w r e2 fun vs B1 L1 H1 m w1 r1 rv => ⟨rfl, ?_, ?_⟩
      · rw [← rv.length, l2 e2, kwVals_len]; exact hlen.symm
      · have z := spx_of (Q := Q) hf (o.hi f fn hf) e3 q w w1 m (Rps.append .nil (rps_pick rv perm))
        rw [List.append_nil] at z
        exact z
  · have h3' := h3
    unfold notStars at h3'
    rw [Bool.and_eq_true] at h3'
    refine PE_imp (pe_ownK o px hf hn (o.gl x g1) g2 gk h5 ha hk h3'.1 h3 h4) fun σV H Q => ?_
    rintro (⟨B, L, σ, S, d, S', w, r, ee, q⟩ | ⟨B, L, σ, S, y, S', w, r, ee, q⟩)
    · obtain ⟨ds, S1, us, S3, e1, e2, e3⟩ := ev_callK ee
      refine args w r e1 fun vs B1 L1 H1 m w1 r1 rv => args w1 r1 e2 fun zs B2 L2 H2 m2 w2 r2 rz => ⟨?_, ?_, ?_⟩
      · rw [← rv.length, l1 e1]
      · rw [← rz.length, l2 e2, kwVals_len]; exact hlen.symm
      · have z := sp_of (Ex := Ex) hf e3 q w w2 (m.trans m2 w w1) ((rv.mv w1 m2).append (rps_pick rz perm))
        rw [List.append_nil] at z
        exact z
    · obtain ⟨ds, S1, us, S3, e1, e2, e3⟩ := evX_callK ee
      refine args w r e1 fun vs B1 L1 H1 m w1 r1 rv => args w1 r1 e2 fun zs B2 L2 H2 m2 w2 r2 rz => ⟨?_, ?_, ?_⟩
      · rw [← rv.length, l1 e1]
      · rw [← rz.length, l2 e2, kwVals_len]; exact hlen.symm
      · have z := spx_of (Q := Q) hf (o.hi f fn hf) e3 q w w2 (m.trans m2 w w1) ((rv.mv w1 m2).append (rps_pick rz perm))
        rw [List.append_nil] at z
        exact z

/-! ## names alone, as arguments -/
theorem vs_len {c : Cal} : ∀ {es : Es} {xs : List Expr} {sc : Scope} {σ : DEnv} {S S1 : Sto} {ds : List D}, chkVs N sc es xs = true → evs G c es σ S = some (ds, S1) → ds.length = xs.length
  | .nil, xs, sc, σ, S, S1, ds, h, e => by
    obtain ⟨rfl, _⟩ := evs_nil e
    cases xs with
    | nil => rfl
    | cons _ _ => cases h
  | .cons a es, xs, sc, σ, S, S1, ds, h, e => by
    obtain ⟨d, S2, r, _, e2, rfl⟩ := evs_cons e
    unfold chkVs at h
    split at h
    · cases ‹Es.cons _ _ = _›
    · rename_i i es' x p xs' q
      cases q
      simp only [Bool.and_eq_true] at h
      rw [List.length_cons, List.length_cons, vs_len h.2 e2]
    · cases h
theorem vs_cases {es : Es} {xs : List Expr} {sc : Scope} (h : chkVs N sc es xs = true) : (es = .nil ∧ xs = []) ∨ ∃ i es' x p xs', es = .cons (.var i) es' ∧ xs = .Name x p :: xs' ∧ N[i]? = some x ∧ visB sc x = true ∧ (x == ("__debug__" : Str)) = false ∧ (x == ("__classdict__" : Str)) = false ∧ chkVs N sc es' xs' = true := by
  unfold chkVs at h
  split at h
  · exact .inl ⟨rfl, rfl⟩
  · simp only [Bool.and_eq_true, decide_eq_true_eq, Bool.not_eq_true'] at h
    obtain ⟨⟨⟨⟨a1, a2⟩, a3⟩, a4⟩, a5⟩ := h
    exact .inr ⟨_, _, _, _, _, rfl, rfl, a1, a2, a3, a4, a5⟩
  · cases h
theorem pe_v {c : Cal} {i : Nat} {x : Str} {p : Pos} (hN : X.N[i]? = some x) (hv : Vis X.env.scope x) (h3 : (x == ("__debug__" : Str)) = false) (h4 : (x == ("__classdict__" : Str)) = false) : PE X (.Name x p) (tEv X.K G c (.var i)) := by
  refine PE_imp (pe_var (i := i) hN hv h3 h4) fun σV H Q => ?_
  rintro ⟨B, L, σ, S, d, S', w, r, ee, q⟩
  unfold ev at ee
  split at ee
  · rename_i d' hd
    cases ee
    obtain ⟨v, e1, rv⟩ := r.get i _ hd
    exact ⟨v, e1, q.here w rv (.inl rfl)⟩
  · cases ee
theorem sVs {c : Cal} (es : Es) : ∀ {xs : List Expr} {sc : Scope} {X : Cx}, X.N = N → (∀ x, Vis sc x → Vis X.env.scope x) → chkVs N sc es xs = true → PA X xs (tEvs X.K G c es) := by
  intro xs sc X hN hV h
  rcases vs_cases h with ⟨rfl, rfl⟩ | ⟨i, es', x, p, xs', rfl, rfl, a1, a2, a3, a4, a5⟩
  · refine PA_imp pa_nil fun σV H Q => ?_
    rintro ⟨B, L, σ, S, ds, S', w, r, ee, q⟩
    obtain ⟨rfl, rfl⟩ := evs_nil ee
    exact q [] B L H (Mv.refl B L H) w .nil
  · refine PA_imp (pa_cons (pe_v (G := G) (c := c) (by rw [hN]; exact a1) (hV x (visB_ok a2)) a3 a4) (sVs (c := c) es' hN hV a5) (starEach_cons rfl)) fun σV H Q => ?_
    rintro ⟨B, L, σ, S, ds, S', w, r, ee, q⟩
    obtain ⟨d, S1, rr, e1, e2, rfl⟩ := evs_cons ee
    refine one w r e1 fun v B1 L1 H1 m w1 r1 rv => ?_
    exact args w1 r1 e2 fun vs B2 L2 H2 m2 w2 r2 rvs => q (v :: vs) B2 L2 H2 (m.trans m2 w w1) w2 (.cons (rv.mv w1 m2) rvs)
theorem sVKs {c : Cal} (es : Es) : ∀ {kws : List Keyword} {sc : Scope} {X : Cx}, X.N = N → (∀ x, Vis sc x → Vis X.env.scope x) → chkVs N sc es (kwVals kws) = true → PK X kws (tEvs X.K G c es) := by
  intro kws sc X hN hV h
  rcases vs_cases h with ⟨rfl, e0⟩ | ⟨i, es', x, p, xs', rfl, e0, a1, a2, a3, a4, a5⟩
  · cases kws with
    | nil =>
      refine PK_imp pk_nil fun σV H Q => ?_
      rintro ⟨B, L, σ, S, ds, S', w, r, ee, q⟩
      obtain ⟨rfl, rfl⟩ := evs_nil ee
      exact q [] B L H (Mv.refl B L H) w .nil
    | cons y ys => cases y; cases e0
  · cases kws with
    | nil => cases e0
    | cons y ys =>
      obtain ⟨nm, y, kp⟩ := y
      simp only [kwVals, List.cons.injEq] at e0
      obtain ⟨rfl, rfl⟩ := e0
      refine PK_imp (pk_cons (pe_v (G := G) (c := c) (by rw [hN]; exact a1) (hV x (visB_ok a2)) a3 a4) (sVKs (c := c) es' hN hV a5)) fun σV H Q => ?_
      rintro ⟨B, L, σ, S, ds, S', w, r, ee, q⟩
      obtain ⟨d, S1, rr, e1, e2, rfl⟩ := evs_cons ee
      refine one w r e1 fun v B1 L1 H1 m w1 r1 rv => ?_
      exact args w1 r1 e2 fun vs B2 L2 H2 m2 w2 r2 rvs => q (v :: vs) B2 L2 H2 (m.trans m2 w w1) w2 (.cons (rv.mv w1 m2) rvs)
theorem vs_len2 {es : Es} {xs : List Expr} {sc : Scope} (h : chkVs N sc es xs = true) : (es = .nil ∧ xs = []) ∨ ∃ e es' x xs', es = .cons e es' ∧ xs = x :: xs' := by
  rcases vs_cases h with h | ⟨i, es', x, p, xs', e1, e2, _⟩
  · exact .inl h
  · exact .inr ⟨_, _, _, _, e1, e2⟩

/-! ## a lambda's body -/
theorem lam_co (o : CO T G W k N sc X) {scp : Scope} (L : LamX.LamS X.env.scope scp) {A : Around} {outer : List PySem.Env} {s : Shared} {H : Hp} {Ex : XK} {f c' : Addr} (r : Room (3 * k) (A.deeper (LamX.lamEnv X scp s.heap.objs.size f c'))) :
    CO { T with told := none, grd := false } G W k N scp (LamX.lamCx X A outer s H Ex scp f c') := by
  refine ⟨o.names, o.nd, rfl, r, fun x h => h, fun x h => ?_, fun x h => h, fun x h => h, o.bl, o.gcd, o.glob, o.fns, o.exc, fun z => (by cases z), fun g t x h => (by cases h), o.hi⟩
  rcases h with h | h
  · exact absurd rfl (L.own _ (PySem.mem_of_lookup h)).1
  · exact absurd rfl (L.own _ (PySem.mem_of_lookup h)).2
theorem lam_pass {scp : Scope} {A : Around} {outer : List PySem.Env} {s : Shared} {H : Hp} {Ex : XK} {f c' : Addr} : Passes (L2.CX X.prog X.w) (LamX.lamCx X A outer s H Ex scp f c') Ex :=
  passes_call (X := LamX.lamCx X A outer s H Ex scp f c') (W := fun cls d _ H => Ex cls d H) (E := Ex) (takes_of (X := LamX.lamCx X A outer s H Ex scp f c') (E := Ex) rfl rfl rfl rfl) fun _ _ _ _ h => h
theorem lam_body (o : CO T G W k N sc X) {scp : Scope} (L : LamX.LamS X.env.scope scp) {A : Around} {outer : List PySem.Env} {s : Shared} {H : Hp} {Ex : XK} {f c' : Addr} (r : Room (3 * k) (A.deeper (LamX.lamEnv X scp s.heap.objs.size f c')))
    {a : E} {body : Expr} (h : chkTE T N scp a body = true) : PE (LamX.lamCx X A outer s H Ex scp f c') body (tEvB X.K G (runF G T.fns W k) a Ex) := by
  have oL := lam_co o L (Ex := Ex) (outer := outer) (s := s) (H := H) r
  have px : Passes (L2.CX X.prog X.w) (LamX.lamCx X A outer s H Ex scp f c') Ex := lam_pass
  have eN : (LamX.lamCx X A outer s H Ex scp f c').N = N := o.names
  have hV : ∀ x, Vis scp x → Vis (LamX.lamCx X A outer s H Ex scp f c').env.scope x := fun x z => z
  generalize hY : LamX.lamCx X A outer s H Ex scp f c' = Y at oL px eN hV ⊢
  have eP : Y.prog = X.prog := by rw [← hY]; rfl
  have eW : Y.w = X.w := by rw [← hY]; rfl
  have eK : Y.K = X.K := by rw [← hY]; rfl
  rw [← eP, ← eW] at px
  rw [← eK]
  unfold chkTE at h
  split at h
  · simp only [Bool.and_eq_true, decide_eq_true_eq] at h
    obtain ⟨⟨⟨h1, h2, gk⟩, h3⟩, h4⟩ := h
    exact own_both (T := { T with told := none, grd := false }) oL px h1 h2 (by unfold gOk; simp only [gk, Bool.not_false, Bool.true_or]) h3 (sVs _ eN hV h4) (vs_len2 h4)
  · simp only [Bool.and_eq_true, decide_eq_true_eq] at h
    obtain ⟨⟨⟨⟨⟨⟨h1, h2, gk⟩, h3⟩, h4⟩, h5⟩, h6⟩, h7⟩ := h
    exact ownK_both (T := { T with told := none, grd := false }) oL px h1 h2 gk h3 h4 h5 (sVs _ eN hV h6) (sVKs _ eN hV h7) (vs_len2 h6) (fun e => vs_len h6 e) fun e => vs_len h7 e
  · cases h

/-! ## the def that catches -/
/-- what it makes of what it calls -/
def TT2 (K : PySem.W.Frag) (x : Str) : Bool → (XK → Hp → VK → Prop) → Hp → VK → Prop
  | true => fun tl H Q => tl (fun cls _ H' => cls = .ref (He.ga K x) ∧ ([V.bl false].length ≤ sizeLine ∧ ∀ p, H' p = none → Q (.ref p) (upd H' p (.tup [V.bl false])))) H fun v H' => [V.bl true, v].length ≤ sizeLine ∧ ∀ p, H' p = none → Q (.ref p) (upd H' p (.tup [.bl true, v]))
  | false => fun tl H Q => tl (fun cls _ H' => cls = .ref (He.ga K x) ∧ (([] : List V).length ≤ sizeLine ∧ ∀ p, H' p = none → Q (.ref p) (upd H' p (.lst [])))) H fun v H' => [v].length ≤ sizeLine ∧ ∀ p, H' p = none → Q (.ref p) (upd H' p (.lst [v]))
theorem toldB_inv {t : Bool} {x a : Str} {sg : Scope} {bg : List Stmt} (h : toldB t x a sg bg = true) : ∃ r r0 p1 p2 p3 p4 p5, bg = [.Try [.Return (some r) p1] [.ExceptHandler (some (.Name x p2)) none [.Return (some r0) p3] p4] [] [] p5] ∧ retB t a r = true ∧ ret0B t r0 = true ∧
    sg.names.lookup x = some .globalImplicit ∧ (x == ("__debug__" : Str)) = false ∧ visB sg a = true ∧ (a == ("__debug__" : Str)) = false ∧ (a == ("__classdict__" : Str)) = false := by
  unfold toldB at h
  split at h
  · simp only [Bool.and_eq_true, decide_eq_true_eq, Bool.not_eq_true'] at h
    obtain ⟨⟨⟨⟨⟨⟨⟨h1, h2⟩, h3⟩, h4⟩, h5⟩, h6⟩, h7⟩, h8⟩ := h
    subst h1
    exact ⟨_, _, _, _, _, _, _, rfl, h2, h3, h4, h5, h6, h7, h8⟩
  · cases h
theorem retT {a : Str} {r : Expr} (h : retB true a r = true) : ∃ j p1 p2 p3 k p4, r = .Tuple [.Constant (.bool true) j p1, .Call (.Name a p2) [] [] p3] k p4 := by
  unfold retB at h
  split at h
  · simp only [Bool.true_and, decide_eq_true_eq] at h; subst h; exact ⟨_, _, _, _, _, _, rfl⟩
  · cases h
  · cases h
theorem retF {a : Str} {r : Expr} (h : retB false a r = true) : ∃ p2 p3 p4, r = .List [.Call (.Name a p2) [] [] p3] p4 := by
  unfold retB at h
  split at h
  · cases h
  · simp only [Bool.not_false, Bool.true_and, decide_eq_true_eq] at h; subst h; exact ⟨_, _, _, rfl⟩
  · cases h
theorem ret0T {r : Expr} (h : ret0B true r = true) : ∃ j p k p2, r = .Tuple [.Constant (.bool false) j p] k p2 := by
  unfold ret0B at h
  split at h
  · exact ⟨_, _, _, _, rfl⟩
  · cases h
  · cases h
theorem ret0F {r : Expr} (h : ret0B false r = true) : ∃ p, r = .List [] p := by
  unfold ret0B at h
  split at h
  · cases h
  · exact ⟨_, rfl⟩
  · cases h
theorem gives_told {g a x q : Str} {sg : Scope} {ga : Addr} {cdg : Value} {bg : List Stmt} {t : Bool} (h : toldB t x a sg bg = true) (hx : X.mg x = some (.ref (He.ga X.K x))) (he : PySem.W.exmOne X.K (.ref (He.ga X.K x)) (.ref (He.ga X.K x)) = some true) :
    LamX.GivesTo X [a] g sg ga cdg bg a q (TT2 X.K x t) := by
  obtain ⟨r, r0, p1, p2, p3, p4, p5, rfl, hr, hr0, hge, hde, _, _, _⟩ := toldB_inv h
  intro f c' s H Q tl act hc hq
  have hgl : Gl (cxOf C8.CX0 X.prog X.w X.K X.mg X.base [a] g sg ga cdg X.A X.stack s H C8.E0).nox x := hge
  cases t with
  | true =>
    obtain ⟨j, q1, q2, q3, k1, q4, rfl⟩ := retT hr
    obtain ⟨j0, q5, k2, q6, rfl⟩ := ret0T hr0
    refine ⟨_, pss_one (ps_try_only (X := (cxOf C8.CX0 X.prog X.w X.K X.mg X.base [a] g sg ga cdg X.A X.stack s H C8.E0).nox) (c := .ref (He.ga X.K x))
        (tb := fun W D σ H => ∃ Ech : XK, (∀ cls d σ' H', Ech cls d H' → W cls d σ' H') ∧ σ[0]? = some (some (.ref f)) ∧ H c' = some (LamX.CodeO c' q) ∧ tl Ech H fun v H' => [V.bl true, v].length ≤ sizeLine ∧ ∀ p, H' p = none → D.rt (.ref p) (upd H' p (.tup [.bl true, v])))
        rfl rfl ⟨hgl, hde, .inl hx⟩ LamX.takes0 (fun W pn xe tk _ => ?_) (fun a oe cls d pn _ _ => pss_one (ps_ret (pe_tup (pa_cons pe_bl pa_nil))))), ?_⟩
    · refine ⟨fun pins s' σ H' D I h' => ?_⟩
      obtain ⟨Ech, hW, h1, h2, h3⟩ := h'
      have hp := act W pn xe Ech q2 q3 tk hW
      exact (pss_one (ps_ret (pos := p1) (pe_tup (x1 := k1) (pos := q4) (pa_cons (pe_bl (b := true) (j := j) (pos := q1)) (pa_cons hp pa_nil))))).run pins s' σ H' D I ⟨h1, h2, h3⟩
    · exact ⟨_, fun cls d σ' H' ⟨e1, e2⟩ => ⟨true, by rw [e1]; exact he, fun _ a _ => e2, fun z => nomatch z⟩, rfl, hc, hq⟩
  | false =>
    obtain ⟨q2, q3, q4, rfl⟩ := retF hr
    obtain ⟨q6, rfl⟩ := ret0F hr0
    refine ⟨_, pss_one (ps_try_only (X := (cxOf C8.CX0 X.prog X.w X.K X.mg X.base [a] g sg ga cdg X.A X.stack s H C8.E0).nox) (c := .ref (He.ga X.K x))
        (tb := fun W D σ H => ∃ Ech : XK, (∀ cls d σ' H', Ech cls d H' → W cls d σ' H') ∧ σ[0]? = some (some (.ref f)) ∧ H c' = some (LamX.CodeO c' q) ∧ tl Ech H fun v H' => [v].length ≤ sizeLine ∧ ∀ p, H' p = none → D.rt (.ref p) (upd H' p (.lst [v])))
        rfl rfl ⟨hgl, hde, .inl hx⟩ LamX.takes0 (fun W pn xe tk _ => ?_) (fun a oe cls d pn _ _ => pss_one (ps_ret (pe_lst pa_nil)))), ?_⟩
    · refine ⟨fun pins s' σ H' D I h' => ?_⟩
      obtain ⟨Ech, hW, h1, h2, h3⟩ := h'
      have hp := act W pn xe Ech q2 q3 tk hW
      exact (pss_one (ps_ret (pos := p1) (pe_lst (pos := q4) (pa_cons hp pa_nil)))).run pins s' σ H' D I ⟨h1, h2, h3⟩
    · exact ⟨_, fun cls d σ' H' ⟨e1, e2⟩ => ⟨true, by rw [e1]; exact he, fun _ a _ => e2, fun z => nomatch z⟩, rfl, hc, hq⟩
theorem lamS_up (o : CO T G W k N sc X) {scp : Scope} (h : LamX.lamSB sc scp = true) : LamX.LamS X.env.scope scp := by
  have L := LamX.lamS_by h
  exact ⟨L.kind, L.co, L.gen, L.own, fun y hy e => o.cf _ (L.free y hy e)⟩
theorem pe_told (o : CO T G W k N sc X) {t : Bool} {x : Str} {a : E} {e : Expr} (h : chkTold T N sc t x a e = true) : PE X e (tEv X.K G (runF G T.fns W k) (.told t x a)) := by
  unfold chkTold at h
  split at h
  · rename_i g p1 ps body scp p2 p3
    simp only [Bool.and_eq_true, decide_eq_true_eq] at h
    obtain ⟨⟨⟨⟨h1, h2⟩, h3⟩, h4⟩, h5⟩ := h
    obtain rfl := noArgs_ok h3
    obtain ⟨g1, g2⟩ := glB_ok h2
    have L := lamS_up o h4
    obtain ⟨⟨⟨f, b, pg, bg, sg, kV, doc, pm, cdv, ct, oc, an, od, osl, m1, m2, m3, m4, m5, m6, m7⟩, exm, exc⟩, ⟨c, P, c1, c2, c3, c4⟩, rm⟩ := o.lam g t x h1
    obtain ⟨_, _, _, _, _, _, _, _, _, _, _, _, v1, v2, v3⟩ := toldB_inv m7
    refine PE_imp (LamX.pe_lamcall (T := tabsK X.K) (TT := TT2 X.K x t) (t := fun Ex => tEvB X.K G (runF G T.fns W k) a Ex) (k := 3 * k) (Ng := [b]) (o.gl g g1) m1 m2 m3 m4 m5 m6 rfl (visB_ok v1) (gives_told m7 exc exm) c2 c1 c3 c4 rm L rfl
      (fun _ _ _ _ _ => rfl) (fun A outer s H Ex f c' r => lam_body o L r h5) g2 v2 v3) fun σV H Q => ?_
    rintro ⟨B, L', σ, S, d, S', w, r, ee, q⟩
    refine ⟨w.tabs, fun H1 eN T1 => ?_⟩
    obtain ⟨w1, mv1⟩ := w.tables eN T1
    have two2 : ∀ n : Nat, n ≤ 2 → n ≤ sizeLine := fun n hn => by rw [sizeLine_eq]; omega
    cases t with
    | true =>
      rcases ev_told ee with ⟨d0, e1, rfl⟩ | ⟨e1, rfl⟩
      · exact .inl ⟨B, L', σ, S, d0, S', w1, r.mv w mv1, e1, fun v B2 L2 H2 mv2 w2 rv _ => ⟨two2 2 (by omega), fun p hp => (q.pf w w2 (mv1.trans mv2 w w1)).tup w2 (.cons (.bl true) (.cons rv .nil)) hp⟩⟩
      · exact .inr ⟨B, L', σ, S, x, S', w1, r.mv w mv1, e1, fun B2 L2 H2 mv2 w2 => ⟨rfl, two2 1 (by omega), fun p hp => (q.pf w w2 (mv1.trans mv2 w w1)).tup w2 (.cons (.bl false) .nil) hp⟩⟩
    | false =>
      rcases ev_told ee with ⟨d0, e1, rfl⟩ | ⟨e1, rfl⟩
      · exact .inl ⟨B, L', σ, S, d0, S', w1, r.mv w mv1, e1, fun v B2 L2 H2 mv2 w2 rv _ => ⟨two2 1 (by omega), fun p hp => (q.pf w w2 (mv1.trans mv2 w w1)).lst w2 (.cons rv .nil) hp⟩⟩
      · exact .inr ⟨B, L', σ, S, x, S', w1, r.mv w mv1, e1, fun B2 L2 H2 mv2 w2 => ⟨rfl, two2 0 (by omega), fun p hp => (q.pf w w2 (mv1.trans mv2 w w1)).lst w2 .nil hp⟩⟩
  · cases h
end
end Rf
end

section
set_option maxRecDepth 100000
set_option maxHeartbeats 16000000
set_option autoImplicit false
namespace Rf
open PySem PySem.Spec PyProof.Rows L2

section
variable {T : Tab} {G : Nat → Option D} {W k : Nat} {N : List Str}
theorem tst_of {K : PySem.W.Frag} {c : Cal} {a : E} {σV : L2.St} {H : Hp} {Q : Bool → Hp → Prop} (h : tEvT K G c a σV H Q) : tEv K G c a σV H fun v H' => ∃ b, v = .bl b ∧ Q b H' := by
  obtain ⟨B, L, σ, S, b, S', w, r, e, q⟩ := h
  refine ⟨B, L, σ, S, .bl b, S', w, r, e, fun v B' L' H' m w' rv _ => ?_⟩
  cases rv
  exact ⟨b, rfl, q B' L' H' m w'⟩
def isBool : Expr → Bool
  | .BoolOp _ _ _ => true
  | _ => false
theorem thousand : 1000 ≤ sizeLine := by rw [sizeLine_eq]; decide
theorem truD_ok {K : PySem.W.Frag} {B : Addr → Prop} {L : List Addr} {H : Hp} {x : D} {v : V} {k : Bool} (rv : Rp K B L H x v) (e : truD x = some k) : TruV K v H k := by
  cases x with
  | non => cases rv; cases e; rfl
  | tup xs =>
    obtain ⟨a, vs, rfl, hs, qs⟩ := rv.sqT
    cases e
    exact .inr (.inl ⟨vs, hs, by cases qs <;> rfl⟩)
  | _ => cases e
mutual
theorem sE (a : E) : ∀ {e : Expr} {sc : Scope} {X : Cx}, CO T G W k N sc X → chkE T N sc a e = true → PE X e (tEv X.K G (runF G T.fns W k) a) := by
  intro e sc X o h
  cases a with
  | var i =>
    cases e with
    | Name x p =>
      simp only [chkE, Bool.and_eq_true, decide_eq_true_eq, Bool.not_eq_true'] at h
      obtain ⟨⟨⟨h1, h2⟩, h3⟩, h4⟩ := h
      refine PE_imp (pe_var (i := i) (by rw [o.names]; exact h1) (o.vis x (visB_ok h2)) h3 h4) fun σV H Q => ?_
      rintro ⟨B, L, σ, S, d, S', w, r, ee, q⟩
      unfold ev at ee
      split at ee
      · rename_i d' hd
        cases ee
        obtain ⟨v, e1, rv⟩ := r.get i _ hd
        exact ⟨v, e1, q.here w rv (.inl rfl)⟩
      · cases ee
    | _ => cases h
  | int i =>
    cases e with
    | Constant cc kk p =>
      cases cc with
      | int j =>
        simp only [chkE, decide_eq_true_eq] at h
        subst h
        refine PE_imp pe_int fun σV H Q => ?_
        rintro ⟨B, L, σ, S, d, S', w, r, ee, q⟩
        unfold ev at ee
        cases ee
        exact q.here w (.int _) (.inl rfl)
      | _ => cases h
    | _ => cases h
  | bl b =>
    cases e with
    | Constant cc kk p =>
      cases cc with
      | bool j =>
        simp only [chkE, beq_iff_eq] at h
        subst h
        refine PE_imp pe_bl fun σV H Q => ?_
        rintro ⟨B, L, σ, S, d, S', w, r, ee, q⟩
        unfold ev at ee
        cases ee
        exact q.here w (.bl _) (.inl rfl)
      | _ => cases h
    | _ => cases h
  | non =>
    cases e with
    | Constant cc kk p =>
      cases cc with
      | none =>
        refine PE_imp pe_non fun σV H Q => ?_
        rintro ⟨B, L, σ, S, d, S', w, r, ee, q⟩
        unfold ev at ee
        cases ee
        exact q.here w .non (.inl rfl)
      | _ => cases h
    | _ => cases h
  | str x =>
    cases e with
    | Constant cc kk p =>
      cases cc with
      | str j =>
        simp only [chkE, decide_eq_true_eq] at h
        subst h
        refine PE_imp pe_str fun σV H Q => ?_
        rintro ⟨B, L, σ, S, d, S', w, r, ee, q⟩
        unfold ev at ee
        cases ee
        exact q.here w (.str _) (.inl rfl)
      | _ => cases h
    | _ => cases h
  | glob g =>
    cases e with
    | Name x p =>
      simp only [chkE, Bool.and_eq_true, decide_eq_true_eq] at h
      obtain ⟨h1, h2⟩ := glB_ok h.1
      obtain ⟨v, u, hm, ru, hg⟩ := o.glob g x h.2
      refine PE_imp (pe_glob (o.gl x h1) hm ru h2) fun σV H Q => ?_
      rintro ⟨B, L, σ, S, d, S', w, r, ee, q⟩
      unfold ev at ee
      obtain ⟨d', e1, e2⟩ := Option.map_eq_some_iff.mp ee
      cases e2
      exact q.here w (hg _ e1 B L H) (.inl rfl)
    | _ => cases h
  | tup es =>
    cases e with
    | Tuple xs kk p =>
      simp only [chkE, Bool.and_eq_true, decide_eq_true_eq] at h
      refine PE_imp (pe_tup (sEs es o h.2)) fun σV H Q => ?_
      rintro ⟨B, L, σ, S, d, S', w, r, ee, q⟩
      obtain ⟨ds, e1, rfl⟩ := ev_tup ee
      refine args w r e1 fun vs B1 L1 H1 m w1 r1 rv => ⟨?_, fun p hp => (q.pf w w1 m).tup w1 rv hp⟩
      rw [← rv.length, evs_len h.2 e1]
      exact Nat.le_trans h.1 thousand
    | _ => cases h
  | tupA a b =>
    unfold chkE at h
    split at h
    · simp only [Bool.and_eq_true] at h
      obtain ⟨⟨h1, h2⟩, h3⟩ := h
      refine PE_imp (pe_tup (pa_cons (sE a o h2) (StX.pa_star (sE b o h3) pa_nil) (starEach_cons h1))) fun σV H Q => ?_
      rintro ⟨B, L, σ, S, d, S', w, r, ee, q⟩
      unfold ev at ee
      split at ee
      · rename_i x S1 e1
        split at ee
        · rename_i y S2 e2
          obtain ⟨ys, e3, e4⟩ := Option.bind_eq_some_iff.mp ee
          split at e4
          · rename_i hy
            cases e4
            refine two w r e1 e2 fun v u B1 L1 H1 m w1 r1 rv ru => ?_
            obtain ⟨t, p, rfl, _, src⟩ := srcX (ys := ys) w1 ru e3
            obtain ⟨vs, hvs, rvs⟩ := src B1 L1 _ H1 (Mv.refl B1 L1 H1) w1 still_start
            exact ⟨p, vs, rfl, (by cases t; exact .inr hvs; exact .inl hvs), (by
              rw [List.append_nil, List.length_cons, ← rvs.length]
              exact Nat.le_trans (Nat.succ_le_of_lt hy) many_le), fun p hp => by
              rw [List.append_nil]
              exact (q.pf w w1 m).tup w1 (.cons rv rvs) hp⟩
          · cases e4
        · cases ee
      · cases ee
    · cases h
  | tupB b a =>
    unfold chkE at h
    split at h
    · simp only [Bool.and_eq_true] at h
      obtain ⟨⟨h1, h2⟩, h3⟩ := h
      refine PE_imp (pe_tup (StX.pa_star (sE b o h2) (pa_cons (sE a o h3) pa_nil (starEach_cons h1)))) fun σV H Q => ?_
      rintro ⟨B, L, σ, S, d, S', w, r, ee, q⟩
      unfold ev at ee
      split at ee
      · rename_i y S1 e1
        split at ee
        · rename_i ys e3
          split at ee
          · rename_i x S2 e2
            split at ee
            · rename_i hy
              cases ee
              refine one w r e1 fun u B1 L1 H1 m w1 r1 ru => ?_
              obtain ⟨t, p, rfl, _, src⟩ := srcX (ys := ys) w1 ru e3
              obtain ⟨vs, hvs, rvs⟩ := src B1 L1 _ H1 (Mv.refl B1 L1 H1) w1 still_start
              refine ⟨p, vs, rfl, (by cases t; exact .inr hvs; exact .inl hvs), ?_⟩
              refine one w1 r1 e2 fun v B2 L2 H2 m2 w2 r2 rv => ?_
              exact ⟨(by
                rw [List.length_append, List.length_singleton, ← rvs.length]
                exact Nat.le_trans (Nat.succ_le_of_lt hy) many_le), fun p hp => (q.pf w w2 (m.trans m2 w w1)).tup w2 ((rvs.mv w1 m2).append (.cons rv .nil)) hp⟩
            · cases ee
          · cases ee
        · cases ee
      · cases ee
    · cases h
  | lst es =>
    cases e with
    | List xs p =>
      simp only [chkE, Bool.and_eq_true, decide_eq_true_eq] at h
      refine PE_imp (pe_lst (sEs es o h.2)) fun σV H Q => ?_
      rintro ⟨B, L, σ, S, d, S', w, r, ee, q⟩
      obtain ⟨ds, e1, rfl⟩ := ev_lst ee
      refine args w r e1 fun vs B1 L1 H1 m w1 r1 rv => ⟨?_, fun p hp => (q.pf w w1 m).lst w1 rv hp⟩
      rw [← rv.length, evs_len h.2 e1]
      exact Nat.le_trans h.1 thousand
    | _ => cases h
  | bin op a b =>
    cases e with
    | BinOp x oo y p =>
      simp only [chkE, Bool.and_eq_true] at h
      refine PE_imp (pe_op (opR_all op h.1.1) (sE a o h.1.2) (sE b o h.2)) fun σV H Q => ?_
      rintro ⟨B, L, σ, S, d, S', w, r, ee, q⟩
      obtain ⟨x1, S1, y1, e1, e2, e3⟩ := ev_bin ee
      exact two w r e1 e2 fun v u B1 L1 H1 m w1 r1 rv ru => ⟨B1, L1, S', x1, y1, d, w1, rv, ru, e3, q.pf w w1 m⟩
    | _ => cases h
  | neg a =>
    cases e with
    | UnaryOp uo x p =>
      cases uo with
      | USub =>
        refine PE_imp (pe_un un_neg (sE a o (by unfold chkE at h; exact h))) fun σV H Q => ?_
        rintro ⟨B, L, σ, S, d, S', w, r, ee, q⟩
        obtain ⟨i, e1, rfl⟩ := ev_neg ee
        refine one w r e1 fun v B1 L1 H1 m w1 r1 rv => ?_
        cases rv
        exact ⟨i, rfl, (q.pv w w1 m).here w1 (.int _)⟩
      | _ => cases h
    | _ => cases h
  | not a =>
    cases e with
    | UnaryOp uo x p =>
      cases uo with
      | Not =>
        refine PE_imp (pe_not (sE a o (by unfold chkE at h; exact h))) fun σV H Q => ?_
        rintro ⟨B, L, σ, S, d, S', w, r, ee, q⟩
        obtain ⟨b, e1, rfl⟩ := ev_not ee
        refine one w r e1 fun v B1 L1 H1 m w1 r1 rv => ?_
        cases rv
        exact ⟨b, rfl, (q.pv w w1 m).here w1 (.bl _)⟩
      | _ => cases h
    | _ => cases h
  | cmp k a b =>
    cases e with
    | Compare x ops ys p =>
      match ops, ys, h with
      | [oo], [y], h =>
        simp only [chkE, Bool.and_eq_true, Bool.not_eq_true'] at h
        obtain ⟨⟨⟨h1, h2⟩, h3⟩, h4⟩ := h
        refine PE_imp (pe_cmpR (cpR_all o.units k h1) (sE a o h3) (sE b o h4) h2) fun σV H Q => ?_
        rintro ⟨B, L, σ, S, d, S', w, r, ee, q⟩
        obtain ⟨x1, S1, y1, rr, e1, e2, e3, rfl⟩ := ev_cmp ee
        exact two w r e1 e2 fun v u B1 L1 H1 m w1 r1 rv ru => ⟨B1, L1, S', x1, y1, rr, w1, rv, ru, e3, (q.pv w w1 m).here w1 (.bl _)⟩
      | [], _, h => cases h
      | _ :: _ :: _, _, h => cases h
      | [_], [], h => cases h
      | [_], _ :: _ :: _, h => cases h
    | _ => cases h
  | chain k k' a b g =>
    cases e with
    | Compare x ops ys p =>
      match ops, ys, h with
      | [o1, o2], [y, z], h =>
        simp only [chkE, Bool.and_eq_true, Bool.not_eq_true'] at h
        obtain ⟨⟨⟨⟨⟨h1, h2⟩, h3⟩, h4⟩, h5⟩, h6⟩ := h
        refine PE_imp (pe_chain (cpR_all o.units k h1) (cpR_all o.units k' h2) (sE a o h4) (sE b o h5) (sE g o h6) h3) fun σV H Q => ?_
        rintro ⟨B, L, σ, S, d, S', w, r, ee, q⟩
        obtain ⟨x1, S1, y1, S3, e1, e2, e3⟩ := ev_chain ee
        refine two w r e1 e2 fun v u B1 L1 H1 m w1 r1 rv ru => ?_
        rcases e3 with ⟨e3, z1, rr, e4, e5, rfl⟩ | ⟨e3, rfl, rfl⟩
        · refine ⟨B1, L1, S3, x1, y1, true, w1, rv, ru, e3, true, rfl, ?_⟩
          rw [if_pos rfl]
          refine one w1 r1 e4 fun z2 B2 L2 H2 m2 w2 r2 rz => ?_
          exact ⟨B2, L2, S', y1, z1, rr, w2, ru.mv w1 m2, rz, e5, (q.pv w w2 (m.trans m2 w w1)).here w2 (.bl _)⟩
        · refine ⟨B1, L1, S', x1, y1, false, w1, rv, ru, e3, false, rfl, ?_⟩
          rw [if_neg Bool.false_ne_true]
          exact (q.pv w w1 m).here w1 (.bl _)
      | [], _, h => cases h
      | [_], _, h => cases h
      | _ :: _ :: _ :: _, _, h => cases h
      | [_, _], [], h => cases h
      | [_, _], [_], h => cases h
      | [_, _], _ :: _ :: _ :: _, h => cases h
    | _ => cases h
  | and a b =>
    cases e with
    | BoolOp bo xs p =>
      have key : ∀ {x y : Expr} {r : List Expr}, chkE T N sc a x = true → PE X (.BoolOp .And (y :: r) p) (tEv X.K G (runF G T.fns W k) b) → PE X (.BoolOp .And (x :: y :: r) p) (tEv X.K G (runF G T.fns W k) (.and a b)) := fun {x y r} h1 h2 => by
        refine PE_imp (pe_and (sE a o h1) h2) fun σV H Q => ?_
        rintro ⟨B, L, σ, S, d, S', w, r, ee, q⟩
        rcases ev_and ee with ⟨S1, e1, e2⟩ | ⟨e1, rfl⟩
        · refine one w r e1 fun v B1 L1 H1 m w1 r1 rv => ?_
          cases rv
          refine ⟨true, rfl, ?_⟩
          rw [if_pos rfl]
          exact ⟨B1, L1, σ, S1, d, S', w1, r1, e2, q.on w w1 m fun z => nomatch z⟩
        · refine one w r e1 fun v B1 L1 H1 m w1 r1 rv => ?_
          cases rv
          refine ⟨false, rfl, ?_⟩
          rw [if_neg Bool.false_ne_true]
          exact (q.pv w w1 m).here w1 (.bl _)
      match bo, xs, h with
      | .And, [x, y], h =>
        simp only [chkE, Bool.and_eq_true] at h
        exact key h.1 (pe_one (sE b o h.2))
      | .And, x :: y :: z :: r, h =>
        simp only [chkE, Bool.and_eq_true] at h
        exact key h.1 (sE b o h.2)
      | .And, [], h => cases h
      | .And, [_], h => cases h
      | .Or, _, h => cases h
    | _ => cases h
  | orT a =>
    unfold chkE at h
    split at h
    · refine PE_imp (pe_orT (sE a o h) (pe_one (pe_tup pa_nil))) fun σV H Q => ?_
      rintro ⟨B, L, σ, S, d, S', w, r, ee, q⟩
      unfold ev at ee
      split at ee
      · rename_i x0 S1 e1
        split at ee
        · rename_i e2
          cases ee
          refine ⟨B, L, σ, S, _, _, w, r, e1, fun v B1 L1 H1 m w1 rv ow => ⟨true, truD_ok rv e2, ?_⟩⟩
          rw [if_pos rfl]
          exact q v B1 L1 H1 m w1 rv fun _ xs hx => by subst hx; cases e2
        · rename_i e2
          cases ee
          refine ⟨B, L, σ, S, _, _, w, r, e1, fun v B1 L1 H1 m w1 rv ow => ⟨false, truD_ok rv e2, ?_⟩⟩
          rw [if_neg Bool.false_ne_true]
          exact ⟨Nat.zero_le _, fun p hp => (q.pf w w1 m).tup w1 .nil hp⟩
        · cases ee
      · cases ee
    · cases h
  | or a b =>
    cases e with
    | BoolOp bo xs p =>
      have key : ∀ {x y : Expr} {r : List Expr}, chkE T N sc a x = true → PE X (.BoolOp .Or (y :: r) p) (tEv X.K G (runF G T.fns W k) b) → PE X (.BoolOp .Or (x :: y :: r) p) (tEv X.K G (runF G T.fns W k) (.or a b)) := fun {x y r} h1 h2 => by
        refine PE_imp (pe_or (sE a o h1) h2) fun σV H Q => ?_
        rintro ⟨B, L, σ, S, d, S', w, r, ee, q⟩
        rcases ev_or ee with ⟨S1, e1, e2⟩ | ⟨e1, rfl⟩
        · refine one w r e1 fun v B1 L1 H1 m w1 r1 rv => ?_
          cases rv
          refine ⟨false, rfl, ?_⟩
          rw [if_neg Bool.false_ne_true]
          exact ⟨B1, L1, σ, S1, d, S', w1, r1, e2, q.on w w1 m fun z => nomatch z⟩
        · refine one w r e1 fun v B1 L1 H1 m w1 r1 rv => ?_
          cases rv
          refine ⟨true, rfl, ?_⟩
          rw [if_pos rfl]
          exact (q.pv w w1 m).here w1 (.bl _)
      match bo, xs, h with
      | .Or, [x, y], h =>
        simp only [chkE, Bool.and_eq_true] at h
        exact key h.1 (pe_one (sE b o h.2))
      | .Or, x :: y :: z :: r, h =>
        simp only [chkE, Bool.and_eq_true] at h
        exact key h.1 (sE b o h.2)
      | .Or, [], h => cases h
      | .Or, [_], h => cases h
      | .And, _, h => cases h
    | _ => cases h
  | ite t a b =>
    cases e with
    | IfExp x y z p =>
      simp only [chkE, Bool.and_eq_true] at h
      refine PE_imp (pe_ifExp (sT t o h.1.1) (sE a o h.1.2) (sE b o h.2)) fun σV H Q => ?_
      rintro ⟨B, L, σ, S, d, S', w, r, ee, q⟩
      obtain ⟨kk, S1, e1, e2⟩ := ev_ite ee
      refine tst w r e1 fun B1 L1 H1 m w1 r1 => ?_
      cases kk with
      | true =>
        rw [if_pos rfl] at e2 ⊢
        exact ⟨B1, L1, σ, S1, d, S', w1, r1, e2, q.on w w1 m fun z => nomatch z⟩
      | false =>
        rw [if_neg Bool.false_ne_true] at e2 ⊢
        exact ⟨B1, L1, σ, S1, d, S', w1, r1, e2, q.on w w1 m fun z => nomatch z⟩
    | _ => cases h
  | call f es =>
    cases e with
    | Call fe xs ks p =>
      cases fe with
      | Name x q0 =>
        cases ks with
        | nil =>
          simp only [chkE, Bool.and_eq_true, decide_eq_true_eq] at h
          obtain ⟨⟨⟨h1, h2, gk⟩, h3⟩, h4⟩ := h
          obtain ⟨g1, g2⟩ := glB_ok h1
          obtain ⟨fn, hf, hn⟩ := Option.map_eq_some_iff.mp h2
          rcases args_len h4 with ⟨rfl, rfl⟩ | ⟨e0, es', x0, xs', rfl, rfl⟩
          · refine PE_imp (pe_own0 o pass0 hf hn (o.gl x g1) g2 gk) fun σV H Q => ?_
            rintro ⟨B, L, σ, S, d, S', w, r, ee, q⟩
            obtain ⟨ds, S1, e1, e2⟩ := ev_call ee
            obtain ⟨rfl, rfl⟩ := evs_nil e1
            exact sp_of hf e2 q w w (Mv.refl B L H) .nil
          · unfold notStars at h3
            rw [Bool.and_eq_true] at h3
            refine PE_imp (pe_own o pass0 hf hn (o.gl x g1) g2 gk (sEs (.cons e0 es') o h4) h3.1 h3.2) fun σV H Q => ?_
            rintro ⟨B, L, σ, S, d, S', w, r, ee, q⟩
            obtain ⟨ds, S1, e1, e2⟩ := ev_call ee
            exact args w r e1 fun vs B1 L1 H1 m w1 r1 rv => sp_of hf e2 q w w1 m rv
        | cons _ _ => cases h
      | _ => cases h
    | _ => cases h
  | callK f ks0 perm es zs =>
    cases e with
    | Call fe xs kws p =>
      cases fe with
      | Name x q0 =>
        simp only [chkE, Bool.and_eq_true, decide_eq_true_eq] at h
        obtain ⟨⟨⟨⟨⟨⟨h1, h2, gk⟩, h3⟩, h4⟩, h5⟩, h6⟩, h7⟩ := h
        obtain ⟨g1, g2⟩ := glB_ok h1
        obtain ⟨fn, hf, hn⟩ := Option.map_eq_some_iff.mp h2
        have hlen : ks0.length = kws.length := (kwOk_ok (pos := p) (env := X.env) h4).2.2.2.symm
        rcases args_len h6 with ⟨rfl, rfl⟩ | ⟨e0, es', x0, xs', rfl, rfl⟩
        · refine PE_imp (pe_ownK0 o pass0 hf hn (o.gl x g1) g2 gk h5 (sKs zs o h7) h4) fun σV H Q => ?_
          rintro ⟨B, L, σ, S, d, S', w, r, ee, q⟩
          obtain ⟨ds, S1, us, S3, e1, e2, e3⟩ := ev_callK ee
          obtain ⟨rfl, rfl⟩ := evs_nil e1
          refine args w r e2 fun vs B1 L1 H1 m w1 r1 rv => ⟨rfl, ?_, ?_⟩
          · rw [← rv.length, evs_len h7 e2, kwVals_len]; exact hlen.symm
          · have z := sp_of (Ex := E0) hf e3 q w w1 m (Rps.append .nil (rps_pick rv perm))
            rw [List.append_nil] at z
            exact z
        · have h3' := h3
          unfold notStars at h3'
          rw [Bool.and_eq_true] at h3'
          refine PE_imp (pe_ownK o pass0 hf hn (o.gl x g1) g2 gk h5 (sEs (.cons e0 es') o h6) (sKs zs o h7) h3'.1 h3 h4) fun σV H Q => ?_
          rintro ⟨B, L, σ, S, d, S', w, r, ee, q⟩
          obtain ⟨ds, S1, us, S3, e1, e2, e3⟩ := ev_callK ee
          refine args w r e1 fun vs B1 L1 H1 m w1 r1 rv => args w1 r1 e2 fun zs B2 L2 H2 m2 w2 r2 rz => ⟨?_, ?_, ?_⟩
          · rw [← rv.length, evs_len h6 e1]
          · rw [← rz.length, evs_len h7 e2, kwVals_len]; exact hlen.symm
          · have z := sp_of (Ex := E0) hf e3 q w w2 (m.trans m2 w w1) ((rv.mv w1 m2).append (rps_pick rz perm))
            rw [List.append_nil] at z
            exact z
      | _ => cases h
    | _ => cases h
  | told t x a =>
    unfold chkE at h
    exact pe_told o h
  | rngv t r =>
    cases e with
    | Call fe xs ks p =>
      cases fe with
      | Name x q0 =>
        match xs, ks, h with
        | [y], [], h =>
          simp only [chkE, Bool.and_eq_true, decide_eq_true_eq] at h
          obtain ⟨⟨⟨h1, h2⟩, h3⟩, h4⟩ := h
          obtain ⟨g1, g2⟩ := glB_ok h1
          have rr := sRg r o h4
          cases t with
          | true =>
            have hx : x = "tuple" := h2
            subst hx
            refine PE_imp (pe_tupRg o.calm (o.gl _ g1) (bl_of o _) rr (starEach_cons h3)) fun σV H Q => ?_
            rintro ⟨B, L, σ, S, d, S', w, rn, ee, q⟩
            obtain ⟨i, j, e1, e2, rfl⟩ := ev_rngv ee
            refine ⟨B, L, σ, S, i, j, S', w, rn, e1, fun B1 L1 H1 m w1 => ⟨rgOk_ok e2, fun a ha => ?_⟩⟩
            exact q (.ref a) B1 L1 _ (m.trans (mv_new ha) w w1) (w1.new ha) (.tup (SqT.of upd_same) (rps_rg _)) fun z => nomatch z
          | false =>
            have hx : x = "list" := h2
            subst hx
            refine PE_imp (pe_listRg o.calm (o.gl _ g1) (bl_of o _) rr (starEach_cons h3)) fun σV H Q => ?_
            rintro ⟨B, L, σ, S, d, S', w, rn, ee, q⟩
            obtain ⟨i, j, e1, e2, rfl⟩ := ev_rngv ee
            refine ⟨B, L, σ, S, i, j, S', w, rn, e1, fun B1 L1 H1 m w1 => ⟨rgOk_ok e2, fun a ha => ?_⟩⟩
            exact (q.pf w w1 m).lst w1 (rps_rg _) ha
        | [], _, h => cases h
        | _ :: _ :: _, _, h => cases h
        | [_], _ :: _, h => cases h
      | _ => cases h
    | _ => cases h
  | prim p0 es =>
    cases e with
    | Call fe xs ks p =>
      cases fe with
      | Name x q0 =>
        cases ks with
        | nil =>
          simp only [chkE, Bool.and_eq_true, decide_eq_true_eq] at h
          obtain ⟨⟨⟨⟨⟨h1, h2⟩, h3⟩, h4⟩, h5⟩, h6⟩ := h
          obtain ⟨g1, g2⟩ := glB_ok h1
          rcases args_len h6 with ⟨rfl, rfl⟩ | ⟨e0, es', x0, xs', rfl, rfl⟩
          · cases p0 <;> cases h3
          · unfold notStars at h5
            rw [Bool.and_eq_true] at h5
            refine PE_imp (pe_prim o p0 h2 (o.gl x g1) h4 (sEs (.cons e0 es') o h6) h5.1 h5.2) fun σV H Q => ?_
            rintro ⟨B, L, σ, S, d, S', w, r, ee, q⟩
            obtain ⟨ds, e1, e2⟩ := ev_prim ee
            exact args w r e1 fun vs B1 L1 H1 m w1 r1 rv => ⟨B1, L1, S', ds, d, w1, rv, e2, q.pf w w1 m⟩
        | cons _ _ => cases h
      | _ => cases h
    | _ => cases h
  | isi a t =>
    cases e with
    | Call fe xs ks p =>
      cases fe with
      | Name x q0 =>
        cases ks with
        | nil =>
          simp only [chkE] at h
          split at h
          · rename_i y z hxs
            obtain ⟨pz, rfl⟩ := isiArgs_ok hxs
            simp only [Bool.and_eq_true, decide_eq_true_eq] at h
            obtain ⟨⟨⟨⟨⟨h1, h2⟩, h3⟩, h4⟩, h5⟩, h6⟩ := h
            obtain ⟨g1, g2⟩ := glB_ok h1
            obtain ⟨g3, g4⟩ := glB_ok h2
            subst h3 h4
            have pz2 : PE X (.Name (Str.ofString (tyS t)) pz) (tC (.ty (tyS t))) := pe_bltn (o.gl _ g3) (o.bl _ (ty_in t)) (boot_ty t) rfl (ty_name t) (ty_dbg t)
            refine PE_imp (pe_callB (pr_isi (t := t)) (o.gl _ g1) (bl_of o _) (by decide +kernel) (pa_cons (sE a o h6) (pa_cons pz2 pa_nil (starEach_cons rfl)) (starEach_cons h5)) (by decide) (by decide) (starEach_cons h5) (plainArgs rfl)) fun σV H Q => ?_
            rintro ⟨B, L, σ, S, d, S', w, r, ee, q⟩
            obtain ⟨x1, e1, rfl⟩ := ev_isi ee
            exact one w r e1 fun v B1 L1 H1 m w1 r1 rv => ⟨B1, L1, S', x1, v, w1, rv, rfl, (q.pv w w1 m).here w1 (.bl _)⟩
          · cases h
        | cons _ _ => cases h
      | _ => cases h
    | _ => cases h
  | idx a i =>
    cases e with
    | Subscript x y p =>
      simp only [chkE, Bool.and_eq_true] at h
      refine PE_imp (pe_ix ix_any (sE a o h.1.2) (sE i o h.2) (noSlice_ok h.1.1)) fun σV H Q => ?_
      rintro ⟨B, L, σ, S, d, S', w, r, ee, q⟩
      obtain ⟨x1, S1, y1, e1, e2, e3⟩ := ev_idx ee
      exact two w r e1 e2 fun v u B1 L1 H1 m w1 r1 rv ru => ⟨B1, L1, S', x1, y1, d, w1, rv, ru, e3, q.pv w w1 m⟩
    | _ => cases h
  | sl a lo hi =>
    cases e with
    | Subscript x y p =>
      cases y with
      | Slice l hh st ps =>
        cases st with
        | none =>
          simp only [chkE, Bool.and_eq_true] at h
          refine PE_imp (pe_slice sl_any (sE a o h.1.1) (sO lo o h.1.2) (sO hi o h.2)) fun σV H Q => ?_
          rintro ⟨B, L, σ, S, d, S', w, r, ee, q⟩
          obtain ⟨x1, S1, l1, S3, h1, e1, e2, e3, e4⟩ := ev_sl ee
          refine one w r e1 fun v B1 L1 H1 m w1 r1 rv => ?_
          refine ⟨B1, L1, σ, S1, l1, S3, w1, r1, e2, fun B2 L2 H2 m2 w2 => ?_⟩
          refine ⟨B2, L2, σ, S3, h1, S', w2, r1.mv w1 m2, e3, fun B3 L3 H3 m3 w3 => ?_⟩
          have m23 := m2.trans m3 w1 w2
          exact ⟨B3, L3, S', x1, d, w3, rv.mv w1 m23, e4, q.pf w w3 (m.trans m23 w w1)⟩
        | some _ => cases h
      | _ => cases h
    | _ => cases h
  | comp it tg own t elt =>
    cases e with
    | ListComp x gs scp p =>
      simp only [chkE] at h
      split at h
      · rename_i g i ifs hgs
        have eg := oneGen_ok hgs
        subst eg
        simp only [Bool.and_eq_true] at h
        obtain ⟨⟨⟨⟨⟨⟨h1, h2⟩, h3⟩, h4⟩, h5⟩, h6⟩, h7⟩ := h
        exact PE_imp (pe_lc o.calm o.ndX (sIt it o h1) (o.blkOk h2) (fun _ _ _ _ _ => sTg o.blk h3) (fun _ _ _ _ _ => sIf t o.blk h5) (fun _ _ _ _ _ => sE elt o.blk h6) (noSet_ok h7)) fun σV H Q hq => comp_ok h4 hq
      · cases h
    | _ => cases h
  | comp2 it tg it1 tg1 own vs1 t elt =>
    cases e with
    | ListComp x gs scp p =>
      simp only [chkE] at h
      split at h
      · rename_i g i g1 i1 ifs hgs
        have eg := twoGen_ok hgs
        subst eg
        simp only [Bool.and_eq_true, List.all_eq_true, decide_eq_true_eq] at h
        obtain ⟨⟨⟨⟨⟨⟨⟨⟨⟨⟨⟨h1, h2⟩, h3⟩, h4⟩, h5⟩, h6⟩, h7⟩, h8⟩, h9⟩, h10⟩, h11⟩, h12⟩ := h
        exact PE_imp (pe_lc2 o.calm o.ndX (sIt it o h1) (o.blkOk h2) h8 (fun _ _ _ _ _ => sTg o.blk h3) (fun _ _ _ _ _ => pts_nil) (fun _ _ _ _ _ => sIt it1 o.blk h5) (fun _ _ _ _ _ => sTg o.blk h6) (fun _ _ _ _ _ => sIf t o.blk h9) (fun _ _ _ _ _ => sE elt o.blk h10) (noSet_ok h11) (fun _ => noSet_ok h12)) fun σV H Q hq => comp2_ok h4 h7 hq
      · cases h
    | _ => cases h
  | rvs a =>
    simp only [chkE] at h
    split at h
    · rename_i x hx
      obtain ⟨k0, p1, p2, p3, pos, rfl⟩ := rvArg_ok hx
      exact PE_imp (pe_rvs (sE a o h)) fun σV H Q hq => rvs_ok hq
    · cases h
  | dct =>
    cases e with
    | Dict ks vs p =>
      cases ks with
      | nil =>
        cases vs with
        | nil => exact PE_imp pe_dnewK fun σV H Q hq => dct_ok hq
        | cons _ _ => cases h
      | cons _ _ => cases h
    | _ => cases h
  | alloc a =>
    simp only [chkE, Bool.and_eq_true] at h
    refine PE_imp (sE a o h.2) fun σV H Q => ?_
    rintro ⟨B, L, σ, S, d, S', w, r, ee, q⟩
    obtain ⟨xs, S1, e1, rfl, rfl⟩ := ev_alloc ee
    refine ⟨B, L, σ, S, .lst xs, S1, w, r, e1, fun v B1 L1 H1 m w1 rv f => ?_⟩
    obtain ⟨pp, rfl, h0, nb, w2, rl⟩ := alloc_ok w1 (f h.1 xs rfl) rv
    refine q (.ref pp) _ (L1 ++ [pp]) H1 ⟨fun a b => .inl (m.up a b), fun a b => ?_, ?_, m.ext⟩ w2 rl fun z => nomatch z
    · rcases b with b | b
      · exact m.dn a b
      · exact .inr (by rw [b]; exact h0)
    · obtain ⟨new, en, fn⟩ := m.pre
      refine ⟨new ++ [pp], by rw [en, List.append_assoc], fun a z => ?_⟩
      rcases List.mem_append.mp z with z | z
      · exact fn a z
      · rw [List.mem_singleton.mp z]; exact h0
  | pop oo i =>
    cases e with
    | Call fe xs ks p =>
      cases fe with
      | Attribute x mm ap =>
        cases ks with
        | nil =>
          simp only [chkE, Bool.and_eq_true, decide_eq_true_eq] at h
          obtain ⟨⟨⟨⟨⟨h1, h2⟩, h3⟩, h4⟩, h5⟩, h6⟩ := h
          subst h1
          have eb := noCall_ok (env := X.env) (f := "pop") h2
          cases i with
          | no =>
            cases xs with
            | nil =>
              refine PE_imp (pe_bm0 PySem.F.plainAttrs_list PySem.F.slot_list_pop PySem.F.type_list_pop mt_pop (sE oo o h5) eb h3) fun σV H Q => ?_
              rintro ⟨B, L, σ, S, d, S', w, r, ee, q⟩
              obtain ⟨n, S1, kk, S3, ys, j, e1, e2, e3, e4, e5, rfl⟩ := ev_pop ee
              unfold evo at e2
              cases e2
              refine one w r e1 fun v B1 L1 H1 m w1 r1 rv => ?_
              cases rv with
              | @loc n a hl =>
                obtain ⟨b, vs, f1, f2, f3⟩ := w1.sto n ys e3
                rw [hl] at f1; cases f1
                obtain ⟨u, g1, g2⟩ := f3.get e5
                have ej : j = ys.length - 1 := by
                  have z1 : ixN ys.length (-1) = some j := (popIx_ok e4).2
                  unfold ixN at z1
                  rw [if_neg (by omega)] at z1
                  split at z1
                  · cases z1; omega
                  · cases z1
                have el : ys.eraseIdx j = ys.dropLast := by rw [ej]; exact List.eraseIdx_length_sub_one
                obtain ⟨m2, w2, up⟩ := loc_upd w1 hl (f3.eraseIdx j)
                have ev2 : vs.eraseIdx j = vs.dropLast := by rw [ej, f3.length]; exact List.eraseIdx_length_sub_one
                rw [ev2] at m2 w2 up
                refine ⟨.inl ⟨rfl, vs, .inl (.inl f2)⟩, a, vs, u, rfl, rfl, f2, by rw [← f3.length, ← ej]; exact g1, ?_⟩
                exact q u B1 L1 _ (m.trans m2 w w1) w2 (up _ _ g2) fun z => nomatch z
            | cons _ _ => cases h6
          | so i =>
            match xs, h4, h6 with
            | [x0], h4, h6 =>
              unfold notStars at h4
              rw [Bool.and_eq_true] at h4
              have he := starEach_cons (es := []) (env := X.env) h4.1
              refine PE_imp (pe_bm PySem.F.plainAttrs_list PySem.F.slot_list_pop PySem.F.type_list_pop mt_popAt (sE oo o h5) (pa_cons (sE i o (by unfold chkPop at h6; exact h6)) pa_nil he) eb (by rw [he]; rfl) h3 he rfl) fun σV H Q => ?_
              rintro ⟨B, L, σ, S, d, S', w, r, ee, q⟩
              obtain ⟨n, S1, kk, S3, ys, j, e1, e2, e3, e4, e5, rfl⟩ := ev_pop ee
              unfold evo at e2
              split at e2
              · rename_i i0 S4 e6
                cases e2
                refine one w r e1 fun v B1 L1 H1 m w1 r1 rv => ?_
                have rv1 := rv
                cases rv with
                | @loc n a hl =>
                  obtain ⟨a0, us0, hl0, hs0, _⟩ := rv1.sqL w1 (xs := S1.getD n []) (by
                    have z : n < S1.length := by rw [← w1.len]; exact (List.getElem?_eq_some_iff.mp hl).1
                    show S1[n]? = some (S1.getD n [])
                    rw [List.getD_eq_getElem?_getD, List.getElem?_eq_getElem z]; rfl)
                  cases hl0
                  refine ⟨.inl ⟨rfl, us0, hs0⟩, one w1 r1 e6 fun u0 B2 L2 H2 m2 w2 r2 ru => ?_⟩
                  cases ru
                  have hl2 := m2.get hl
                  obtain ⟨b, vs, f1, f2, f3⟩ := w2.sto n ys e3
                  rw [hl2] at f1; cases f1
                  obtain ⟨u, g1, g2⟩ := f3.get e5
                  obtain ⟨hz, e4'⟩ := popIx_ok e4
                  obtain ⟨z1, z2, z3, z4⟩ := ixN_seq (show ixN ys.length i0 = some j from e4')
                  have hm : many = 1000000 := rfl
                  obtain ⟨m3, w3, up⟩ := loc_upd w2 hl2 (f3.eraseIdx j)
                  refine ⟨a, vs, i0, j, u, rfl, rfl, f2, by omega, by omega, by rw [← f3.length]; exact z1, g1, ?_⟩
                  have m12 := m.trans m2 w w1
                  exact q u B2 L2 _ (m12.trans m3 w w2) w3 (up _ _ g2) fun z => nomatch z
              · cases e2
            | [], h4, h6 => cases h6
            | _ :: _ :: _, h4, h6 => cases h6
        | cons _ _ => cases h
      | _ => cases h
    | _ => cases h
theorem sEs (a : Es) : ∀ {e : List Expr} {sc : Scope} {X : Cx}, CO T G W k N sc X → chkEs T N sc a e = true → PA X e (tEvs X.K G (runF G T.fns W k) a) := by
  intro e sc X o h
  cases a with
  | nil =>
    cases e with
    | nil =>
      refine PA_imp pa_nil fun σV H Q => ?_
      rintro ⟨B, L, σ, S, ds, S', w, r, ee, q⟩
      obtain ⟨rfl, rfl⟩ := evs_nil ee
      exact q [] B L H (Mv.refl B L H) w .nil
    | cons _ _ => unfold chkEs at h; cases h
  | cons a es =>
    cases e with
    | nil => unfold chkEs at h; cases h
    | cons x xs =>
      simp only [chkEs, Bool.and_eq_true] at h
      refine PA_imp (pa_cons (sE a o h.1.2) (sEs es o h.2) (starEach_cons h.1.1)) fun σV H Q => ?_
      rintro ⟨B, L, σ, S, ds, S', w, r, ee, q⟩
      obtain ⟨d, S1, rr, e1, e2, rfl⟩ := evs_cons ee
      refine one w r e1 fun v B1 L1 H1 m w1 r1 rv => ?_
      exact args w1 r1 e2 fun vs B2 L2 H2 m2 w2 r2 rvs => q (v :: vs) B2 L2 H2 (m.trans m2 w w1) w2 (.cons (rv.mv w1 m2) rvs)
theorem sKs (a : Es) : ∀ {e : List Keyword} {sc : Scope} {X : Cx}, CO T G W k N sc X → chkEs T N sc a (kwVals e) = true → PK X e (tEvs X.K G (runF G T.fns W k) a) := by
  intro e sc X o h
  cases a with
  | nil =>
    cases e with
    | nil =>
      refine PK_imp pk_nil fun σV H Q => ?_
      rintro ⟨B, L, σ, S, ds, S', w, r, ee, q⟩
      obtain ⟨rfl, rfl⟩ := evs_nil ee
      exact q [] B L H (Mv.refl B L H) w .nil
    | cons y ys => cases y; unfold kwVals chkEs at h; cases h
  | cons a es =>
    cases e with
    | nil => unfold kwVals chkEs at h; cases h
    | cons y ys =>
      obtain ⟨nm, x, kp⟩ := y
      simp only [kwVals, chkEs, Bool.and_eq_true] at h
      refine PK_imp (pk_cons (sE a o h.1.2) (sKs es o h.2)) fun σV H Q => ?_
      rintro ⟨B, L, σ, S, ds, S', w, r, ee, q⟩
      obtain ⟨d, S1, rr, e1, e2, rfl⟩ := evs_cons ee
      refine one w r e1 fun v B1 L1 H1 m w1 r1 rv => ?_
      exact args w1 r1 e2 fun vs B2 L2 H2 m2 w2 r2 rvs => q (v :: vs) B2 L2 H2 (m.trans m2 w w1) w2 (.cons (rv.mv w1 m2) rvs)
theorem sRg (r : Rg) : ∀ {e : Expr} {sc : Scope} {X : Cx}, CO T G W k N sc X → chkRg T N sc r e = true → PRg X e (tEvR X.K G (runF G T.fns W k) r) := by
  intro e sc X o h
  cases r with
  | one b =>
    unfold chkRg at h
    split at h
    · rename_i x y hr
      simp only [Bool.and_eq_true, decide_eq_true_eq] at h
      obtain ⟨⟨⟨h1, h2⟩, h3⟩, h4⟩ := h
      subst h2
      obtain ⟨p1, p2, rfl⟩ := rngArgs_1 hr
      refine PRg_imp (prg_1 (o.gl _ (glB_ok h1).1) (bl_of o _) (sE b o h4) (starEach_cons h3)) fun σV H Q => ?_
      rintro ⟨B, L, σ, S, i, j, S', w, rn, ee, q⟩
      obtain ⟨e1, rfl⟩ := evR_one ee
      refine one w rn e1 fun v B1 L1 H1 m w1 r1 rv => ?_
      cases rv
      exact ⟨j, rfl, q B1 L1 H1 m w1⟩
    · cases h
  | two a b =>
    unfold chkRg at h
    split at h
    · rename_i x y z hr
      simp only [Bool.and_eq_true, decide_eq_true_eq] at h
      obtain ⟨⟨⟨⟨⟨h1, h2⟩, h3⟩, h4⟩, h5⟩, h6⟩ := h
      subst h2
      obtain ⟨p1, p2, rfl⟩ := rngArgs_2 hr
      have s2 : starEach [z] X.env = (false, eval z X.env) :: starEach [] X.env := starEach_cons h4
      refine PRg_imp (prg_2 (o.gl _ (glB_ok h1).1) (bl_of o _) (sE a o h5) (sE b o h6) (starEach_cons h3) s2 (plainArgs (by unfold notStars; rw [h4]; rfl))) fun σV H Q => ?_
      rintro ⟨B, L, σ, S, i, j, S', w, rn, ee, q⟩
      obtain ⟨S1, e1, e2⟩ := evR_two ee
      refine two w rn e1 e2 fun v u B1 L1 H1 m w1 r1 rv ru => ?_
      cases rv; cases ru
      exact ⟨i, j, rfl, rfl, q B1 L1 H1 m w1⟩
    · cases h
theorem sO (a : Eo) : ∀ {e : Option Expr} {sc : Scope} {X : Cx}, CO T G W k N sc X → chkO T N sc a e = true → PO X e (tEvo X.K G (runF G T.fns W k) a) := by
  intro e sc X o h
  cases a with
  | no =>
    cases e with
    | none =>
      refine PO_imp po_none fun σV H Q => ?_
      rintro ⟨B, L, σ, S, d, S', w, r, ee, q⟩
      unfold evo at ee
      cases ee
      exact q B L H (Mv.refl B L H) w
    | some _ => cases h
  | so a =>
    cases e with
    | none => cases h
    | some x =>
      refine PO_imp (po_some (sE a o (by unfold chkO at h; exact h))) fun σV H Q => ?_
      rintro ⟨B, L, σ, S, d, S', w, r, ee, q⟩
      unfold evo at ee
      split at ee
      · rename_i i S1 e1
        cases ee
        refine one w r e1 fun v B1 L1 H1 m w1 r1 rv => ?_
        cases rv
        exact ⟨i, rfl, q B1 L1 H1 m w1⟩
      · cases ee
theorem sIf (a : Eo) : ∀ {e : List Expr} {sc : Scope} {X : Cx}, CO T G W k N sc X → chkIf T N sc a e = true → PTs X e (tEvI X.K G (runF G T.fns W k) a) := by
  intro e sc X o h
  cases a with
  | no =>
    cases e with
    | nil =>
      refine PTs_imp pts_nil fun σV H Q => ?_
      rintro ⟨B, L, σ, S, d, S', w, r, ee, q⟩
      unfold evt at ee
      cases ee
      exact q B L H (Mv.refl B L H) w
    | cons _ _ => cases h
  | so a =>
    match e, h with
    | [x], h =>
      refine PTs_imp (pts_one (sT a o (by unfold chkIf at h; exact h))) fun σV H Q => ?_
      rintro ⟨B, L, σ, S, d, S', w, r, ee, q⟩
      unfold evt at ee
      split at ee
      · rename_i b S1 e1
        cases ee
        exact ⟨B, L, σ, S, _, _, w, r, e1, q⟩
      · cases ee
    | [], h => cases h
    | _ :: _ :: _, h => cases h
theorem sIt (a : Rf.It) : ∀ {g i : Expr} {sc : Scope} {X : Cx}, CO T G W k N sc X → chkIt T N sc a g i = true → PI X g i (tEvIt X.K G (runF G T.fns W k) a) := by
  intro g i sc X o h
  cases a with
  | seq e => exact PI_seq (sE e o (by unfold chkIt at h; exact h))
  | rng1 e =>
    unfold chkIt at h
    split at h
    · simp only [Bool.and_eq_true, decide_eq_true_eq] at h
      obtain ⟨⟨⟨h1, h2⟩, h3⟩, h4⟩ := h
      subst h2
      exact PI_rng1 o (o.gl _ (glB_ok h1).1) h3 (sE e o h4)
    · cases h
  | rng2 a b =>
    unfold chkIt at h
    split at h
    · simp only [Bool.and_eq_true, decide_eq_true_eq] at h
      obtain ⟨⟨⟨⟨⟨h1, h2⟩, h3⟩, h4⟩, h5⟩, h6⟩ := h
      subst h2
      exact PI_rng2 o (o.gl _ (glB_ok h1).1) h3 h4 (sE a o h5) (sE b o h6)
    · cases h
  | rng3 a b d =>
    unfold chkIt at h
    split at h
    · simp only [Bool.and_eq_true, decide_eq_true_eq] at h
      obtain ⟨⟨⟨⟨⟨⟨⟨h1, h2⟩, h3⟩, h4⟩, h5⟩, h6⟩, h7⟩, h8⟩ := h
      subst h2
      exact PI_rng3 o (o.gl _ (glB_ok h1).1) h3 h4 h5 (sE a o h6) (sE b o h7) (sE d o h8)
    · cases h
  | enu e =>
    unfold chkIt at h
    split at h
    · simp only [Bool.and_eq_true, decide_eq_true_eq] at h
      obtain ⟨⟨⟨⟨h0, h1⟩, h2⟩, h3⟩, h4⟩ := h
      subst h2
      exact PI_enu o h0 (o.gl _ (glB_ok h1).1) h3 (sE e o h4)
    · cases h
  | zip a b =>
    unfold chkIt at h
    split at h
    · simp only [Bool.and_eq_true, decide_eq_true_eq] at h
      obtain ⟨⟨⟨⟨⟨⟨h0, h1⟩, h2⟩, h3⟩, h4⟩, h5⟩, h6⟩ := h
      subst h2
      exact PI_zip o h0 (o.gl _ (glB_ok h1).1) h3 h4 (sE a o h5) (sE b o h6)
    · cases h
  | zip3 a b d =>
    unfold chkIt at h
    split at h
    · simp only [Bool.and_eq_true, decide_eq_true_eq] at h
      obtain ⟨⟨⟨⟨⟨⟨⟨⟨h0, h1⟩, h2⟩, h3⟩, h4⟩, h5⟩, h6⟩, h7⟩, h8⟩ := h
      subst h2
      exact PI_zip3 o h0 (o.gl _ (glB_ok h1).1) h3 h4 h5 (sE a o h6) (sE b o h7) (sE d o h8)
    · cases h
  | rev e =>
    unfold chkIt at h
    split at h
    · simp only [Bool.and_eq_true, decide_eq_true_eq] at h
      obtain ⟨⟨⟨h1, h2⟩, h3⟩, h4⟩ := h
      subst h2
      exact PI_rev o (o.gl _ (glB_ok h1).1) h3 (sE e o h4)
    · cases h
  | rrng r =>
    unfold chkIt at h
    split at h
    · simp only [Bool.and_eq_true, decide_eq_true_eq] at h
      obtain ⟨⟨⟨h1, h2⟩, h3⟩, h4⟩ := h
      subst h2
      refine PI_imp (pi_revR (o.gl _ (glB_ok h1).1) (bl_of o _) (sRg r o h4) (starEach_cons h3)) fun σV H R => ?_
      rintro ⟨B, L, σ, S, w, S', wd, rn, ee, q⟩
      unfold evIt at ee
      split at ee
      · rename_i i j S1 e1
        obtain ⟨w', e2, e3⟩ := Option.map_eq_some_iff.mp ee
        cases e3
        unfold rrngWk at e2
        split at e2
        · rename_i hok
          cases e2
          have ok := rgOk_ok hok
          refine ⟨B, L, σ, S, i, j, _, wd, rn, e1, fun B1 L1 H1 m w1 => ⟨ok.1, ok.2.1, ok.2.2.1, ok.2.2.2.1, ?_⟩⟩
          exact q _ B1 L1 H1 m w1 wk_rrng rfl
        · cases e2
      · cases ee
    · cases h
theorem sW (a : E) : ∀ {e : Expr} {sc : Scope} {X : Cx}, CO T G W k N sc X → isBool e = true → chkE T N sc a e = true → PW X e (tEvT X.K G (runF G T.fns W k) a) := by
  intro e sc X o hb h
  cases e with
  | BoolOp bo xs p =>
    cases a with
    | and a b =>
      have key : ∀ {x y : Expr} {r : List Expr}, chkE T N sc a x = true → PW X (.BoolOp .And (y :: r) p) (tEvT X.K G (runF G T.fns W k) b) → PW X (.BoolOp .And (x :: y :: r) p) (tEvT X.K G (runF G T.fns W k) (.and a b)) := fun {x y r} h1 h2 => by
        refine PW_imp (pw_and (sT a o h1) h2) fun σV H Q => ?_
        rintro ⟨B, L, σ, S, d, S', w, r, ee, q⟩
        rcases ev_and ee with ⟨S1, e1, e2⟩ | ⟨e1, e2⟩
        · refine tst w r e1 fun B1 L1 H1 m w1 r1 => ?_
          rw [if_pos rfl]
          exact ⟨B1, L1, σ, S1, d, S', w1, r1, e2, fun B2 L2 H2 m2 w2 => q B2 L2 H2 (m.trans m2 w w1) w2⟩
        · cases e2
          refine tst w r e1 fun B1 L1 H1 m w1 r1 => ?_
          rw [if_neg Bool.false_ne_true]
          exact q B1 L1 H1 m w1
      match bo, xs, h with
      | .And, [x, y], h =>
        simp only [chkE, Bool.and_eq_true] at h
        exact key h.1 (pw_and1 (sT b o h.2))
      | .And, x :: y :: z :: r, h =>
        simp only [chkE, Bool.and_eq_true] at h
        exact key h.1 (sW b o rfl h.2)
      | .And, [], h => cases h
      | .And, [_], h => cases h
      | .Or, _, h => cases h
    | or a b =>
      have key : ∀ {x y : Expr} {r : List Expr}, chkE T N sc a x = true → PW X (.BoolOp .Or (y :: r) p) (tEvT X.K G (runF G T.fns W k) b) → PW X (.BoolOp .Or (x :: y :: r) p) (tEvT X.K G (runF G T.fns W k) (.or a b)) := fun {x y r} h1 h2 => by
        refine PW_imp (pw_or (sT a o h1) h2) fun σV H Q => ?_
        rintro ⟨B, L, σ, S, d, S', w, r, ee, q⟩
        rcases ev_or ee with ⟨S1, e1, e2⟩ | ⟨e1, e2⟩
        · refine tst w r e1 fun B1 L1 H1 m w1 r1 => ?_
          rw [if_neg Bool.false_ne_true]
          exact ⟨B1, L1, σ, S1, d, S', w1, r1, e2, fun B2 L2 H2 m2 w2 => q B2 L2 H2 (m.trans m2 w w1) w2⟩
        · cases e2
          refine tst w r e1 fun B1 L1 H1 m w1 r1 => ?_
          rw [if_pos rfl]
          exact q B1 L1 H1 m w1
      match bo, xs, h with
      | .Or, [x, y], h =>
        simp only [chkE, Bool.and_eq_true] at h
        exact key h.1 (pw_or1 (sT b o h.2))
      | .Or, x :: y :: z :: r, h =>
        simp only [chkE, Bool.and_eq_true] at h
        exact key h.1 (sW b o rfl h.2)
      | .Or, [], h => cases h
      | .Or, [_], h => cases h
      | .And, _, h => cases h
    | orT a =>
      refine ⟨fun wh pins s σ H Q I hq => ?_⟩
      obtain ⟨B, L, σ, S, d, S', w, r, ee, q⟩ := hq
      unfold ev at ee
      split at ee
      · split at ee
        · rename_i e2
          cases ee
          cases e2
        · cases ee
        · cases ee
      · cases ee
    | alloc a =>
      refine ⟨fun wh pins s σ H Q I hq => ?_⟩
      obtain ⟨B, L, σ, S, d, S', w, r, ee, q⟩ := hq
      obtain ⟨xs, S1, e1, e2, _⟩ := ev_alloc ee
      cases e2
    | _ => cases h
  | _ => cases hb
theorem sT (a : E) : ∀ {e : Expr} {sc : Scope} {X : Cx}, CO T G W k N sc X → chkE T N sc a e = true → PT X e (tEvT X.K G (runF G T.fns W k) a) := by
  intro e sc X o h
  cases e with
  | BoolOp bo xs p => exact (sW a o rfl h).pt
  | UnaryOp uo x p =>
    cases a with
    | not a =>
      cases uo with
      | Not =>
        refine PT_imp (pt_not (sT a o (by unfold chkE at h; exact h))) fun σV H Q => ?_
        rintro ⟨B, L, σ, S, d, S', w, r, ee, q⟩
        obtain ⟨b, e1, e2⟩ := ev_not ee
        cases e2
        exact tst w r e1 fun B1 L1 H1 m w1 r1 => q B1 L1 H1 m w1
      | _ => cases h
    | alloc a =>
      refine ⟨fun pins s σ H Q I hq => ?_⟩
      obtain ⟨B, L, σ, S, d, S', w, r, ee, q⟩ := hq
      obtain ⟨xs, S1, e1, e2, _⟩ := ev_alloc ee
      cases e2
    | neg a =>
      refine ⟨fun pins s σ H Q I hq => ?_⟩
      obtain ⟨B, L, σ, S, d, S', w, r, ee, q⟩ := hq
      obtain ⟨i, _, e2⟩ := ev_neg ee
      cases e2
    | _ => cases h
  | IfExp x y z p =>
    cases a with
    | ite t a b =>
      simp only [chkE, Bool.and_eq_true] at h
      refine PT_imp (isTrue_ite (sT t o h.1.1) (sT a o h.1.2) (sT b o h.2)) fun σV H Q => ?_
      rintro ⟨B, L, σ, S, d, S', w, r, ee, q⟩
      obtain ⟨kk, S1, e1, e2⟩ := ev_ite ee
      refine tst w r e1 fun B1 L1 H1 m w1 r1 => ?_
      cases kk with
      | true =>
        rw [if_pos rfl] at e2 ⊢
        exact ⟨B1, L1, σ, S1, d, S', w1, r1, e2, fun B2 L2 H2 m2 w2 => q B2 L2 H2 (m.trans m2 w w1) w2⟩
      | false =>
        rw [if_neg Bool.false_ne_true] at e2 ⊢
        exact ⟨B1, L1, σ, S1, d, S', w1, r1, e2, fun B2 L2 H2 m2 w2 => q B2 L2 H2 (m.trans m2 w w1) w2⟩
    | alloc a =>
      refine ⟨fun pins s σ H Q I hq => ?_⟩
      obtain ⟨B, L, σ, S, d, S', w, r, ee, q⟩ := hq
      obtain ⟨xs, S1, e1, e2, _⟩ := ev_alloc ee
      cases e2
    | _ => cases h
  | Compare x ops ys p =>
    cases a with
    | cmp kk a b =>
      match ops, ys, h with
      | [oo], [y], h =>
        simp only [chkE, Bool.and_eq_true, Bool.not_eq_true'] at h
        obtain ⟨⟨⟨h1, h2⟩, h3⟩, h4⟩ := h
        refine PT_imp (pt_cmpR (cpR_all o.units kk h1) (sE a o h3) (sE b o h4) h2) fun σV H Q => ?_
        rintro ⟨B, L, σ, S, d, S', w, r, ee, q⟩
        obtain ⟨x1, S1, y1, rr, e1, e2, e3, e4⟩ := ev_cmp ee
        cases e4
        exact two w r e1 e2 fun v u B1 L1 H1 m w1 r1 rv ru => ⟨B1, L1, S', x1, y1, d, w1, rv, ru, e3, d, rfl, q B1 L1 H1 m w1⟩
      | [], _, h => cases h
      | _ :: _ :: _, _, h => cases h
      | [_], [], h => cases h
      | [_], _ :: _ :: _, h => cases h
    | chain kk k' a b g =>
      match ops, ys, h with
      | [o1, o2], [y, z], h =>
        simp only [chkE, Bool.and_eq_true, Bool.not_eq_true'] at h
        obtain ⟨⟨⟨⟨⟨h1, h2⟩, h3⟩, h4⟩, h5⟩, h6⟩ := h
        refine PT_imp (pt_chain (cpR_all o.units kk h1) (cpR_all o.units k' h2) (sE a o h4) (sE b o h5) (sE g o h6) h3) fun σV H Q => ?_
        rintro ⟨B, L, σ, S, d, S', w, r, ee, q⟩
        obtain ⟨x1, S1, y1, S3, e1, e2, e3⟩ := ev_chain ee
        refine two w r e1 e2 fun v u B1 L1 H1 m w1 r1 rv ru => ?_
        rcases e3 with ⟨e3, z1, rr, e4, e5, e6⟩ | ⟨e3, rfl, e6⟩
        · cases e6
          refine ⟨B1, L1, S3, x1, y1, true, w1, rv, ru, e3, true, rfl, ?_⟩
          rw [if_pos rfl]
          refine one w1 r1 e4 fun z2 B2 L2 H2 m2 w2 r2 rz => ?_
          exact ⟨B2, L2, S', y1, z1, d, w2, ru.mv w1 m2, rz, e5, d, rfl, q B2 L2 H2 (m.trans m2 w w1) w2⟩
        · cases e6
          refine ⟨B1, L1, S', x1, y1, false, w1, rv, ru, e3, false, rfl, ?_⟩
          rw [if_neg Bool.false_ne_true]
          exact ⟨false, rfl, q B1 L1 H1 m w1⟩
      | [], _, h => cases h
      | [_], _, h => cases h
      | _ :: _ :: _ :: _, _, h => cases h
      | [_, _], [], h => cases h
      | [_, _], [_], h => cases h
      | [_, _], _ :: _ :: _ :: _, h => cases h
    | alloc a =>
      refine ⟨fun pins s σ H Q I hq => ?_⟩
      obtain ⟨B, L, σ, S, d, S', w, r, ee, q⟩ := hq
      obtain ⟨xs, S1, e1, e2, _⟩ := ev_alloc ee
      cases e2
    | _ => cases h
  | _ => exact PT_imp (pt_val (sE a o h) (plainTest_ok rfl)) fun σV H Q hq => tst_of hq
end
end
end Rf
end

section
set_option maxRecDepth 100000
set_option maxHeartbeats 16000000
set_option autoImplicit false
namespace Rf
open PySem PySem.Spec PyProof.Rows L2

/-! ## the checker of statements -/
def isLocal (sc : Scope) (x : Str) : Bool := match sc.names.lookup x with
  | some .local => true
  | _ => false
theorem isLocal_ok {sc : Scope} {x : Str} (h : isLocal sc x = true) : sc.names.lookup x = some .local := by
  unfold isLocal at h
  split at h
  · assumption
  · cases h
/-- whether name = [..] is stored within the comprehension's frame -/
def swB (sc : Scope) (x : Str) (p : Pos) (v : Expr) : Bool := match v with
  | .ListComp _ _ scp pv => isLocal sc x && p.line == pv.line && !(scp.names.any fun (n, k) => n == x && (k == .local || k == .cell))
  | _ => false
def namesOf (sc : Scope) (line : Nat) : List Expr → List Str
  | [] => []
  | .Name id pos :: r => if isLocal sc id && pos.line == line then id :: namesOf sc line r else namesOf sc line r
  | _ :: r => namesOf sc line r
def headLine : List Expr → Nat
  | [] => 0
  | e :: _ => e.pos.line
def anyStar : List Expr → Bool
  | [] => false
  | .Starred _ _ :: _ => true
  | _ :: r => anyStar r
/-- the stores of a tuple's parts in order, out of a tuple that is built -/
def noSwap (sc : Scope) (ts : List Expr) : Expr → Bool
  | .Tuple vs _ _ => !(ts.length == 2 || ts.length == 3) || vs.length != ts.length || anyStar vs || ((namesOf sc (headLine ts) ts).length != ts.length) || vs.all (foldedForSure 8)
  | _ => true
def chkLt (T : Tab) (N : List Str) (sc : Scope) : List Lt → List Expr → Bool
  | [], es => match es with
    | [] => true
    | _ => false
  | .name i :: ts, es => match es with
    | .Name x _ :: es => decide (N[i]? = some x) && locB sc x && chkLt T N sc ts es
    | _ => false
  | .sub o i :: ts, es => match es with
    | .Subscript x y _ :: es => chkE T N sc o x && chkE T N sc i y && noSlice y && chkLt T N sc ts es
    | _ => false
  | .tgt g :: ts, es => match es with
    | e :: es => chkTg sc N g e && chkLt T N sc ts es
    | [] => false
def isDoc : Expr → Bool
  | .Constant (.str _) _ _ => true
  | _ => false
mutual
def chkS (T : Tab) (N : List Str) (sc : Scope) : S → Stmt → Bool
  | .set i e, s => match s with
    | .Assign ts v _ => (match ts with
      | [.Name x _] => decide (N[i]? = some x) && locB sc x && chkE T N sc e v
      | _ => false)
    | _ => false
  | .par is es, s => match s with
    | .Assign ts v _ => (match ts, v with
      | [.Tuple [.Name x px, .Name y py] _ _], .Tuple [a, b] _ _ => decide (is.length = 2) && decide (N[is.getD 0 0]? = some x) && decide (N[is.getD 1 0]? = some y) && decide (is.getD 0 0 ≠ is.getD 1 0) && isLocal sc x && isLocal sc y && (py.line == px.line) && decide (x ≠ y) &&
          notStar a && notStar b && !([a, b].all (foldedForSure 8)) && !([a, b].all (constantsAlone 8)) && chkEs T N sc es [a, b]
      | [.Tuple [.Name x px, .Name y py, .Name z pz] _ _], .Tuple [a, b, d] _ _ => decide (is.length = 3) && decide (N[is.getD 0 0]? = some x) && decide (N[is.getD 1 0]? = some y) && decide (N[is.getD 2 0]? = some z) &&
          decide (is.getD 0 0 ≠ is.getD 1 0) && decide (is.getD 0 0 ≠ is.getD 2 0) && decide (is.getD 1 0 ≠ is.getD 2 0) && isLocal sc x && isLocal sc y && isLocal sc z && (py.line == px.line) && (pz.line == px.line) &&
          decide (x ≠ y) && decide (x ≠ z) && decide (y ≠ z) && notStar a && notStar b && notStar d && !([a, b, d].all (foldedForSure 8)) && !([a, b, d].all (constantsAlone 8)) && chkEs T N sc es [a, b, d]
      | _, _ => false)
    | _ => false
  | .unp ts e, s => match s with
    | .Assign tgs v _ => (match tgs with
      | [.Tuple es _ _] => chkLt T N sc ts es && decide (ts.length = es.length) && chkE T N sc e v && noSwap sc es v
      | _ => false)
    | _ => false
  | .setx o i e, s => match s with
    | .Assign tgs v _ => (match tgs with
      | [.Subscript x y _] => chkE T N sc o x && chkE T N sc i y && noSlice y && chkE T N sc e v
      | _ => false)
    | _ => false
  | .app o e, s => match s with
    | .Expr v _ => (match v with
      | .Call (.Attribute x m ap) [y] [] cp => decide (m = "append") && noCall x && (ap.endLine == cp.line) && notStar y && chkE T N sc o x && chkE T N sc e y
      | _ => false)
    | _ => false
  | .exp e, s => match s with
    | .Expr v _ => noComp v && chkE T N sc e v
    | _ => false
  | .ret e, s => match s with
    | .Return (some v) _ => chkE T N sc e v
    | _ => false
  | .retn, s => match s with
    | .Return none _ => true
    | _ => false
  | .ite t a b, s => match s with
    | .If x y z _ => chkE T N sc t x && chkSs T N sc a y && chkSs T N sc b z
    | _ => false
  | .for it g b, s => match s with
    | .For x i y [] _ => chkIt T N sc it x i && chkTg sc N g x && chkSs T N sc b y && noSet i
    | _ => false
  | .while t b, s => match s with
    | .While x y [] _ => chkE T N sc t x && chkSs T N sc b y
    | _ => false
  | .pass, s => match s with
    | .Pass _ => true
    | .Expr v _ => isDoc v
    | _ => false
  | .brk, s => match s with
    | .Break _ => true
    | _ => false
  | .cont, s => match s with
    | .Continue _ => true
    | _ => false
  | .never, _ => true
  | .rais x, s => match s with
    | .Raise e none _ => (match e with
      | some (.Call (.Name y _) [] [] _) => decide (y = x) && glB sc x && decide (x ∈ T.exc)
      | _ => false)
    | _ => false
def chkSs (T : Tab) (N : List Str) (sc : Scope) : Ss → List Stmt → Bool
  | .nil, l => match l with
    | [] => true
    | _ => false
  | .cons s r, l => match l with
    | x :: xs => chkS T N sc s x && chkSs T N sc r xs
    | _ => false
end

/-! ## how the tree's stores go -/
section
variable {sc : Scope} {env : PySem.Env}
theorem isLocal_kind (hs : env.scope = sc) (x : Str) : (env.kindOf x == some .local) = isLocal sc x := by
  unfold Env.kindOf isLocal
  rw [hs]
  split
  · rename_i e; rw [e]; rfl
  · rename_i e
    cases q : sc.names.lookup x with
    | none => rfl
    | some k => cases k <;> first | rfl | exact absurd q e
theorem blockKind_fn (hs : env.scope = sc) (hk : sc.kind = .function) : env.blockKind = .function := by
  unfold Env.blockKind
  rw [hs, hk]
  rfl
def nmF (env : PySem.Env) (line : Nat) : Expr → Option Str
  | .Name id pos => if env.kindOf id == some .local && pos.line == line then some id else none
  | _ => none
def swCore (bk : ScopeKind) (names : List Str) (ts vs : List Expr) : Sem (Option (List Str)) :=
  if (!(ts.length == 2 || ts.length == 3) || vs.length != ts.length || bk != .function) = true then pure none
  else if (vs.any fun | .Starred .. => true | _ => false) = true then pure none
  else if (names.length != ts.length || names.eraseDups.length != names.length) = true then pure none
  else if vs.all (foldedForSure 8) = true then pure none
  else if vs.all (constantsAlone 8) = true then (do
    unsupported "assign.tuple-of-constant-expressions:order-of-the-stores"
    pure (some names))
  else pure (some names)
theorem sw_eq {ts vs : List Expr} {kt k2 : Nat} {pt p2 : Pos} : swappedStores [.Tuple ts kt pt] (.Tuple vs k2 p2) env = swCore env.blockKind (ts.filterMap (nmF env ((ts.head?.map (·.pos.line)).getD 0))) ts vs := by
  unfold swappedStores
  rfl
theorem nmF_eq (hs : env.scope = sc) (line : Nat) : ∀ ts : List Expr, ts.filterMap (nmF env line) = namesOf sc line ts
  | [] => rfl
  | e :: r => by
    have ih := nmF_eq hs line r
    rw [List.filterMap_cons, ih]
    cases e <;> first
      | rfl
      | (rename_i id pos
         simp only [nmF, isLocal_kind hs, namesOf]
         cases (isLocal sc id && pos.line == line) <;> rfl)
theorem star_eq : ∀ vs : List Expr, (vs.any fun | .Starred .. => true | _ => false) = anyStar vs
  | [] => rfl
  | e :: r => by
    rw [List.any_cons, star_eq r]
    cases e <;> rfl
theorem headLine_eq (ts : List Expr) : (ts.head?.map (·.pos.line)).getD 0 = headLine ts := by cases ts <;> rfl
theorem sw_eq2 (hs : env.scope = sc) {ts vs : List Expr} {kt k2 : Nat} {pt p2 : Pos} : swappedStores [.Tuple ts kt pt] (.Tuple vs k2 p2) env = swCore env.blockKind (namesOf sc (headLine ts) ts) ts vs := by
  rw [sw_eq, headLine_eq, nmF_eq hs]
theorem noSwap_ok (hs : env.scope = sc) {ts : List Expr} {v : Expr} {kt : Nat} {pt : Pos} (h : noSwap sc ts v = true) : swappedStores [.Tuple ts kt pt] v env = pure none := by
  cases v with
  | Tuple vs k2 p2 =>
    rw [sw_eq2 hs]
    unfold swCore
    simp only [noSwap, Bool.or_eq_true] at h
    by_cases c1 : (!(ts.length == 2 || ts.length == 3) || vs.length != ts.length || env.blockKind != .function) = true
    · rw [if_pos c1]
    rw [if_neg c1]
    by_cases c2 : (vs.any fun | .Starred .. => true | _ => false) = true
    · rw [if_pos c2]
    rw [if_neg c2]
    by_cases c3 : ((namesOf sc (headLine ts) ts).length != ts.length || (namesOf sc (headLine ts) ts).eraseDups.length != (namesOf sc (headLine ts) ts).length) = true
    · rw [if_pos c3]
    rw [if_neg c3]
    by_cases c4 : vs.all (foldedForSure 8) = true
    · rw [if_pos c4]
    exfalso
    rw [star_eq] at c2
    simp only [Bool.or_eq_true, not_or] at c1 c3
    rcases h with (((h | h) | h) | h) | h
    · exact c1.1.1 h
    · exact c1.1.2 h
    · exact c2 h
    · exact c3.1 h
    · exact c4 h
  | _ => rfl
theorem anyStar_cons {a : Expr} {r : List Expr} (h : notStar a = true) : anyStar (a :: r) = anyStar r := by
  cases a <;> first | rfl | cases h
theorem par2_ok (hs : env.scope = sc) (hk : sc.kind = .function) {x y : Str} {px py pt p2 : Pos} {a b : Expr} {kt k2 : Nat} (hx : isLocal sc x = true) (hy : isLocal sc y = true) (hl : (py.line == px.line) = true) (hne : x ≠ y)
    (ha : notStar a = true) (hb : notStar b = true) (hf : ([a, b].all (foldedForSure 8)) = false) (hc : ([a, b].all (constantsAlone 8)) = false) :
    swappedStores [.Tuple [.Name x px, .Name y py] kt pt] (.Tuple [a, b] k2 p2) env = pure (some [x, y]) := by
  rw [sw_eq2 hs, blockKind_fn hs hk]
  have e1 : namesOf sc (headLine [Expr.Name x px, Expr.Name y py]) [Expr.Name x px, Expr.Name y py] = [x, y] := by
    have z1 : headLine [Expr.Name x px, Expr.Name y py] = px.line := rfl
    simp only [z1, namesOf, hx, hy, hl, beq_self_eq_true, Bool.and_self, if_true]
  have e2 : [x, y].eraseDups.length = 2 := by
    have z : (y == x) = false := by rw [beq_eq_false_iff_ne]; exact fun e => hne e.symm
    simp [List.eraseDups_cons, z]
  unfold swCore
  rw [e1, e2, hf, hc, star_eq]
  have e3 : anyStar [a, b] = false := by rw [anyStar_cons ha, anyStar_cons hb]; rfl
  rw [e3]
  rfl
theorem par3_ok (hs : env.scope = sc) (hk : sc.kind = .function) {x y z : Str} {px py pz pt p2 : Pos} {a b d : Expr} {kt k2 : Nat} (hx : isLocal sc x = true) (hy : isLocal sc y = true) (hz : isLocal sc z = true) (hl : (py.line == px.line) = true) (hl2 : (pz.line == px.line) = true)
    (hne : x ≠ y) (hn2 : x ≠ z) (hn3 : y ≠ z) (ha : notStar a = true) (hb : notStar b = true) (hd : notStar d = true) (hf : ([a, b, d].all (foldedForSure 8)) = false) (hc : ([a, b, d].all (constantsAlone 8)) = false) :
    swappedStores [.Tuple [.Name x px, .Name y py, .Name z pz] kt pt] (.Tuple [a, b, d] k2 p2) env = pure (some [x, y, z]) := by
  rw [sw_eq2 hs, blockKind_fn hs hk]
  have e1 : namesOf sc (headLine [Expr.Name x px, Expr.Name y py, Expr.Name z pz]) [Expr.Name x px, Expr.Name y py, Expr.Name z pz] = [x, y, z] := by
    have z1 : headLine [Expr.Name x px, Expr.Name y py, Expr.Name z pz] = px.line := rfl
    simp only [z1, namesOf, hx, hy, hz, hl, hl2, beq_self_eq_true, Bool.and_self, if_true]
  have e2 : [x, y, z].eraseDups.length = 3 := by
    have z1 : (y == x) = false := by rw [beq_eq_false_iff_ne]; exact fun e => hne e.symm
    have z2 : (z == x) = false := by rw [beq_eq_false_iff_ne]; exact fun e => hn2 e.symm
    have z3 : (z == y) = false := by rw [beq_eq_false_iff_ne]; exact fun e => hn3 e.symm
    simp [List.eraseDups_cons, z1, z2, z3]
  unfold swCore
  rw [e1, e2, hf, hc, star_eq]
  have e3 : anyStar [a, b, d] = false := by rw [anyStar_cons ha, anyStar_cons hb, anyStar_cons hd]; rfl
  rw [e3]
  rfl
theorem swaps_tup {ts : List Expr} {v : Expr} {kt l : Nat} {pt : Pos} : swapsWithSole [.Tuple ts kt pt] v l env = pure false := by
  show swapsWith v (some (.Tuple ts kt pt)) l env = pure false
  cases v <;> rfl
theorem swaps_sub {o i v : Expr} {l : Nat} {p : Pos} : swapsWithSole [.Subscript o i p] v l env = pure false := by
  show swapsWith v (some (.Subscript o i p)) l env = pure false
  cases v <;> rfl
theorem stores_sub {o i v : Expr} {p : Pos} : swappedStores [.Subscript o i p] v env = pure none := by
  cases v <;> rfl
end
end Rf
end

section
set_option maxRecDepth 100000
set_option maxHeartbeats 16000000
set_option autoImplicit false
namespace Rf
open PySem PySem.Spec PyProof.Rows L2

/-! ## the readings of statements -/
section
variable (K : PySem.W.Frag) (G : Nat → Option D) (c : Cal) (W : Nat)
def PostS (B : Addr → Prop) (L : List Addr) (H : Hp) (f : Fl) (σ' : DEnv) (S' : Sto) (D0 : Ends) : Prop :=
  ∀ σV' B' L' H', Mv B L H B' L' H' → Wd K B' L' S' H' → REnv K B' L' H' σ' σV' → match f with
    | .nx => D0.nx σV' H'
    | .bk => D0.bk σV' H'
    | .ct => D0.ct σV' H'
    | .rt d => ∀ v, Rp K B' L' H' d v → D0.rt v H'
def tS (s : S) : TS := fun D0 σV H => ∃ B L σ St f σ' S', Wd K B L St H ∧ REnv K B L H σ σV ∧ sv G c W s σ St = some (f, σ', S') ∧ PostS K B L H f σ' S' D0
def tSs (s : Ss) : TS := fun D0 σV H => ∃ B L σ St f σ' S', Wd K B L St H ∧ REnv K B L H σ σV ∧ svs G c W s σ St = some (f, σ', S') ∧ PostS K B L H f σ' S' D0
end
section
variable {K : PySem.W.Frag} {G : Nat → Option D} {c : Cal} {W : Nat} {B B1 : Addr → Prop} {L L1 : List Addr} {H H1 : Hp} {St S1 S' : Sto} {σ' : DEnv} {D0 : Ends} {f : Fl}
theorem PostS.on (q : PostS K B L H f σ' S' D0) (w : Wd K B L St H) (w1 : Wd K B1 L1 S1 H1) (m : Mv B L H B1 L1 H1) : PostS K B1 L1 H1 f σ' S' D0 :=
  fun σV' B' L' H' m2 w2 r2 => q σV' B' L' H' (m.trans m2 w w1) w2 r2
theorem alloc_imp {a : E} {σV : L2.St} {Q : VK} (hf : fresh a = true) (h : tEv K G c (.alloc a) σV H Q) : tEv K G c a σV H Q := by
  obtain ⟨B, L, σ, S, d, S', w, r, ee, q⟩ := h
  obtain ⟨xs, S1, e1, rfl, rfl⟩ := ev_alloc ee
  refine ⟨B, L, σ, S, .lst xs, S1, w, r, e1, fun v B1 L1 H1 m w1 rv f => ?_⟩
  obtain ⟨pp, rfl, h0, nb, w2, rl⟩ := alloc_ok w1 (f hf xs rfl) rv
  refine q (.ref pp) _ (L1 ++ [pp]) H1 ⟨fun a b => .inl (m.up a b), fun a b => ?_, ?_, m.ext⟩ w2 rl fun z => nomatch z
  · rcases b with b | b
    · exact m.dn a b
    · exact .inr (by rw [b]; exact h0)
  · obtain ⟨new, en, fn⟩ := m.pre
    refine ⟨new ++ [pp], by rw [en, List.append_assoc], fun a z => ?_⟩
    rcases List.mem_append.mp z with z | z
    · exact fn a z
    · rw [List.mem_singleton.mp z]; exact h0
end

section
variable {G : Nat → Option D} {c : Cal}
theorem ltsD_cons {t : Lt} {ts : List Lt} {d : D} {ds : List D} {σ σ' : DEnv} {S S' : Sto} (h : ltsD G c (t :: ts) (d :: ds) σ S = some (σ', S')) : ∃ σ1 S1, ltD G c t d σ S = some (σ1, S1) ∧ ltsD G c ts ds σ1 S1 = some (σ', S') := by
  simp only [ltsD] at h
  split at h
  · exact ⟨_, _, by assumption, h⟩
  · cases h
theorem ltD_sub {o i : E} {d : D} {σ σ' : DEnv} {S S' : Sto} (h : ltD G c (.sub o i) d σ S = some (σ', S')) : ∃ x S1 y S2 S3, ev G c o σ S = some (x, S1) ∧ ev G c i σ S1 = some (y, S2) ∧ setxD S2 x y d = some S3 ∧ σ' = σ ∧ S' = S3 := by
  simp only [ltD] at h
  split at h
  · split at h
    · obtain ⟨S4, f3, f4⟩ := Option.map_eq_some_iff.mp h
      cases f4
      exact ⟨_, _, _, _, _, by assumption, by assumption, f3, rfl, rfl⟩
    · cases h
  · cases h
theorem setxD_inv {S S' : Sto} {o i d : D} (h : setxD S o i d = some S') : ∃ n k xs j, o = .loc n ∧ i = .int k ∧ S[n]? = some xs ∧ ixN xs.length k = some j ∧ S' = S.set n (xs.set j d) := by
  unfold setxD at h
  split at h
  · obtain ⟨xs, g1, g2⟩ := Option.bind_eq_some_iff.mp h
    obtain ⟨j, g3, g4⟩ := Option.map_eq_some_iff.mp g2
    exact ⟨_, _, xs, j, rfl, rfl, g1, g3, g4.symm⟩
  · cases h
theorem appD_inv {S S' : Sto} {o d : D} (h : appD S o d = some S') : ∃ n xs, o = .loc n ∧ S[n]? = some xs ∧ xs.length < many ∧ S' = S.set n (xs ++ [d]) := by
  unfold appD at h
  split at h
  · obtain ⟨xs, g1, g2⟩ := Option.bind_eq_some_iff.mp h
    split at g2
    · rename_i hl
      exact ⟨_, xs, rfl, g1, hl, (Option.some.inj g2).symm⟩
    · cases g2
  · cases h
end

section
variable {T : Tab} {G : Nat → Option D} {W k : Nat} {N : List Str} {sc : Scope} {X : Cx}
/-- name = value -/
theorem set_ok (o : CO T G W k N sc X) (hs : X.env.scope = sc) (hk : sc.kind = .function) {i : Nat} {x : Str} {p sp : Pos} {v : Expr} {e : E} (h1 : N[i]? = some x) (h2 : locB sc x = true) (h3 : chkE T N sc e v = true) :
    PS X (.Assign [.Name x p] v sp) (tAsg (tEv X.K G (runF G T.fns W k) e) (gName i)) := by
  obtain ⟨l1, l2⟩ := o.loc x (locB_ok h2)
  have hi : X.N[i]? = some x := by rw [o.names]; exact h1
  have plain : swapsWith v (some (.Name x p)) sp.line X.env = pure false → PS X (.Assign [.Name x p] v sp) (tAsg (tEv X.K G (runF G T.fns W k) e) (gName i)) :=
    fun hw => ps_set o.ndX hi l1 (sE e o h3) hw l2
  cases v with
  | ListComp elt gs scp pv =>
    have sw : swapsWith (.ListComp elt gs scp pv) (some (.Name x p)) sp.line X.env = pure (isLocal sc x && p.line == pv.line && !(scp.names.any fun (n, k) => n == x && (k == .local || k == .cell))) := by
      unfold swapsWith
      simp only [blockKind_fn hs hk, isLocal_kind hs]
      rfl
    cases hb : (isLocal sc x && p.line == pv.line && !(scp.names.any fun (n, k) => n == x && (k == .local || k == .cell))) with
    | false => exact plain (by rw [sw, hb])
    | true =>
      rw [hb] at sw
      have hloc : X.env.scope.names.lookup x = some .local := by
        rw [Bool.and_eq_true, Bool.and_eq_true] at hb
        rw [hs]
        exact isLocal_ok hb.1.1
      have comp : ∀ {it tg own t el}, chkE T N sc (.comp it tg own t el) (.ListComp elt gs scp pv) = true → PS X (.Assign [.Name x p] (.ListComp elt gs scp pv) sp) (tAsg (tEv X.K G (runF G T.fns W k) (.comp it tg own t el)) (gName i)) := fun {it tg own t el} h => by
        simp only [chkE] at h
        split at h
        · rename_i g i0 ifs hgs
          have eg := oneGen_ok hgs
          subst eg
          simp only [Bool.and_eq_true] at h
          obtain ⟨⟨⟨⟨⟨⟨h1, h2⟩, h3⟩, h4⟩, h5⟩, h6⟩, h7⟩ := h
          exact PS_imp (ps_setLc o.calm o.ndX hi hloc sw (sIt it o h1) (o.blkOk h2) (fun _ _ _ _ _ => sTg o.blk h3) (fun _ _ _ _ _ => sIf t o.blk h5) (fun _ _ _ _ _ => sE el o.blk h6) (noSet_ok h7)) fun D0 σ H hq => comp_ok h4 hq
        · cases h
      cases e with
      | comp it tg own t el => exact comp h3
      | comp2 it tg it1 tg1 own vs1 t el =>
        simp only [chkE] at h3
        split at h3
        · rename_i g i0 g1 i1 ifs hgs
          have eg := twoGen_ok hgs
          subst eg
          simp only [Bool.and_eq_true, List.all_eq_true, decide_eq_true_eq] at h3
          obtain ⟨⟨⟨⟨⟨⟨⟨⟨⟨⟨⟨k1, k2⟩, k3⟩, k4⟩, k5⟩, k6⟩, k7⟩, k8⟩, k9⟩, k10⟩, k11⟩, k12⟩ := h3
          exact PS_imp (ps_setLc2 o.calm o.ndX hi hloc sw (sIt it o k1) (o.blkOk k2) k8 (fun _ _ _ _ _ => sTg o.blk k3) (fun _ _ _ _ _ => pts_nil) (fun _ _ _ _ _ => sIt it1 o.blk k5) (fun _ _ _ _ _ => sTg o.blk k6) (fun _ _ _ _ _ => sIf t o.blk k9) (fun _ _ _ _ _ => sE el o.blk k10) (noSet_ok k11) (fun _ => noSet_ok k12)) fun D0 σ H hq => comp2_ok k4 k7 hq
        · cases h3
      | rvs a =>
        simp only [chkE, rvArg] at h3
        cases h3
      | alloc a =>
        simp only [chkE, Bool.and_eq_true] at h3
        cases a with
        | comp it tg own t el => exact PS_imp (comp h3.2) fun D0 σ H hq => alloc_imp h3.1 hq
        | _ => first | (have z := h3.2; cases z; done) | (have z := h3.1; cases z; done)
      | _ => cases h3
  | SetComp _ _ _ _ => cases e <;> first | cases h3 | (simp only [chkE, Bool.and_eq_true] at h3; rename_i a; have z := h3.1; have z2 := h3.2; clear h3 plain; cases a <;> first | (cases z; done) | (cases z2; done))
  | DictComp _ _ _ _ _ => cases e <;> first | cases h3 | (simp only [chkE, Bool.and_eq_true] at h3; rename_i a; have z := h3.1; have z2 := h3.2; clear h3 plain; cases a <;> first | (cases z; done) | (cases z2; done))
  | _ => exact plain (noComp_ok rfl)
/-! ## targets in a row -/
theorem lts_ok (o : CO T G W k N sc X) : ∀ {ts : List Lt} {es : List Expr}, chkLt T N sc ts es = true → ∃ tg : TGs, PGs X es tg ∧ (assignEach es X.env).length = es.length ∧ (assignEach es X.env).findIdx? (·.1) = none ∧
    ∀ {B : Addr → Prop} {L : List Addr} {S S' : Sto} {H : Hp} {Q : L2.St → Hp → Prop} {ds : List D} {vs : List V} {σ σ' : DEnv} {σV : L2.St}, Wd X.K B L S H → REnv X.K B L H σ σV → Rps X.K B L H ds vs → ltsD G (runF G T.fns W k) ts ds σ S = some (σ', S') →
      (∀ σV' B' L' H', Mv B L H B' L' H' → Wd X.K B' L' S' H' → REnv X.K B' L' H' σ' σV' → Q σV' H') → tg vs σV H Q
  | [], es, h => by
    cases es with
    | cons _ _ => cases h
    | nil =>
      refine ⟨gNil, pgs_nil, rfl, rfl, fun {B L S S' H Q ds vs σ σ' σV} w r rd e q => ?_⟩
      cases rd with
      | nil => cases e; exact ⟨rfl, q σV B L H (Mv.refl B L H) w r⟩
      | cons _ _ => cases e
  | .tgt g :: ts, es, h => by
    cases es with
    | nil => cases h
    | cons e es =>
      have h' : (chkTg sc N g e && chkLt T N sc ts es) = true := h
      rw [Bool.and_eq_true] at h'
      obtain ⟨h1, h2⟩ := h'
      obtain ⟨tg, p1, p2, p3, p4⟩ := lts_ok o h2
      have ea : assignEach (e :: es) X.env = (false, assign e X.env) :: assignEach es X.env := by
        cases e <;> first | rfl | (cases g <;> cases h1)
      refine ⟨gCons (tTg X.K g) tg, pgs_cons (sTg o h1) p1 (by rw [ea]; rfl), by rw [ea, List.length_cons, List.length_cons, p2], by rw [ea, List.findIdx?_cons, p3]; rfl, fun {B L S S' H Q ds vs σ σ' σV} w r rd e q => ?_⟩
      cases rd with
      | nil => cases e
      | cons a b =>
        obtain ⟨σ1, S1, e1, e⟩ := ltsD_cons e
        obtain ⟨τ, t1, t2⟩ := Option.map_eq_some_iff.mp e1
        cases t2
        exact ⟨_, _, rfl, B, L, S, σ, _, _, w, r, a, t1, fun σV' r' _ => p4 w r' b e q⟩
  | .name i :: ts, es, h => by
    match es, h with
    | .Name x p :: es, h =>
      simp only [chkLt, Bool.and_eq_true, decide_eq_true_eq] at h
      obtain ⟨⟨h1, h2⟩, h3⟩ := h
      obtain ⟨tg, p1, p2, p3, p4⟩ := lts_ok o h3
      obtain ⟨l1, l2⟩ := o.loc x (locB_ok h2)
      have ea : assignEach (.Name x p :: es) X.env = (false, assign (.Name x p) X.env) :: assignEach es X.env := rfl
      refine ⟨gCons (gName i) tg, pgs_cons (pg_name o.ndX (by rw [o.names]; exact h1) l1 l2) p1, by rw [ea, List.length_cons, List.length_cons, p2], by rw [ea, List.findIdx?_cons, p3]; rfl, fun {B L S S' H Q ds vs σ σ' σV} w r rd e q => ?_⟩
      cases rd with
      | nil => cases e
      | cons a b => exact ⟨_, _, rfl, p4 w (r.set i a) b e q⟩
    | [], h => cases h
    | .BoolOp .. :: _, h => cases h
    | .NamedExpr .. :: _, h => cases h
    | .BinOp .. :: _, h => cases h
    | .UnaryOp .. :: _, h => cases h
    | .Lambda .. :: _, h => cases h
    | .IfExp .. :: _, h => cases h
    | .Dict .. :: _, h => cases h
    | .Set .. :: _, h => cases h
    | .ListComp .. :: _, h => cases h
    | .SetComp .. :: _, h => cases h
    | .DictComp .. :: _, h => cases h
    | .GeneratorExp .. :: _, h => cases h
    | .Await .. :: _, h => cases h
    | .Yield .. :: _, h => cases h
    | .YieldFrom .. :: _, h => cases h
    | .Compare .. :: _, h => cases h
    | .Call .. :: _, h => cases h
    | .FormattedValue .. :: _, h => cases h
    | .JoinedStr .. :: _, h => cases h
    | .Constant .. :: _, h => cases h
    | .Attribute .. :: _, h => cases h
    | .Subscript .. :: _, h => cases h
    | .Starred .. :: _, h => cases h
    | .List .. :: _, h => cases h
    | .Tuple .. :: _, h => cases h
    | .Slice .. :: _, h => cases h
  | .sub oo i :: ts, es, h => by
    match es, h with
    | .Subscript x y p :: es, h =>
      simp only [chkLt, Bool.and_eq_true] at h
      obtain ⟨⟨⟨h1, h2⟩, h3⟩, h4⟩ := h
      obtain ⟨tg, p1, p2, p3, p4⟩ := lts_ok o h4
      have ea : assignEach (.Subscript x y p :: es) X.env = (false, assign (.Subscript x y p) X.env) :: assignEach es X.env := rfl
      have pg : PG X (.Subscript x y p) (gSub (tEv X.K G (runF G T.fns W k) oo) (tEv X.K G (runF G T.fns W k) i) rSetL) := by
        refine pg_sub (sE oo o h1) (sE i o h2) set_list ?_
        intro v
        cases y <;> first | rfl | cases h3
      refine ⟨gCons _ tg, pgs_cons pg p1, by rw [ea, List.length_cons, List.length_cons, p2], by rw [ea, List.findIdx?_cons, p3]; rfl, fun {B L S S' H Q ds vs σ σ' σV} w r rd e q => ?_⟩
      cases rd with
      | nil => cases e
      | cons a b =>
        obtain ⟨σ1, S1, e1, e⟩ := ltsD_cons e
        obtain ⟨x1, S2, y1, S3, S4, f1, f2, f3, rfl, rfl⟩ := ltD_sub e1
        refine ⟨_, _, rfl, two w r f1 f2 fun v u B1 L1 H1 m w1 r1 rv ru => ?_⟩
        have a1 := a.mv w m
        have b1 := b.mv w m
        obtain ⟨n, kk, xs, j, rfl, rfl, g1, g3, rfl⟩ := setxD_inv f3
        cases rv with
        | @loc n ad hl =>
          cases ru
          obtain ⟨b2, us, z1, z2, z3⟩ := w1.sto _ xs g1
          rw [hl] at z1; cases z1
          obtain ⟨m2, w2, up⟩ := loc_upd w1 hl (z3.set j a1)
          refine ⟨_, us, kk, j, rfl, rfl, z2, by rw [← z3.length]; exact g3, ?_⟩
          have m12 := m.trans m2 w w1
          refine p4 w2 (r1.mv w1 m2) (b1.mv w1 m2) e fun σV' B' L' H' m3 w3 r3 => q σV' B' L' H' (m12.trans m3 w w2) w3 r3
    | [], h => cases h
    | .Name .. :: _, h => cases h
    | .BoolOp .. :: _, h => cases h
    | .NamedExpr .. :: _, h => cases h
    | .BinOp .. :: _, h => cases h
    | .UnaryOp .. :: _, h => cases h
    | .Lambda .. :: _, h => cases h
    | .IfExp .. :: _, h => cases h
    | .Dict .. :: _, h => cases h
    | .Set .. :: _, h => cases h
    | .ListComp .. :: _, h => cases h
    | .SetComp .. :: _, h => cases h
    | .DictComp .. :: _, h => cases h
    | .GeneratorExp .. :: _, h => cases h
    | .Await .. :: _, h => cases h
    | .Yield .. :: _, h => cases h
    | .YieldFrom .. :: _, h => cases h
    | .Compare .. :: _, h => cases h
    | .Call .. :: _, h => cases h
    | .FormattedValue .. :: _, h => cases h
    | .JoinedStr .. :: _, h => cases h
    | .Constant .. :: _, h => cases h
    | .Attribute .. :: _, h => cases h
    | .Starred .. :: _, h => cases h
    | .List .. :: _, h => cases h
    | .Tuple .. :: _, h => cases h
    | .Slice .. :: _, h => cases h
end
end Rf
end

section
set_option maxRecDepth 100000
set_option maxHeartbeats 16000000
set_option autoImplicit false
namespace Rf
open PySem PySem.Spec PyProof.Rows L2

/-! ## the evaluator of statements, read back -/
section
variable {G : Nat → Option D} {c : Cal} {W : Nat} {σ σ' : DEnv} {S S' : Sto} {f : Fl}
theorem sv_set {i : Nat} {e : E} (h : sv G c W (.set i e) σ S = some (f, σ', S')) : ∃ d, ev G c e σ S = some (d, S') ∧ f = .nx ∧ σ' = σ.set i (some d) := by
  unfold sv at h
  split at h
  · cases h; exact ⟨_, by assumption, rfl, rfl⟩
  · cases h
theorem sv_par {is : List Nat} {es : Es} (h : sv G c W (.par is es) σ S = some (f, σ', S')) : ∃ ds, evs G c es σ S = some (ds, S') ∧ f = .nx ∧ setAll σ is ds = some σ' := by
  unfold sv at h
  split at h
  · obtain ⟨σ1, h1, h2⟩ := Option.map_eq_some_iff.mp h
    cases h2; exact ⟨_, by assumption, rfl, h1⟩
  · cases h
theorem sv_unp {ts : List Lt} {e : E} (h : sv G c W (.unp ts e) σ S = some (f, σ', S')) : ∃ xs S1, ev G c e σ S = some (.tup xs, S1) ∧ f = .nx ∧ ltsD G c ts xs σ S1 = some (σ', S') := by
  unfold sv at h
  split at h
  · obtain ⟨⟨σ1, S2⟩, h1, h2⟩ := Option.map_eq_some_iff.mp h
    cases h2; exact ⟨_, _, by assumption, rfl, h1⟩
  · cases h
theorem sv_setx {o i e : E} (h : sv G c W (.setx o i e) σ S = some (f, σ', S')) : ∃ d S1 x S2 y S3, ev G c e σ S = some (d, S1) ∧ ev G c o σ S1 = some (x, S2) ∧ ev G c i σ S2 = some (y, S3) ∧ setxD S3 x y d = some S' ∧ f = .nx ∧ σ' = σ := by
  unfold sv at h
  split at h
  · obtain ⟨⟨σ1, S2⟩, h1, h2⟩ := Option.map_eq_some_iff.mp h
    cases h2
    obtain ⟨x, S3, y, S4, S5, e1, e2, e3, rfl, rfl⟩ := ltD_sub h1
    exact ⟨_, _, x, S3, y, S4, by assumption, e1, e2, e3, rfl, rfl⟩
  · cases h
theorem sv_app {o e : E} (h : sv G c W (.app o e) σ S = some (f, σ', S')) : ∃ x S1 d S2, ev G c o σ S = some (x, S1) ∧ ev G c e σ S1 = some (d, S2) ∧ appD S2 x d = some S' ∧ f = .nx ∧ σ' = σ := by
  unfold sv at h
  split at h
  · split at h
    · obtain ⟨S3, h1, h2⟩ := Option.map_eq_some_iff.mp h
      cases h2
      exact ⟨_, _, _, _, by assumption, by assumption, h1, rfl, rfl⟩
    · cases h
  · cases h
theorem sv_exp {e : E} (h : sv G c W (.exp e) σ S = some (f, σ', S')) : ∃ d, ev G c e σ S = some (d, S') ∧ f = .nx ∧ σ' = σ := by
  unfold sv at h
  split at h
  · cases h; exact ⟨_, by assumption, rfl, rfl⟩
  · cases h
theorem sv_ret {e : E} (h : sv G c W (.ret e) σ S = some (f, σ', S')) : ∃ d, ev G c e σ S = some (d, S') ∧ f = .rt d ∧ σ' = σ := by
  unfold sv at h
  split at h
  · cases h; exact ⟨_, by assumption, rfl, rfl⟩
  · cases h
theorem sv_ite {t : E} {a b : Ss} (h : sv G c W (.ite t a b) σ S = some (f, σ', S')) : ∃ k S1, ev G c t σ S = some (.bl k, S1) ∧ (if k = true then svs G c W a σ S1 else svs G c W b σ S1) = some (f, σ', S') := by
  unfold sv at h
  split at h
  · exact ⟨true, _, by assumption, h⟩
  · exact ⟨false, _, by assumption, h⟩
  · cases h
def bodyF (G : Nat → Option D) (c : Cal) (W : Nat) (tg : Tg) (b : Ss) : D → DEnv → Sto → Option (Fl × DEnv × Sto) := fun x σ S => match tgD tg x σ with
      | some σ1 => svs G c W b σ1 S
      | none => none
theorem sv_for {it : Rf.It} {tg : Tg} {b : Ss} (h : sv G c W (.for it tg b) σ S = some (f, σ', S')) : ∃ w S1, evIt G c it σ S = some (w, S1) ∧ forLoop (bodyF G c W tg b) w.still w.items σ S1 = some (f, σ', S') := by
  unfold sv at h
  split at h
  · exact ⟨_, _, by assumption, h⟩
  · cases h
theorem svs_cons {s : Rf.S} {r : Ss} (h : svs G c W (.cons s r) σ S = some (f, σ', S')) : (∃ σ1 S1, sv G c W s σ S = some (.nx, σ1, S1) ∧ svs G c W r σ1 S1 = some (f, σ', S')) ∨ (f ≠ .nx ∧ sv G c W s σ S = some (f, σ', S')) := by
  unfold svs at h
  split at h
  · rename_i e; exact .inl ⟨_, _, e, h⟩
  · rename_i e; cases h; exact .inr ⟨(fun z => nomatch z), e⟩
  · rename_i e; cases h; exact .inr ⟨(fun z => nomatch z), e⟩
  · rename_i e; cases h; exact .inr ⟨(fun z => nomatch z), e⟩
  · cases h
theorem bodyF_inv {tg : Tg} {b : Ss} {x : D} (h : bodyF G c W tg b x σ S = some (f, σ', S')) : ∃ σ1, tgD tg x σ = some σ1 ∧ svs G c W b σ1 S = some (f, σ', S') := by
  unfold bodyF at h
  split at h
  · exact ⟨_, by assumption, h⟩
  · cases h
theorem forLoop_cons {F : D → DEnv → Sto → Option (Fl × DEnv × Sto)} {w : Sto → Bool} {x : D} {xs : List D} (h : forLoop F w (x :: xs) σ S = some (f, σ', S')) :
    ∃ f1 σ1 S1, F x σ S = some (f1, σ1, S1) ∧ (match f1 with
      | .nx => w S1 = true ∧ forLoop F w xs σ1 S1 = some (f, σ', S')
      | .ct => w S1 = true ∧ forLoop F w xs σ1 S1 = some (f, σ', S')
      | .bk => f = .nx ∧ σ' = σ1 ∧ S' = S1
      | .rt d => f = .rt d ∧ σ' = σ1 ∧ S' = S1) := by
  unfold forLoop at h
  split at h
  · split at h
    · rename_i f1 hw; exact ⟨_, _, _, f1, (show _ ∧ _ from ⟨hw, h⟩)⟩
    · cases h
  · split at h
    · rename_i f1 hw; exact ⟨_, _, _, f1, (show _ ∧ _ from ⟨hw, h⟩)⟩
    · cases h
  · rename_i f1; cases h; exact ⟨_, _, _, f1, (show _ ∧ _ ∧ _ from ⟨rfl, rfl, rfl⟩)⟩
  · rename_i f1; cases h; exact ⟨_, _, _, f1, (show _ ∧ _ ∧ _ from ⟨rfl, rfl, rfl⟩)⟩
  · cases h
theorem whileLoop_succ {t : DEnv → Sto → Option (D × Sto)} {F : DEnv → Sto → Option (Fl × DEnv × Sto)} {n : Nat} (h : whileLoop t F (n + 1) σ S = some (f, σ', S')) :
    ∃ k S1, t σ S = some (.bl k, S1) ∧ (if k = true then ∃ f1 σ1 S2, F σ S1 = some (f1, σ1, S2) ∧ (match f1 with
      | .nx => whileLoop t F n σ1 S2 = some (f, σ', S')
      | .ct => whileLoop t F n σ1 S2 = some (f, σ', S')
      | .bk => f = .nx ∧ σ' = σ1 ∧ S' = S2
      | .rt d => f = .rt d ∧ σ' = σ1 ∧ S' = S2) else f = .nx ∧ σ' = σ ∧ S' = S1) := by
  unfold whileLoop at h
  split at h
  · refine ⟨true, _, by assumption, ?_⟩
    rw [if_pos rfl]
    split at h
    · exact ⟨_, _, _, by assumption, h⟩
    · exact ⟨_, _, _, by assumption, h⟩
    · rename_i f1; cases h; exact ⟨_, _, _, f1, (show _ ∧ _ ∧ _ from ⟨rfl, rfl, rfl⟩)⟩
    · rename_i f1; cases h; exact ⟨_, _, _, f1, (show _ ∧ _ ∧ _ from ⟨rfl, rfl, rfl⟩)⟩
    · cases h
  · cases h
    refine ⟨false, _, by assumption, ?_⟩
    rw [if_neg Bool.false_ne_true]
    exact ⟨rfl, rfl, rfl⟩
  · cases h
end

/-! ## loops -/
section
variable {K : PySem.W.Frag} {G : Nat → Option D} {c : Cal} {W : Nat}
theorem for_ok {it : Rf.It} {tg : Tg} {b : Ss} {D0 : Ends} {σV : L2.St} {H : Hp} (h : tS K G c W (.for it tg b) D0 σV H) : tFor (tEvIt K G c it) (tTg K tg) (tSs K G c W b) D0 σV H := by
  obtain ⟨B, L, σ, S, f, σ', S', wd, renv, e, q⟩ := h
  obtain ⟨w, S1, e1, e2⟩ := sv_for e
  refine ⟨B, L, σ, S, w, S1, wd, renv, e1, fun J B1 L1 H1 m1 wd1 wk st1 => ?_⟩
  refine ⟨fun i m σi Hi => m = w.items.length - i ∧ i ≤ w.items.length ∧ ∃ Bi Li Si τ, Mv B1 L1 H1 Bi Li Hi ∧ Wd K Bi Li Si Hi ∧ REnv K Bi Li Hi τ σi ∧ w.still Si = true ∧
      forLoop (bodyF G c W tg b) w.still (w.items.drop i) τ Si = some (f, σ', S'), ⟨_, rfl, Nat.zero_le _, B1, L1, S1, σ, Mv.refl _ _ _, wd1, renv.mv wd m1, st1, e2⟩, ?_⟩
  rintro i m σi Hi ⟨rfl, hi, Bi, Li, Si, τ, mi, wi, ri, sti, ei⟩
  obtain ⟨wstop, wgo⟩ := wk Bi Li Si Hi mi wi sti i
  have q1 : PostS K Bi Li Hi f σ' S' D0 := q.on wd wi (m1.trans mi wd wd1)
  by_cases hlt : i < w.items.length
  · obtain ⟨go, yl⟩ := wgo _ (List.getElem?_eq_getElem hlt)
    refine .inr ⟨go, fun σj Hj => ∃ Bi Li Si τ, Mv B1 L1 H1 Bi Li Hj ∧ Wd K Bi Li Si Hj ∧ REnv K Bi Li Hj τ σj ∧ w.still Si = true ∧
      forLoop (bodyF G c W tg b) w.still (w.items.drop (i + 1)) τ Si = some (f, σ', S'), fun σj Hj hN => ⟨w.items.length - (i + 1), by omega, rfl, hlt, hN⟩, fun x H2 y => ?_⟩
    obtain ⟨my, wy, rx⟩ := yl x H2 y
    rw [List.drop_eq_getElem_cons hlt] at ei
    obtain ⟨f1, τ1, S2, g1, g2⟩ := forLoop_cons ei
    obtain ⟨τ0, g3, g4⟩ := bodyF_inv g1
    have m1y : Mv B1 L1 H1 Bi Li H2 := mi.trans my wd1 wi
    refine ⟨Bi, Li, Si, τ, w.items[i], τ0, wy, ri.mv wi my, rx, g3, fun σj r' _ => ?_⟩
    refine ⟨Bi, Li, τ0, Si, f1, τ1, S2, wy, r', g4, fun σk Bk Lk Hk mk wk' rk => ?_⟩
    have m1k := m1y.trans mk wd1 wy
    have q2 := q1.on wi wy my
    cases f1 with
    | nx => exact ⟨Bk, Lk, S2, τ1, m1k, wk', rk, g2.1, g2.2⟩
    | ct => exact ⟨Bk, Lk, S2, τ1, m1k, wk', rk, g2.1, g2.2⟩
    | bk =>
      obtain ⟨rfl, rfl, rfl⟩ := g2
      exact q2 σk Bk Lk Hk mk wk' rk
    | rt d =>
      obtain ⟨rfl, rfl, rfl⟩ := g2
      exact q2 σk Bk Lk Hk mk wk' rk
  · have en : i = w.items.length := by omega
    refine .inl ⟨wstop (by omega), ?_⟩
    rw [en, List.drop_length] at ei
    cases ei
    exact q1 σi Bi Li Hi (Mv.refl _ _ _) wi ri
theorem while_ok {t : E} {b : Ss} {D0 : Ends} {σV : L2.St} {H : Hp} (h : tS K G c W (.while t b) D0 σV H) : tWhile (tEvT K G c t) (tSs K G c W b) D0 σV H := by
  obtain ⟨B, L, σ, S, f, σ', S', wd, renv, e, q⟩ := h
  unfold sv at e
  refine ⟨fun m σi Hi => ∃ Bi Li Si τ, Mv B L H Bi Li Hi ∧ Wd K Bi Li Si Hi ∧ REnv K Bi Li Hi τ σi ∧ whileLoop (fun σ S => ev G c t σ S) (fun σ S => svs G c W b σ S) m τ Si = some (f, σ', S'),
    ⟨W, B, L, S, σ, Mv.refl _ _ _, wd, renv, e⟩, ?_⟩
  rintro m σi Hi ⟨Bi, Li, Si, τ, mi, wi, ri, ei⟩
  cases m with
  | zero => cases ei
  | succ m =>
    obtain ⟨k, S1, e1, e2⟩ := whileLoop_succ ei
    refine ⟨Bi, Li, τ, Si, k, S1, wi, ri, e1, fun B1 L1 H1 m1 w1 => ?_⟩
    have r1 := ri.mv wi m1
    have mi1 := mi.trans m1 wd wi
    have q1 : PostS K B1 L1 H1 f σ' S' D0 := q.on wd w1 mi1
    cases k with
    | true =>
      rw [if_pos rfl] at e2
      dsimp only
      rw [if_pos rfl]
      obtain ⟨f1, τ1, S2, g1, g2⟩ := e2
      refine ⟨fun σj Hj => ∃ Bi Li Si τ, Mv B L H Bi Li Hj ∧ Wd K Bi Li Si Hj ∧ REnv K Bi Li Hj τ σj ∧ whileLoop (fun σ S => ev G c t σ S) (fun σ S => svs G c W b σ S) m τ Si = some (f, σ', S'), fun σj Hj hN => ⟨m, Nat.lt_succ_self m, hN⟩, ?_⟩
      refine ⟨B1, L1, τ, S1, f1, τ1, S2, w1, r1, g1, fun σk Bk Lk Hk mk wk' rk => ?_⟩
      have m1k := mi1.trans mk wd w1
      cases f1 with
      | nx => exact ⟨Bk, Lk, S2, τ1, m1k, wk', rk, g2⟩
      | ct => exact ⟨Bk, Lk, S2, τ1, m1k, wk', rk, g2⟩
      | bk =>
        obtain ⟨rfl, rfl, rfl⟩ := g2
        exact q1 σk Bk Lk Hk mk wk' rk
      | rt d =>
        obtain ⟨rfl, rfl, rfl⟩ := g2
        exact q1 σk Bk Lk Hk mk wk' rk
    | false =>
      rw [if_neg Bool.false_ne_true] at e2
      dsimp only
      rw [if_neg Bool.false_ne_true]
      obtain ⟨rfl, rfl, rfl⟩ := e2
      exact q1 σi B1 L1 H1 (Mv.refl _ _ _) w1 r1
end
end Rf
end

section
set_option maxRecDepth 100000
set_option maxHeartbeats 16000000
set_option autoImplicit false
namespace Rf
open PySem PySem.Spec PyProof.Rows L2

section
variable {K : PySem.W.Frag} {G : Nat → Option D} {c : Cal} {W : Nat}
theorem setAll2 {i j : Nat} {ds : List D} {σ σ' : DEnv} (h : setAll σ [i, j] ds = some σ') : ∃ a b, ds = [a, b] ∧ σ' = (σ.set i (some a)).set j (some b) := by
  match ds, h with
  | [a, b], h => cases h; exact ⟨a, b, rfl, rfl⟩
theorem setAll3 {i j l : Nat} {ds : List D} {σ σ' : DEnv} (h : setAll σ [i, j, l] ds = some σ') : ∃ a b e, ds = [a, b, e] ∧ σ' = ((σ.set i (some a)).set j (some b)).set l (some e) := by
  match ds, h with
  | [a, b, e], h => cases h; exact ⟨a, b, e, rfl, rfl⟩
theorem ix2 {is : List Nat} (h : is.length = 2) : is = [is.getD 0 0, is.getD 1 0] := by
  match is, h with
  | [_, _], _ => rfl
theorem ix3 {is : List Nat} (h : is.length = 3) : is = [is.getD 0 0, is.getD 1 0, is.getD 2 0] := by
  match is, h with
  | [_, _, _], _ => rfl
theorem par_imp2 {i j : Nat} {es : Es} {D0 : Ends} {σV : L2.St} {H : Hp} (h : tS K G c W (.par [i, j] es) D0 σV H) : tPar i j (tEvs K G c es) D0 σV H := by
  obtain ⟨B, L, σ, S, f, σ', S', wd, renv, e, q⟩ := h
  obtain ⟨ds, e1, rfl, e2⟩ := sv_par e
  obtain ⟨a, b, rfl, rfl⟩ := setAll2 e2
  refine args wd renv e1 fun vs B1 L1 H1 m w1 r1 rv => ?_
  cases rv with
  | cons ra rr => cases rr with
    | cons rb rr =>
      cases rr
      exact ⟨_, _, rfl, q _ B1 L1 H1 m w1 ((r1.set i ra).set j rb)⟩
theorem par_imp3 {i j l : Nat} {es : Es} {D0 : Ends} {σV : L2.St} {H : Hp} (h : tS K G c W (.par [i, j, l] es) D0 σV H) : tPar3 i j l (tEvs K G c es) D0 σV H := by
  obtain ⟨B, L, σ, S, f, σ', S', wd, renv, e, q⟩ := h
  obtain ⟨ds, e1, rfl, e2⟩ := sv_par e
  obtain ⟨a, b, g, rfl, rfl⟩ := setAll3 e2
  refine args wd renv e1 fun vs B1 L1 H1 m w1 r1 rv => ?_
  cases rv with
  | cons ra rr => cases rr with
    | cons rb rr => cases rr with
      | cons rc rr =>
        cases rr
        exact ⟨_, _, _, rfl, q _ B1 L1 H1 m w1 (((r1.set i ra).set j rb).set l rc)⟩
theorem set_imp {i : Nat} {e : E} {D0 : Ends} {σV : L2.St} {H : Hp} (h : tS K G c W (.set i e) D0 σV H) : tAsg (tEv K G c e) (gName i) D0 σV H := by
  obtain ⟨B, L, σ, S, f, σ', S', wd, renv, ee, q⟩ := h
  obtain ⟨d, e1, rfl, rfl⟩ := sv_set ee
  exact one wd renv e1 fun v B1 L1 H1 m w1 r1 rv => q _ B1 L1 H1 m w1 (r1.set i rv)
theorem exp_imp {e : E} {D0 : Ends} {σV : L2.St} {H : Hp} (h : tS K G c W (.exp e) D0 σV H) : tDrop (tEv K G c e) D0 σV H := by
  obtain ⟨B, L, σ, S, f, σ', S', wd, renv, ee, q⟩ := h
  obtain ⟨d, e1, rfl, rfl⟩ := sv_exp ee
  exact one wd renv e1 fun v B1 L1 H1 m w1 r1 rv => q _ B1 L1 H1 m w1 r1
theorem ret_imp {e : E} {D0 : Ends} {σV : L2.St} {H : Hp} (h : tS K G c W (.ret e) D0 σV H) : tRet (tEv K G c e) D0 σV H := by
  obtain ⟨B, L, σ, S, f, σ', S', wd, renv, ee, q⟩ := h
  obtain ⟨d, e1, rfl, rfl⟩ := sv_ret ee
  exact one wd renv e1 fun v B1 L1 H1 m w1 r1 rv => q σV B1 L1 H1 m w1 r1 v rv
theorem ite_imp {t : E} {a b : Ss} {D0 : Ends} {σV : L2.St} {H : Hp} (h : tS K G c W (.ite t a b) D0 σV H) : tIfS (tEvT K G c t) (tSs K G c W a) (tSs K G c W b) D0 σV H := by
  obtain ⟨B, L, σ, S, f, σ', S', wd, renv, ee, q⟩ := h
  obtain ⟨k, S1, e1, e2⟩ := sv_ite ee
  refine tst wd renv e1 fun B1 L1 H1 m w1 r1 => ?_
  cases k with
  | true =>
    rw [if_pos rfl] at e2
    rw [if_pos rfl]
    exact ⟨B1, L1, σ, S1, f, σ', S', w1, r1, e2, q.on wd w1 m⟩
  | false =>
    rw [if_neg Bool.false_ne_true] at e2
    rw [if_neg Bool.false_ne_true]
    exact ⟨B1, L1, σ, S1, f, σ', S', w1, r1, e2, q.on wd w1 m⟩
theorem next_imp {s : S} {D0 : Ends} {σV : L2.St} {H : Hp} (hs : ∀ σ S, sv G c W s σ S = some (.nx, σ, S)) (h : tS K G c W s D0 σV H) : tNext D0 σV H := by
  obtain ⟨B, L, σ, S, f, σ', S', wd, renv, ee, q⟩ := h
  rw [hs] at ee
  cases ee
  exact q σV B L H (Mv.refl _ _ _) wd renv
theorem seq_imp {s : S} {r : Ss} {D0 : Ends} {σV : L2.St} {H : Hp} (h : tSs K G c W (.cons s r) D0 σV H) : tSeq (tS K G c W s) (tSs K G c W r) D0 σV H := by
  obtain ⟨B, L, σ, S, f, σ', S', wd, renv, ee, q⟩ := h
  rcases svs_cons ee with ⟨σ1, S1, e1, e2⟩ | ⟨hf, e1⟩
  · exact ⟨B, L, σ, S, .nx, σ1, S1, wd, renv, e1, fun σV' B1 L1 H1 m w1 r1 => ⟨B1, L1, σ1, S1, f, σ', S', w1, r1, e2, q.on wd w1 m⟩⟩
  · refine ⟨B, L, σ, S, f, σ', S', wd, renv, e1, fun σV' B1 L1 H1 m w1 r1 => ?_⟩
    have q1 := q σV' B1 L1 H1 m w1 r1
    cases f with
    | nx => exact absurd rfl hf
    | bk => exact q1
    | ct => exact q1
    | rt d => exact q1
theorem app_imp {o e : E} {D0 : Ends} {σV : L2.St} {H : Hp} (h : tS K G c W (.app o e) D0 σV H) : tDrop (tBM K "list" rAppend (tEv K G c o) (tCons (tEv K G c e) tNil)) D0 σV H := by
  obtain ⟨B, L, σ, S, f, σ', S', wd, renv, ee, q⟩ := h
  obtain ⟨x, S1, d, S2, e1, e2, e3, rfl, rfl⟩ := sv_app ee
  obtain ⟨n, xs, rfl, g1, g2, rfl⟩ := appD_inv e3
  refine one wd renv e1 fun v B1 L1 H1 m w1 r1 rv => ?_
  have rv1 := rv
  cases rv with
  | @loc n a hl =>
    obtain ⟨a0, us0, hl0, hs0, _⟩ := rv1.sqL w1 (xs := S1.getD n []) (by
      have z : n < S1.length := by rw [← w1.len]; exact (List.getElem?_eq_some_iff.mp hl).1
      show S1[n]? = some (S1.getD n [])
      rw [List.getD_eq_getElem?_getD, List.getElem?_eq_getElem z]; rfl)
    cases hl0
    refine ⟨.inl ⟨rfl, us0, hs0⟩, one w1 r1 e2 fun u B2 L2 H2 m2 w2 r2 ru => ?_⟩
    have hl2 := m2.get hl
    obtain ⟨b, vs, f1, f2, f3⟩ := w2.sto n xs g1
    rw [hl2] at f1; cases f1
    have hm : many ≤ sizeLine := many_le
    obtain ⟨m3, w3, up⟩ := loc_upd w2 hl2 (f3.append (.cons ru .nil))
    have m12 := m.trans m2 wd w1
    refine ⟨a, vs, u, rfl, rfl, f2, by rw [← f3.length]; omega, ?_⟩
    exact q σV B2 L2 _ (m12.trans m3 wd w2) w3 (r2.mv w2 m3)
end
section
variable {T : Tab} {G : Nat → Option D} {W k : Nat} {N : List Str}
theorem ltsD_len {c : Cal} : ∀ {ts : List Lt} {ds : List D} {σ σ' : DEnv} {S S' : Sto}, ltsD G c ts ds σ S = some (σ', S') → ds.length = ts.length
  | [], [], _, _, _, _, _ => rfl
  | [], _ :: _, _, _, _, _, h => by cases h
  | _ :: _, [], _, _, _, _, h => by cases h
  | _ :: _, _ :: _, _, _, _, _, h => by
    obtain ⟨_, _, _, h⟩ := ltsD_cons h
    exact congrArg Nat.succ (ltsD_len h)
/-- soundness of statements -/
structure SX (sc : Scope) (X : Cx) : Prop where
  scope : X.env.scope = sc
  kind : sc.kind = .function
  xe : X.xe = fun _ _ => False
theorem SX.passes {sc : Scope} {X : Cx} (s : SX sc X) : PassesOwn (model X.prog X.w) X.A X.env X.xe := by
  rw [s.xe]; exact PassesOwn.never
theorem sUnp {sc : Scope} {X : Cx} (o : CO T G W k N sc X) (x : SX sc X) {ts : List Lt} {e : E} {es : List Expr} {v : Expr} {kt : Nat} {pt pos : Pos} (h1 : chkLt T N sc ts es = true) (hlen : ts.length = es.length) (h3 : chkE T N sc e v = true) (h4 : noSwap sc es v = true) :
    PS X (.Assign [.Tuple es kt pt] v pos) (tS X.K G (runF G T.fns W k) W (.unp ts e)) := by
  obtain ⟨tg, p1, p2, p3, p4⟩ := lts_ok o h1
  refine PS_imp (ps_asg (sE e o h3) (pg_tup o.calm p1 p2 p3) swaps_tup (noSwap_ok x.scope h4)) fun D0 σV H hq => ?_
  obtain ⟨B, L, σ, S, f, σ', S', wd, renv, ee, q⟩ := hq
  obtain ⟨xs, S1, e1, rfl, e2⟩ := sv_unp ee
  refine one wd renv e1 fun v B1 L1 H1 m w1 r1 rv => ?_
  cases rv with
  | @tup a xs vs hs rs =>
    refine ⟨a, vs, rfl, hs, by rw [← rs.length, ← hlen]; exact ltsD_len e2, p4 w1 r1 rs e2 fun σV' B' L' H' m2 w2 r2 => q σV' B' L' H' (m.trans m2 wd w1) w2 r2⟩
theorem sSetx {sc : Scope} {X : Cx} (o : CO T G W k N sc X) {oo i e : E} {ox y v : Expr} {p pos : Pos} (h1 : chkE T N sc oo ox = true) (h2 : chkE T N sc i y = true) (h3 : noSlice y = true) (h4 : chkE T N sc e v = true) :
    PS X (.Assign [.Subscript ox y p] v pos) (tS X.K G (runF G T.fns W k) W (.setx oo i e)) := by
  have pg : PG X (.Subscript ox y p) (gSub (tEv X.K G (runF G T.fns W k) oo) (tEv X.K G (runF G T.fns W k) i) rSetL) := by
    refine pg_sub (sE oo o h1) (sE i o h2) set_list ?_
    intro v
    cases y <;> first | rfl | cases h3
  refine PS_imp (ps_asg (sE e o h4) pg swaps_sub stores_sub) fun D0 σV H hq => ?_
  obtain ⟨B, L, σ, S, f, σ', S', wd, renv, ee, q⟩ := hq
  obtain ⟨d, S1, x, S2, u, S3, e1, e2, e3, e4, rfl, rfl⟩ := sv_setx ee
  obtain ⟨n, kk, xs, j, rfl, rfl, g1, g3, rfl⟩ := setxD_inv e4
  refine one wd renv e1 fun dv B1 L1 H1 m w1 r1 rd => ?_
  refine two w1 r1 e2 e3 fun v u B2 L2 H2 m2 w2 r2 rv ru => ?_
  have rd2 := rd.mv w1 m2
  cases rv with
  | @loc n ad hl =>
    cases ru
    obtain ⟨b2, us, z1, z2, z3⟩ := w2.sto _ xs g1
    rw [hl] at z1; cases z1
    obtain ⟨m3, w3, up⟩ := loc_upd w2 hl (z3.set j rd2)
    have m12 := m.trans m2 wd w1
    exact ⟨_, us, kk, j, rfl, rfl, z2, by rw [← z3.length]; exact g3, q σV B2 L2 _ (m12.trans m3 wd w2) w3 (r2.mv w2 m3)⟩
theorem sPar {sc : Scope} {X : Cx} (o : CO T G W k N sc X) (x : SX sc X) {is : List Nat} {es : Es} {ts : List Expr} {v : Expr} {pos : Pos} (h : chkS T N sc (.par is es) (.Assign ts v pos) = true) :
    PS X (.Assign ts v pos) (tS X.K G (runF G T.fns W k) W (.par is es)) := by
  simp only [chkS] at h
  split at h
  · simp only [Bool.and_eq_true, decide_eq_true_eq, Bool.not_eq_true'] at h
    obtain ⟨⟨⟨⟨⟨⟨⟨⟨⟨⟨⟨⟨a1, a2⟩, a3⟩, a4⟩, a5⟩, a6⟩, a7⟩, a8⟩, a9⟩, a10⟩, a11⟩, a12⟩, a13⟩ := h
    rw [ix2 a1]
    exact PS_imp (ps_par o.calm o.ndX (by rw [o.names]; exact a2) (by rw [o.names]; exact a3) a4 (by rw [x.scope]; exact isLocal_ok a5) (by rw [x.scope]; exact isLocal_ok a6) (sEs es o a13) (par2_ok x.scope x.kind a5 a6 a7 a8 a9 a10 a11 a12) swaps_tup) fun D0 σV H hq => par_imp2 hq
  · simp only [Bool.and_eq_true, decide_eq_true_eq, Bool.not_eq_true'] at h
    obtain ⟨⟨⟨⟨⟨⟨⟨⟨⟨⟨⟨⟨⟨⟨⟨⟨⟨⟨⟨⟨c1, c2⟩, c3⟩, c4⟩, c5⟩, c6⟩, c7⟩, c8⟩, c9⟩, c10⟩, c11⟩, c12⟩, c13⟩, c14⟩, c15⟩, c16⟩, c17⟩, c18⟩, c19⟩, c20⟩, c21⟩ := h
    rw [ix3 c1]
    exact PS_imp (ps_par3 o.calm o.ndX (by rw [o.names]; exact c2) (by rw [o.names]; exact c3) (by rw [o.names]; exact c4) c5 c6 c7 (by rw [x.scope]; exact isLocal_ok c8) (by rw [x.scope]; exact isLocal_ok c9) (by rw [x.scope]; exact isLocal_ok c10) (sEs es o c21)
      (par3_ok x.scope x.kind c8 c9 c10 c11 c12 c13 c14 c15 c16 c17 c18 c19 c20) swaps_tup) fun D0 σV H hq => par_imp3 hq
  · cases h
mutual
theorem sS (s : S) : ∀ {st : Stmt} {sc : Scope} {X : Cx}, CO T G W k N sc X → SX sc X → chkS T N sc s st = true → PS X st (tS X.K G (runF G T.fns W k) W s) := by
  intro st sc X o x h
  cases s with
  | set i e =>
    cases st with
    | Assign ts v pos =>
      simp only [chkS] at h
      split at h
      · simp only [Bool.and_eq_true, decide_eq_true_eq] at h
        obtain ⟨⟨h1, h2⟩, h3⟩ := h
        exact PS_imp (set_ok o x.scope x.kind h1 h2 h3) fun D0 σV H hq => set_imp hq
      · cases h
    | _ => cases h
  | par is es =>
    cases st with
    | Assign ts v pos => exact sPar o x h
    | _ => cases h
  | unp ts e =>
    cases st with
    | Assign tgs v pos =>
      simp only [chkS] at h
      split at h
      · simp only [Bool.and_eq_true, decide_eq_true_eq] at h
        obtain ⟨⟨⟨h1, h2⟩, h3⟩, h4⟩ := h
        exact sUnp o x h1 h2 h3 h4
      · cases h
    | _ => cases h
  | setx oo i e =>
    cases st with
    | Assign tgs v pos =>
      simp only [chkS] at h
      split at h
      · simp only [Bool.and_eq_true, decide_eq_true_eq] at h
        obtain ⟨⟨⟨h1, h2⟩, h3⟩, h4⟩ := h
        exact sSetx o h1 h2 h3 h4
      · cases h
    | _ => cases h
  | app oo e =>
    cases st with
    | Expr v pos =>
      simp only [chkS] at h
      split at h
      · simp only [Bool.and_eq_true, decide_eq_true_eq] at h
        obtain ⟨⟨⟨⟨⟨h1, h2⟩, h3⟩, h4⟩, h5⟩, h6⟩ := h
        subst h1
        have eb := noCall_ok (env := X.env) (f := "append") h2
        have he := starEach_cons (es := []) (env := X.env) h4
        exact PS_imp (ps_expr (pe_bm PySem.F.plainAttrs_list PySem.F.slot_list_append PySem.F.type_list_append mt_append (sE oo o h5) (pa_cons (sE e o h6) pa_nil he) eb (by rw [he]; rfl) h3 he rfl) rfl) fun D0 σV H hq => app_imp hq
      · cases h
    | _ => cases h
  | exp e =>
    cases st with
    | Expr v pos =>
      simp only [chkS, Bool.and_eq_true] at h
      exact PS_imp (ps_expr (sE e o h.2) (noComp_ok h.1)) fun D0 σV H hq => exp_imp hq
    | _ => cases h
  | ret e =>
    cases st with
    | Return v pos =>
      cases v with
      | none => cases h
      | some v =>
        simp only [chkS] at h
        exact PS_imp (ps_ret (sE e o h)) fun D0 σV H hq => ret_imp hq
    | _ => cases h
  | retn =>
    cases st with
    | Return v pos =>
      cases v with
      | some v => cases h
      | none =>
        refine PS_imp ps_retN fun D0 σV H hq => ?_
        obtain ⟨B, L, σ, S, f, σ', S', wd, renv, ee, q⟩ := hq
        unfold sv at ee
        cases ee
        exact q σV B L H (Mv.refl _ _ _) wd renv .non .non
    | _ => cases h
  | ite t a b =>
    cases st with
    | If y z u pos =>
      simp only [chkS, Bool.and_eq_true] at h
      obtain ⟨⟨h1, h2⟩, h3⟩ := h
      exact PS_imp (ps_if (sT t o h1) (sSs a o x h2) (sSs b o x h3)) fun D0 σV H hq => ite_imp hq
    | _ => cases h
  | «for» it g b =>
    cases st with
    | For tg i y els pos =>
      simp only [chkS] at h
      split at h
      · rename_i e1
        cases e1
        simp only [Bool.and_eq_true] at h
        obtain ⟨⟨⟨h1, h2⟩, h3⟩, h4⟩ := h
        exact PS_imp (ps_for x.passes o.calm (sIt it o h1) (sTg o h2) (sSs b o x h3) (noSet_ok h4)) fun D0 σV H hq => for_ok hq
      · cases h
    | _ => cases h
  | «while» t b =>
    cases st with
    | While y z els pos =>
      simp only [chkS] at h
      split at h
      · rename_i e1
        cases e1
        simp only [Bool.and_eq_true] at h
        exact PS_imp (ps_while x.passes (sT t o h.1) (sSs b o x h.2)) fun D0 σV H hq => while_ok hq
      · cases h
    | _ => cases h
  | pass =>
    have ne : ∀ σ S, sv G (runF G T.fns W k) W .pass σ S = some (.nx, σ, S) := fun σ S => by unfold sv; rfl
    cases st with
    | Pass pos => exact PS_imp ps_pass fun D0 σV H hq => next_imp ne hq
    | Expr v pos =>
      simp only [chkS] at h
      unfold isDoc at h
      split at h
      · exact PS_imp ps_doc fun D0 σV H hq => next_imp ne hq
      · cases h
    | _ => cases h
  | brk =>
    cases st with
    | Break pos =>
      refine PS_imp ps_break fun D0 σV H hq => ?_
      obtain ⟨B, L, σ, S, f, σ', S', wd, renv, ee, q⟩ := hq
      unfold sv at ee
      cases ee
      exact q σV B L H (Mv.refl _ _ _) wd renv
    | _ => cases h
  | cont =>
    cases st with
    | Continue pos =>
      refine PS_imp ps_continue fun D0 σV H hq => ?_
      obtain ⟨B, L, σ, S, f, σ', S', wd, renv, ee, q⟩ := hq
      unfold sv at ee
      cases ee
      exact q σV B L H (Mv.refl _ _ _) wd renv
    | _ => cases h
  | never =>
    refine PS_imp ps_never fun D0 σV H hq => ?_
    obtain ⟨B, L, σ, S, f, σ', S', wd, renv, ee, q⟩ := hq
    unfold sv at ee
    cases ee
  | rais x =>
    refine PS_imp ps_never fun D0 σV H hq => ?_
    obtain ⟨B, L, σ, S, f, σ', S', wd, renv, ee, q⟩ := hq
    unfold sv at ee
    cases ee
theorem sSs (r : Ss) : ∀ {sts : List Stmt} {sc : Scope} {X : Cx}, CO T G W k N sc X → SX sc X → chkSs T N sc r sts = true → PSs X sts (tSs X.K G (runF G T.fns W k) W r) := by
  intro sts sc X o x h
  cases r with
  | nil =>
    cases sts with
    | nil =>
      refine PSs_imp pss_nil fun D0 σV H hq => ?_
      obtain ⟨B, L, σ, S, f, σ', S', wd, renv, ee, q⟩ := hq
      unfold svs at ee
      cases ee
      exact q σV B L H (Mv.refl _ _ _) wd renv
    | cons _ _ => cases h
  | cons s r =>
    cases sts with
    | nil => cases h
    | cons y ys =>
      simp only [chkSs, Bool.and_eq_true] at h
      exact PSs_imp (pss_cons (sS s o x h.1) (sSs r o x h.2)) fun D0 σV H hq => seq_imp hq
end
end
end Rf
end

section
set_option maxRecDepth 100000
set_option maxHeartbeats 16000000
set_option autoImplicit false
namespace Rf
open PySem PySem.Spec PyProof.Rows L2

/-! ## statements that raise -/
section
variable {X : Cx}
theorem pmk_none {x : Str} {p pos : Pos} (e : ExcOk X.K X.mg x) (hg : Gl X x) (hdb : (x == ("__debug__" : Str)) = false) : PMk X (.Call (.Name x p) [] [] pos) (fun _ H Q => Q (.ref (He.ga X.K x)) none H) := fun pins s σ H Q I q => by
  refine wpAny_Call_Name_kw (ld_glob I hg e.m ?_ hdb)
  refine PySem.W.callWith_K0 (first := []) I.kIn e.kp ?_
  obtain ⟨_, _, _, _, _, _, _, _, _, _, _, _, _, _, _, _, _, hC, hN, hni, T⟩ := exc_obj I.kIn e.f
  refine wpAny_call_exc_subT PySem.F.excBase_ValueError T hC hN hni (fun h' e' hm => ?_) (Nat.zero_le _)
  exact mk_of I hm (raises_own e.sub e.ty) q (I.hok.gone hm.new)
theorem PS.fromNox {s : Stmt} {t : TS} (h : PS X.nox s t) : PS X s t := ⟨fun pins s σ H D I hw =>
  wpAny_mono (h.run pins s σ H D (I.wish _) hw) (fun _ _ q => q.unwish) fun _ _ z => False.elim z⟩
theorem PS_or {s : Stmt} {t t' : TS} (h : PS X s t) (h' : PS X s t') : PS X s (fun D σ H => t D σ H ∨ t' D σ H) := ⟨fun pins s σ H D I q => by
  rcases q with q | q
  · exact h.run pins s σ H D I q
  · exact h'.run pins s σ H D I q⟩
end
section
variable (K : PySem.W.Frag) (G : Nat → Option D) (c : Cal) (W : Nat)
def tSX (s : S) (Ex : XK) : TS := fun _ σV H => ∃ B L σ St y S', Wd K B L St H ∧ REnv K B L H σ σV ∧ svX G c W s σ St = some (y, S') ∧ PostX K B L H S' y Ex
def tSsX (s : Ss) (Ex : XK) : TS := fun _ σV H => ∃ B L σ St y S', Wd K B L St H ∧ REnv K B L H σ σV ∧ svsX G c W s σ St = some (y, S') ∧ PostX K B L H S' y Ex
end
theorem PostX.on {K : PySem.W.Frag} {B B1 : Addr → Prop} {L L1 : List Addr} {H H1 : Hp} {S S1 S' : Sto} {y : Str} {Ex : XK} (q : PostX K B L H S' y Ex) (w : Wd K B L S H) (w1 : Wd K B1 L1 S1 H1) (m : Mv B L H B1 L1 H1) : PostX K B1 L1 H1 S' y Ex :=
  fun B2 L2 H2 m2 w2 => q B2 L2 H2 (m.trans m2 w w1) w2
section
variable {T : Tab} {G : Nat → Option D} {W k : Nat} {N : List Str} {sc : Scope} {X : Cx} {Ex : XK}
theorem CO.nox (o : CO T G W k N sc X) : CO T G W k N sc X.nox :=
  ⟨o.names, o.nd, o.calm, o.room, o.vis, o.loc, o.gl, o.cf, o.bl, o.gcd, o.glob, o.fns, o.exc, o.gfn, fun g t x h => ⟨(o.lam g t x h).d, (o.lam g t x h).tb, (o.lam g t x h).room⟩, o.hi⟩
theorem sEX (o : CO T G W k N sc X) (px : Passes (L2.CX X.prog X.w) X Ex) {a : E} {e : Expr} (h : chkE T N sc a e = true) : PE X e (fun σV H _ => tEvX X.K G (runF G T.fns W k) a Ex σV H) := by
  have no : (∀ σ S, evX G (runF G T.fns W k) a σ S = none) → PE X e (fun σV H _ => tEvX X.K G (runF G T.fns W k) a Ex σV H) := fun hn => ⟨fun pins s σ H Q I q => by
    obtain ⟨B, L, σ', S, y, S', w, r, ee, _⟩ := q
    rw [hn] at ee
    cases ee⟩
  cases a with
  | call f es =>
    unfold chkE at h
    split at h
    · simp only [Bool.and_eq_true, decide_eq_true_eq] at h
      obtain ⟨⟨⟨h1, h2, gk⟩, h3⟩, h4⟩ := h
      exact PE_imp (own_both o px h1 h2 gk h3 (sEs es o h4) (args_len h4)) fun _ _ _ q => .inr q
    · cases h
  | callK f ks perm es zs =>
    unfold chkE at h
    split at h
    · simp only [Bool.and_eq_true, decide_eq_true_eq] at h
      obtain ⟨⟨⟨⟨⟨⟨h1, h2, gk⟩, h3⟩, h4⟩, h5⟩, h6⟩, h7⟩ := h
      exact PE_imp (ownK_both o px h1 h2 gk h3 h4 h5 (sEs es o h6) (sKs zs o h7) (args_len h6) (fun e => evs_len h6 e) fun e => evs_len h7 e) fun _ _ _ q => .inr q
    · cases h
  | _ => exact no fun σ S => by unfold evX; rfl
structure SXX (sc : Scope) (X : Cx) (Ex : XK) : Prop where
  scope : X.env.scope = sc
  kind : sc.kind = .function
  px : Passes (L2.CX X.prog X.w) X Ex
  tk : Takes X fun cls d _ H => Ex cls d H
theorem SXX.nox (x : SXX sc X Ex) : SX sc X.nox := ⟨x.scope, x.kind, rfl⟩
mutual
theorem sSX (s : S) : ∀ {st : Stmt}, CO T G W k N sc X → SXX sc X Ex → chkS T N sc s st = true → PS X st (tSX X.K G (runF G T.fns W k) W s Ex) := by
  intro st o x h
  have no : (∀ σ S, svX G (runF G T.fns W k) W s σ S = none) → PS X st (tSX X.K G (runF G T.fns W k) W s Ex) := fun hn => ⟨fun pins s σ H Q I q => by
    obtain ⟨B, L, σ', S, y, S', w, r, ee, _⟩ := q
    rw [hn] at ee
    cases ee⟩
  cases s with
  | exp e =>
    cases st with
    | Expr v pos =>
      simp only [chkS, Bool.and_eq_true] at h
      refine PS_imp (ps_expr (sEX o x.px h.2) (noComp_ok h.1)) fun D0 σV H hq => ?_
      obtain ⟨B, L, σ, S, y, S', w, r, ee, q⟩ := hq
      unfold svX at ee
      exact ⟨B, L, σ, S, y, S', w, r, ee, q⟩
    | _ => cases h
  | ret e =>
    cases st with
    | Return v pos =>
      cases v with
      | none => cases h
      | some v =>
        simp only [chkS] at h
        refine PS_imp (ps_ret (sEX o x.px h)) fun D0 σV H hq => ?_
        obtain ⟨B, L, σ, S, y, S', w, r, ee, q⟩ := hq
        unfold svX at ee
        exact ⟨B, L, σ, S, y, S', w, r, ee, q⟩
    | _ => cases h
  | rais y0 =>
    cases st with
    | Raise e cz pos =>
      cases cz with
      | none =>
        simp only [chkS] at h
        split at h
        · simp only [Bool.and_eq_true, decide_eq_true_eq] at h
          obtain ⟨⟨h1, h2⟩, h3⟩ := h
          subst h1
          obtain ⟨g1, g2⟩ := glB_ok h2
          refine PS_imp (ps_raise o.calm x.tk (pmk_none (o.exc _ h3) (o.gl _ g1) g2)) fun D0 σV H hq => ?_
          obtain ⟨B, L, σ, S, y, S', w, r, ee, q⟩ := hq
          unfold svX at ee
          cases ee
          exact q B L H (Mv.refl B L H) w
        · cases h
      | some _ => cases h
    | _ => cases h
  | ite t a b =>
    cases st with
    | If y z u pos =>
      simp only [chkS, Bool.and_eq_true] at h
      obtain ⟨⟨h1, h2⟩, h3⟩ := h
      refine PS_imp (ps_if (sT t o h1) (sSsX a o x h2) (sSsX b o x h3)) fun D0 σV H hq => ?_
      obtain ⟨B, L, σ, S, y, S', w, r, ee, q⟩ := hq
      unfold svX at ee
      split at ee
      · rename_i S1 e1
        refine tst w r e1 fun B1 L1 H1 m w1 r1 => ?_
        rw [if_pos rfl]
        exact ⟨B1, L1, σ, S1, y, S', w1, r1, ee, q.on w w1 m⟩
      · rename_i S1 e1
        refine tst w r e1 fun B1 L1 H1 m w1 r1 => ?_
        rw [if_neg Bool.false_ne_true]
        exact ⟨B1, L1, σ, S1, y, S', w1, r1, ee, q.on w w1 m⟩
      · cases ee
    | _ => cases h
  | _ => exact no fun σ S => by unfold svX; rfl
theorem sSsX (r : Ss) : ∀ {sts : List Stmt}, CO T G W k N sc X → SXX sc X Ex → chkSs T N sc r sts = true → PSs X sts (tSsX X.K G (runF G T.fns W k) W r Ex) := by
  intro sts o x h
  cases r with
  | nil => exact ⟨fun pins s σ H Q I q => by
      obtain ⟨B, L, σ', S, y, S', w, r, ee, _⟩ := q
      unfold svsX at ee
      cases ee⟩
  | cons s r =>
    cases sts with
    | nil => cases h
    | cons y ys =>
      simp only [chkSs, Bool.and_eq_true] at h
      refine PSs_imp (pss_cons (PS_or (sSX s o x h.1) (PS.fromNox (sS s o.nox x.nox h.1))) (sSsX r o x h.2)) fun D0 σV H hq => ?_
      obtain ⟨B, L, σ, S, y, S', w, rn, ee, q⟩ := hq
      unfold svsX at ee
      split at ee
      · rename_i σ1 S1 e2
        exact .inr ⟨B, L, σ, S, .nx, σ1, S1, w, rn, e2, fun σV' B1 L1 H1 m w1 r1 => ⟨B1, L1, σ1, S1, y, S', w1, r1, ee, q.on w w1 m⟩⟩
      · cases ee
      · exact .inl ⟨B, L, σ, S, y, S', w, rn, ee, q⟩
end
end
end Rf
end

section
set_option maxRecDepth 100000
set_option maxHeartbeats 16000000
set_option autoImplicit false
namespace Rf
open PySem PySem.Spec PyProof.Rows L2

/-! ## own lists become values at a def's end -/
theorem mapO_cons {α β : Type} {f : α → Option β} {x : α} {xs : List α} {zs : List β} (h : mapO f (x :: xs) = some zs) : ∃ y ys, f x = some y ∧ mapO f xs = some ys ∧ zs = y :: ys := by
  unfold mapO at h
  split at h
  · split at h
    · cases h; exact ⟨_, _, by assumption, by assumption, rfl⟩
    · cases h
  · cases h
theorem mapO_len {α β : Type} {f : α → Option β} : ∀ {xs : List α} {ys : List β}, mapO f xs = some ys → ys.length = xs.length
  | [], ys, h => by cases h; rfl
  | x :: xs, zs, h => by
    obtain ⟨y, ys, h1, h2, rfl⟩ := mapO_cons h
    exact congrArg Nat.succ (mapO_len h2)
theorem mapO_get {α β : Type} {f : α → Option β} : ∀ {xs : List α} {ys : List β} {i : Nat} {y : β}, mapO f xs = some ys → ys[i]? = some y → ∃ x, xs[i]? = some x ∧ f x = some y
  | [], ys, i, y, h, g => by cases h; simp at g
  | x :: xs, zs, i, y, h, g => by
    obtain ⟨y', ys, h1, h2, rfl⟩ := mapO_cons h
    cases i with
    | zero => simp at g; subst g; exact ⟨x, rfl, h1⟩
    | succ i =>
      obtain ⟨x', e1, e2⟩ := mapO_get (i := i) h2 (by simpa using g)
      exact ⟨x', by simpa using e1, e2⟩
section
variable {K : PySem.W.Frag} {B B' : Addr → Prop} {L L' : List Addr} {H H' : Hp} {S S' : Sto}
theorem frz_ok {new : List Addr} (w : Wd K B (L ++ new) S H) (hn : ∀ a ∈ new, a ∉ L) : ∀ (k : Nat) {d d' : D} {v : V}, Rp K B (L ++ new) H d v → frz S L.length k d = some d' → Rp K (fun a => B a ∧ a ∉ new) L H d' v
  | 0, d, d', v, r, e => by cases e
  | k + 1, d, d', v, r, e => by
    have many : ∀ {xs ys : List D} {vs : List V}, Rps K B (L ++ new) H xs vs → mapO (frz S L.length k) xs = some ys → Rps K (fun a => B a ∧ a ∉ new) L H ys vs := by
      intro xs
      induction xs with
      | nil => intro ys vs r e; cases r; cases e; exact .nil
      | cons x xs ih =>
        intro ys vs r e
        obtain ⟨y, zs, e1, e2, rfl⟩ := mapO_cons e
        cases r with
        | cons a b => exact .cons (frz_ok w hn k a e1) (ih b e2)
    cases r with
    | non => unfold frz at e; cases e; exact .non
    | bl b => unfold frz at e; cases e; exact .bl b
    | int b => unfold frz at e; cases e; exact .int b
    | str b => unfold frz at e; cases e; exact .str b
    | dct h => unfold frz at e; cases e; exact .dct h
    | tup h q =>
      unfold frz at e
      obtain ⟨ys, e1, rfl⟩ := Option.map_eq_some_iff.mp e
      exact .tup h (many q e1)
    | lst h n q =>
      unfold frz at e
      obtain ⟨ys, e1, rfl⟩ := Option.map_eq_some_iff.mp e
      exact .lst h (fun z => n z.1) (many q e1)
    | fro h q =>
      unfold frz at e
      obtain ⟨ys, e1, rfl⟩ := Option.map_eq_some_iff.mp e
      exact .fro (h.elim .inl fun h => .inr (h.elim (fun z => .inl ⟨z.1, fun b => z.2 b.1⟩) .inr)) (many q e1)
    | @loc n a h =>
      unfold frz at e
      split at e
      · rename_i hl
        cases e
        exact .loc (by rw [List.getElem?_append_left hl] at h; exact h)
      · rename_i hl
        obtain ⟨xs, e1, e2⟩ := Option.bind_eq_some_iff.mp e
        obtain ⟨ys, e3, rfl⟩ := Option.map_eq_some_iff.mp e2
        obtain ⟨b, vs, f1, f2, f3⟩ := w.sto n xs e1
        rw [h] at f1; cases f1
        have hnew : a ∈ new := by
          rw [List.getElem?_append_right (by omega)] at h
          exact List.mem_of_getElem? h
        exact .lst f2 (fun z => z.2 hnew) (many f3 e3)
theorem frz_all {new : List Addr} (w : Wd K B (L ++ new) S H) (hn : ∀ a ∈ new, a ∉ L) (k : Nat) : ∀ {xs ys : List D} {vs : List V}, Rps K B (L ++ new) H xs vs → mapO (frz S L.length k) xs = some ys → Rps K (fun a => B a ∧ a ∉ new) L H ys vs
  | [], ys, vs, r, e => by cases r; cases e; exact .nil
  | x :: xs, ys, vs, r, e => by
    obtain ⟨y, zs, e1, e2, rfl⟩ := mapO_cons e
    cases r with
    | cons a b => exact .cons (frz_ok w hn k a e1) (frz_all w hn k b e2)
theorem fin_ok {keep : Bool} {d d' : D} {v : V} {S0 : Sto} (w0 : Wd K B L S0 H) (m : Mv B L H B' L' H') (w : Wd K B' L' S H') (r : Rp K B' L' H' d v) (e : fin keep S0.length d S = some (d', S')) :
    ∃ B2 L2, Mv B L H B2 L2 H' ∧ Wd K B2 L2 S' H' ∧ Rp K B2 L2 H' d' v := by
  unfold fin at e
  split at e
  · cases e; exact ⟨B', L', m, w, r⟩
  · split at e
    · rename_i d1 e1
      split at e
      · rename_i S1 e2
        cases e
        obtain ⟨new, en, fn⟩ := m.pre
        subst en
        have nL : ∀ a ∈ new, a ∉ L := fun a h z => w0.tracked (w0.sub a z) (fn a h)
        rw [← w0.len] at e1 e2
        have hB : ∀ a, B' a ∧ a ∉ new → ∃ vs, H' a = some (.lst vs) := fun a z => w.lists a z.1
        refine ⟨fun a => B' a ∧ a ∉ new, L, ⟨fun a b => ⟨m.up a b, fun z => w0.tracked b (fn a z)⟩, fun a b => m.dn a b.1, ⟨[], (List.append_nil L).symm, fun _ h => nomatch h⟩, m.ext⟩, ⟨fun a h => ⟨w.sub a (List.mem_append_left _ h), fun z => nL a z h⟩, w0.nd, hB, ?_, fun n xs q => ?_, w.tabs⟩, frz_ok w nL 20 r e1⟩
        · rw [mapO_len e2, List.length_take, ← w.len, List.length_append]; omega
        · obtain ⟨ys, g1, g2⟩ := mapO_get e2 q
          have hlt : n < L.length := by
            have z := (List.getElem?_eq_some_iff.mp q).1
            rw [mapO_len e2, List.length_take] at z
            omega
          rw [List.getElem?_take, if_pos hlt] at g1
          obtain ⟨a, vs, f1, f2, f3⟩ := w.sto n ys g1
          rw [List.getElem?_append_left hlt] at f1
          exact ⟨a, vs, f1, f2, frz_all w nL 20 f3 g2⟩
      · cases e
    · cases e
theorem beg_env {fn : Fn} {ds : List D} {vs : List V} (r : Rps K B L H ds vs) : REnv K B L H (beg fn ds) (L2.start fn.N vs) := by
  have hl := r.length
  refine ⟨by unfold beg L2.start; simp only [List.length_append, List.length_map, List.length_replicate, hl], fun i d e => ?_⟩
  unfold beg at e
  unfold L2.start
  by_cases hi : i < ds.length
  · rw [List.getElem?_append_left (by simpa using hi), List.getElem?_map] at e
    obtain ⟨x, e1, e2⟩ := Option.map_eq_some_iff.mp e
    cases e2
    obtain ⟨v, g1, g2⟩ := r.get e1
    refine ⟨v, ?_, g2⟩
    rw [List.getElem?_append_left (by rw [List.length_map, ← hl]; exact hi), List.getElem?_map, g1]
    rfl
  · rw [List.getElem?_append_right (by simpa using hi), List.getElem?_replicate] at e
    split at e
    · cases e
    · cases e
end

/-! ## a def -/
def scC (N P : List Str) (sc : Scope) : Bool :=
  decide (sc.kind = .function) && !sc.isCoroutine && !sc.isGenerator && decide N.Nodup && decide (N.take P.length = P) && P.all (fun x => decide (sc.names.lookup x = some .local) || decide (sc.names.lookup x = some .cell)) && sc.names.all (fun y => !decide (y.2 = .free))
theorem scC_ok {N P : List Str} {sc : Scope} (h : scC N P sc = true) : FnScope N P sc := by
  unfold scC at h
  simp only [Bool.and_eq_true, Bool.not_eq_true', decide_eq_true_eq, List.all_eq_true, Bool.or_eq_true, decide_eq_false_iff_not] at h
  obtain ⟨⟨⟨⟨⟨⟨h1, h2⟩, h3⟩, h4⟩, h5⟩, h6⟩, h7⟩ := h
  exact ⟨h1, h2, h3, h4, h5, h6, h7⟩
structure Frow (T : Tab) (f : Nat) (fn : Fn) (params : Arguments) (body : List Stmt) (scope : Scope) : Prop where
  np : fn.np ≤ fn.N.length
  sc : scC fn.N (fn.N.take fn.np) scope = true
  ok : chkSs (T.at_ fn.name) fn.N scope fn.body body = true
  bind : ∀ (kV doc pm : Value) (an : Option Addr) (cdv ct : Value) (us : List Value), us.length = fn.np → bindArgs (PySem.W.fnOf fn.name fn.name params body scope .none kV doc pm an cdv ct) ⟨us, []⟩ = pure ((fn.N.take fn.np).zip us)
  kw : ∀ n ks perm, (f, n, ks, perm) ∈ T.kws → ∀ (kV doc pm : Value) (an : Option Addr) (cdv ct : Value) (us ws : List Value), us.length = n → ws.length = ks.length →
    bindArgs (PySem.W.fnOf fn.name fn.name params body scope .none kV doc pm an cdv ct) ⟨us, ks.zip ws⟩ = pure ((fn.N.take fn.np).zip (us ++ pick perm ws))
theorem Frow.kbn {K : PySem.W.Frag} {T : Tab} {f : Nat} {fn : Fn} {params : Arguments} {body : List Stmt} {scope : Scope} {fa : Addr} {fd : FuncData} (R : Frow T f fn params body scope) (F : FunD K fn.name fn.name params body scope [] [] fa fd)
    {n : Nat} {ks : List Str} {perm : List Nat} (h : (f, n, ks, perm) ∈ T.kws) : KBn K fd (fn.N.take fn.np) n ks (fun us ws => us ++ pick perm ws) (fun us ws => us ++ pick perm ws) := by
  obtain ⟨oc, od, dV, kV, doc, pm, an, cdv, ct, osl, rfl, lk, hcd, hD, hK⟩ := F.ex
  rcases hD with ⟨_, rfl⟩ | ⟨e, _⟩
  · exact ⟨fun s us ws _ l1 l2 => .of_eq (R.kw n ks perm h kV doc pm an cdv ct us ws l1 l2), fun r rz => r.append (vals_pick rz perm)⟩
  · exact absurd rfl e
structure Pg (T : Tab) (G : Nat → Option D) (K : PySem.W.Frag) (mg : Str → Option Value) : Prop where
  bl : ∀ x ∈ builtNames, mg x = none
  gcd : T.gcd = true → mg "gcd" = some (.builtin "math.gcd")
  glob : ∀ (g : Nat) (x : Str), T.glob g = some x → ∃ v u, mg x = some u ∧ RelV v u ∧ ∀ d, G g = some d → ∀ B L H, Rp K B L H d v
  fns : ∀ (f : Nat) (fn : Fn), T.fns f = some fn → ∃ fa fd params body scope, FunD K fn.name fn.name params body scope [] [] fa fd ∧ mg fn.name = some (.ref fa) ∧ Frow T f fn params body scope ∧ fa = He.ga K fn.name
  exc : ∀ x ∈ T.exc, ExcOk K mg x
  told : ∀ g t x, T.told = some (g, t, x) → ToldD K mg g t x
  mkr : ∀ g t x, T.told = some (g, t, x) → ∀ (f : Nat) (fn : Fn), T.fns f = some fn → makers.contains fn.name = true → isMk K fn.name = true
  hu : ∀ p ∈ tabsK K, ∀ q ∈ tabsK K, p.1 = q.1 → p.2 = q.2
  hi : ∀ (f : Nat) (fn : Fn), T.fns f = some fn → T.fns (f + rzN) = none
section
variable {P : Program} {w : World} {K : PySem.W.Frag} {mg : Str → Option Value} {base : Heap} {T : Tab} {G : Nat → Option D} {W : Nat}
theorem runF_succ {k f : Nat} {fn : Fn} {ds : List D} {S S' : Sto} {d : D} {fs : Nat → Option Fn} (hf : fs f = some fn) (h : runF G fs W (k + 1) f ds S = some (d, S')) : ds.length = fn.np ∧ ∃ fl σ' S1, svs G (runF G fs W k) W fn.body (beg fn ds) S = some (fl, σ', S1) ∧
    (match fl with
      | .rt d0 => fin fn.keep S.length d0 S1 = some (d, S')
      | .nx => fin fn.keep S.length .non S1 = some (d, S')
      | _ => False) := by
  unfold runF at h
  rw [hf] at h
  dsimp only at h
  split at h
  · rename_i hl
    split at h
    · rename_i e; exact ⟨hl, _, _, _, e, (show _ = _ from h)⟩
    · rename_i e; exact ⟨hl, _, _, _, e, (show _ = _ from h)⟩
    · cases h
  · cases h
theorem runX_succ {k f : Nat} {fn : Fn} {ds : List D} {S S' : Sto} {d : D} {fs : Nat → Option Fn} (hf : fs f = some fn) (hn : fs (f + rzN) = none) (h : runF G fs W (k + 1) (f + rzN) ds S = some (d, S')) :
    ∃ y S1, svsX G (runF G fs W k) W fn.body (beg fn ds) S = some (y, S1) ∧ fin fn.keep S.length (.str y) S1 = some (d, S') := by
  unfold runF at h
  rw [hn] at h
  dsimp only at h
  rw [if_pos (Nat.le_add_left _ _), Nat.add_sub_cancel, hf] at h
  dsimp only at h
  split at h
  · split at h
    · exact ⟨_, _, by assumption, h⟩
    · cases h
  · cases h
theorem fin_str {keep : Bool} {n : Nat} {y z : Str} {S S' : Sto} (e : fin keep n (.str y) S = some (.str z, S')) : z = y := by
  unfold fin at e
  split at e
  · cases e; rfl
  · split at e
    · rename_i d1 e1
      split at e
      · cases e
        unfold frz at e1
        cases e1
        rfl
      · cases e
    · cases e
/-- a def's rule, its code object at hand -/
theorem funD_code {CX : CXT} {N ps : List Str} {x : Str} {params : Arguments} {body : List Stmt} {scope : Scope} {k : Nat} {f : Addr} {fd : FuncData} {sp : Sp} (F : FunD K x x params body scope [] [] f fd) (S : FnScope N ps scope) (len : ∀ vs H Q E, sp vs H Q E → vs.length = ps.length)
    (hb : ∀ (cdv : Value), (∃ oc od osl, K.lookup f = some ⟨oc, od, .func fd, osl⟩) → fd.code = cdv → PySem.W.codeIn K cdv x = true → ∀ (A : Around) (outer : List PySem.Env) (s : Shared) (H : Hp) (vs : List V) (Q : VK) (E : XK), Room k (A.deeper (envOfC x scope s.heap.objs.size f cdv)) → sp vs H Q E →
      ∃ t, PSs (cxOf CX P w K mg base N x scope f cdv A outer s H E) body t ∧ t { nx := fun _ H' => Q .non H', rt := Q } (L2.start N vs) H) : FnOk P w K mg base CX (k + 1) f fd ps sp := by
  obtain ⟨oc, od, _, _, _, _, _, cdv, _, osl, rfl, lk, hcd, _, _⟩ := F.ex
  exact fn_of lk hcd S len fun A outer s H vs Q E hr z => hb cdv ⟨oc, od, osl, lk⟩ rfl hcd A outer s H vs Q E hr z
theorem co_of {T1 : Tab} {k : Nat} {N : List Str} {sc : Scope} {X : Cx} (o : CO { T1 with told := none } G W k N sc X) (hl : ∀ g t x, T1.told = some (g, t, x) → LamOk X k g t x) : CO T1 G W k N sc X :=
  ⟨o.names, o.nd, o.calm, o.room, o.vis, o.loc, o.gl, o.cf, o.bl, o.gcd, o.glob, o.fns, o.exc, o.gfn, hl, o.hi⟩
theorem at_told {n : Str} {g : Str} {t : Bool} {x : Str} (h : (T.at_ n).told = some (g, t, x)) : makers.contains n = true ∧ T.told = some (g, t, x) := by
  unfold Tab.at_ at h
  dsimp only at h
  split at h
  · exact ⟨by assumption, h⟩
  · cases h
theorem funD_codeG {CX : CXT} {N ps : List Str} {x : Str} {params : Arguments} {body : List Stmt} {scope : Scope} {k : Nat} {f : Addr} {fd : FuncData} {sp : Sp} (F : FunD K x x params body scope [] [] f fd) (S : FnScope N ps scope) (ar : ∀ {vs H Q E}, sp vs H Q E → vs.length = ps.length)
    (hb : ∀ (cdv : Value), (∃ oc od osl, K.lookup f = some ⟨oc, od, .func fd, osl⟩) → fd.code = cdv → PySem.W.codeIn K cdv x = true → ∀ (A : Around) (outer : List PySem.Env) (s : Shared) (H : Hp) (vs : List V) (Q : VK) (E : XK), A.guards = some [] → Room k (A.deeper (envOfC x scope s.heap.objs.size f cdv)) → sp vs H Q E →
      ∃ t, PSs (cxOf CX P w K mg base N x scope f cdv A outer s H E) body t ∧ t { nx := fun _ H' => Q .non H', rt := Q } (L2.start N vs) H) : FnG P w K mg base CX (k + 1) f fd ps sp := by
  obtain ⟨oc, od, _, _, _, _, _, cdv, _, osl, rfl, lk, hcd, _, _⟩ := F.ex
  exact fnG_of lk hcd S ar fun A outer s H vs Q E gA hr z => hb cdv ⟨oc, od, osl, lk⟩ rfl hcd A outer s H vs Q E gA hr z
/-- what all defs are below k calls -/
def AllK (P : Program) (w : World) (K : PySem.W.Frag) (mg : Str → Option Value) (base : Heap) (T : Tab) (G : Nat → Option D) (W k : Nat) : Prop :=
  ∀ (f : Nat) (fn : Fn) (fa : Addr) (fd : FuncData) (params : Arguments) (body : List Stmt) (scope : Scope), T.fns f = some fn → fa = He.ga K fn.name → FunD K fn.name fn.name params body scope [] [] fa fd → Frow T f fn params body scope →
    (T.gns.contains fn.name = false → FnOk P w K mg base (L2.CX P w) (3 * k) fa fd (fn.N.take fn.np) (spF K G T.fns W k f fn.np)) ∧ FnG P w K mg base (L2.CX P w) (3 * k) fa fd (fn.N.take fn.np) (spF K G T.fns W k f fn.np)
theorem body_ok (p : Pg T G K mg) (hTB : ∀ x ∈ mksK K, LamX.TabB base mg (He.cT K (x, none)).1 (He.cT K (x, none)).2) {k f : Nat} (ih : AllK P w K mg base T G W k) {fn : Fn} {fa : Addr} {fd : FuncData} {params : Arguments} {body : List Stmt} {scope : Scope}
    (hf : T.fns f = some fn) (hfa : fa = He.ga K fn.name) (R : Frow T f fn params body scope) (S0 : FnScope fn.N (fn.N.take fn.np) scope) {cdv : Value} (lk : ∃ oc od osl, K.lookup fa = some ⟨oc, od, .func fd, osl⟩) (hc : fd.code = cdv) (hcd : PySem.W.codeIn K cdv fn.name = true)
    {A : Around} {outer : List PySem.Env} {s : Shared} {H : Hp} {vs : List V} {Q : VK} {E : XK} (gA : (T.at_ fn.name).grd = true → A.guards = some []) (hr : Room (3 * k + 2) (A.deeper (envOfC fn.name scope s.heap.objs.size fa cdv))) (z : spF K G T.fns W (k + 1) f fn.np vs H Q E) :
    ∃ t, PSs (cxOf (L2.CX P w) P w K mg base fn.N fn.name scope fa cdv A outer s H E) body t ∧ t { nx := fun _ H' => Q .non H', rt := Q } (L2.start fn.N vs) H := by
  have co0 : CO { T.at_ fn.name with told := none } G W k fn.N scope (cxOf (L2.CX P w) P w K mg base fn.N fn.name scope fa cdv A outer s H E) := by
    refine ⟨rfl, S0.nd, rfl, hr.mono (by omega), fun x h => h, fun x h => ⟨h, .inl rfl⟩, fun x h => h, fun x h => h, p.bl, p.gcd, p.glob, fun g gn hg hn => ?_, p.exc, fun z => ⟨gA z, fun g gn hg => ?_⟩, fun g t x h => (by cases h), p.hi⟩
    · obtain ⟨ga, gd, pa, bo, sc, FG, mG, RG, hga⟩ := p.fns g gn hg
      have hpg : (gn.N.take gn.np).length = gn.np := by rw [List.length_take]; have := RG.np; omega
      exact ⟨ga, gd, _, (ih g gn ga gd pa bo sc hg hga FG RG).1 hn, mG, FG.kp, FG.bindsN fun kV doc pm an cdv ct us hl => RG.bind kV doc pm an cdv ct us (by rw [hl, hpg]), fun n ks perm hk => RG.kbn FG hk⟩
    · obtain ⟨ga, gd, pa, bo, sc, FG, mG, RG, hga⟩ := p.fns g gn hg
      have hpg : (gn.N.take gn.np).length = gn.np := by rw [List.length_take]; have := RG.np; omega
      exact ⟨ga, gd, _, (ih g gn ga gd pa bo sc hg hga FG RG).2, mG, FG.kp, FG.bindsN fun kV doc pm an cdv ct us hl => RG.bind kV doc pm an cdv ct us (by rw [hl, hpg])⟩
  have co : CO (T.at_ fn.name) G W k fn.N scope (cxOf (L2.CX P w) P w K mg base fn.N fn.name scope fa cdv A outer s H E) := by
    refine co_of co0 fun g t x h => ?_
    obtain ⟨h1, h2⟩ := at_told h
    have hm := p.mkr g t x h2 f fn hf h1
    have hmem : fn.name ∈ mksK K := by
      unfold mksK
      exact List.mem_filter.mpr ⟨by simpa using h1, hm⟩
    have htab : ((He.cT K (fn.name, none)).2, (fn.name ++ ".<locals>.") ++ "<lambda>") ∈ tabsK K := List.mem_map.mpr ⟨fn.name, hmem, rfl⟩
    refine ⟨p.told g t x h2, ⟨(He.cT K (fn.name, none)).1, (He.cT K (fn.name, none)).2, ?_, hTB _ hmem, htab, fun q hq e => p.hu q hq _ htab e⟩, hr⟩
    obtain ⟨oc, od, osl, lk⟩ := lk
    obtain ⟨c, rfl⟩ := He.codeIn_ref hcd
    have ec : He.codeOf K (fn.name, none) = c := He.codeOf_eq (p := (fn.name, none)) (show K.lookup (He.ga K fn.name) = _ by rw [← hfa]; exact lk) hc
    show Value.ref c = Value.ref (He.codeOf K (fn.name, none))
    rw [ec]
  obtain ⟨B, L, S, ds, wd, r, hl, hz⟩ := z
  rcases hz with ⟨d, S', e, q⟩ | ⟨y, S', e, q⟩
  · have sx : SX scope (cxOf (L2.CX P w) P w K mg base fn.N fn.name scope fa cdv A outer s H E).nox := ⟨rfl, S0.kind, rfl⟩
    refine ⟨_, PSs.nox (sSs fn.body co.nox sx R.ok), ?_⟩
    obtain ⟨_, fl, σ', S1, e1, e2⟩ := runF_succ hf e
    refine ⟨B, L, beg fn ds, S, fl, σ', S1, wd, beg_env r, e1, fun σV' B1 L1 H1 m w1 r1 => ?_⟩
    cases fl with
    | nx =>
      obtain ⟨B2, L2, m2, w2, r2⟩ := fin_ok wd m w1 .non e2
      exact q _ B2 L2 H1 m2 w2 r2
    | rt d0 =>
      intro v rv
      obtain ⟨B2, L2, m2, w2, r2⟩ := fin_ok wd m w1 rv e2
      exact q _ B2 L2 H1 m2 w2 r2
    | bk => exact e2.elim
    | ct => exact e2.elim
  · have tk : Takes (cxOf (L2.CX P w) P w K mg base fn.N fn.name scope fa cdv A outer s H E) fun cls d _ H => E cls d H := takes_of (X := cxOf (L2.CX P w) P w K mg base fn.N fn.name scope fa cdv A outer s H E) (E := E) rfl rfl rfl rfl
    have px : Passes (L2.CX P w) (cxOf (L2.CX P w) P w K mg base fn.N fn.name scope fa cdv A outer s H E) E := passes_call (X := cxOf (L2.CX P w) P w K mg base fn.N fn.name scope fa cdv A outer s H E) (W := fun cls d _ H => E cls d H) (E := E) tk fun _ _ _ _ h => h
    have sx : SXX scope (cxOf (L2.CX P w) P w K mg base fn.N fn.name scope fa cdv A outer s H E) E := ⟨rfl, S0.kind, px, tk⟩
    refine ⟨_, sSsX fn.body co sx R.ok, ?_⟩
    obtain ⟨y1, S1, e1, e2⟩ := runX_succ hf (p.hi f fn hf) e
    obtain rfl := fin_str e2
    refine ⟨B, L, beg fn ds, S, y, S1, wd, beg_env r, e1, fun B1 L1 H1 m w1 => ?_⟩
    obtain ⟨B2, L2, m2, w2, _⟩ := fin_ok (d' := .str y) wd m w1 (.str y) e2
    exact q B2 L2 H1 m2 w2
theorem all_ok (p : Pg T G K mg) (hTB : ∀ x ∈ mksK K, LamX.TabB base mg (He.cT K (x, none)).1 (He.cT K (x, none)).2) : ∀ k : Nat, AllK P w K mg base T G W k
  | 0 => fun f fn fa fd params body scope hf hfa F R => by
    have no : ∀ {vs : List V} {H : Hp} {Q : VK} {E : XK}, ¬ spF K G T.fns W 0 f fn.np vs H Q E := fun {vs H Q E} z => by
      obtain ⟨B, L, S, ds, _, _, _, ⟨d, S', e, _⟩ | ⟨y, S', e, _⟩⟩ := z
      · unfold runF at e; cases e
      · unfold runF at e; cases e
    have F0 : FnOk P w K mg base (L2.CX P w) (3 * 0) fa fd (fn.N.take fn.np) (spF K G T.fns W 0 f fn.np) := ⟨fun vs H Q E z => (no z).elim, fun A outer s H args us vs Q E _ _ _ _ z => (no z).elim⟩
    exact ⟨fun _ => F0, .of F0⟩
  | k + 1 => fun f fn fa fd params body scope hf hfa F R => by
    have ih := all_ok p hTB k
    have S0 := scC_ok R.sc
    have hps : (fn.N.take fn.np).length = fn.np := by rw [List.length_take]; have := R.np; omega
    have ek : 3 * (k + 1) = (3 * k + 2) + 1 := by omega
    have ar : ∀ {vs : List V} {H : Hp} {Q : VK} {E : XK}, spF K G T.fns W (k + 1) f fn.np vs H Q E → vs.length = (fn.N.take fn.np).length := by
      rintro vs H Q E ⟨B, L, S, ds, _, r, hl, _⟩
      rw [hps, ← hl, r.length]
    rw [ek]
    refine ⟨fun hn => ?_, ?_⟩
    · exact funD_code F S0 (fun vs H Q E z => ar z) fun cdv lk hc hcd A outer s H vs Q E hr z => body_ok p hTB ih hf hfa R S0 lk hc hcd (fun y => by
        have y' : T.gns.contains fn.name = true := y
        rw [hn] at y'
        cases y') hr z
    · exact funD_codeG F S0 ar fun cdv lk hc hcd A outer s H vs Q E gA hr z => body_ok p hTB ih hf hfa R S0 lk hc hcd (fun _ => gA) hr z
end
end Rf
end

section
set_option maxRecDepth 100000
set_option maxHeartbeats 4000000
set_option autoImplicit false
namespace Rf
open PySem PySem.Spec PyProof.Rows L2
/-! ## a law's root where nothing is being shown -/
def rootH (K : PySem.W.Frag) (ts : List Addr) (a : Addr) (u : HO) : Hp := fun b => if b ∈ ts then some (.tbl #[]) else if b = a ∧ (K.lookup a).isNone = true then some u else none
section
variable {K : PySem.W.Frag} {ts : List Addr} {a b : Addr} {u v : HO}
theorem rootH_or (h : rootH K ts a u b = some v) : (b ∈ ts ∧ v = .tbl #[]) ∨ (b = a ∧ K.lookup a = none ∧ v = u) := by
  unfold rootH at h
  split at h
  · cases h; exact .inl ⟨by assumption, rfl⟩
  · split at h
    · rename_i q
      cases h
      exact .inr ⟨q.1, Option.isNone_iff_eq_none.mp q.2, rfl⟩
    · cases h
theorem rootH_t (h : b ∈ ts) : rootH K ts a u b = some (.tbl #[]) := if_pos h
theorem rootH_a (h : a ∉ ts) (n : K.lookup a = none) : rootH K ts a u a = some u := by
  unfold rootH
  rw [if_neg h, if_pos ⟨rfl, by rw [n]; rfl⟩]
end
theorem root_call {P : Program} {w : World} {K : PySem.W.Frag} {mg mb : Str → Option Value} {CX : CXT} {k : Nat} {fa a : Addr} {cs : List (Addr × Addr)} {fd : FuncData} {x : Str} {sp : Sp} {st : Shared} {vs : List Value} {ns : List Int}
    (inK : K.In st.heap) (gl : st.heap.Ns mainGlobals mg) (bt : st.heap.Ns builtinsNs mb) (btw : ∀ x : Str, x ≠ "__name__" → mb x = bootBuiltins x) (nol : st.heap.NoLimit) (gens : st.gens = #[])
    (tab : ∀ p ∈ cs, st.heap.get? p.2 = some { cls := .none, data := .fields #[] }) (out : ∀ p ∈ cs, K.lookup p.2 = none) (hd : ∀ p ∈ cs, PySem.W.CodeHd st.heap p.1 p.2)
    (bmod : ∃ (bm : Addr) (ob : Obj), mg "__builtins__" = some (.ref bm) ∧ bm ≠ builtinsNs ∧ st.heap.get? bm = some ob ∧ ob.cls = .type "module" ∧ ob.dict = some builtinsNs ∧ ob.data = .plain)
    (scr : st.heap.get? a = some { cls := .type "list", data := .seq vs.toArray }) (whs : IntsAre vs ns) (few : ns.length ≤ sizeLine) (room : Room k callerA)
    (F : ∀ base : Heap, K.In base → base.Ns mainGlobals mg → (∀ p ∈ cs, LamX.TabB base mg p.1 p.2) → FnG P w K mg base CX k fa fd [x] sp) (bind : ∀ (s : Shared) (u : Value), BindsTo s fd ⟨[u], []⟩ [(x, u)])
    (prom : ∀ H : Hp, (∀ p ∈ cs, H p.2 = some (.tbl #[])) → SqL K H a (ns.map V.int) → sp [.ref a] H (fun v _ => v = .bl true) fun _ _ _ => False)
    (noX : ∀ H e s', CX [] H st (fun _ _ _ => False) e s' → False) :
    codeAny (model P w) callerA (.call (.ref fa) ⟨[.ref a], []⟩) (fun r s' => r = .ok (.ret (.bool true)) ∧ OldK st.heap s'.heap ∧ s'.os = st.os ∧ AllBare s'.gens) st := by
  have tabAt : ∀ b, b ∈ cs.map Prod.snd → st.heap.get? b = some { cls := .none, data := .fields #[] } ∧ K.lookup b = none ∧ ∃ p ∈ cs, p.2 = b := by
    intro b hb
    obtain ⟨p, hp, rfl⟩ := List.mem_map.mp hb
    exact ⟨tab p hp, out p hp, p, hp, rfl⟩
  have aT : a ∉ cs.map Prod.snd := by
    intro z
    have e := scr.symm.trans (tabAt a z).1
    have e2 := congrArg (fun o : Option Obj => o.map Obj.data) e
    simp at e2
  obtain ⟨H, eH⟩ : ∃ H, H = rootH K (cs.map Prod.snd) a (.frz { cls := .type "list", data := .seq vs.toArray } (.lst (ns.map V.int))) := ⟨_, rfl⟩
  have onT : ∀ p ∈ cs, H p.2 = some (.tbl #[]) := fun p hp => by rw [eH]; exact rootH_t (List.mem_map_of_mem hp)
  have ors : ∀ {b : Addr} {u : HO}, H b = some u → (b ∈ cs.map Prod.snd ∧ u = .tbl #[]) ∨ (b = a ∧ K.lookup a = none ∧ u = .frz { cls := .type "list", data := .seq vs.toArray } (.lst (ns.map V.int))) := fun h => rootH_or (by rw [← eH]; exact h)
  have rv := vals_ints whs
  have hok : HOk P w H st.heap := by
    intro b u z
    rcases ors z with ⟨hb, rfl⟩ | ⟨rfl, _, rfl⟩
    · exact (tabAt b hb).1
    · exact ⟨scr, by rw [List.length_map]; exact few, vs, _, rv, scr⟩
  have free : ∀ {b : Addr} {o : Obj}, st.heap.get? b = some o → (∀ (ws : Array Value) (n : Nat), o.data ≠ .seq ws n) → o.data ≠ .fields #[] → H b = none := by
    intro b o e n1 n2
    cases q : H b with
    | none => rfl
    | some u =>
      rcases ors q with ⟨hb, _⟩ | ⟨rfl, _, _⟩
      · have z := (tabAt b hb).1
        rw [e] at z
        cases z
        exact (n2 rfl).elim
      · rw [scr] at e
        cases e
        exact (n1 _ _ rfl).elim
  have kin : K.In (hidT st.heap H) := by
    intro b o e
    refine hidT_get (inK b o e) ?_
    cases q : H b with
    | none => rfl
    | some u =>
      rcases ors q with ⟨hb, _⟩ | ⟨rfl, z, _⟩
      · have z := (tabAt b hb).2.1
        rw [e] at z
        cases z
      · rw [e] at z
        cases z
  have nsb : ∀ {b : Addr} {m : Str → Option Value}, st.heap.Ns b m → (hidT st.heap H).Ns b m := by
    rintro b m ⟨o, es, ep, e, d, r⟩
    refine ⟨o, es, ep, hidT_get e (free e ?_ ?_), d, r⟩
    · intro ws n z
      rw [d] at z
      cases z
    · intro z
      rw [d] at z
      cases z
  have mod : Mod K mg (hidT st.heap H) := ⟨kin, nsb gl, ⟨mb, nsb bt, btw⟩, nol.elim fun mc z => ⟨mc, nsb z.1, z.2⟩⟩
  have tb : ∀ p ∈ cs, LamX.TabB (hidT st.heap H) mg p.1 p.2 := by
    intro p hp
    have pT := tab p hp
    refine ⟨?_, ?_, ?_⟩
    · obtain ⟨o, us, file, tf, flags, tg, inF, text, tt, e1, r1, r2, r3, rest⟩ := hd p hp
      refine ⟨o, us, file, tf, flags, tg, inF, text, tt, hidT_get e1 (free e1 ?_ ?_), r1, r2, r3, rest⟩
      · intro ws n z
        rw [r2] at z
        cases z
      · intro z
        rw [r2] at z
        cases z
        simp at r3
    · obtain ⟨bm, ob, b1, b2, b3, b4, b5, b6⟩ := bmod
      have ne1 : bm ≠ mainGlobals := by
        rintro rfl
        obtain ⟨o, es, ep, e, d, _⟩ := gl
        rw [b3] at e
        cases e
        rw [b6] at d
        cases d
      have ne2 : bm ≠ p.2 := by
        rintro rfl
        rw [pT] at b3
        cases b3
        cases b6
      refine ⟨bm, ob, b1, b2, ne1, ne2, hidT_get b3 (free b3 ?_ ?_), b4, b5, b6⟩
      · intro ws n z
        rw [b6] at z
        cases z
      · intro z
        rw [b6] at z
        cases z
    · intro z
      obtain ⟨o, es, ep, e, d, _⟩ := gl
      rw [z, pT] at e
      cases e
      cases d
  have sq : SqL K H a (ns.map V.int) := by
    cases q : K.lookup a with
    | none => exact .inl (.inr ⟨_, by rw [eH]; exact rootH_a aT q⟩)
    | some o =>
      have e := inK a o q
      rw [scr] at e
      cases e
      exact .inr ⟨_, vs.toArray, _, q, rfl, rfl, rfl, by rw [List.size_toArray, whs.length]; exact few, by simpa using rv⟩
  have e0 : Env0 P w K mg (hidT st.heap H) callerA [] st H := ⟨rfl, mod, fun b o e => of_hidT e, Nat.le_of_eq (hidT_size _ _), trivial, fun b hb => (List.not_mem_nil (show b ∈ ([] : List Addr) from hb)).elim, hok, .of_eq gens⟩
  refine codeAny_mono ((F _ kin (nsb gl) tb).go (us := [.ref a]) (vs := [.ref a]) rfl room e0 (bind st (.ref a)) (.cons rfl .nil) (prom H onT sq)) ?_
  intro r s' q
  match r, q with
  | .error e, q => exact (noX H e s' q).elim
  | .ok .next, q => exact q.elim
  | .ok .brk, q => exact q.elim
  | .ok .cont, q => exact q.elim
  | .ok (.ret u), q =>
    obtain ⟨v, H', os, bare, un, hok', rel, isT⟩ := q
    have isT' : v = .bl true := isT
    subst isT'
    obtain rfl : u = Value.bool true := rel
    have same : ∀ b o, b ∉ cs.map Prod.snd → st.heap.get? b = some o → s'.heap.get? b = some o := by
      intro b o nb e
      cases z : H b with
      | none => exact un.keep b o e z (fun y => (List.not_mem_nil (show b ∈ ([] : List Addr) from y)).elim) List.not_mem_nil
      | some u =>
        rcases ors z with ⟨hb, _⟩ | ⟨rfl, _, rfl⟩
        · exact (nb hb).elim
        · have e1 := (hok _ _ z).1
          have e2 := (hok' _ _ (un.frzs _ _ _ z)).1
          rw [e] at e1
          cases e1
          exact e2
    have big : ∀ p ∈ cs, ∃ more : Array Value, s'.heap.get? p.2 = some { cls := .none, data := .fields more } := by
      intro p hp
      obtain ⟨more, z⟩ := un.tbls p.2 #[] (onT p hp)
      exact ⟨_, hok' p.2 _ z⟩
    refine ⟨rfl, ⟨fun b o e => ?_, fun b o e => ?_⟩, os, bare⟩
    · by_cases hb : b ∈ cs.map Prod.snd
      · obtain ⟨e1, _, p, hp, rfl⟩ := tabAt b hb
        obtain ⟨more, hm⟩ := big p hp
        rw [e1] at e
        cases e
        exact .inr (.inl ⟨((hd p hp).tab (tab p hp)).isCodeTable, rfl, #[], more, rfl, by rw [Array.empty_append]; exact hm⟩)
      · exact .inl (same b o hb e)
    · by_cases hb : b ∈ cs.map Prod.snd
      · obtain ⟨_, _, p, hp, rfl⟩ := tabAt b hb
        obtain ⟨more, hm⟩ := big p hp
        exact ⟨_, hm⟩
      · exact ⟨o, same b o hb e⟩
/-- a law's promise at the head's heap -/
def LawG (l : PySem.W.OpenLaw) (w : World) (K : PySem.W.Frag) (CX : CXT) (k n : Nat) (x : Str) (mg : Str → Option Value) (fa : Addr) (h : Heap) : Prop :=
  ∃ (fd : FuncData) (cs : List (Addr × Addr)) (sp : Sp), ((∀ p ∈ cs, h.get? p.2 = some { cls := .none, data := .fields #[] }) ∧ (∀ p ∈ cs, K.lookup p.2 = none) ∧ ∀ p ∈ cs, PySem.W.CodeHd h p.1 p.2) ∧ (∀ (s : Shared) (u : Value), BindsTo s fd ⟨[u], []⟩ [(x, u)]) ∧
    (∀ (H : Hp) (a : Addr) (ns : List Int), ns.length ≤ n → (∀ p ∈ cs, H p.2 = some (.tbl #[])) → SqL K H a (ns.map V.int) → sp [.ref a] H (fun v _ => v = .bl true) fun _ _ _ => False) ∧
    ∀ base : Heap, (∀ p ∈ cs, LamX.TabB base mg p.1 p.2) → FnG l.prog w K mg base CX k fa fd [x] sp
theorem walk_tabG {l : PySem.W.OpenLaw} {n k : Nat} {q : Program} {loose : List Str} {XP : (Str → Option Value) → Heap → Prop} {YP : World → Heap → Prop} {d : DefRec} {x : Str} (hn : l.most = some n) (hn2 : n ≤ sizeLine) (hdf : d.params.defaults = []) (hr : Room k callerA)
    (F : ∀ (w : World) (mg : Str → Option Value) (fa : Addr) (h : Heap), YP w h → h.Ns mainGlobals mg → mg d.name = some (.ref fa) → ∃ K : PySem.W.Frag, K.In h ∧ LawG l w K (L2.CX l.prog w) k n x mg fa h) :
    PySem.W.WalkO q loose XP YP l.row.toRowW d [] (fun f vs => PySem.call f vs) :=
  Att.attach_callB hn hdf fun w _ s1 mg _ fa _ _ _ _ a vs ns G Y _ _ _ hmg hobj hints hlen hbits hg => by
    obtain ⟨K, KX, fd, cs, sp, ⟨h1, h2, h3⟩, hb, hsp, hF⟩ := F w mg fa _ Y G.T.g hmg
    exact root_call (CX := L2.CX l.prog w) KX G.T.g G.T.b G.T.builtins G.T.nolimit hg h1 h2 h3 G.T.bmain hobj hints (Nat.le_trans hlen hn2) hr (fun base _ _ hB => hF base hB) hb (fun H a1 a2 => hsp H a ns hlen a1 a2) fun H e s2 z => by
      obtain ⟨_, _, _, _, _, _, _, _, _, _, _, _, z⟩ := z
      exact z
end Rf
end

section
set_option maxRecDepth 100000
set_option maxHeartbeats 16000000
set_option autoImplicit false
namespace Rf
open PySem PySem.Spec PyProof.Rows L2

/-! ## what the program is -/
def Gc.d : Gc → D
  | .int i => .int i
  | .tup is => .tup (is.map .int)
structure Row where
  id : Nat
  ix : Nat
  fn : Fn
structure Prg where
  rows : List Row
  globs : List (Nat × Str × Gc)
  kws : List (Nat × Nat × List Str × List Nat)
  /-- the def that catches: its place, its name, whether it gives pairs, the class -/
  told : Option (Nat × Str × Bool × Str)
  /-- the defs that show values -/
  gns : List Str
def Prg.exc (p : Prg) : List Str := match p.told with
  | some (_, _, _, x) => [x]
  | none => []
def Prg.fns (p : Prg) (f : Nat) : Option Fn := (p.rows.find? fun r => r.id == f).map (·.fn)
def Prg.tab (p : Prg) : Tab := ⟨p.fns, fun g => (p.globs.find? fun r => r.1 == g).map (·.2.1), true, p.kws, p.told.map fun q => (q.2.1, q.2.2.1, q.2.2.2), p.exc, p.gns, false⟩
def Prg.G (p : Prg) (g : Nat) : Option D := (p.globs.find? fun r => r.1 == g).map fun r => r.2.2.d
def Prg.names (p : Prg) : List (Nat × Str) := (p.rows.map fun r => (r.ix, r.fn.name)) ++ match p.told with
  | some (i, g, _, _) => [(i, g)]
  | none => []
/-- the makers of lambdas -/
def Prg.tf (p : Prg) : List He.Defn := (p.rows.filter fun r => makers.contains r.fn.name).map fun r => (r.fn.name, none)
/-- what the def that catches is, by the tree -/
def argNames : Arguments → List Str
  | ⟨[], [a], none, [], [], none, []⟩ => [a.arg]
  | _ => []
def toldOk (p : Prg) (top : Nat → Stmt) : Bool := match p.told with
  | some (i, _, t, x) => (match argNames (defArgs (top i)) with
    | [a] => toldB t x a (defScope (top i)) (defBody (top i)) && scC [a] [a] (defScope (top i))
    | _ => false)
  | none => true

section
variable {K : PySem.W.Frag} {h : Heap} {mg : Str → Option Value} {p : Prg} {top : Nat → Stmt}
theorem ints_rps {B : Addr → Prop} {L : List Addr} {H : Hp} : ∀ is : List Int, Rps K B L H (is.map D.int) ((is.map He.Dv.int).map (He.Dv.v K))
  | [] => .nil
  | i :: is => .cons (.int i) (ints_rps is)
theorem exOf_ok {globs : List (Nat × Str × Gc)} {tf : List He.Defn} (ce : exOf globs tf K = true) : gcdOk K = true ∧ (∀ x ∈ mksK K, (x, none) ∈ tf) ∧ (∀ p ∈ tabsK K, ∀ q ∈ tabsK K, p.1 = q.1 → p.2 = q.2) ∧ globs.all (fun r => r.2.2.ok K r.2.1) = true := by
  unfold exOf tabB at ce
  simp only [Bool.and_eq_true, List.all_eq_true, decide_eq_true_eq, Bool.or_eq_true, Bool.not_eq_true', decide_eq_false_iff_not] at ce
  obtain ⟨c1, ⟨c2, c3⟩, c4⟩ := ce
  refine ⟨c1, c2, fun p hp q hq e => (c3 p hp q hq).elim (fun z => absurd e z) id, ?_⟩
  rw [List.all_eq_true]
  exact c4
theorem told_names {i : Nat} {g : Str} {t : Bool} {x : Str} (h : p.told = some (i, g, t, x)) : (i, g) ∈ p.names := by
  unfold Prg.names
  rw [h]
  exact List.mem_append_right _ (List.mem_singleton.mpr rfl)
/-- how it is bound -/
def toldBind (p : Prg) (top : Nat → Stmt) : Prop := ∀ q, p.told = some q → ∀ (kV doc pm : Value) (an : Option Addr) (cdv ct : Value) (us : List Value), us.length = 1 →
  bindArgs (PySem.W.fnOf q.2.1 q.2.1 (defArgs (top q.1)) (defBody (top q.1)) (defScope (top q.1)) .none kV doc pm an cdv ct) ⟨us, []⟩ = pure ((argNames (defArgs (top q.1))).zip us)
theorem pg_of (X : K.In h) (G : h.Ns mainGlobals mg) (c : He.SaysD (faOf p.names p.exc) (fnOf top p.names) K) (ce : exOf p.globs p.tf K = true) (cd : ∀ q ∈ p.tf, PySem.W.codeHdIn K (He.cT K q).1 (He.cT K q).2 = true) (ct : toldOk p top = true) (cb : toldBind p top) (ch : (p.rows.all fun r => decide (r.id < rzN)) = true)
    (hr : ∀ r ∈ p.rows, Frow p.tab r.id r.fn (defArgs (top r.ix)) (defBody (top r.ix)) (defScope (top r.ix))) : Pg p.tab p.G K mg := by
  obtain ⟨c1, _, c3, c2⟩ := exOf_ok ce
  have row : ∀ {f : Nat} {fn : Fn}, p.tab.fns f = some fn → ∃ r ∈ p.rows, r.id = f ∧ r.fn = fn := fun {f fn} hf => by
    obtain ⟨r, e1, e2⟩ := Option.map_eq_some_iff.mp (show (p.rows.find? fun r => r.id == f).map (·.fn) = some fn from hf)
    exact ⟨r, List.mem_of_find?_eq_some e1, by simpa using List.find?_some e1, e2⟩
  have excs : ∀ x ∈ p.exc, (He.Fa.glo x).ok K = true ∧ (He.Fa.exc x).ok K = true ∧ (He.Fa.exm x x true).ok K = true := fun x hx => by
    have hm : ∀ f ∈ ([.glo x, .exc x, .exm x x true] : List He.Fa), f.ok K = true := fun f hf => c.facts (List.mem_append_right _ (List.mem_append_right _ (List.mem_flatMap.mpr ⟨x, hx, hf⟩)))
    exact ⟨hm _ (by simp), hm _ (by simp), hm _ (by simp)⟩
  refine ⟨fun x hx => He.free_ok X G (c.facts (List.mem_append_right _ (List.mem_append_left _ (List.mem_map_of_mem hx)))), fun _ => ?_, fun g x hg => ?_, fun f fn hf => ?_, fun x hx => ?_, fun g t x hg => ?_, fun g t x hg f fn hf hmk => ?_, c3, fun f fn hf => ?_⟩
  · unfold gcdOk at c1
    split at c1
    · rename_i id e
      rw [of_decide_eq_true c1] at e
      exact PySem.W.mg_of X G e
    · cases c1
  · obtain ⟨r, e1, e2⟩ := Option.map_eq_some_iff.mp (show (p.globs.find? fun r => r.1 == g).map (·.2.1) = some x from hg)
    subst e2
    have c3 := List.all_eq_true.mp c2 r (List.mem_of_find?_eq_some e1)
    have eG : p.G g = some r.2.2.d := by unfold Prg.G; rw [e1]; rfl
    obtain ⟨r1, r2, r3⟩ := r
    cases r3 with
    | int i =>
      obtain ⟨t, e3⟩ := He.int_ok X G (show (He.Fa.int r2 i).ok K = true from c3)
      refine ⟨.int i, _, e3, ⟨t, rfl⟩, fun d hd B L H => ?_⟩
      rw [eG] at hd; cases hd
      exact .int i
    | tup is =>
      obtain ⟨c4, c5⟩ := He.ba (show ((He.Fa.glo r2).ok K && He.tupB K r2 (is.map He.Dv.int)) = true from c3)
      refine ⟨.ref (He.ga K r2), _, He.glo_ok X G c4, rfl, fun d hd B L H => ?_⟩
      rw [eG] at hd; cases hd
      exact .tup (He.tupB_ok c5 H) (ints_rps is)
  · obtain ⟨r, hm, ei, rfl⟩ := row hf
    have hn : (r.ix, r.fn.name) ∈ p.names := List.mem_append_left _ (List.mem_map_of_mem (f := fun r : Row => (r.ix, r.fn.name)) hm)
    obtain ⟨fd, FD⟩ := c.defs (d := ddOf top (r.ix, r.fn.name)) (List.mem_map_of_mem hn)
    have FR := hr r hm
    rw [ei] at FR
    exact ⟨He.ga K r.fn.name, fd, _, _, _, FD, He.glo_ok X G (c.facts (List.mem_append_left _ (List.mem_map_of_mem (f := fun q : Nat × Str => He.Fa.glo q.2) hn))), FR, rfl⟩
  · obtain ⟨e1, e2, e3⟩ := excs x hx
    obtain ⟨a1, a2, a3, a4⟩ := He.exc_ok e2
    exact ⟨He.glo_ok X G e1, a1, a2, a3, a4⟩
  · obtain ⟨⟨i, g', t', x'⟩, ht, hq⟩ := Option.map_eq_some_iff.mp (show p.told.map (fun q => (q.2.1, q.2.2.1, q.2.2.2)) = some (g, t, x) from hg)
    cases hq
    have hx : x' ∈ p.exc := by unfold Prg.exc; rw [ht]; exact List.mem_singleton.mpr rfl
    obtain ⟨e1, e2, e3⟩ := excs x' hx
    have hn := told_names ht
    obtain ⟨fd, FD⟩ := c.defs (d := ddOf top (i, g')) (List.mem_map_of_mem hn)
    obtain ⟨oc, od, dV, kV, doc, pm, an, cdv, ct', osl, rfl, lk, hcd, hD, hK⟩ := FD.ex
    unfold toldOk at ct
    rw [ht] at ct
    dsimp only at ct
    split at ct
    · rename_i a hargs
      obtain ⟨t1, t2⟩ := He.ba ct
      have eV : dV = .none := by
        rcases hD with ⟨_, e⟩ | ⟨e, _⟩
        · exact e
        · exact absurd rfl e
      subst eV
      refine ⟨⟨He.ga K g', a, _, _, _, kV, doc, pm, cdv, ct', oc, an, od, osl, He.glo_ok X G (c.facts (List.mem_append_left _ (List.mem_map_of_mem (f := fun q : Nat × Str => He.Fa.glo q.2) hn))), FD.kp, lk, hcd, L2.Binds.all fun us hl => ?_, scC_ok t2, t1⟩, He.exm_ok e3, He.glo_ok X G e1⟩
      have z := cb _ ht kV doc pm an cdv ct' us (by simpa using hl)
      rw [hargs] at z
      exact z
    · cases ct
  · obtain ⟨⟨i, g', t', x'⟩, ht, hq⟩ := Option.map_eq_some_iff.mp (show p.told.map (fun q => (q.2.1, q.2.2.1, q.2.2.2)) = some (g, t, x) from hg)
    obtain ⟨r, hm, ei, rfl⟩ := row hf
    refine cd (r.fn.name, none) ?_
    unfold Prg.tf
    exact List.mem_map.mpr ⟨r, List.mem_filter.mpr ⟨hm, hmk⟩, rfl⟩
  · obtain ⟨r, hm, ei, rfl⟩ := row hf
    have lt : r.id < rzN := of_decide_eq_true (List.all_eq_true.mp ch r hm)
    cases e : p.tab.fns (f + rzN) with
    | none => rfl
    | some fn' =>
      obtain ⟨r', hm', ei', _⟩ := row e
      have lt' : r'.id < rzN := of_decide_eq_true (List.all_eq_true.mp ch r' hm')
      omega
end

/-! ## a law's end -/
section
variable {K : PySem.W.Frag} {mg : Str → Option Value} {T : Tab} {G : Nat → Option D}
theorem script_rp {H : Hp} {a : Addr} {ns : List Int} (hs : SqL K H a (ns.map V.int)) : Rp K (fun _ => False) [] H (.fro (ns.map .int)) (.ref a) := by
  have hv : ∀ ns : List Int, Rps K (fun _ => False) [] H (ns.map D.int) (ns.map V.int) := by
    intro ns
    induction ns with
    | nil => exact .nil
    | cons n ns ih => exact .cons (.int n) ih
  refine .fro ?_ (hv ns)
  rcases hs with (hs | ⟨o, hs⟩) | hs
  · exact .inr (.inl ⟨hs, fun z => z⟩)
  · exact .inl ⟨o, hs⟩
  · exact .inr (.inr hs)
theorem law_of0 (p : Pg T G K mg) {f : Nat} {fn : Fn} {x : Str} {k W n : Nat} {fa : Addr} {P : Program} {w : World} (hf : T.fns f = some fn) (hnp : fn.np = 1) (hx : fn.N.take 1 = [x]) (hfa : mg fn.name = some (.ref fa))
    (run : ∀ ns : List Int, ns.length ≤ n → ∃ S', runF G T.fns W k f [.fro (ns.map .int)] [] = some (.bl true, S')) :
    ∃ (fd : FuncData) (sp : Sp), (∀ (s : Shared) (u : Value), BindsTo s fd ⟨[u], []⟩ [(x, u)]) ∧
      (∀ (H : Hp) (a : Addr) (ns : List Int), ns.length ≤ n → TabsK K H → SqL K H a (ns.map V.int) → sp [.ref a] H (fun v _ => v = .bl true) fun _ _ _ => False) ∧
      ∀ base : Heap, (∀ x ∈ mksK K, LamX.TabB base mg (He.cT K (x, none)).1 (He.cT K (x, none)).2) → (T.gns.contains fn.name = false → FnOk P w K mg base (L2.CX P w) (3 * k) fa fd [x] sp) ∧ FnG P w K mg base (L2.CX P w) (3 * k) fa fd [x] sp := by
  obtain ⟨fa', fd, pa, bo, sc, FD, hm, FR, hga⟩ := p.fns f fn hf
  rw [hfa] at hm; cases hm
  refine ⟨fd, spF K G T.fns W k f fn.np, fun s u => ?_, fun H a ns hl ht hs => ?_, fun base hTB => ?_⟩
  · have b := FunD.bindsA (ps := [x]) FD (fun kV doc pm an cdv ct us h1 => by
      have z := FR.bind kV doc pm an cdv ct us (by rw [hnp]; exact h1)
      rw [hnp, hx] at z
      exact z) s [u] rfl
    exact b
  · obtain ⟨S', e⟩ := run ns hl
    refine ⟨fun _ => False, [], [], [.fro (ns.map .int)], ⟨(fun _ h => by cases h), List.nodup_nil, (fun _ h => False.elim h), rfl, (fun n xs q => by rw [List.getElem?_nil] at q; cases q), ht⟩, .cons (script_rp hs) .nil, by rw [hnp]; rfl, .inl ⟨.bl true, S', e, fun v B' L' H' m w' r => ?_⟩⟩
    cases r
    rfl
  · have z := all_ok (P := P) (w := w) (base := base) (W := W) p hTB k f fn fa fd pa bo sc hf hga FD FR
    rw [hnp, hx] at z
    rw [hnp]
    exact z
theorem law_of (p : Pg T G K mg) {f : Nat} {fn : Fn} {x : Str} {k W n : Nat} {fa : Addr} {P : Program} {w : World} (hgn : T.gns.contains fn.name = false) (hf : T.fns f = some fn) (hnp : fn.np = 1) (hx : fn.N.take 1 = [x]) (hfa : mg fn.name = some (.ref fa))
    (run : ∀ ns : List Int, ns.length ≤ n → ∃ S', runF G T.fns W k f [.fro (ns.map .int)] [] = some (.bl true, S')) :
    ∃ (fd : FuncData) (sp : Sp), (∀ (s : Shared) (u : Value), BindsTo s fd ⟨[u], []⟩ [(x, u)]) ∧
      (∀ (H : Hp) (a : Addr) (ns : List Int), ns.length ≤ n → TabsK K H → SqL K H a (ns.map V.int) → sp [.ref a] H (fun v _ => v = .bl true) fun _ _ _ => False) ∧
      ∀ base : Heap, (∀ x ∈ mksK K, LamX.TabB base mg (He.cT K (x, none)).1 (He.cT K (x, none)).2) → FnOk P w K mg base (L2.CX P w) (3 * k) fa fd [x] sp :=
  let ⟨fd, sp, h1, h2, h3⟩ := law_of0 p hf hnp hx hfa run
  ⟨fd, sp, h1, h2, fun base hB => (h3 base hB).1 hgn⟩
theorem law_ofG (p : Pg T G K mg) {f : Nat} {fn : Fn} {x : Str} {k W n : Nat} {fa : Addr} {P : Program} {w : World} (hf : T.fns f = some fn) (hnp : fn.np = 1) (hx : fn.N.take 1 = [x]) (hfa : mg fn.name = some (.ref fa))
    (run : ∀ ns : List Int, ns.length ≤ n → ∃ S', runF G T.fns W k f [.fro (ns.map .int)] [] = some (.bl true, S')) :
    ∃ (fd : FuncData) (sp : Sp), (∀ (s : Shared) (u : Value), BindsTo s fd ⟨[u], []⟩ [(x, u)]) ∧
      (∀ (H : Hp) (a : Addr) (ns : List Int), ns.length ≤ n → TabsK K H → SqL K H a (ns.map V.int) → sp [.ref a] H (fun v _ => v = .bl true) fun _ _ _ => False) ∧
      ∀ base : Heap, (∀ x ∈ mksK K, LamX.TabB base mg (He.cT K (x, none)).1 (He.cT K (x, none)).2) → FnG P w K mg base (L2.CX P w) (3 * k) fa fd [x] sp :=
  let ⟨fd, sp, h1, h2, h3⟩ := law_of0 p hf hnp hx hfa run
  ⟨fd, sp, h1, h2, fun base hB => (h3 base hB).2⟩
theorem law_atG {l : PySem.W.OpenLaw} {w : World} {n k kk : Nat} {x : Str} {fa : Addr} {h : Heap} {tf : List He.Defn} {f : List He.Fa} {fn : List He.DefD} {ex : PySem.W.Frag → Bool} (KX : K.In h) (c : He.SaysX f fn [] tf ex w h K) (hmk : ∀ x ∈ mksK K, (x, none) ∈ tf) (hk : 3 * k = kk)
    (z : ∃ (fd : FuncData) (sp : Sp), (∀ (s : Shared) (u : Value), BindsTo s fd ⟨[u], []⟩ [(x, u)]) ∧
      (∀ (H : Hp) (a : Addr) (ns : List Int), ns.length ≤ n → TabsK K H → SqL K H a (ns.map V.int) → sp [.ref a] H (fun v _ => v = .bl true) fun _ _ _ => False) ∧
      ∀ base : Heap, (∀ x ∈ mksK K, LamX.TabB base mg (He.cT K (x, none)).1 (He.cT K (x, none)).2) → FnG l.prog w K mg base (L2.CX l.prog w) (3 * k) fa fd [x] sp) : LawG l w K (L2.CX l.prog w) kk n x mg fa h := by
  obtain ⟨fd, sp, h1, h2, h3⟩ := z
  subst hk
  have mem : ∀ {p : Addr × Addr}, p ∈ (mksK K).map (fun x => He.cT K (x, none)) → ∃ x ∈ mksK K, He.cT K (x, none) = p := fun hp => List.mem_map.mp hp
  refine ⟨fd, (mksK K).map fun x => He.cT K (x, none), sp, ⟨fun p hp => ?_, fun p hp => ?_, fun p hp => ?_⟩, h1, fun H a ns hl ht hs => h2 H a ns hl (fun q hq => ?_) hs, fun base hB => h3 base fun x hx => hB _ (List.mem_map_of_mem (f := fun x => He.cT K (x, none)) hx)⟩
  · obtain ⟨x, hx, rfl⟩ := mem hp
    exact c.empty _ (hmk x hx)
  · obtain ⟨x, hx, rfl⟩ := mem hp
    exact c.out _ (hmk x hx)
  · obtain ⟨x, hx, rfl⟩ := mem hp
    exact PySem.W.codeHd_of_K KX (c.hd _ (hmk x hx))
  · obtain ⟨x, hx, rfl⟩ := List.mem_map.mp hq
    exact LamX.TabS.nil (ht _ (List.mem_map_of_mem (f := fun x => He.cT K (x, none)) hx))
/-- the walk to a law: what is written is told where it is asked -/
theorem walk_tab {l : PySem.W.OpenLaw} {n k : Nat} {q : Program} {loose : List Str} {XP : (Str → Option Value) → Heap → Prop} {YP : World → Heap → Prop} {d : DefRec} {x : Str} (hn : l.most = some n) (hn2 : n ≤ sizeLine) (hdf : d.params.defaults = []) (hr : Room k callerA)
    (F : ∀ (w : World) (mg : Str → Option Value) (fa : Addr) (h : Heap), YP w h → h.Ns mainGlobals mg → mg d.name = some (.ref fa) → ∃ K : PySem.W.Frag, K.In h ∧ LamX.LawAtS l w K (L2.CX l.prog w) k n x mg fa h) :
    PySem.W.WalkO q loose XP YP l.row.toRowW d [] (fun f vs => PySem.call f vs) :=
  Att.attach_callB hn hdf fun w _ s1 mg _ fa _ _ _ _ a vs ns G Y _ _ _ hmg hobj hints hlen hbits hg => by
    obtain ⟨K, KX, fd, cs, sp, hT, nT, C, hb, hsp, hF⟩ := F w mg fa _ Y G.T.g hmg
    exact LamX.law_callTs (CX := L2.CX l.prog w) KX G.T.g G.T.b G.T.builtins G.T.nolimit hg hT nT C G.T.bmain hobj hints (Nat.le_trans hlen hn2) hr hF hb (fun H a1 a2 => hsp H a ns hlen hbits a1 a2) fun H e s2 z => by
      obtain ⟨_, _, _, _, _, _, _, _, _, _, _, _, z⟩ := z
      exact z
theorem law_at {l : PySem.W.OpenLaw} {w : World} {n k kk : Nat} {x : Str} {fa : Addr} {h : Heap} {tf : List He.Defn} {f : List He.Fa} {fn : List He.DefD} {ex : PySem.W.Frag → Bool} (KX : K.In h) (c : He.SaysX f fn [] tf ex w h K) (hmk : ∀ x ∈ mksK K, (x, none) ∈ tf) (hk : 3 * k = kk)
    (z : ∃ (fd : FuncData) (sp : Sp), (∀ (s : Shared) (u : Value), BindsTo s fd ⟨[u], []⟩ [(x, u)]) ∧
      (∀ (H : Hp) (a : Addr) (ns : List Int), ns.length ≤ n → TabsK K H → SqL K H a (ns.map V.int) → sp [.ref a] H (fun v _ => v = .bl true) fun _ _ _ => False) ∧
      ∀ base : Heap, (∀ x ∈ mksK K, LamX.TabB base mg (He.cT K (x, none)).1 (He.cT K (x, none)).2) → FnOk l.prog w K mg base (L2.CX l.prog w) (3 * k) fa fd [x] sp) : LamX.LawAtS l w K (L2.CX l.prog w) kk n x mg fa h := by
  obtain ⟨fd, sp, h1, h2, h3⟩ := z
  subst hk
  have mem : ∀ {p : Addr × Addr}, p ∈ (mksK K).map (fun x => He.cT K (x, none)) → ∃ x ∈ mksK K, He.cT K (x, none) = p := fun hp => List.mem_map.mp hp
  refine ⟨fd, (mksK K).map fun x => He.cT K (x, none), sp, fun p hp => ?_, fun p hp => ?_, fun p hp => ?_, h1, fun H a ns hl _ ht hs => h2 H a ns hl (fun q hq => ?_) hs, fun base _ _ hB => h3 base fun x hx => hB _ (List.mem_map_of_mem (f := fun x => He.cT K (x, none)) hx)⟩
  · obtain ⟨x, hx, rfl⟩ := mem hp
    exact c.empty _ (hmk x hx)
  · obtain ⟨x, hx, rfl⟩ := mem hp
    exact c.out _ (hmk x hx)
  · obtain ⟨x, hx, rfl⟩ := mem hp
    exact PySem.W.codeHd_of_K KX (c.hd _ (hmk x hx))
  · obtain ⟨x, hx, rfl⟩ := List.mem_map.mp hq
    exact LamX.TabS.nil (ht _ (List.mem_map_of_mem (f := fun x => He.cT K (x, none)) hx))
end
/-- the keywords' rows of one def -/
def kwsOf (T : Tab) (f : Nat) : List (Nat × List Str × List Nat) := T.kws.filterMap fun e => if e.1 = f then some e.2 else none
theorem mem_kwsOf {T : Tab} {f n : Nat} {ks : List Str} {perm : List Nat} (h : (f, n, ks, perm) ∈ T.kws) : (n, ks, perm) ∈ kwsOf T f :=
  List.mem_filterMap.mpr ⟨_, h, by rw [if_pos rfl]⟩
theorem no_kw {T : Tab} {f n : Nat} {ks : List Str} {perm : List Nat} (e : kwsOf T f = []) (h : (f, n, ks, perm) ∈ T.kws) : False := by
  have z := mem_kwsOf h
  rw [e] at z
  cases z
end Rf
end

section
set_option maxRecDepth 100000
set_option maxHeartbeats 0
set_option autoImplicit false
namespace Rf
open PySem PySem.Spec PyProof.Rows L2
/-! ## the own syntax of the law's program -/
namespace F
def is_whole : Fn := ⟨"is_whole", 1, ["value"], false, (.cons (.ret (.and (.isi (.var 0) .int) (.not (.isi (.var 0) .bool)))) .nil)⟩
def is_between : Fn := ⟨"is_between", 3, ["value", "low", "high"], false, (.cons (.ret (.and (.call 0 (.cons (.var 0) .nil)) (.chain .le .le (.var 1) (.var 0) (.var 2)))) .nil)⟩
def are_wholes : Fn := ⟨"are_wholes", 2, ["value", "many", "each"], false, (.cons (.ret (.and (.isi (.var 0) .tuple) (.and (.cmp .eq (.prim .len (.cons (.var 0) .nil)) (.var 1)) (.prim .all (.cons (.comp (.seq (.var 0)) (.name 2) [("each", 2)] .no (.call 0 (.cons (.var 2) .nil))) .nil))))) .nil)⟩
def divisor_of : Fn := ⟨"divisor_of", 2, ["one", "two"], false, (.cons (.ret (.prim .gcd (.cons (.var 0) (.cons (.var 1) .nil)))) .nil)⟩
def is_ratio : Fn := ⟨"is_ratio", 1, ["value"], false, (.cons (.ret (.and (.call 2 (.cons (.var 0) (.cons (.int 2) .nil))) (.and (.cmp .gt (.idx (.var 0) (.int 1)) (.int 0)) (.cmp .eq (.call 3 (.cons (.idx (.var 0) (.int 0)) (.cons (.idx (.var 0) (.int 1)) .nil))) (.int 1))))) .nil)⟩
def ratio : Fn := ⟨"ratio", 2, ["top", "low", "part"], false, (.cons (.set 2 (.ite (.cmp .gt (.var 1) (.int 0)) (.call 3 (.cons (.var 0) (.cons (.var 1) .nil))) (.neg (.call 3 (.cons (.var 0) (.cons (.var 1) .nil)))))) (.cons (.ret (.tup (.cons (.bin .fdiv (.var 0) (.var 2)) (.cons (.bin .fdiv (.var 1) (.var 2)) .nil)))) .nil))⟩
def plus : Fn := ⟨"plus", 2, ["one", "two"], false, (.cons (.ret (.call 5 (.cons (.bin .add (.bin .mul (.idx (.var 0) (.int 0)) (.idx (.var 1) (.int 1))) (.bin .mul (.idx (.var 1) (.int 0)) (.idx (.var 0) (.int 1)))) (.cons (.bin .mul (.idx (.var 0) (.int 1)) (.idx (.var 1) (.int 1))) .nil)))) .nil)⟩
def times : Fn := ⟨"times", 2, ["one", "two"], false, (.cons (.ret (.call 5 (.cons (.bin .mul (.idx (.var 0) (.int 0)) (.idx (.var 1) (.int 0))) (.cons (.bin .mul (.idx (.var 0) (.int 1)) (.idx (.var 1) (.int 1))) .nil)))) .nil)⟩
def is_row : Fn := ⟨"is_row", 2, ["value", "many", "each"], false, (.cons (.ret (.and (.isi (.var 0) .tuple) (.and (.cmp .eq (.prim .len (.cons (.var 0) .nil)) (.var 1)) (.prim .all (.cons (.comp (.seq (.var 0)) (.name 2) [("each", 2)] .no (.call 4 (.cons (.var 2) .nil))) .nil))))) .nil)⟩
def are_rows : Fn := ⟨"are_rows", 3, ["value", "many", "width", "row"], false, (.cons (.ret (.and (.isi (.var 0) .tuple) (.and (.cmp .eq (.prim .len (.cons (.var 0) .nil)) (.var 1)) (.prim .all (.cons (.comp (.seq (.var 0)) (.name 3) [("row", 3)] .no (.call 10 (.cons (.var 3) (.cons (.var 2) .nil)))) .nil))))) .nil)⟩
def noughts : Fn := ⟨"noughts", 1, ["many"], false, (.cons (.ret (.bin .mul (.tup (.cons (.glob 0) .nil)) (.var 0))) .nil)⟩
def row_plus : Fn := ⟨"row_plus", 2, ["one", "two", "here", "there"], false, (.cons (.ret (.prim .tup (.cons (.comp (.zip (.var 0) (.var 1)) (.tup [2, 3]) [("here", 2), ("there", 3)] .no (.call 6 (.cons (.var 2) (.cons (.var 3) .nil)))) .nil))) .nil)⟩
def row_scaled : Fn := ⟨"row_scaled", 2, ["row", "number", "each"], false, (.cons (.ret (.prim .tup (.cons (.comp (.seq (.var 0)) (.name 2) [("each", 2)] .no (.call 7 (.cons (.var 2) (.cons (.var 1) .nil)))) .nil))) .nil)⟩
def mixed : Fn := ⟨"mixed", 3, ["rows", "numbers", "many", "found", "row", "number"], false, (.cons (.set 3 (.call 55 (.cons (.var 2) .nil))) (.cons (.for (.zip (.var 0) (.var 1)) (.tup [4, 5]) (.cons (.ite (.cmp .ne (.var 5) (.glob 0)) (.cons (.set 3 (.call 13 (.cons (.var 3) (.cons (.call 14 (.cons (.var 4) (.cons (.var 5) .nil))) .nil)))) .nil) .nil) .nil)) (.cons (.ret (.var 3)) .nil)))⟩
def flipped : Fn := ⟨"flipped", 2, ["rows", "many", "at", "row"], false, (.cons (.ret (.prim .tup (.cons (.comp (.rng1 (.var 1)) (.name 2) [("at", 2)] .no (.prim .tup (.cons (.comp (.seq (.var 0)) (.name 3) [("row", 3)] .no (.idx (.var 3) (.var 2))) .nil))) .nil))) .nil)⟩
def multiplied : Fn := ⟨"multiplied", 3, ["one", "two", "many", "row"], false, (.cons (.ret (.prim .tup (.cons (.comp (.seq (.var 0)) (.name 3) [("row", 3)] .no (.call 56 (.cons (.var 1) (.cons (.var 3) (.cons (.var 2) .nil))))) .nil))) .nil)⟩
def is_tabled : Fn := ⟨"is_tabled", 1, ["value"], false, (.cons (.ite (.or (.not (.isi (.var 0) .tuple)) (.or (.not (.call 1 (.cons (.prim .len (.cons (.var 0) .nil)) (.cons (.int 1) (.cons (.glob 2) .nil))))) (.not (.isi (.idx (.var 0) (.int 0)) .tuple)))) (.cons (.ret (.bl false)) .nil) .nil) (.cons (.ret (.and (.call 1 (.cons (.prim .len (.cons (.idx (.var 0) (.int 0)) .nil)) (.cons (.int 1) (.cons (.glob 2) .nil)))) (.call 11 (.cons (.var 0) (.cons (.prim .len (.cons (.var 0) .nil)) (.cons (.prim .len (.cons (.idx (.var 0) (.int 0)) .nil)) .nil)))))) .nil))⟩
def is_lotted : Fn := ⟨"is_lotted", 2, ["value", "many", "one", "two", "each"], false, (.cons (.ite (.or (.not (.isi (.var 0) .tuple)) (.not (.prim .all (.cons (.comp (.seq (.var 0)) (.name 4) [("each", 4)] .no (.call 1 (.cons (.var 4) (.cons (.int 0) (.cons (.bin .sub (.var 1) (.int 1)) .nil))))) .nil)))) (.cons (.ret (.bl false)) .nil) .nil) (.cons (.ret (.prim .all (.cons (.comp (.zip (.var 0) (.sl (.var 0) (.so (.int 1)) .no)) (.tup [2, 3]) [("one", 2), ("two", 3)] .no (.cmp .lt (.var 2) (.var 3))) .nil))) .nil))⟩
def part_by : Fn := ⟨"part_by", 3, ["table", "rows", "columns", "row", "column"], false, (.cons (.ret (.prim .tup (.cons (.comp (.seq (.var 1)) (.name 3) [("row", 3)] .no (.prim .tup (.cons (.comp (.seq (.var 2)) (.name 4) [("column", 4)] .no (.idx (.idx (.var 0) (.var 3)) (.var 4))) .nil))) .nil))) .nil)⟩
def check_table : Fn := ⟨"check_table", 1, ["value"], false, (.cons (.ite (.not (.call 78 (.cons (.var 0) .nil))) (.cons .never .nil) .nil) .nil)⟩
def check_lot : Fn := ⟨"check_lot", 2, ["many", "value"], false, (.cons (.ite (.not (.call 96 (.cons (.var 1) (.cons (.var 0) .nil)))) (.cons .never .nil) .nil) .nil)⟩
def check_lots : Fn := ⟨"check_lots", 3, ["table", "rows", "columns"], false, (.cons (.exp (.call 100 (.cons (.prim .len (.cons (.var 0) .nil)) (.cons (.var 1) .nil)))) (.cons (.exp (.call 100 (.cons (.prim .len (.cons (.idx (.var 0) (.int 0)) .nil)) (.cons (.var 2) .nil)))) .nil))⟩
def is_table : Fn := ⟨"is_table", 1, ["value"], false, (.cons (.ret (.call 78 (.cons (.var 0) .nil))) .nil)⟩
def turned_over : Fn := ⟨"turned_over", 1, ["table"], false, (.cons (.exp (.call 99 (.cons (.var 0) .nil))) (.cons (.ret (.call 16 (.cons (.var 0) (.cons (.prim .len (.cons (.idx (.var 0) (.int 0)) .nil)) .nil)))) .nil))⟩
def product : Fn := ⟨"product", 2, ["table", "other"], false, (.cons (.exp (.call 99 (.cons (.var 0) .nil))) (.cons (.exp (.call 99 (.cons (.var 1) .nil))) (.cons (.ite (.cmp .ne (.prim .len (.cons (.var 1) .nil)) (.prim .len (.cons (.idx (.var 0) (.int 0)) .nil))) (.cons .never .nil) .nil) (.cons (.ret (.call 57 (.cons (.var 0) (.cons (.var 1) (.cons (.prim .len (.cons (.idx (.var 1) (.int 0)) .nil)) .nil))))) .nil))))⟩
def part : Fn := ⟨"part", 3, ["table", "rows", "columns"], false, (.cons (.exp (.call 99 (.cons (.var 0) .nil))) (.cons (.exp (.call 101 (.cons (.var 0) (.cons (.var 1) (.cons (.var 2) .nil))))) (.cons (.ret (.call 80 (.cons (.var 0) (.cons (.var 1) (.cons (.var 2) .nil))))) .nil)))⟩
def _law_well_v19 : Fn := ⟨"_law_well", 2, ["script", "turn", "mixed_v", "cell", "own"], true, (.cons (.set 2 (.bin .add (.int 345924) (.bin .mul (.int 7129) (.var 1)))) (.cons (.for (.seq (.sl (.var 0) .no (.so (.int 9)))) (.name 3) (.cons (.set 2 (.bin .mod (.prim .int (.cons (.bin .add (.bin .add (.bin .mul (.var 2) (.int 47123)) (.bin .mod (.prim .int (.cons (.var 3) .nil)) (.int 2147483587))) (.int 5)) .nil)) (.int 2147483563))) .nil)) (.cons (.set 4 (.ite (.cmp .lt (.var 1) (.prim .len (.cons (.var 0) .nil))) (.prim .int (.cons (.idx (.var 0) (.var 1)) .nil)) (.int 0))) (.cons (.set 2 (.bin .mod (.prim .int (.cons (.bin .add (.bin .add (.bin .mul (.var 2) (.int 43)) (.bin .mul (.bin .mod (.prim .int (.cons (.var 4) .nil)) (.int 2147483587)) (.int 20011))) (.int 7)) .nil)) (.int 2147483563))) (.cons (.ret (.alloc (.lst (.cons (.ite (.or (.cmp .lt (.var 4) (.int 0)) (.cmp .ge (.var 4) (.bin .pow (.int 10) (.int 14)))) (.prim .abs (.cons (.var 4) .nil)) (.int 0)) (.cons (.var 2) (.cons (.int 0) (.cons (.int 1) .nil))))))) .nil)))))⟩
def _law_draw : Fn := ⟨"_law_draw", 2, ["well", "many", "seed", "figure"], false, (.cons (.ite (.cmp .gt (.idx (.var 0) (.int 0)) (.int 0)) (.cons (.unp [.sub (.var 0) (.int 0), .name 3] (.prim .divmod (.cons (.idx (.var 0) (.int 0)) (.cons (.var 1) .nil)))) (.cons (.ret (.var 3)) .nil)) .nil) (.cons (.setx (.var 0) (.int 2) (.bin .add (.idx (.var 0) (.int 2)) (.int 1))) (.cons (.set 2 (.bin .mod (.prim .int (.cons (.bin .add (.idx (.var 0) (.int 1)) (.bin .mul (.int 60013) (.idx (.var 0) (.int 2)))) .nil)) (.int 2147483563))) (.cons (.setx (.var 0) (.int 1) (.bin .mod (.prim .int (.cons (.bin .add (.bin .mul (.var 2) (.bin .add (.bin .mod (.prim .int (.cons (.var 2) .nil)) (.int 5003)) (.int 40009))) (.bin .mul (.int 31) (.idx (.var 0) (.int 2)))) .nil)) (.int 2147483563))) (.cons (.ret (.bin .mod (.prim .int (.cons (.bin .fdiv (.idx (.var 0) (.int 1)) (.int 641)) .nil)) (.var 1))) .nil)))))⟩
def _law_pick : Fn := ⟨"_law_pick", 2, ["well", "some"], false, (.cons (.ret (.idx (.var 1) (.call 27 (.cons (.var 0) (.cons (.prim .len (.cons (.var 1) .nil)) .nil))))) .nil)⟩
def _law_lean : Fn := ⟨"_law_lean", 2, ["top", "low", "far", "near"], false, (.cons (.par [2, 3] (.cons (.prim .abs (.cons (.var 0) .nil)) (.cons (.prim .abs (.cons (.var 1) .nil)) .nil))) (.cons (.while (.cmp .ne (.var 3) (.int 0)) (.cons (.par [2, 3] (.cons (.var 3) (.cons (.bin .mod (.prim .int (.cons (.var 2) .nil)) (.var 3)) .nil))) .nil)) (.cons (.set 2 (.ite (.cmp .gt (.var 1) (.int 0)) (.var 2) (.bin .sub (.int 0) (.var 2)))) (.cons (.ret (.tup (.cons (.bin .fdiv (.var 0) (.var 2)) (.cons (.bin .fdiv (.var 1) (.var 2)) .nil)))) .nil))))⟩
def _law_dot : Fn := ⟨"_law_dot", 2, ["one", "two", "top", "low", "here", "there", "both"], false, (.cons (.unp [.name 2, .name 3] (.tup (.cons (.int 0) (.cons (.int 1) .nil)))) (.cons (.for (.zip (.var 0) (.var 1)) (.tup [4, 5]) (.cons (.set 6 (.bin .mul (.idx (.var 4) (.int 1)) (.idx (.var 5) (.int 1)))) (.cons (.par [2, 3] (.cons (.bin .add (.bin .mul (.var 2) (.var 6)) (.bin .mul (.bin .mul (.idx (.var 4) (.int 0)) (.idx (.var 5) (.int 0))) (.var 3))) (.cons (.bin .mul (.var 3) (.var 6)) .nil))) .nil))) (.cons (.ret (.call 29 (.cons (.var 2) (.cons (.var 3) .nil)))) .nil)))⟩
def _law_flip : Fn := ⟨"_law_flip", 1, ["grid", "spot", "line"], false, (.cons (.ret (.prim .tup (.cons (.comp (.rng1 (.prim .len (.cons (.idx (.var 0) (.int 0)) .nil))) (.name 1) [("spot", 1)] .no (.prim .tup (.cons (.comp (.seq (.var 0)) (.name 2) [("line", 2)] .no (.idx (.var 2) (.var 1))) .nil))) .nil))) .nil)⟩
def _law_mul : Fn := ⟨"_law_mul", 2, ["one", "two", "sides", "line", "side"], false, (.cons (.set 2 (.call 108 (.cons (.var 1) .nil))) (.cons (.ret (.prim .tup (.cons (.comp (.seq (.var 0)) (.name 3) [("line", 3)] .no (.prim .tup (.cons (.comp (.seq (.var 2)) (.name 4) [("side", 4)] .no (.call 32 (.cons (.var 3) (.cons (.var 4) .nil)))) .nil))) .nil))) .nil))⟩
def _law_number : Fn := ⟨"_law_number", 1, ["well", "branch"], false, (.cons (.set 1 (.call 27 (.cons (.var 0) (.cons (.int 72) .nil)))) (.cons (.ite (.and (.cmp .eq (.var 1) (.int 71)) (.cmp .gt (.idx (.var 0) (.int 3)) (.int 0))) (.cons (.setx (.var 0) (.int 3) (.int 0)) (.cons (.ret (.call 29 (.cons (.bin .sub (.call 27 (.cons (.var 0) (.cons (.int 3000017) .nil))) (.int 1500008)) (.cons (.bin .add (.int 1) (.call 27 (.cons (.var 0) (.cons (.int 101) .nil)))) .nil)))) .nil)) .nil) (.cons (.ite (.cmp .lt (.var 1) (.int 50)) (.cons (.ret (.tup (.cons (.idx (.tup (.cons (.int 0) (.cons (.int 1) (.cons (.neg (.int 1)) (.cons (.int 2) (.cons (.int 1) (.cons (.int 0) (.cons (.neg (.int 2)) (.cons (.int 3) .nil))))))))) (.call 27 (.cons (.var 0) (.cons (.int 8) .nil)))) (.cons (.int 1) .nil)))) .nil) .nil) (.cons (.ret (.call 29 (.cons (.bin .sub (.call 27 (.cons (.var 0) (.cons (.int 11) .nil))) (.int 5)) (.cons (.bin .add (.int 2) (.call 27 (.cons (.var 0) (.cons (.int 3) .nil)))) .nil)))) .nil))))⟩
def _law_line : Fn := ⟨"_law_line", 2, ["well", "many", "found", "turn"], false, (.cons (.set 2 (.alloc (.lst .nil))) (.cons (.for (.rng1 (.var 1)) (.name 3) (.cons (.app (.var 2) (.call 34 (.cons (.var 0) .nil))) .nil)) (.cons (.ret (.prim .tup (.cons (.var 2) .nil))) .nil)))⟩
def _law_lines : Fn := ⟨"_law_lines", 3, ["well", "tall", "wide", "found", "turn"], false, (.cons (.set 3 (.alloc (.lst .nil))) (.cons (.for (.rng1 (.var 1)) (.name 4) (.cons (.app (.var 3) (.call 35 (.cons (.var 0) (.cons (.var 2) .nil)))) .nil)) (.cons (.ret (.prim .tup (.cons (.var 3) .nil))) .nil)))⟩
def _law_any : Fn := ⟨"_law_any", 3, ["well", "tall", "wide", "branch", "few", "turn", "some", "found"], false, (.cons (.set 3 (.call 27 (.cons (.var 0) (.cons (.int 6) .nil)))) (.cons (.ite (.cmp .lt (.var 3) (.int 3)) (.cons (.ret (.call 36 (.cons (.var 0) (.cons (.var 1) (.cons (.var 2) .nil))))) .nil) .nil) (.cons (.set 4 (.bin .add (.int 1) (.call 27 (.cons (.var 0) (.cons (.prim .max2 (.cons (.int 1) (.cons (.bin .sub (.prim .min2 (.cons (.var 1) (.cons (.var 2) .nil))) (.int 1)) .nil))) .nil))))) (.cons (.ite (.cmp .lt (.var 3) (.int 5)) (.cons (.ret (.call 109 (.cons (.call 36 (.cons (.var 0) (.cons (.var 1) (.cons (.var 4) .nil)))) (.cons (.call 36 (.cons (.var 0) (.cons (.var 4) (.cons (.var 2) .nil)))) .nil)))) .nil) .nil) (.cons (.par [6, 7] (.cons (.bin .add (.call 36 (.cons (.var 0) (.cons (.int 2) (.cons (.var 2) .nil)))) (.tup (.cons (.bin .mul (.tup (.cons (.tup (.cons (.int 0) (.cons (.int 1) .nil))) .nil)) (.var 2)) .nil))) (.cons (.alloc (.lst .nil)) .nil))) (.cons (.for (.rng1 (.var 1)) (.name 5) (.cons (.app (.var 7) (.call 28 (.cons (.var 0) (.cons (.var 6) .nil)))) .nil)) (.cons (.ret (.prim .tup (.cons (.var 7) .nil))) .nil)))))))⟩
def _law_many : Fn := ⟨"_law_many", 1, ["well"], false, (.cons (.ret (.idx (.tup (.cons (.int 2) (.cons (.int 3) (.cons (.int 3) (.cons (.int 2) (.cons (.int 4) (.cons (.int 1) (.cons (.int 3) (.cons (.int 2) (.cons (.int 5) (.cons (.int 3) (.cons (.int 4) (.cons (.int 2) .nil))))))))))))) (.call 27 (.cons (.var 0) (.cons (.int 12) .nil))))) .nil)⟩
def _law_lot : Fn := ⟨"_law_lot", 2, ["well", "many", "found", "spot"], false, (.cons (.set 2 (.alloc (.lst .nil))) (.cons (.for (.rng1 (.var 1)) (.name 3) (.cons (.ite (.cmp .eq (.call 27 (.cons (.var 0) (.cons (.int 2) .nil))) (.int 1)) (.cons (.app (.var 2) (.var 3)) .nil) .nil) .nil)) (.cons (.ret (.prim .tup (.cons (.var 2) .nil))) .nil)))⟩
def _law_piece : Fn := ⟨"_law_piece", 3, ["grid", "lot", "side", "at", "to"], false, (.cons (.ret (.prim .tup (.cons (.comp (.seq (.var 1)) (.name 3) [("at", 3)] .no (.prim .tup (.cons (.comp (.seq (.var 2)) (.name 4) [("to", 4)] .no (.idx (.idx (.var 0) (.var 3)) (.var 4))) .nil))) .nil))) .nil)⟩
def _law_is_whole : Fn := ⟨"_law_is_whole", 1, ["thing"], false, (.cons (.ret (.and (.isi (.var 0) .int) (.not (.isi (.var 0) .bool)))) .nil)⟩
def _law_is_number : Fn := ⟨"_law_is_number", 1, ["thing", "each"], false, (.cons (.ite (.or (.not (.isi (.var 0) .tuple)) (.or (.cmp .ne (.prim .len (.cons (.var 0) .nil)) (.int 2)) (.not (.prim .all (.cons (.comp (.seq (.var 0)) (.name 1) [("each", 1)] .no (.call 41 (.cons (.var 1) .nil))) .nil))))) (.cons (.ret (.bl false)) .nil) .nil) (.cons (.ret (.and (.cmp .gt (.idx (.var 0) (.int 1)) (.int 0)) (.cmp .eq (.call 29 (.cons (.idx (.var 0) (.int 0)) (.cons (.idx (.var 0) (.int 1)) .nil))) (.var 0)))) .nil))⟩
def _law_is_line : Fn := ⟨"_law_is_line", 2, ["thing", "many", "each"], false, (.cons (.ret (.and (.isi (.var 0) .tuple) (.and (.cmp .eq (.prim .len (.cons (.var 0) .nil)) (.var 1)) (.prim .all (.cons (.comp (.seq (.var 0)) (.name 2) [("each", 2)] .no (.call 114 (.cons (.var 2) .nil))) .nil))))) .nil)⟩
def _law_is_grid : Fn := ⟨"_law_is_grid", 3, ["thing", "tall", "wide", "each"], false, (.cons (.ret (.and (.isi (.var 0) .tuple) (.and (.cmp .eq (.prim .len (.cons (.var 0) .nil)) (.var 1)) (.prim .all (.cons (.comp (.seq (.var 0)) (.name 3) [("each", 3)] .no (.call 115 (.cons (.var 3) (.cons (.var 2) .nil)))) .nil))))) .nil)⟩
def _law_is_whole_table : Fn := ⟨"_law_is_whole_table", 1, ["thing"], false, (.cons (.ite (.or (.not (.isi (.var 0) .tuple)) (.or (.not (.chain .lt .lt (.int 0) (.prim .len (.cons (.var 0) .nil)) (.int 7))) (.not (.isi (.idx (.var 0) (.int 0)) .tuple)))) (.cons (.ret (.bl false)) .nil) .nil) (.cons (.ret (.and (.chain .lt .lt (.int 0) (.prim .len (.cons (.idx (.var 0) (.int 0)) .nil)) (.int 7)) (.call 116 (.cons (.var 0) (.cons (.prim .len (.cons (.var 0) .nil)) (.cons (.prim .len (.cons (.idx (.var 0) (.int 0)) .nil)) .nil)))))) .nil))⟩
def _law_same : Fn := ⟨"_law_same", 2, ["told", "due", "x", "y"], false, (.cons (.ite (.isi (.var 1) .tuple) (.cons (.ret (.and (.isi (.var 0) .tuple) (.and (.cmp .eq (.prim .len (.cons (.var 0) .nil)) (.prim .len (.cons (.var 1) .nil))) (.prim .all (.cons (.comp (.zip (.var 0) (.var 1)) (.tup [2, 3]) [("x", 2), ("y", 3)] .no (.call 42 (.cons (.var 2) (.cons (.var 3) .nil)))) .nil))))) .nil) .nil) (.cons (.ite (.cmp .isN (.var 1) .non) (.cons (.ret (.cmp .isN (.var 0) .non)) .nil) .nil) (.cons (.ite (.isi (.var 1) .bool) (.cons (.ret (.and (.isi (.var 0) .bool) (.cmp .eq (.var 0) (.var 1)))) .nil) .nil) (.cons (.ite (.isi (.var 1) .str) (.cons (.ret (.and (.isi (.var 0) .str) (.cmp .eq (.var 0) (.var 1)))) .nil) .nil) (.cons (.ret (.and (.call 41 (.cons (.var 0) .nil)) (.cmp .eq (.var 0) (.var 1)))) .nil)))))⟩
def _law_odd : Fn := ⟨"_law_odd", 1, ["well"], false, (.cons (.ret (.call 28 (.cons (.var 0) (.cons (.tup (.cons .non (.cons (.bl true) (.cons (.bl false) (.cons (.int 0) (.cons (.int 1) (.cons (.neg (.int 1)) (.cons (.int 3) (.cons (.bin .pow (.int 10) (.int 25)) (.cons (.str "") (.cons (.str "0") (.cons (.str "(0, 1)") (.cons (.tup .nil) (.cons (.tup (.cons (.int 0) .nil)) (.cons (.tup (.cons (.int 0) (.cons (.int 1) .nil))) (.cons (.tup (.cons (.int 1) (.cons (.int 1) .nil))) (.cons (.tup (.cons (.int 2) (.cons (.int 2) .nil))) (.cons (.tup (.cons (.int 0) (.cons (.int 3) .nil))) (.cons (.tup (.cons (.int 1) (.cons (.int 0) .nil))) (.cons (.tup (.cons (.int 3) (.cons (.neg (.int 2)) .nil))) (.cons (.tup (.cons (.bl true) (.cons (.int 1) .nil))) (.cons (.tup (.cons (.int 0) (.cons (.bl true) .nil))) (.cons (.tup (.cons (.int 1) (.cons (.int 1) (.cons (.int 1) .nil)))) (.cons (.tup (.cons (.tup .nil) .nil)) (.cons (.tup (.cons (.tup (.cons (.int 0) (.cons (.int 1) .nil))) .nil)) (.cons (.tup (.cons (.tup (.cons (.tup (.cons (.int 0) (.cons (.int 1) .nil))) .nil)) .nil)) (.cons (.lst .nil) (.cons (.lst (.cons (.int 0) (.cons (.int 1) .nil))) (.cons (.lst (.cons (.tup (.cons (.int 0) (.cons (.int 1) .nil))) .nil)) (.cons .dct (.cons (.tup (.cons .non (.cons (.int 1) .nil))) (.cons (.tup (.cons (.str "0") (.cons (.int 1) .nil))) (.cons (.tup (.cons (.tup (.cons (.tup (.cons (.int 1) (.cons (.int 1) .nil))) .nil)) (.cons (.tup (.cons (.tup (.cons (.int 1) (.cons (.int 1) .nil))) .nil)) .nil))) (.cons (.tup (.cons (.tup .nil) (.cons (.tup .nil) (.cons (.tup .nil) .nil)))) .nil)))))))))))))))))))))))))))))))))) .nil)))) .nil)⟩
def _law_bent_v2 : Fn := ⟨"_law_bent", 2, ["well", "thing", "branch", "spot"], false, (.cons (.ite (.and (.isi (.var 1) .tuple) (.and (.cmp .ne (.var 1) (.tup .nil)) (.cmp .gt (.call 27 (.cons (.var 0) (.cons (.int 4) .nil))) (.int 0)))) (.cons (.set 3 (.call 27 (.cons (.var 0) (.cons (.prim .len (.cons (.var 1) .nil)) .nil)))) (.cons (.ret (.bin .add (.bin .add (.sl (.var 1) .no (.so (.var 3))) (.tup (.cons (.call 456 (.cons (.var 0) (.cons (.idx (.var 1) (.var 3)) .nil))) .nil))) (.sl (.var 1) (.so (.bin .add (.var 3) (.int 1))) .no))) .nil)) .nil) (.cons (.set 2 (.call 27 (.cons (.var 0) (.cons (.int 9) .nil)))) (.cons (.ite (.and (.isi (.var 1) .tuple) (.cmp .lt (.var 2) (.int 6))) (.cons (.ret (.idx (.tup (.cons (.prim .lst (.cons (.var 1) .nil)) (.cons (.sl (.var 1) .no (.so (.neg (.int 1)))) (.cons (.bin .add (.var 1) (.sl (.var 1) (.so (.neg (.int 1))) .no)) (.cons (.rvs (.var 1)) (.cons (.sl (.var 1) (.so (.int 1)) .no) (.cons (.bin .add (.sl (.var 1) .no (.so (.int 1))) (.var 1)) .nil))))))) (.var 2))) .nil) .nil) (.cons (.ite (.and (.isi (.var 1) .int) (.cmp .lt (.var 2) (.int 5))) (.cons (.ret (.idx (.tup (.cons (.bin .add (.var 1) (.int 1)) (.cons (.bin .sub (.int 0) (.var 1)) (.cons (.bin .mul (.int 2) (.var 1)) (.cons (.bin .sub (.var 1) (.int 2)) (.cons (.cmp .eq (.var 1) (.int 1)) .nil)))))) (.var 2))) .nil) .nil) (.cons (.ret (.call 455 (.cons (.var 0) .nil))) .nil)))))⟩
def _law_right_v34 : Fn := ⟨"_law_right", 1, ["well", "far", "bent", "some", "told", "tall", "wide", "grid", "more", "lot", "side", "each"], false, (.cons (.par [5, 6] (.cons (.call 111 (.cons (.var 0) .nil)) (.cons (.call 111 (.cons (.var 0) .nil)) .nil))) (.cons (.par [7, 8] (.cons (.call 110 (.cons (.var 0) (.cons (.var 5) (.cons (.var 6) .nil)))) (.cons (.call 110 (.cons (.var 0) (.cons (.var 6) (.cons (.call 111 (.cons (.var 0) .nil)) .nil)))) .nil))) (.cons (.par [9, 10] (.cons (.call 112 (.cons (.var 0) (.cons (.var 5) .nil))) (.cons (.call 112 (.cons (.var 0) (.cons (.var 6) .nil))) .nil))) (.cons (.set 1 (.call 36 (.cons (.var 0) (.cons (.bin .add (.int 6) (.call 27 (.cons (.var 0) (.cons (.int 2) .nil)))) (.cons (.idx (.tup (.cons (.int 1) (.cons (.int 6) (.cons (.int 7) .nil)))) (.call 27 (.cons (.var 0) (.cons (.int 3) .nil)))) .nil))))) (.cons (.set 2 (.call 456 (.cons (.var 0) (.cons (.var 7) .nil)))) (.cons (.set 3 (.lst (.cons (.var 7) (.cons (.var 8) (.cons (.var 1) (.cons (.var 2) (.cons (.call 456 (.cons (.var 0) (.cons (.var 2) .nil))) (.cons (.call 455 (.cons (.var 0) .nil)) (.cons (.call 456 (.cons (.var 0) (.cons (.tup (.cons (.var 7) (.cons (.var 8) .nil))) .nil))) .nil))))))))) (.cons (.ite (.cmp .ne (.prim .repr (.cons (.comp (.seq (.var 3)) (.name 11) [("each", 11)] .no (.call 486 (.cons (.var 11) .nil))) .nil)) (.prim .repr (.cons (.comp (.seq (.var 3)) (.name 11) [("each", 11)] .no (.call 192 (.cons (.var 11) .nil))) .nil))) (.cons (.ret (.bl false)) .nil) .nil) (.cons (.set 4 (.tup (.cons (.call 152 (.cons (.var 7) (.cons (.var 9) (.cons (.var 10) .nil)))) (.cons (.callK 152 ["columns", "table", "rows"] [1, 2, 0] .nil (.cons (.var 10) (.cons (.var 7) (.cons (.var 9) .nil)))) (.cons (.call 177 (.cons (.var 7) (.cons (.var 8) .nil))) .nil))))) (.cons (.ite (.not (.call 42 (.cons (.var 4) (.cons (.bin .add (.bin .mul (.tup (.cons (.call 113 (.cons (.var 7) (.cons (.var 9) (.cons (.var 10) .nil)))) .nil)) (.int 2)) (.tup (.cons (.call 109 (.cons (.var 7) (.cons (.var 8) .nil))) .nil))) .nil)))) (.cons (.ret (.bl false)) .nil) .nil) (.cons (.set 4 (.tup (.cons (.callK 177 ["other", "table"] [1, 0] .nil (.cons (.var 8) (.cons (.var 7) .nil))) (.cons (.call 124 (.cons (.var 7) .nil)) (.cons (.callK 124 ["table"] [0] .nil (.cons (.call 124 (.cons (.var 7) .nil)) .nil)) .nil))))) (.cons (.ite (.not (.call 42 (.cons (.var 4) (.cons (.tup (.cons (.call 109 (.cons (.var 7) (.cons (.var 8) .nil))) (.cons (.call 108 (.cons (.var 7) .nil)) (.cons (.var 7) .nil)))) .nil)))) (.cons (.ret (.bl false)) .nil) .nil) (.cons (.ret (.call 42 (.cons (.callK 486 ["value"] [0] .nil (.cons (.var 1) .nil)) (.cons (.call 192 (.cons (.var 1) .nil)) .nil)))) .nil))))))))))))⟩
def law_v34 : Fn := ⟨"law", 1, ["script", "turn"], false, (.cons (.ret (.prim .all (.cons (.comp (.rng1 (.prim .max2 (.cons (.int 2) (.cons (.prim .min2 (.cons (.prim .len (.cons (.var 0) .nil)) (.cons (.int 3) .nil))) .nil)))) (.name 1) [("turn", 1)] .no (.call 488 (.cons (.call 487 (.cons (.var 0) (.cons (.var 1) .nil))) .nil))) .nil))) .nil)⟩
end F
def rows0 : List Row := [⟨0, 7, F.is_whole⟩, ⟨1, 8, F.is_between⟩, ⟨2, 9, F.are_wholes⟩, ⟨3, 10, F.divisor_of⟩, ⟨4, 13, F.is_ratio⟩, ⟨5, 14, F.ratio⟩, ⟨6, 15, F.plus⟩, ⟨7, 16, F.times⟩, ⟨10, 18, F.is_row⟩, ⟨11, 19, F.are_rows⟩, ⟨55, 20, F.noughts⟩, ⟨13, 21, F.row_plus⟩, ⟨14, 22, F.row_scaled⟩, ⟨56, 23, F.mixed⟩, ⟨16, 24, F.flipped⟩, ⟨57, 25, F.multiplied⟩, ⟨78, 28, F.is_tabled⟩, ⟨96, 29, F.is_lotted⟩, ⟨80, 30, F.part_by⟩, ⟨99, 32, F.check_table⟩]
def rows1 : List Row := [⟨100, 33, F.check_lot⟩, ⟨101, 34, F.check_lots⟩, ⟨486, 36, F.is_table⟩, ⟨124, 37, F.turned_over⟩, ⟨177, 38, F.product⟩, ⟨152, 39, F.part⟩, ⟨487, 41, F._law_well_v19⟩, ⟨27, 42, F._law_draw⟩, ⟨28, 43, F._law_pick⟩, ⟨29, 44, F._law_lean⟩, ⟨32, 45, F._law_dot⟩, ⟨108, 46, F._law_flip⟩, ⟨109, 47, F._law_mul⟩, ⟨34, 48, F._law_number⟩, ⟨35, 49, F._law_line⟩, ⟨36, 50, F._law_lines⟩, ⟨110, 51, F._law_any⟩, ⟨111, 52, F._law_many⟩, ⟨112, 53, F._law_lot⟩, ⟨113, 54, F._law_piece⟩]
def rows2 : List Row := [⟨41, 55, F._law_is_whole⟩, ⟨114, 56, F._law_is_number⟩, ⟨115, 57, F._law_is_line⟩, ⟨116, 58, F._law_is_grid⟩, ⟨192, 59, F._law_is_whole_table⟩, ⟨42, 60, F._law_same⟩, ⟨455, 61, F._law_odd⟩, ⟨456, 62, F._law_bent_v2⟩, ⟨488, 63, F._law_right_v34⟩, ⟨489, 64, F.law_v34⟩]
def rows : List Row := rows0 ++ (rows1 ++ (rows2))
def kws0 : List (Nat × Nat × List Str × List Nat) := [(152, 0, ["columns", "table", "rows"], [1, 2, 0]), (177, 0, ["other", "table"], [1, 0]), (124, 0, ["table"], [0]), (486, 0, ["value"], [0])]
def kws : List (Nat × Nat × List Str × List Nat) := kws0
def prg : Prg := ⟨rows, globs, kws, none, ["_law_right", "law"]⟩
theorem names_eq : prg.names = fnames := by rfl
theorem exc_eq : prg.exc = excs := by rfl
theorem tf_eq : prg.tf = tfs := by decide +kernel
def T : Nat → Option Fn := prg.fns
def G : Nat → Option D := prg.G
theorem T_is_whole : T 0 = some F.is_whole := by rfl
theorem T_is_between : T 1 = some F.is_between := by rfl
theorem T_are_wholes : T 2 = some F.are_wholes := by rfl
theorem T_divisor_of : T 3 = some F.divisor_of := by rfl
theorem T_is_ratio : T 4 = some F.is_ratio := by rfl
theorem T_ratio : T 5 = some F.ratio := by rfl
theorem T_plus : T 6 = some F.plus := by rfl
theorem T_times : T 7 = some F.times := by rfl
theorem T_is_row : T 10 = some F.is_row := by rfl
theorem T_are_rows : T 11 = some F.are_rows := by rfl
theorem T_noughts : T 55 = some F.noughts := by rfl
theorem T_row_plus : T 13 = some F.row_plus := by rfl
theorem T_row_scaled : T 14 = some F.row_scaled := by rfl
theorem T_mixed : T 56 = some F.mixed := by rfl
theorem T_flipped : T 16 = some F.flipped := by rfl
theorem T_multiplied : T 57 = some F.multiplied := by rfl
theorem T_is_tabled : T 78 = some F.is_tabled := by rfl
theorem T_is_lotted : T 96 = some F.is_lotted := by rfl
theorem T_part_by : T 80 = some F.part_by := by rfl
theorem T_check_table : T 99 = some F.check_table := by rfl
theorem T_check_lot : T 100 = some F.check_lot := by rfl
theorem T_check_lots : T 101 = some F.check_lots := by rfl
theorem T_is_table : T 486 = some F.is_table := by rfl
theorem T_turned_over : T 124 = some F.turned_over := by rfl
theorem T_product : T 177 = some F.product := by rfl
theorem T_part : T 152 = some F.part := by rfl
theorem T__law_well_v19 : T 487 = some F._law_well_v19 := by rfl
theorem T__law_draw : T 27 = some F._law_draw := by rfl
theorem T__law_pick : T 28 = some F._law_pick := by rfl
theorem T__law_lean : T 29 = some F._law_lean := by rfl
theorem T__law_dot : T 32 = some F._law_dot := by rfl
theorem T__law_flip : T 108 = some F._law_flip := by rfl
theorem T__law_mul : T 109 = some F._law_mul := by rfl
theorem T__law_number : T 34 = some F._law_number := by rfl
theorem T__law_line : T 35 = some F._law_line := by rfl
theorem T__law_lines : T 36 = some F._law_lines := by rfl
theorem T__law_any : T 110 = some F._law_any := by rfl
theorem T__law_many : T 111 = some F._law_many := by rfl
theorem T__law_lot : T 112 = some F._law_lot := by rfl
theorem T__law_piece : T 113 = some F._law_piece := by rfl
theorem T__law_is_whole : T 41 = some F._law_is_whole := by rfl
theorem T__law_is_number : T 114 = some F._law_is_number := by rfl
theorem T__law_is_line : T 115 = some F._law_is_line := by rfl
theorem T__law_is_grid : T 116 = some F._law_is_grid := by rfl
theorem T__law_is_whole_table : T 192 = some F._law_is_whole_table := by rfl
theorem T__law_same : T 42 = some F._law_same := by rfl
theorem T__law_odd : T 455 = some F._law_odd := by rfl
theorem T__law_bent_v2 : T 456 = some F._law_bent_v2 := by rfl
theorem T__law_right_v34 : T 488 = some F._law_right_v34 := by rfl
theorem T_law_v34 : T 489 = some F.law_v34 := by rfl
/-! ## each def is the row's -/
theorem row_is_whole : Frow prg.tab 0 F.is_whole (defArgs (top 7)) (defBody (top 7)) (defScope (top 7)) where
  np := by decide +kernel
  sc := by decide +kernel
  ok := by decide +kernel
  bind := fun _ _ _ _ _ _ us hl => match us, hl with | [_], _ => rfl
  kw := fun n ks perm h => (no_kw (by decide +kernel) h).elim
theorem row_is_between : Frow prg.tab 1 F.is_between (defArgs (top 8)) (defBody (top 8)) (defScope (top 8)) where
  np := by decide +kernel
  sc := by decide +kernel
  ok := by decide +kernel
  bind := fun _ _ _ _ _ _ us hl => match us, hl with | [_, _, _], _ => rfl
  kw := fun n ks perm h => (no_kw (by decide +kernel) h).elim
theorem row_are_wholes : Frow prg.tab 2 F.are_wholes (defArgs (top 9)) (defBody (top 9)) (defScope (top 9)) where
  np := by decide +kernel
  sc := by decide +kernel
  ok := by decide +kernel
  bind := fun _ _ _ _ _ _ us hl => match us, hl with | [_, _], _ => rfl
  kw := fun n ks perm h => (no_kw (by decide +kernel) h).elim
theorem row_divisor_of : Frow prg.tab 3 F.divisor_of (defArgs (top 10)) (defBody (top 10)) (defScope (top 10)) where
  np := by decide +kernel
  sc := by decide +kernel
  ok := by decide +kernel
  bind := fun _ _ _ _ _ _ us hl => match us, hl with | [_, _], _ => rfl
  kw := fun n ks perm h => (no_kw (by decide +kernel) h).elim
theorem row_is_ratio : Frow prg.tab 4 F.is_ratio (defArgs (top 13)) (defBody (top 13)) (defScope (top 13)) where
  np := by decide +kernel
  sc := by decide +kernel
  ok := by decide +kernel
  bind := fun _ _ _ _ _ _ us hl => match us, hl with | [_], _ => rfl
  kw := fun n ks perm h => (no_kw (by decide +kernel) h).elim
theorem row_ratio : Frow prg.tab 5 F.ratio (defArgs (top 14)) (defBody (top 14)) (defScope (top 14)) where
  np := by decide +kernel
  sc := by decide +kernel
  ok := by decide +kernel
  bind := fun _ _ _ _ _ _ us hl => match us, hl with | [_, _], _ => rfl
  kw := fun n ks perm h => (no_kw (by decide +kernel) h).elim
theorem row_plus : Frow prg.tab 6 F.plus (defArgs (top 15)) (defBody (top 15)) (defScope (top 15)) where
  np := by decide +kernel
  sc := by decide +kernel
  ok := by decide +kernel
  bind := fun _ _ _ _ _ _ us hl => match us, hl with | [_, _], _ => rfl
  kw := fun n ks perm h => (no_kw (by decide +kernel) h).elim
theorem row_times : Frow prg.tab 7 F.times (defArgs (top 16)) (defBody (top 16)) (defScope (top 16)) where
  np := by decide +kernel
  sc := by decide +kernel
  ok := by decide +kernel
  bind := fun _ _ _ _ _ _ us hl => match us, hl with | [_, _], _ => rfl
  kw := fun n ks perm h => (no_kw (by decide +kernel) h).elim
theorem row_is_row : Frow prg.tab 10 F.is_row (defArgs (top 18)) (defBody (top 18)) (defScope (top 18)) where
  np := by decide +kernel
  sc := by decide +kernel
  ok := by decide +kernel
  bind := fun _ _ _ _ _ _ us hl => match us, hl with | [_, _], _ => rfl
  kw := fun n ks perm h => (no_kw (by decide +kernel) h).elim
theorem row_are_rows : Frow prg.tab 11 F.are_rows (defArgs (top 19)) (defBody (top 19)) (defScope (top 19)) where
  np := by decide +kernel
  sc := by decide +kernel
  ok := by decide +kernel
  bind := fun _ _ _ _ _ _ us hl => match us, hl with | [_, _, _], _ => rfl
  kw := fun n ks perm h => (no_kw (by decide +kernel) h).elim
theorem row_noughts : Frow prg.tab 55 F.noughts (defArgs (top 20)) (defBody (top 20)) (defScope (top 20)) where
  np := by decide +kernel
  sc := by decide +kernel
  ok := by decide +kernel
  bind := fun _ _ _ _ _ _ us hl => match us, hl with | [_], _ => rfl
  kw := fun n ks perm h => (no_kw (by decide +kernel) h).elim
theorem row_row_plus : Frow prg.tab 13 F.row_plus (defArgs (top 21)) (defBody (top 21)) (defScope (top 21)) where
  np := by decide +kernel
  sc := by decide +kernel
  ok := by decide +kernel
  bind := fun _ _ _ _ _ _ us hl => match us, hl with | [_, _], _ => rfl
  kw := fun n ks perm h => (no_kw (by decide +kernel) h).elim
theorem row_row_scaled : Frow prg.tab 14 F.row_scaled (defArgs (top 22)) (defBody (top 22)) (defScope (top 22)) where
  np := by decide +kernel
  sc := by decide +kernel
  ok := by decide +kernel
  bind := fun _ _ _ _ _ _ us hl => match us, hl with | [_, _], _ => rfl
  kw := fun n ks perm h => (no_kw (by decide +kernel) h).elim
theorem row_mixed : Frow prg.tab 56 F.mixed (defArgs (top 23)) (defBody (top 23)) (defScope (top 23)) where
  np := by decide +kernel
  sc := by decide +kernel
  ok := by decide +kernel
  bind := fun _ _ _ _ _ _ us hl => match us, hl with | [_, _, _], _ => rfl
  kw := fun n ks perm h => (no_kw (by decide +kernel) h).elim
theorem row_flipped : Frow prg.tab 16 F.flipped (defArgs (top 24)) (defBody (top 24)) (defScope (top 24)) where
  np := by decide +kernel
  sc := by decide +kernel
  ok := by decide +kernel
  bind := fun _ _ _ _ _ _ us hl => match us, hl with | [_, _], _ => rfl
  kw := fun n ks perm h => (no_kw (by decide +kernel) h).elim
theorem row_multiplied : Frow prg.tab 57 F.multiplied (defArgs (top 25)) (defBody (top 25)) (defScope (top 25)) where
  np := by decide +kernel
  sc := by decide +kernel
  ok := by decide +kernel
  bind := fun _ _ _ _ _ _ us hl => match us, hl with | [_, _, _], _ => rfl
  kw := fun n ks perm h => (no_kw (by decide +kernel) h).elim
theorem row_is_tabled : Frow prg.tab 78 F.is_tabled (defArgs (top 28)) (defBody (top 28)) (defScope (top 28)) where
  np := by decide +kernel
  sc := by decide +kernel
  ok := by decide +kernel
  bind := fun _ _ _ _ _ _ us hl => match us, hl with | [_], _ => rfl
  kw := fun n ks perm h => (no_kw (by decide +kernel) h).elim
theorem row_is_lotted : Frow prg.tab 96 F.is_lotted (defArgs (top 29)) (defBody (top 29)) (defScope (top 29)) where
  np := by decide +kernel
  sc := by decide +kernel
  ok := by decide +kernel
  bind := fun _ _ _ _ _ _ us hl => match us, hl with | [_, _], _ => rfl
  kw := fun n ks perm h => (no_kw (by decide +kernel) h).elim
theorem row_part_by : Frow prg.tab 80 F.part_by (defArgs (top 30)) (defBody (top 30)) (defScope (top 30)) where
  np := by decide +kernel
  sc := by decide +kernel
  ok := by decide +kernel
  bind := fun _ _ _ _ _ _ us hl => match us, hl with | [_, _, _], _ => rfl
  kw := fun n ks perm h => (no_kw (by decide +kernel) h).elim
theorem row_check_table : Frow prg.tab 99 F.check_table (defArgs (top 32)) (defBody (top 32)) (defScope (top 32)) where
  np := by decide +kernel
  sc := by decide +kernel
  ok := by decide +kernel
  bind := fun _ _ _ _ _ _ us hl => match us, hl with | [_], _ => rfl
  kw := fun n ks perm h => (no_kw (by decide +kernel) h).elim
theorem row_check_lot : Frow prg.tab 100 F.check_lot (defArgs (top 33)) (defBody (top 33)) (defScope (top 33)) where
  np := by decide +kernel
  sc := by decide +kernel
  ok := by decide +kernel
  bind := fun _ _ _ _ _ _ us hl => match us, hl with | [_, _], _ => rfl
  kw := fun n ks perm h => (no_kw (by decide +kernel) h).elim
theorem row_check_lots : Frow prg.tab 101 F.check_lots (defArgs (top 34)) (defBody (top 34)) (defScope (top 34)) where
  np := by decide +kernel
  sc := by decide +kernel
  ok := by decide +kernel
  bind := fun _ _ _ _ _ _ us hl => match us, hl with | [_, _, _], _ => rfl
  kw := fun n ks perm h => (no_kw (by decide +kernel) h).elim
theorem row_is_table : Frow prg.tab 486 F.is_table (defArgs (top 36)) (defBody (top 36)) (defScope (top 36)) where
  np := by decide +kernel
  sc := by decide +kernel
  ok := by decide +kernel
  bind := fun _ _ _ _ _ _ us hl => match us, hl with | [_], _ => rfl
  kw := fun n ks perm h => by
    have h1 := mem_kwsOf h
    have e : kwsOf prg.tab 486 = ([(0, ["value"], [0])] : List (Nat × List Str × List Nat)) := by decide +kernel
    rw [e] at h1
    cases h1 with
    | head => exact fun _ _ _ _ _ _ us ws l1 l2 => match us, ws, l1, l2 with | [], [_], _, _ => rfl
    | tail _ h1 =>
    cases h1
theorem row_turned_over : Frow prg.tab 124 F.turned_over (defArgs (top 37)) (defBody (top 37)) (defScope (top 37)) where
  np := by decide +kernel
  sc := by decide +kernel
  ok := by decide +kernel
  bind := fun _ _ _ _ _ _ us hl => match us, hl with | [_], _ => rfl
  kw := fun n ks perm h => by
    have h1 := mem_kwsOf h
    have e : kwsOf prg.tab 124 = ([(0, ["table"], [0])] : List (Nat × List Str × List Nat)) := by decide +kernel
    rw [e] at h1
    cases h1 with
    | head => exact fun _ _ _ _ _ _ us ws l1 l2 => match us, ws, l1, l2 with | [], [_], _, _ => rfl
    | tail _ h1 =>
    cases h1
theorem row_product : Frow prg.tab 177 F.product (defArgs (top 38)) (defBody (top 38)) (defScope (top 38)) where
  np := by decide +kernel
  sc := by decide +kernel
  ok := by decide +kernel
  bind := fun _ _ _ _ _ _ us hl => match us, hl with | [_, _], _ => rfl
  kw := fun n ks perm h => by
    have h1 := mem_kwsOf h
    have e : kwsOf prg.tab 177 = ([(0, ["other", "table"], [1, 0])] : List (Nat × List Str × List Nat)) := by decide +kernel
    rw [e] at h1
    cases h1 with
    | head => exact fun _ _ _ _ _ _ us ws l1 l2 => match us, ws, l1, l2 with | [], [_, _], _, _ => rfl
    | tail _ h1 =>
    cases h1
theorem row_part : Frow prg.tab 152 F.part (defArgs (top 39)) (defBody (top 39)) (defScope (top 39)) where
  np := by decide +kernel
  sc := by decide +kernel
  ok := by decide +kernel
  bind := fun _ _ _ _ _ _ us hl => match us, hl with | [_, _, _], _ => rfl
  kw := fun n ks perm h => by
    have h1 := mem_kwsOf h
    have e : kwsOf prg.tab 152 = ([(0, ["columns", "table", "rows"], [1, 2, 0])] : List (Nat × List Str × List Nat)) := by decide +kernel
    rw [e] at h1
    cases h1 with
    | head => exact fun _ _ _ _ _ _ us ws l1 l2 => match us, ws, l1, l2 with | [], [_, _, _], _, _ => rfl
    | tail _ h1 =>
    cases h1
theorem row__law_well_v19 : Frow prg.tab 487 F._law_well_v19 (defArgs (top 41)) (defBody (top 41)) (defScope (top 41)) where
  np := by decide +kernel
  sc := by decide +kernel
  ok := by decide +kernel
  bind := fun _ _ _ _ _ _ us hl => match us, hl with | [_, _], _ => rfl
  kw := fun n ks perm h => (no_kw (by decide +kernel) h).elim
theorem row__law_draw : Frow prg.tab 27 F._law_draw (defArgs (top 42)) (defBody (top 42)) (defScope (top 42)) where
  np := by decide +kernel
  sc := by decide +kernel
  ok := by decide +kernel
  bind := fun _ _ _ _ _ _ us hl => match us, hl with | [_, _], _ => rfl
  kw := fun n ks perm h => (no_kw (by decide +kernel) h).elim
theorem row__law_pick : Frow prg.tab 28 F._law_pick (defArgs (top 43)) (defBody (top 43)) (defScope (top 43)) where
  np := by decide +kernel
  sc := by decide +kernel
  ok := by decide +kernel
  bind := fun _ _ _ _ _ _ us hl => match us, hl with | [_, _], _ => rfl
  kw := fun n ks perm h => (no_kw (by decide +kernel) h).elim
theorem row__law_lean : Frow prg.tab 29 F._law_lean (defArgs (top 44)) (defBody (top 44)) (defScope (top 44)) where
  np := by decide +kernel
  sc := by decide +kernel
  ok := by decide +kernel
  bind := fun _ _ _ _ _ _ us hl => match us, hl with | [_, _], _ => rfl
  kw := fun n ks perm h => (no_kw (by decide +kernel) h).elim
theorem row__law_dot : Frow prg.tab 32 F._law_dot (defArgs (top 45)) (defBody (top 45)) (defScope (top 45)) where
  np := by decide +kernel
  sc := by decide +kernel
  ok := by decide +kernel
  bind := fun _ _ _ _ _ _ us hl => match us, hl with | [_, _], _ => rfl
  kw := fun n ks perm h => (no_kw (by decide +kernel) h).elim
theorem row__law_flip : Frow prg.tab 108 F._law_flip (defArgs (top 46)) (defBody (top 46)) (defScope (top 46)) where
  np := by decide +kernel
  sc := by decide +kernel
  ok := by decide +kernel
  bind := fun _ _ _ _ _ _ us hl => match us, hl with | [_], _ => rfl
  kw := fun n ks perm h => (no_kw (by decide +kernel) h).elim
theorem row__law_mul : Frow prg.tab 109 F._law_mul (defArgs (top 47)) (defBody (top 47)) (defScope (top 47)) where
  np := by decide +kernel
  sc := by decide +kernel
  ok := by decide +kernel
  bind := fun _ _ _ _ _ _ us hl => match us, hl with | [_, _], _ => rfl
  kw := fun n ks perm h => (no_kw (by decide +kernel) h).elim
theorem row__law_number : Frow prg.tab 34 F._law_number (defArgs (top 48)) (defBody (top 48)) (defScope (top 48)) where
  np := by decide +kernel
  sc := by decide +kernel
  ok := by decide +kernel
  bind := fun _ _ _ _ _ _ us hl => match us, hl with | [_], _ => rfl
  kw := fun n ks perm h => (no_kw (by decide +kernel) h).elim
theorem row__law_line : Frow prg.tab 35 F._law_line (defArgs (top 49)) (defBody (top 49)) (defScope (top 49)) where
  np := by decide +kernel
  sc := by decide +kernel
  ok := by decide +kernel
  bind := fun _ _ _ _ _ _ us hl => match us, hl with | [_, _], _ => rfl
  kw := fun n ks perm h => (no_kw (by decide +kernel) h).elim
theorem row__law_lines : Frow prg.tab 36 F._law_lines (defArgs (top 50)) (defBody (top 50)) (defScope (top 50)) where
  np := by decide +kernel
  sc := by decide +kernel
  ok := by decide +kernel
  bind := fun _ _ _ _ _ _ us hl => match us, hl with | [_, _, _], _ => rfl
  kw := fun n ks perm h => (no_kw (by decide +kernel) h).elim
theorem row__law_any : Frow prg.tab 110 F._law_any (defArgs (top 51)) (defBody (top 51)) (defScope (top 51)) where
  np := by decide +kernel
  sc := by decide +kernel
  ok := by decide +kernel
  bind := fun _ _ _ _ _ _ us hl => match us, hl with | [_, _, _], _ => rfl
  kw := fun n ks perm h => (no_kw (by decide +kernel) h).elim
theorem row__law_many : Frow prg.tab 111 F._law_many (defArgs (top 52)) (defBody (top 52)) (defScope (top 52)) where
  np := by decide +kernel
  sc := by decide +kernel
  ok := by decide +kernel
  bind := fun _ _ _ _ _ _ us hl => match us, hl with | [_], _ => rfl
  kw := fun n ks perm h => (no_kw (by decide +kernel) h).elim
theorem row__law_lot : Frow prg.tab 112 F._law_lot (defArgs (top 53)) (defBody (top 53)) (defScope (top 53)) where
  np := by decide +kernel
  sc := by decide +kernel
  ok := by decide +kernel
  bind := fun _ _ _ _ _ _ us hl => match us, hl with | [_, _], _ => rfl
  kw := fun n ks perm h => (no_kw (by decide +kernel) h).elim
theorem row__law_piece : Frow prg.tab 113 F._law_piece (defArgs (top 54)) (defBody (top 54)) (defScope (top 54)) where
  np := by decide +kernel
  sc := by decide +kernel
  ok := by decide +kernel
  bind := fun _ _ _ _ _ _ us hl => match us, hl with | [_, _, _], _ => rfl
  kw := fun n ks perm h => (no_kw (by decide +kernel) h).elim
theorem row__law_is_whole : Frow prg.tab 41 F._law_is_whole (defArgs (top 55)) (defBody (top 55)) (defScope (top 55)) where
  np := by decide +kernel
  sc := by decide +kernel
  ok := by decide +kernel
  bind := fun _ _ _ _ _ _ us hl => match us, hl with | [_], _ => rfl
  kw := fun n ks perm h => (no_kw (by decide +kernel) h).elim
theorem row__law_is_number : Frow prg.tab 114 F._law_is_number (defArgs (top 56)) (defBody (top 56)) (defScope (top 56)) where
  np := by decide +kernel
  sc := by decide +kernel
  ok := by decide +kernel
  bind := fun _ _ _ _ _ _ us hl => match us, hl with | [_], _ => rfl
  kw := fun n ks perm h => (no_kw (by decide +kernel) h).elim
theorem row__law_is_line : Frow prg.tab 115 F._law_is_line (defArgs (top 57)) (defBody (top 57)) (defScope (top 57)) where
  np := by decide +kernel
  sc := by decide +kernel
  ok := by decide +kernel
  bind := fun _ _ _ _ _ _ us hl => match us, hl with | [_, _], _ => rfl
  kw := fun n ks perm h => (no_kw (by decide +kernel) h).elim
theorem row__law_is_grid : Frow prg.tab 116 F._law_is_grid (defArgs (top 58)) (defBody (top 58)) (defScope (top 58)) where
  np := by decide +kernel
  sc := by decide +kernel
  ok := by decide +kernel
  bind := fun _ _ _ _ _ _ us hl => match us, hl with | [_, _, _], _ => rfl
  kw := fun n ks perm h => (no_kw (by decide +kernel) h).elim
theorem row__law_is_whole_table : Frow prg.tab 192 F._law_is_whole_table (defArgs (top 59)) (defBody (top 59)) (defScope (top 59)) where
  np := by decide +kernel
  sc := by decide +kernel
  ok := by decide +kernel
  bind := fun _ _ _ _ _ _ us hl => match us, hl with | [_], _ => rfl
  kw := fun n ks perm h => (no_kw (by decide +kernel) h).elim
theorem row__law_same : Frow prg.tab 42 F._law_same (defArgs (top 60)) (defBody (top 60)) (defScope (top 60)) where
  np := by decide +kernel
  sc := by decide +kernel
  ok := by decide +kernel
  bind := fun _ _ _ _ _ _ us hl => match us, hl with | [_, _], _ => rfl
  kw := fun n ks perm h => (no_kw (by decide +kernel) h).elim
theorem row__law_odd : Frow prg.tab 455 F._law_odd (defArgs (top 61)) (defBody (top 61)) (defScope (top 61)) where
  np := by decide +kernel
  sc := by decide +kernel
  ok := by decide +kernel
  bind := fun _ _ _ _ _ _ us hl => match us, hl with | [_], _ => rfl
  kw := fun n ks perm h => (no_kw (by decide +kernel) h).elim
theorem row__law_bent_v2 : Frow prg.tab 456 F._law_bent_v2 (defArgs (top 62)) (defBody (top 62)) (defScope (top 62)) where
  np := by decide +kernel
  sc := by decide +kernel
  ok := by decide +kernel
  bind := fun _ _ _ _ _ _ us hl => match us, hl with | [_, _], _ => rfl
  kw := fun n ks perm h => (no_kw (by decide +kernel) h).elim
theorem row__law_right_v34 : Frow prg.tab 488 F._law_right_v34 (defArgs (top 63)) (defBody (top 63)) (defScope (top 63)) where
  np := by decide +kernel
  sc := by decide +kernel
  ok := by decide +kernel
  bind := fun _ _ _ _ _ _ us hl => match us, hl with | [_], _ => rfl
  kw := fun n ks perm h => (no_kw (by decide +kernel) h).elim
theorem row_law_v34 : Frow prg.tab 489 F.law_v34 (defArgs (top 64)) (defBody (top 64)) (defScope (top 64)) where
  np := by decide +kernel
  sc := by decide +kernel
  ok := by decide +kernel
  bind := fun _ _ _ _ _ _ us hl => match us, hl with | [_], _ => rfl
  kw := fun n ks perm h => (no_kw (by decide +kernel) h).elim
theorem rows_ok : ∀ r ∈ prg.rows, Frow prg.tab r.id r.fn (defArgs (top r.ix)) (defBody (top r.ix)) (defScope (top r.ix)) := by
  have e : prg.rows = [⟨0, 7, F.is_whole⟩, ⟨1, 8, F.is_between⟩, ⟨2, 9, F.are_wholes⟩, ⟨3, 10, F.divisor_of⟩, ⟨4, 13, F.is_ratio⟩, ⟨5, 14, F.ratio⟩, ⟨6, 15, F.plus⟩, ⟨7, 16, F.times⟩, ⟨10, 18, F.is_row⟩, ⟨11, 19, F.are_rows⟩, ⟨55, 20, F.noughts⟩, ⟨13, 21, F.row_plus⟩, ⟨14, 22, F.row_scaled⟩, ⟨56, 23, F.mixed⟩, ⟨16, 24, F.flipped⟩, ⟨57, 25, F.multiplied⟩, ⟨78, 28, F.is_tabled⟩, ⟨96, 29, F.is_lotted⟩, ⟨80, 30, F.part_by⟩, ⟨99, 32, F.check_table⟩, ⟨100, 33, F.check_lot⟩, ⟨101, 34, F.check_lots⟩, ⟨486, 36, F.is_table⟩, ⟨124, 37, F.turned_over⟩, ⟨177, 38, F.product⟩, ⟨152, 39, F.part⟩, ⟨487, 41, F._law_well_v19⟩, ⟨27, 42, F._law_draw⟩, ⟨28, 43, F._law_pick⟩, ⟨29, 44, F._law_lean⟩, ⟨32, 45, F._law_dot⟩, ⟨108, 46, F._law_flip⟩, ⟨109, 47, F._law_mul⟩, ⟨34, 48, F._law_number⟩, ⟨35, 49, F._law_line⟩, ⟨36, 50, F._law_lines⟩, ⟨110, 51, F._law_any⟩, ⟨111, 52, F._law_many⟩, ⟨112, 53, F._law_lot⟩, ⟨113, 54, F._law_piece⟩, ⟨41, 55, F._law_is_whole⟩, ⟨114, 56, F._law_is_number⟩, ⟨115, 57, F._law_is_line⟩, ⟨116, 58, F._law_is_grid⟩, ⟨192, 59, F._law_is_whole_table⟩, ⟨42, 60, F._law_same⟩, ⟨455, 61, F._law_odd⟩, ⟨456, 62, F._law_bent_v2⟩, ⟨488, 63, F._law_right_v34⟩, ⟨489, 64, F.law_v34⟩] := rfl
  rw [e]
  refine List.forall_mem_cons.mpr ⟨row_is_whole, List.forall_mem_cons.mpr ⟨row_is_between, List.forall_mem_cons.mpr ⟨row_are_wholes, List.forall_mem_cons.mpr ⟨row_divisor_of, List.forall_mem_cons.mpr ⟨row_is_ratio, List.forall_mem_cons.mpr ⟨row_ratio, List.forall_mem_cons.mpr ⟨row_plus, List.forall_mem_cons.mpr ⟨row_times, List.forall_mem_cons.mpr ⟨row_is_row, List.forall_mem_cons.mpr ⟨row_are_rows, List.forall_mem_cons.mpr ⟨row_noughts, List.forall_mem_cons.mpr ⟨row_row_plus, List.forall_mem_cons.mpr ⟨row_row_scaled, List.forall_mem_cons.mpr ⟨row_mixed, List.forall_mem_cons.mpr ⟨row_flipped, List.forall_mem_cons.mpr ⟨row_multiplied, List.forall_mem_cons.mpr ⟨row_is_tabled, List.forall_mem_cons.mpr ⟨row_is_lotted, List.forall_mem_cons.mpr ⟨row_part_by, List.forall_mem_cons.mpr ⟨row_check_table, List.forall_mem_cons.mpr ⟨row_check_lot, List.forall_mem_cons.mpr ⟨row_check_lots, List.forall_mem_cons.mpr ⟨row_is_table, List.forall_mem_cons.mpr ⟨row_turned_over, List.forall_mem_cons.mpr ⟨row_product, List.forall_mem_cons.mpr ⟨row_part, List.forall_mem_cons.mpr ⟨row__law_well_v19, List.forall_mem_cons.mpr ⟨row__law_draw, List.forall_mem_cons.mpr ⟨row__law_pick, List.forall_mem_cons.mpr ⟨row__law_lean, List.forall_mem_cons.mpr ⟨row__law_dot, List.forall_mem_cons.mpr ⟨row__law_flip, List.forall_mem_cons.mpr ⟨row__law_mul, List.forall_mem_cons.mpr ⟨row__law_number, List.forall_mem_cons.mpr ⟨row__law_line, List.forall_mem_cons.mpr ⟨row__law_lines, List.forall_mem_cons.mpr ⟨row__law_any, List.forall_mem_cons.mpr ⟨row__law_many, List.forall_mem_cons.mpr ⟨row__law_lot, List.forall_mem_cons.mpr ⟨row__law_piece, List.forall_mem_cons.mpr ⟨row__law_is_whole, List.forall_mem_cons.mpr ⟨row__law_is_number, List.forall_mem_cons.mpr ⟨row__law_is_line, List.forall_mem_cons.mpr ⟨row__law_is_grid, List.forall_mem_cons.mpr ⟨row__law_is_whole_table, List.forall_mem_cons.mpr ⟨row__law_same, List.forall_mem_cons.mpr ⟨row__law_odd, List.forall_mem_cons.mpr ⟨row__law_bent_v2, List.forall_mem_cons.mpr ⟨row__law_right_v34, List.forall_mem_cons.mpr ⟨row_law_v34, fun r h => nomatch h⟩⟩⟩⟩⟩⟩⟩⟩⟩⟩⟩⟩⟩⟩⟩⟩⟩⟩⟩⟩⟩⟩⟩⟩⟩⟩⟩⟩⟩⟩⟩⟩⟩⟩⟩⟩⟩⟩⟩⟩⟩⟩⟩⟩⟩⟩⟩⟩⟩⟩
theorem told_ok : toldOk prg top = true := by decide +kernel
theorem told_bind : toldBind prg top := fun q h => nomatch h
theorem ids_ok : (prg.rows.all fun r => decide (r.id < rzN)) = true := by decide +kernel
end Rf
end

section
set_option maxRecDepth 100000
set_option maxHeartbeats 4000000
set_option autoImplicit false
namespace Rf
open PySem PySem.Spec PyProof.Rows L2
/-! ## the evaluator by what is wanted behind it -/
def wp {α : Type} (o : Option α) (Q : α → Prop) : Prop := ∃ x, o = some x ∧ Q x
section
variable {α β : Type}
theorem wp_some {x : α} {Q : α → Prop} : wp (some x) Q ↔ Q x := ⟨fun ⟨_, e, h⟩ => by cases e; exact h, fun h => ⟨x, rfl, h⟩⟩
theorem wp_none {Q : α → Prop} : wp none Q ↔ False := ⟨fun ⟨_, e, _⟩ => (by cases e), False.elim⟩
theorem wp_mono {o : Option α} {Q Q' : α → Prop} (h : wp o Q) (k : ∀ x, Q x → Q' x) : wp o Q' := let ⟨x, e, q⟩ := h; ⟨x, e, k x q⟩
theorem wp_eq {o : Option α} {x : α} {Q : α → Prop} (e : o = some x) (h : Q x) : wp o Q := ⟨x, e, h⟩
theorem wp_bind {o : Option α} {f : α → Option β} {Q : β → Prop} : wp (o.bind f) Q ↔ wp o fun x => wp (f x) Q := by
  cases o with
  | none => exact ⟨fun ⟨_, e, _⟩ => (by cases e), fun ⟨_, e, _⟩ => (by cases e)⟩
  | some a => exact ⟨fun h => ⟨a, rfl, h⟩, fun ⟨_, e, h⟩ => by cases e; exact h⟩
theorem wp_map {o : Option α} {f : α → β} {Q : β → Prop} : wp (o.map f) Q ↔ wp o fun x => Q (f x) := by
  cases o with
  | none => exact ⟨fun ⟨_, e, _⟩ => (by cases e), fun ⟨_, e, _⟩ => (by cases e)⟩
  | some a => exact ⟨fun ⟨_, e, h⟩ => ⟨a, rfl, by cases e; exact h⟩, fun ⟨_, e, h⟩ => by cases e; exact ⟨_, rfl, h⟩⟩
theorem wp_if {c : Prop} [Decidable c] {o o' : Option α} {Q : α → Prop} : wp (if c then o else o') Q ↔ if c then wp o Q else wp o' Q := by
  by_cases h : c <;> simp only [h, if_true, if_false]
end
def blD : D → Option Bool
  | .bl b => some b
  | _ => none
def intD : D → Option Int
  | .int i => some i
  | _ => none
def lstD : D → Option (List D)
  | .lst xs => some xs
  | _ => none
def tupD : D → Option (List D)
  | .tup xs => some xs
  | _ => none
def locD : D → Option Nat
  | .loc n => some n
  | _ => none
section
variable {G : Nat → Option D} {c : Cal} {σ : DEnv} {S : Sto}
section
variable {Q : D × Sto → Prop}
/-- a name's value -/
def getD' (σ : DEnv) (i : Nat) : Option D := match σ[i]? with
  | some (some d) => some d
  | _ => none
theorem we_var {i : Nat} : wp (ev G c (.var i) σ S) Q ↔ wp (getD' σ i) fun d => Q (d, S) := by
  rw [ev]
  unfold getD'
  cases h : σ[i]? with
  | none => simp only [wp_some, wp_none, wp_map, Option.map_some, Option.map_none, Option.join_some, Option.join_none, blD, intD, lstD, tupD, locD, if_true, Bool.false_eq_true, if_false, Bool.not_true, Bool.not_false, true_and, false_and, iff_self]
  | some o => cases o <;> simp only [wp_some, wp_none, wp_map, Option.map_some, Option.map_none, Option.join_some, Option.join_none, blD, intD, lstD, tupD, locD, if_true, Bool.false_eq_true, if_false, Bool.not_true, Bool.not_false, true_and, false_and, iff_self]
theorem we_int {i : Int} : wp (ev G c (.int i) σ S) Q ↔ Q (.int i, S) := by rw [ev]; exact wp_some
theorem we_bl {b : Bool} : wp (ev G c (.bl b) σ S) Q ↔ Q (.bl b, S) := by rw [ev]; exact wp_some
theorem we_non : wp (ev G c .non σ S) Q ↔ Q (.non, S) := by rw [ev]; exact wp_some
theorem we_str {x : Str} : wp (ev G c (.str x) σ S) Q ↔ Q (.str x, S) := by rw [ev]; exact wp_some
theorem we_glob {g : Nat} : wp (ev G c (.glob g) σ S) Q ↔ wp (G g) fun d => Q (d, S) := by rw [ev]; exact wp_map
theorem we_tup {es : Es} : wp (ev G c (.tup es) σ S) Q ↔ wp (evs G c es σ S) fun p => Q (.tup p.1, p.2) := by
  rw [ev]
  cases h : evs G c es σ S with
  | none => simp only [wp_some, wp_none, wp_map, Option.map_some, Option.map_none, Option.join_some, Option.join_none, blD, intD, lstD, tupD, locD, if_true, Bool.false_eq_true, if_false, Bool.not_true, Bool.not_false, true_and, false_and, iff_self]
  | some p => obtain ⟨p1, p2⟩ := p; simp only [wp_some, wp_none, wp_map, Option.map_some, Option.map_none, Option.join_some, Option.join_none, blD, intD, lstD, tupD, locD, if_true, Bool.false_eq_true, if_false, Bool.not_true, Bool.not_false, true_and, false_and, iff_self]
theorem we_tupA {a b : E} : wp (ev G c (.tupA a b) σ S) Q ↔ wp (ev G c a σ S) fun x => wp (ev G c b σ x.2) fun y => wp (seqOf y.2 y.1) fun ys => ys.length < many ∧ Q (.tup (x.1 :: ys), y.2) := by
  rw [ev]
  cases h : ev G c a σ S with
  | none => simp only [wp_none]
  | some p =>
    obtain ⟨x, S1⟩ := p
    simp only [wp_some]
    cases h2 : ev G c b σ S1 with
    | none => simp only [wp_none, h2]
    | some q =>
      obtain ⟨y, S2⟩ := q
      simp only [wp_some, h2]
      cases h3 : seqOf S2 y with
      | none => simp only [wp_none, Option.bind_none]
      | some ys =>
        simp only [Option.bind_some, wp_some]
        by_cases hy : ys.length < many
        · rw [if_pos hy, wp_some]; exact ⟨fun z => ⟨hy, z⟩, fun z => z.2⟩
        · rw [if_neg hy, wp_none]; exact ⟨fun z => z.elim, fun z => hy z.1⟩
theorem we_tupB {a b : E} : wp (ev G c (.tupB b a) σ S) Q ↔ wp (ev G c b σ S) fun y => wp (seqOf y.2 y.1) fun ys => wp (ev G c a σ y.2) fun x => ys.length < many ∧ Q (.tup (ys ++ [x.1]), x.2) := by
  rw [ev]
  cases h : ev G c b σ S with
  | none => simp only [wp_none]
  | some p =>
    obtain ⟨y, S1⟩ := p
    simp only [wp_some]
    cases h3 : seqOf S1 y with
    | none => simp only [wp_none, h3]
    | some ys =>
      simp only [wp_some, h3]
      cases h2 : ev G c a σ S1 with
      | none => simp only [wp_none, h2]
      | some q =>
        obtain ⟨x, S2⟩ := q
        simp only [wp_some, h2]
        by_cases hy : ys.length < many
        · rw [if_pos hy, wp_some]; exact ⟨fun z => ⟨hy, z⟩, fun z => z.2⟩
        · rw [if_neg hy, wp_none]; exact ⟨fun z => z.elim, fun z => hy z.1⟩
theorem we_lst {es : Es} : wp (ev G c (.lst es) σ S) Q ↔ wp (evs G c es σ S) fun p => Q (.lst p.1, p.2) := by
  rw [ev]
  cases h : evs G c es σ S with
  | none => simp only [wp_some, wp_none, wp_map, Option.map_some, Option.map_none, Option.join_some, Option.join_none, blD, intD, lstD, tupD, locD, if_true, Bool.false_eq_true, if_false, Bool.not_true, Bool.not_false, true_and, false_and, iff_self]
  | some p => obtain ⟨p1, p2⟩ := p; simp only [wp_some, wp_none, wp_map, Option.map_some, Option.map_none, Option.join_some, Option.join_none, blD, intD, lstD, tupD, locD, if_true, Bool.false_eq_true, if_false, Bool.not_true, Bool.not_false, true_and, false_and, iff_self]
theorem we_bin {op : Op} {a b : E} : wp (ev G c (.bin op a b) σ S) Q ↔ wp (ev G c a σ S) fun x => wp (ev G c b σ x.2) fun y => wp (opD y.2 op x.1 y.1) fun d => Q (d, y.2) := by
  rw [ev]
  cases h : ev G c a σ S with
  | none => simp only [wp_some, wp_none, wp_map, Option.map_some, Option.map_none, Option.join_some, Option.join_none, blD, intD, lstD, tupD, locD, if_true, Bool.false_eq_true, if_false, Bool.not_true, Bool.not_false, true_and, false_and, iff_self]
  | some p =>
    obtain ⟨p1, p2⟩ := p
    cases h2 : ev G c b σ p2 with
    | none => simp only [wp_some, wp_none, wp_map, Option.map_some, Option.map_none, Option.join_some, Option.join_none, blD, intD, lstD, tupD, locD, if_true, Bool.false_eq_true, if_false, Bool.not_true, Bool.not_false, true_and, false_and, iff_self, h2]
    | some q => obtain ⟨q1, q2⟩ := q; cases h3 : opD q2 op p1 q1 <;> simp only [wp_some, wp_none, wp_map, Option.map_some, Option.map_none, Option.join_some, Option.join_none, blD, intD, lstD, tupD, locD, if_true, Bool.false_eq_true, if_false, Bool.not_true, Bool.not_false, true_and, false_and, iff_self, h2, h3]
theorem we_neg {a : E} : wp (ev G c (.neg a) σ S) Q ↔ wp (ev G c a σ S) fun x => wp (intD x.1) fun i => Q (.int (-i), x.2) := by
  rw [ev]
  cases h : ev G c a σ S with
  | none => simp only [wp_some, wp_none, wp_map, Option.map_some, Option.map_none, Option.join_some, Option.join_none, blD, intD, lstD, tupD, locD, if_true, Bool.false_eq_true, if_false, Bool.not_true, Bool.not_false, true_and, false_and, iff_self]
  | some p => obtain ⟨d, S1⟩ := p; cases d <;> simp only [wp_some, wp_none, wp_map, Option.map_some, Option.map_none, Option.join_some, Option.join_none, blD, intD, lstD, tupD, locD, if_true, Bool.false_eq_true, if_false, Bool.not_true, Bool.not_false, true_and, false_and, iff_self, intD]
theorem we_not {a : E} : wp (ev G c (.not a) σ S) Q ↔ wp (ev G c a σ S) fun x => wp (blD x.1) fun i => Q (.bl (!i), x.2) := by
  rw [ev]
  cases h : ev G c a σ S with
  | none => simp only [wp_some, wp_none, wp_map, Option.map_some, Option.map_none, Option.join_some, Option.join_none, blD, intD, lstD, tupD, locD, if_true, Bool.false_eq_true, if_false, Bool.not_true, Bool.not_false, true_and, false_and, iff_self]
  | some p => obtain ⟨d, S1⟩ := p; cases d <;> simp only [wp_some, wp_none, wp_map, Option.map_some, Option.map_none, Option.join_some, Option.join_none, blD, intD, lstD, tupD, locD, if_true, Bool.false_eq_true, if_false, Bool.not_true, Bool.not_false, true_and, false_and, iff_self, blD]
theorem we_cmp {k : Cp} {a b : E} : wp (ev G c (.cmp k a b) σ S) Q ↔ wp (ev G c a σ S) fun x => wp (ev G c b σ x.2) fun y => wp (cmpD y.2 k x.1 y.1) fun d => Q (.bl d, y.2) := by
  rw [ev]
  cases h : ev G c a σ S with
  | none => simp only [wp_some, wp_none, wp_map, Option.map_some, Option.map_none, Option.join_some, Option.join_none, blD, intD, lstD, tupD, locD, if_true, Bool.false_eq_true, if_false, Bool.not_true, Bool.not_false, true_and, false_and, iff_self]
  | some p =>
    obtain ⟨p1, p2⟩ := p
    cases h2 : ev G c b σ p2 with
    | none => simp only [wp_some, wp_none, wp_map, Option.map_some, Option.map_none, Option.join_some, Option.join_none, blD, intD, lstD, tupD, locD, if_true, Bool.false_eq_true, if_false, Bool.not_true, Bool.not_false, true_and, false_and, iff_self, h2]
    | some q => obtain ⟨q1, q2⟩ := q; cases h3 : cmpD q2 k p1 q1 <;> simp only [wp_some, wp_none, wp_map, Option.map_some, Option.map_none, Option.join_some, Option.join_none, blD, intD, lstD, tupD, locD, if_true, Bool.false_eq_true, if_false, Bool.not_true, Bool.not_false, true_and, false_and, iff_self, h2, h3]
theorem we_chain {k k' : Cp} {a b e : E} : wp (ev G c (.chain k k' a b e) σ S) Q ↔ wp (ev G c a σ S) fun x => wp (ev G c b σ x.2) fun y => wp (cmpD y.2 k x.1 y.1) fun d =>
    if d = true then wp (ev G c e σ y.2) fun z => wp (cmpD z.2 k' y.1 z.1) fun r => Q (.bl r, z.2) else Q (.bl false, y.2) := by
  rw [ev]
  cases h : ev G c a σ S with
  | none => simp only [wp_some, wp_none, wp_map, Option.map_some, Option.map_none, Option.join_some, Option.join_none, blD, intD, lstD, tupD, locD, if_true, Bool.false_eq_true, if_false, Bool.not_true, Bool.not_false, true_and, false_and, iff_self]
  | some p =>
    obtain ⟨p1, p2⟩ := p
    cases h2 : ev G c b σ p2 with
    | none => simp only [wp_some, wp_none, wp_map, Option.map_some, Option.map_none, Option.join_some, Option.join_none, blD, intD, lstD, tupD, locD, if_true, Bool.false_eq_true, if_false, Bool.not_true, Bool.not_false, true_and, false_and, iff_self, h2]
    | some q =>
      obtain ⟨q1, q2⟩ := q
      cases h3 : cmpD q2 k p1 q1 with
      | none => simp only [wp_some, wp_none, wp_map, Option.map_some, Option.map_none, Option.join_some, Option.join_none, blD, intD, lstD, tupD, locD, if_true, Bool.false_eq_true, if_false, Bool.not_true, Bool.not_false, true_and, false_and, iff_self, h2, h3]
      | some r =>
        cases r with
        | false => simp only [wp_some, wp_none, wp_map, Option.map_some, Option.map_none, Option.join_some, Option.join_none, blD, intD, lstD, tupD, locD, if_true, Bool.false_eq_true, if_false, Bool.not_true, Bool.not_false, true_and, false_and, iff_self, h2, h3]
        | true =>
          cases h4 : ev G c e σ q2 with
          | none => simp only [wp_some, wp_none, wp_map, Option.map_some, Option.map_none, Option.join_some, Option.join_none, blD, intD, lstD, tupD, locD, if_true, Bool.false_eq_true, if_false, Bool.not_true, Bool.not_false, true_and, false_and, iff_self, h2, h3, h4]
          | some z => obtain ⟨z1, z2⟩ := z; cases h5 : cmpD z2 k' q1 z1 <;> simp only [wp_some, wp_none, wp_map, Option.map_some, Option.map_none, Option.join_some, Option.join_none, blD, intD, lstD, tupD, locD, if_true, Bool.false_eq_true, if_false, Bool.not_true, Bool.not_false, true_and, false_and, iff_self, h2, h3, h4, h5]
theorem we_and {a b : E} : wp (ev G c (.and a b) σ S) Q ↔ wp (ev G c a σ S) fun x => wp (blD x.1) fun i => if i = true then wp (ev G c b σ x.2) Q else Q (.bl false, x.2) := by
  rw [ev]
  cases h : ev G c a σ S with
  | none => simp only [wp_some, wp_none, wp_map, Option.map_some, Option.map_none, Option.join_some, Option.join_none, blD, intD, lstD, tupD, locD, if_true, Bool.false_eq_true, if_false, Bool.not_true, Bool.not_false, true_and, false_and, iff_self]
  | some p =>
    obtain ⟨d, S1⟩ := p
    cases d with
    | bl b => cases b <;> simp only [wp_some, wp_none, wp_map, Option.map_some, Option.map_none, Option.join_some, Option.join_none, blD, intD, lstD, tupD, locD, if_true, Bool.false_eq_true, if_false, Bool.not_true, Bool.not_false, true_and, false_and, iff_self, blD]
    | _ => simp only [wp_some, wp_none, wp_map, Option.map_some, Option.map_none, Option.join_some, Option.join_none, blD, intD, lstD, tupD, locD, if_true, Bool.false_eq_true, if_false, Bool.not_true, Bool.not_false, true_and, false_and, iff_self, blD]
theorem we_orT {a : E} : wp (ev G c (.orT a) σ S) Q ↔ wp (ev G c a σ S) fun x => wp (truD x.1) fun i => if i = true then Q x else Q (.tup [], x.2) := by
  rw [ev]
  cases h : ev G c a σ S with
  | none => simp only [wp_none]
  | some p =>
    obtain ⟨d, S1⟩ := p
    simp only [wp_some]
    cases h2 : truD d with
    | none => simp only [wp_none]
    | some k =>
      cases k with
      | true => simp only [wp_some, if_true]
      | false => simp only [wp_some, Bool.false_eq_true, if_false]
theorem we_or {a b : E} : wp (ev G c (.or a b) σ S) Q ↔ wp (ev G c a σ S) fun x => wp (blD x.1) fun i => if i = true then Q (.bl true, x.2) else wp (ev G c b σ x.2) Q := by
  rw [ev]
  cases h : ev G c a σ S with
  | none => simp only [wp_some, wp_none, wp_map, Option.map_some, Option.map_none, Option.join_some, Option.join_none, blD, intD, lstD, tupD, locD, if_true, Bool.false_eq_true, if_false, Bool.not_true, Bool.not_false, true_and, false_and, iff_self]
  | some p =>
    obtain ⟨d, S1⟩ := p
    cases d with
    | bl b => cases b <;> simp only [wp_some, wp_none, wp_map, Option.map_some, Option.map_none, Option.join_some, Option.join_none, blD, intD, lstD, tupD, locD, if_true, Bool.false_eq_true, if_false, Bool.not_true, Bool.not_false, true_and, false_and, iff_self, blD]
    | _ => simp only [wp_some, wp_none, wp_map, Option.map_some, Option.map_none, Option.join_some, Option.join_none, blD, intD, lstD, tupD, locD, if_true, Bool.false_eq_true, if_false, Bool.not_true, Bool.not_false, true_and, false_and, iff_self, blD]
theorem we_ite {t a b : E} : wp (ev G c (.ite t a b) σ S) Q ↔ wp (ev G c t σ S) fun x => wp (blD x.1) fun i => if i = true then wp (ev G c a σ x.2) Q else wp (ev G c b σ x.2) Q := by
  rw [ev]
  cases h : ev G c t σ S with
  | none => simp only [wp_some, wp_none, wp_map, Option.map_some, Option.map_none, Option.join_some, Option.join_none, blD, intD, lstD, tupD, locD, if_true, Bool.false_eq_true, if_false, Bool.not_true, Bool.not_false, true_and, false_and, iff_self]
  | some p =>
    obtain ⟨d, S1⟩ := p
    cases d with
    | bl b => cases b <;> simp only [wp_some, wp_none, wp_map, Option.map_some, Option.map_none, Option.join_some, Option.join_none, blD, intD, lstD, tupD, locD, if_true, Bool.false_eq_true, if_false, Bool.not_true, Bool.not_false, true_and, false_and, iff_self, blD]
    | _ => simp only [wp_some, wp_none, wp_map, Option.map_some, Option.map_none, Option.join_some, Option.join_none, blD, intD, lstD, tupD, locD, if_true, Bool.false_eq_true, if_false, Bool.not_true, Bool.not_false, true_and, false_and, iff_self, blD]
theorem we_call {f : Nat} {es : Es} : wp (ev G c (.call f es) σ S) Q ↔ wp (evs G c es σ S) fun p => wp (c f p.1 p.2) Q := by
  rw [ev]
  cases h : evs G c es σ S <;> simp only [wp_some, wp_none, wp_map, Option.map_some, Option.map_none, Option.join_some, Option.join_none, blD, intD, lstD, tupD, locD, if_true, Bool.false_eq_true, if_false, Bool.not_true, Bool.not_false, true_and, false_and, iff_self]
theorem we_callK {f : Nat} {ks : List Str} {perm : List Nat} {es zs : Es} : wp (ev G c (.callK f ks perm es zs) σ S) Q ↔ wp (evs G c es σ S) fun p => wp (evs G c zs σ p.2) fun q => wp (c f (p.1 ++ pick perm q.1) q.2) Q := by
  rw [ev]
  cases h : evs G c es σ S with
  | none => simp only [wp_some, wp_none, wp_map, Option.map_some, Option.map_none, Option.join_some, Option.join_none, blD, intD, lstD, tupD, locD, if_true, Bool.false_eq_true, if_false, Bool.not_true, Bool.not_false, true_and, false_and, iff_self]
  | some p => obtain ⟨p1, p2⟩ := p; cases h2 : evs G c zs σ p2 <;> simp only [wp_some, wp_none, wp_map, Option.map_some, Option.map_none, Option.join_some, Option.join_none, blD, intD, lstD, tupD, locD, if_true, Bool.false_eq_true, if_false, Bool.not_true, Bool.not_false, true_and, false_and, iff_self, h2]
theorem we_prim {p : Pr} {es : Es} : wp (ev G c (.prim p es) σ S) Q ↔ wp (evs G c es σ S) fun q => wp (prD q.2 p q.1) fun d => Q (d, q.2) := by
  rw [ev]
  cases h : evs G c es σ S with
  | none => simp only [wp_some, wp_none, wp_map, Option.map_some, Option.map_none, Option.join_some, Option.join_none, blD, intD, lstD, tupD, locD, if_true, Bool.false_eq_true, if_false, Bool.not_true, Bool.not_false, true_and, false_and, iff_self]
  | some q => obtain ⟨q1, q2⟩ := q; cases h2 : prD q2 p q1 <;> simp only [wp_some, wp_none, wp_map, Option.map_some, Option.map_none, Option.join_some, Option.join_none, blD, intD, lstD, tupD, locD, if_true, Bool.false_eq_true, if_false, Bool.not_true, Bool.not_false, true_and, false_and, iff_self, h2]
theorem we_isi {a : E} {t : Ty} : wp (ev G c (.isi a t) σ S) Q ↔ wp (ev G c a σ S) fun x => Q (.bl (isiD x.1 t), x.2) := by
  rw [ev]
  cases h : ev G c a σ S <;> simp only [wp_some, wp_none, wp_map, Option.map_some, Option.map_none, Option.join_some, Option.join_none, blD, intD, lstD, tupD, locD, if_true, Bool.false_eq_true, if_false, Bool.not_true, Bool.not_false, true_and, false_and, iff_self]
theorem we_idx {a b : E} : wp (ev G c (.idx a b) σ S) Q ↔ wp (ev G c a σ S) fun x => wp (ev G c b σ x.2) fun y => wp (idxD y.2 x.1 y.1) fun d => Q (d, y.2) := by
  rw [ev]
  cases h : ev G c a σ S with
  | none => simp only [wp_some, wp_none, wp_map, Option.map_some, Option.map_none, Option.join_some, Option.join_none, blD, intD, lstD, tupD, locD, if_true, Bool.false_eq_true, if_false, Bool.not_true, Bool.not_false, true_and, false_and, iff_self]
  | some p =>
    obtain ⟨p1, p2⟩ := p
    cases h2 : ev G c b σ p2 with
    | none => simp only [wp_some, wp_none, wp_map, Option.map_some, Option.map_none, Option.join_some, Option.join_none, blD, intD, lstD, tupD, locD, if_true, Bool.false_eq_true, if_false, Bool.not_true, Bool.not_false, true_and, false_and, iff_self, h2]
    | some q => obtain ⟨q1, q2⟩ := q; cases h3 : idxD q2 p1 q1 <;> simp only [wp_some, wp_none, wp_map, Option.map_some, Option.map_none, Option.join_some, Option.join_none, blD, intD, lstD, tupD, locD, if_true, Bool.false_eq_true, if_false, Bool.not_true, Bool.not_false, true_and, false_and, iff_self, h2, h3]
theorem we_sl {a : E} {lo hi : Eo} : wp (ev G c (.sl a lo hi) σ S) Q ↔ wp (ev G c a σ S) fun x => wp (evo G c lo σ x.2) fun l => wp (evo G c hi σ l.2) fun h => wp (slD h.2 x.1 l.1 h.1) fun d => Q (d, h.2) := by
  rw [ev]
  cases h : ev G c a σ S with
  | none => simp only [wp_some, wp_none, wp_map, Option.map_some, Option.map_none, Option.join_some, Option.join_none, blD, intD, lstD, tupD, locD, if_true, Bool.false_eq_true, if_false, Bool.not_true, Bool.not_false, true_and, false_and, iff_self]
  | some p =>
    obtain ⟨p1, p2⟩ := p
    cases h2 : evo G c lo σ p2 with
    | none => simp only [wp_some, wp_none, wp_map, Option.map_some, Option.map_none, Option.join_some, Option.join_none, blD, intD, lstD, tupD, locD, if_true, Bool.false_eq_true, if_false, Bool.not_true, Bool.not_false, true_and, false_and, iff_self, h2]
    | some q =>
      obtain ⟨q1, q2⟩ := q
      cases h3 : evo G c hi σ q2 with
      | none => simp only [wp_some, wp_none, wp_map, Option.map_some, Option.map_none, Option.join_some, Option.join_none, blD, intD, lstD, tupD, locD, if_true, Bool.false_eq_true, if_false, Bool.not_true, Bool.not_false, true_and, false_and, iff_self, h2, h3]
      | some r => obtain ⟨r1, r2⟩ := r; cases h4 : slD r2 p1 q1 r1 <;> simp only [wp_some, wp_none, wp_map, Option.map_some, Option.map_none, Option.join_some, Option.join_none, blD, intD, lstD, tupD, locD, if_true, Bool.false_eq_true, if_false, Bool.not_true, Bool.not_false, true_and, false_and, iff_self, h2, h3, h4]
/-- an item's step in a comprehension -/
def cmpF (G : Nat → Option D) (c : Cal) (tg : Tg) (own : List (Str × Nat)) (t : Eo) (elt : E) (σ : DEnv) : D → Sto → Option (Option D × Sto) := fun x S => match tgD tg x (wipeD σ (own.map (·.2))) with
  | none => none
  | some σ1 => (match evt G c t σ1 S with
    | some (true, S2) => (match ev G c elt σ1 S2 with
      | some (d, S3) => some (some d, S3)
      | none => none)
    | some (false, S2) => some (none, S2)
    | none => none)
theorem we_comp {it : Rf.It} {tg : Tg} {own : List (Str × Nat)} {t : Eo} {elt : E} : wp (ev G c (.comp it tg own t elt) σ S) Q ↔ wp (evIt G c it σ S) fun w => w.1.items.length ≤ many ∧ wp (compLoop (cmpF G c tg own t elt σ) w.1.still w.1.items w.2) fun r => Q (.lst r.1, r.2) := by
  rw [ev]
  show wp (match evIt G c it σ S with
    | some (w, S1) => if w.items.length ≤ many then (match compLoop (cmpF G c tg own t elt σ) w.still w.items S1 with
      | some (ys, S2) => some (.lst ys, S2)
      | none => none) else none
    | none => none) Q ↔ _
  cases h : evIt G c it σ S with
  | none => simp only [wp_some, wp_none, wp_map, Option.map_some, Option.map_none, Option.join_some, Option.join_none, blD, intD, lstD, tupD, locD, if_true, Bool.false_eq_true, if_false, Bool.not_true, Bool.not_false, true_and, false_and, iff_self]
  | some p =>
    obtain ⟨p1, p2⟩ := p
    by_cases hl : p1.items.length ≤ many
    · cases h2 : compLoop (cmpF G c tg own t elt σ) p1.still p1.items p2 <;> simp only [wp_some, wp_none, wp_map, Option.map_some, Option.map_none, Option.join_some, Option.join_none, blD, intD, lstD, tupD, locD, if_true, Bool.false_eq_true, if_false, Bool.not_true, Bool.not_false, true_and, false_and, iff_self, h2, hl]
    · simp only [wp_some, wp_none, wp_map, Option.map_some, Option.map_none, Option.join_some, Option.join_none, blD, intD, lstD, tupD, locD, if_true, Bool.false_eq_true, if_false, Bool.not_true, Bool.not_false, true_and, false_and, iff_self, hl]
theorem we_comp2 {it it1 : Rf.It} {tg tg1 : Tg} {own : List (Str × Nat)} {vs1 : List Nat} {t : Eo} {elt : E} : wp (ev G c (.comp2 it tg it1 tg1 own vs1 t elt) σ S) Q ↔ wp (evIt G c it σ S) fun w => w.1.items.length ≤ many ∧ wp (loopS (out2F G c tg it1 tg1 own vs1 t elt w.2.length σ) w.1.still w.1.items (w.2 ++ [[]])) fun S2 => Q (.loc w.2.length, S2) := by
  rw [ev]
  show wp (match evIt G c it σ S with
    | some (w, S1) => if w.items.length ≤ many then (match loopS (out2F G c tg it1 tg1 own vs1 t elt S1.length σ) w.still w.items (S1 ++ [[]]) with
      | some S2 => some (.loc S1.length, S2)
      | none => none) else none
    | none => none) Q ↔ _
  cases h : evIt G c it σ S with
  | none => simp only [wp_some, wp_none, wp_map, Option.map_some, Option.map_none, Option.join_some, Option.join_none, blD, intD, lstD, tupD, locD, if_true, Bool.false_eq_true, if_false, Bool.not_true, Bool.not_false, true_and, false_and, iff_self]
  | some p =>
    obtain ⟨p1, p2⟩ := p
    by_cases hl : p1.items.length ≤ many
    · cases h2 : loopS (out2F G c tg it1 tg1 own vs1 t elt p2.length σ) p1.still p1.items (p2 ++ [[]]) <;> simp only [wp_some, wp_none, wp_map, Option.map_some, Option.map_none, Option.join_some, Option.join_none, blD, intD, lstD, tupD, locD, if_true, Bool.false_eq_true, if_false, Bool.not_true, Bool.not_false, true_and, false_and, iff_self, h2, hl]
    · simp only [wp_some, wp_none, wp_map, Option.map_some, Option.map_none, Option.join_some, Option.join_none, blD, intD, lstD, tupD, locD, if_true, Bool.false_eq_true, if_false, Bool.not_true, Bool.not_false, true_and, false_and, iff_self, hl]
theorem we_rvs {a : E} : wp (ev G c (.rvs a) σ S) Q ↔ wp (ev G c a σ S) fun x => wp (rvD x.2 x.1) fun d => Q (d, x.2) := by
  rw [ev]
  cases h : ev G c a σ S with
  | none => simp only [wp_some, wp_none, wp_map, Option.map_some, Option.map_none, Option.join_some, Option.join_none, blD, intD, lstD, tupD, locD, if_true, Bool.false_eq_true, if_false, Bool.not_true, Bool.not_false, true_and, false_and, iff_self]
  | some p => obtain ⟨p1, p2⟩ := p; cases h2 : rvD p2 p1 <;> simp only [wp_some, wp_none, wp_map, Option.map_some, Option.map_none, Option.join_some, Option.join_none, blD, intD, lstD, tupD, locD, if_true, Bool.false_eq_true, if_false, Bool.not_true, Bool.not_false, true_and, false_and, iff_self, h2]
theorem we_dct : wp (ev G c .dct σ S) Q ↔ Q (.dct, S) := by
  rw [ev]
  exact wp_some
theorem we_alloc {a : E} : wp (ev G c (.alloc a) σ S) Q ↔ wp (ev G c a σ S) fun x => wp (lstD x.1) fun xs => Q (.loc x.2.length, x.2 ++ [xs]) := by
  rw [ev]
  cases h : ev G c a σ S with
  | none => simp only [wp_some, wp_none, wp_map, Option.map_some, Option.map_none, Option.join_some, Option.join_none, blD, intD, lstD, tupD, locD, if_true, Bool.false_eq_true, if_false, Bool.not_true, Bool.not_false, true_and, false_and, iff_self]
  | some p => obtain ⟨d, S1⟩ := p; cases d <;> simp only [wp_some, wp_none, wp_map, Option.map_some, Option.map_none, Option.join_some, Option.join_none, blD, intD, lstD, tupD, locD, if_true, Bool.false_eq_true, if_false, Bool.not_true, Bool.not_false, true_and, false_and, iff_self, lstD]
theorem we_rngv {t : Bool} {r : Rg} : wp (ev G c (.rngv t r) σ S) Q ↔ wp (evR G c r σ S) fun x => rgOk x.1 x.2.1 = true ∧ Q (if t = true then .tup (rgD x.1 x.2.1) else .lst (rgD x.1 x.2.1), x.2.2) := by
  rw [ev]
  cases h : evR G c r σ S with
  | none => simp only [wp_none]
  | some p =>
    obtain ⟨i, j, S1⟩ := p
    simp only [wp_some]
    by_cases hk : rgOk i j = true
    · simp only [hk, if_true, wp_some, true_and]
    · simp only [hk, Bool.false_eq_true, if_false, wp_none, false_and]
theorem we_pop {o : E} {i : Eo} : wp (ev G c (.pop o i) σ S) Q ↔ wp (ev G c o σ S) fun x => wp (locD x.1) fun n => wp (evo G c i σ x.2) fun k => wp (k.2[n]?) fun xs => wp (popIx xs.length (k.1.getD (-1))) fun j => wp (xs[j]?) fun y => Q (y, k.2.set n (xs.eraseIdx j)) := by
  rw [ev]
  cases h : ev G c o σ S with
  | none => simp only [wp_some, wp_none, wp_map, Option.map_some, Option.map_none, Option.join_some, Option.join_none, blD, intD, lstD, tupD, locD, if_true, Bool.false_eq_true, if_false, Bool.not_true, Bool.not_false, true_and, false_and, iff_self]
  | some p =>
    obtain ⟨d, S1⟩ := p
    cases d with
    | loc n =>
      cases h2 : evo G c i σ S1 with
      | none => simp only [wp_some, wp_none, wp_map, Option.map_some, Option.map_none, Option.join_some, Option.join_none, blD, intD, lstD, tupD, locD, if_true, Bool.false_eq_true, if_false, Bool.not_true, Bool.not_false, true_and, false_and, iff_self, locD, h2]
      | some k =>
        obtain ⟨k1, k2⟩ := k
        cases h3 : k2[n]? with
        | none => simp only [wp_some, wp_none, wp_map, Option.map_some, Option.map_none, Option.join_some, Option.join_none, blD, intD, lstD, tupD, locD, if_true, Bool.false_eq_true, if_false, Bool.not_true, Bool.not_false, true_and, false_and, iff_self, locD, h2, h3]
        | some xs =>
          cases h4 : popIx xs.length (k1.getD (-1)) with
          | none => simp only [wp_some, wp_none, wp_map, Option.map_some, Option.map_none, Option.join_some, Option.join_none, blD, intD, lstD, tupD, locD, if_true, Bool.false_eq_true, if_false, Bool.not_true, Bool.not_false, true_and, false_and, iff_self, locD, h2, h3, h4]
          | some j => cases h5 : xs[j]? <;> simp only [wp_some, wp_none, wp_map, Option.map_some, Option.map_none, Option.join_some, Option.join_none, blD, intD, lstD, tupD, locD, if_true, Bool.false_eq_true, if_false, Bool.not_true, Bool.not_false, true_and, false_and, iff_self, locD, h2, h3, h4, h5]
    | _ => simp only [wp_some, wp_none, wp_map, Option.map_some, Option.map_none, Option.join_some, Option.join_none, blD, intD, lstD, tupD, locD, if_true, Bool.false_eq_true, if_false, Bool.not_true, Bool.not_false, true_and, false_and, iff_self, locD]
end
theorem wr_one {b : E} {Q : Int × Int × Sto → Prop} : wp (evR G c (.one b) σ S) Q ↔ wp (ev G c b σ S) fun x => wp (intD x.1) fun j => Q (0, j, x.2) := by
  rw [evR]
  cases h : ev G c b σ S with
  | none => simp only [wp_none]
  | some p => obtain ⟨d, S1⟩ := p; cases d <;> simp only [wp_some, wp_none, intD]
theorem wr_two {a b : E} {Q : Int × Int × Sto → Prop} : wp (evR G c (.two a b) σ S) Q ↔ wp (ev G c a σ S) fun x => wp (intD x.1) fun i => wp (ev G c b σ x.2) fun y => wp (intD y.1) fun j => Q (i, j, y.2) := by
  rw [evR]
  cases h : ev G c a σ S with
  | none => simp only [wp_none]
  | some p =>
    obtain ⟨d, S1⟩ := p
    cases d with
    | int i =>
      cases h2 : ev G c b σ S1 with
      | none => simp only [wp_some, wp_none, intD, h2]
      | some q => obtain ⟨d, S2⟩ := q; cases d <;> simp only [wp_some, wp_none, intD, h2]
    | _ => simp only [wp_some, wp_none, intD]
theorem ws_nil {Q : List D × Sto → Prop} : wp (evs G c .nil σ S) Q ↔ Q ([], S) := by rw [evs]; exact wp_some
theorem ws_cons {e : E} {es : Es} {Q : List D × Sto → Prop} : wp (evs G c (.cons e es) σ S) Q ↔ wp (ev G c e σ S) fun x => wp (evs G c es σ x.2) fun y => Q (x.1 :: y.1, y.2) := by
  rw [evs]
  cases h : ev G c e σ S with
  | none => simp only [wp_some, wp_none, wp_map, Option.map_some, Option.map_none, Option.join_some, Option.join_none, blD, intD, lstD, tupD, locD, if_true, Bool.false_eq_true, if_false, Bool.not_true, Bool.not_false, true_and, false_and, iff_self]
  | some p => obtain ⟨p1, p2⟩ := p; cases h2 : evs G c es σ p2 <;> simp only [wp_some, wp_none, wp_map, Option.map_some, Option.map_none, Option.join_some, Option.join_none, blD, intD, lstD, tupD, locD, if_true, Bool.false_eq_true, if_false, Bool.not_true, Bool.not_false, true_and, false_and, iff_self, h2]
theorem wo_no {Q : Option Int × Sto → Prop} : wp (evo G c .no σ S) Q ↔ Q (none, S) := by rw [evo]; exact wp_some
theorem wo_so {e : E} {Q : Option Int × Sto → Prop} : wp (evo G c (.so e) σ S) Q ↔ wp (ev G c e σ S) fun x => wp (intD x.1) fun i => Q (some i, x.2) := by
  rw [evo]
  cases h : ev G c e σ S with
  | none => simp only [wp_some, wp_none, wp_map, Option.map_some, Option.map_none, Option.join_some, Option.join_none, blD, intD, lstD, tupD, locD, if_true, Bool.false_eq_true, if_false, Bool.not_true, Bool.not_false, true_and, false_and, iff_self]
  | some p => obtain ⟨d, S1⟩ := p; cases d <;> simp only [wp_some, wp_none, wp_map, Option.map_some, Option.map_none, Option.join_some, Option.join_none, blD, intD, lstD, tupD, locD, if_true, Bool.false_eq_true, if_false, Bool.not_true, Bool.not_false, true_and, false_and, iff_self, intD]
theorem wt_no {Q : Bool × Sto → Prop} : wp (evt G c .no σ S) Q ↔ Q (true, S) := by rw [evt]; exact wp_some
theorem wt_so {e : E} {Q : Bool × Sto → Prop} : wp (evt G c (.so e) σ S) Q ↔ wp (ev G c e σ S) fun x => wp (blD x.1) fun i => Q (i, x.2) := by
  rw [evt]
  cases h : ev G c e σ S with
  | none => simp only [wp_some, wp_none, wp_map, Option.map_some, Option.map_none, Option.join_some, Option.join_none, blD, intD, lstD, tupD, locD, if_true, Bool.false_eq_true, if_false, Bool.not_true, Bool.not_false, true_and, false_and, iff_self]
  | some p => obtain ⟨d, S1⟩ := p; cases d <;> simp only [wp_some, wp_none, wp_map, Option.map_some, Option.map_none, Option.join_some, Option.join_none, blD, intD, lstD, tupD, locD, if_true, Bool.false_eq_true, if_false, Bool.not_true, Bool.not_false, true_and, false_and, iff_self, blD]
section
variable {Q : Wk × Sto → Prop}
theorem wi_seq {e : E} : wp (evIt G c (.seq e) σ S) Q ↔ wp (ev G c e σ S) fun x => wp (seqWk x.2 x.1) fun w => Q (w, x.2) := by
  rw [evIt]
  cases h : ev G c e σ S with
  | none => simp only [wp_some, wp_none, wp_map, Option.map_some, Option.map_none, Option.join_some, Option.join_none, blD, intD, lstD, tupD, locD, if_true, Bool.false_eq_true, if_false, Bool.not_true, Bool.not_false, true_and, false_and, iff_self]
  | some p => obtain ⟨p1, p2⟩ := p; cases h2 : seqWk p2 p1 <;> simp only [wp_some, wp_none, wp_map, Option.map_some, Option.map_none, Option.join_some, Option.join_none, blD, intD, lstD, tupD, locD, if_true, Bool.false_eq_true, if_false, Bool.not_true, Bool.not_false, true_and, false_and, iff_self, h2]
theorem wi_rng1 {e : E} : wp (evIt G c (.rng1 e) σ S) Q ↔ wp (ev G c e σ S) fun x => wp (intD x.1) fun j => wp (rngWk 0 j) fun w => Q (w, x.2) := by
  rw [evIt]
  cases h : ev G c e σ S with
  | none => simp only [wp_some, wp_none, wp_map, Option.map_some, Option.map_none, Option.join_some, Option.join_none, blD, intD, lstD, tupD, locD, if_true, Bool.false_eq_true, if_false, Bool.not_true, Bool.not_false, true_and, false_and, iff_self]
  | some p =>
    obtain ⟨d, S1⟩ := p
    cases d with
    | int j => cases h2 : rngWk 0 j <;> simp only [wp_some, wp_none, wp_map, Option.map_some, Option.map_none, Option.join_some, Option.join_none, blD, intD, lstD, tupD, locD, if_true, Bool.false_eq_true, if_false, Bool.not_true, Bool.not_false, true_and, false_and, iff_self, intD, h2]
    | _ => simp only [wp_some, wp_none, wp_map, Option.map_some, Option.map_none, Option.join_some, Option.join_none, blD, intD, lstD, tupD, locD, if_true, Bool.false_eq_true, if_false, Bool.not_true, Bool.not_false, true_and, false_and, iff_self, intD]
theorem wi_rng2 {a b : E} : wp (evIt G c (.rng2 a b) σ S) Q ↔ wp (ev G c a σ S) fun x => wp (intD x.1) fun i => wp (ev G c b σ x.2) fun y => wp (intD y.1) fun j => wp (rngWk i j) fun w => Q (w, y.2) := by
  rw [evIt]
  cases h : ev G c a σ S with
  | none => simp only [wp_some, wp_none, wp_map, Option.map_some, Option.map_none, Option.join_some, Option.join_none, blD, intD, lstD, tupD, locD, if_true, Bool.false_eq_true, if_false, Bool.not_true, Bool.not_false, true_and, false_and, iff_self]
  | some p =>
    obtain ⟨d, S1⟩ := p
    cases d with
    | int i =>
      cases h2 : ev G c b σ S1 with
      | none => simp only [wp_some, wp_none, wp_map, Option.map_some, Option.map_none, Option.join_some, Option.join_none, blD, intD, lstD, tupD, locD, if_true, Bool.false_eq_true, if_false, Bool.not_true, Bool.not_false, true_and, false_and, iff_self, intD, h2]
      | some q =>
        obtain ⟨d, S2⟩ := q
        cases d with
        | int j => cases h3 : rngWk i j <;> simp only [wp_some, wp_none, wp_map, Option.map_some, Option.map_none, Option.join_some, Option.join_none, blD, intD, lstD, tupD, locD, if_true, Bool.false_eq_true, if_false, Bool.not_true, Bool.not_false, true_and, false_and, iff_self, intD, h2, h3]
        | _ => simp only [wp_some, wp_none, wp_map, Option.map_some, Option.map_none, Option.join_some, Option.join_none, blD, intD, lstD, tupD, locD, if_true, Bool.false_eq_true, if_false, Bool.not_true, Bool.not_false, true_and, false_and, iff_self, intD, h2]
    | _ => simp only [wp_some, wp_none, wp_map, Option.map_some, Option.map_none, Option.join_some, Option.join_none, blD, intD, lstD, tupD, locD, if_true, Bool.false_eq_true, if_false, Bool.not_true, Bool.not_false, true_and, false_and, iff_self, intD]
theorem wi_rng3 {a b d : E} : wp (evIt G c (.rng3 a b d) σ S) Q ↔ wp (ev G c a σ S) fun x => wp (intD x.1) fun i => wp (ev G c b σ x.2) fun y => wp (intD y.1) fun j => wp (ev G c d σ y.2) fun z => wp (intD z.1) fun l => wp (rngdWk i j l) fun w => Q (w, z.2) := by
  rw [evIt]
  cases h : ev G c a σ S with
  | none => simp only [wp_some, wp_none, wp_map, Option.map_some, Option.map_none, Option.join_some, Option.join_none, blD, intD, lstD, tupD, locD, if_true, Bool.false_eq_true, if_false, Bool.not_true, Bool.not_false, true_and, false_and, iff_self]
  | some p =>
    obtain ⟨d1, S1⟩ := p
    cases d1 with
    | int i =>
      cases h2 : ev G c b σ S1 with
      | none => simp only [wp_some, wp_none, wp_map, Option.map_some, Option.map_none, Option.join_some, Option.join_none, blD, intD, lstD, tupD, locD, if_true, Bool.false_eq_true, if_false, Bool.not_true, Bool.not_false, true_and, false_and, iff_self, h2]
      | some q =>
        obtain ⟨d2, S2⟩ := q
        cases d2 with
        | int j =>
          cases h4 : ev G c d σ S2 with
          | none => simp only [wp_some, wp_none, wp_map, Option.map_some, Option.map_none, Option.join_some, Option.join_none, blD, intD, lstD, tupD, locD, if_true, Bool.false_eq_true, if_false, Bool.not_true, Bool.not_false, true_and, false_and, iff_self, h2, h4]
          | some q3 =>
            obtain ⟨d3, S3⟩ := q3
            cases d3 with
            | int l => cases h3 : rngdWk i j l <;> simp only [wp_some, wp_none, wp_map, Option.map_some, Option.map_none, Option.join_some, Option.join_none, blD, intD, lstD, tupD, locD, if_true, Bool.false_eq_true, if_false, Bool.not_true, Bool.not_false, true_and, false_and, iff_self, h2, h3, h4]
            | _ => simp only [wp_some, wp_none, wp_map, Option.map_some, Option.map_none, Option.join_some, Option.join_none, blD, intD, lstD, tupD, locD, if_true, Bool.false_eq_true, if_false, Bool.not_true, Bool.not_false, true_and, false_and, iff_self, h2, h4]
        | _ => simp only [wp_some, wp_none, wp_map, Option.map_some, Option.map_none, Option.join_some, Option.join_none, blD, intD, lstD, tupD, locD, if_true, Bool.false_eq_true, if_false, Bool.not_true, Bool.not_false, true_and, false_and, iff_self, h2]
    | _ => simp only [wp_some, wp_none, wp_map, Option.map_some, Option.map_none, Option.join_some, Option.join_none, blD, intD, lstD, tupD, locD, if_true, Bool.false_eq_true, if_false, Bool.not_true, Bool.not_false, true_and, false_and, iff_self]
theorem wi_enu {e : E} : wp (evIt G c (.enu e) σ S) Q ↔ wp (ev G c e σ S) fun x => wp (enuWk x.2 x.1) fun w => Q (w, x.2) := by
  rw [evIt]
  cases h : ev G c e σ S with
  | none => simp only [wp_some, wp_none, wp_map, Option.map_some, Option.map_none, Option.join_some, Option.join_none, blD, intD, lstD, tupD, locD, if_true, Bool.false_eq_true, if_false, Bool.not_true, Bool.not_false, true_and, false_and, iff_self]
  | some p => obtain ⟨p1, p2⟩ := p; cases h2 : enuWk p2 p1 <;> simp only [wp_some, wp_none, wp_map, Option.map_some, Option.map_none, Option.join_some, Option.join_none, blD, intD, lstD, tupD, locD, if_true, Bool.false_eq_true, if_false, Bool.not_true, Bool.not_false, true_and, false_and, iff_self, h2]
theorem wi_rev {e : E} : wp (evIt G c (.rev e) σ S) Q ↔ wp (ev G c e σ S) fun x => wp (revWk x.2 x.1) fun w => Q (w, x.2) := by
  rw [evIt]
  cases h : ev G c e σ S with
  | none => simp only [wp_some, wp_none, wp_map, Option.map_some, Option.map_none, Option.join_some, Option.join_none, blD, intD, lstD, tupD, locD, if_true, Bool.false_eq_true, if_false, Bool.not_true, Bool.not_false, true_and, false_and, iff_self]
  | some p => obtain ⟨p1, p2⟩ := p; cases h2 : revWk p2 p1 <;> simp only [wp_some, wp_none, wp_map, Option.map_some, Option.map_none, Option.join_some, Option.join_none, blD, intD, lstD, tupD, locD, if_true, Bool.false_eq_true, if_false, Bool.not_true, Bool.not_false, true_and, false_and, iff_self, h2]
theorem wi_rrng {r : Rg} : wp (evIt G c (.rrng r) σ S) Q ↔ wp (evR G c r σ S) fun x => wp (rrngWk x.1 x.2.1) fun w => Q (w, x.2.2) := by
  rw [evIt]
  cases h : evR G c r σ S with
  | none => simp only [wp_none]
  | some p => obtain ⟨i, j, S1⟩ := p; simp only [wp_some, wp_map]
theorem wi_zip3 {a b d : E} : wp (evIt G c (.zip3 a b d) σ S) Q ↔ wp (ev G c a σ S) fun x => wp (ev G c b σ x.2) fun y => wp (ev G c d σ y.2) fun z => wp (zip3Wk z.2 x.1 y.1 z.1) fun w => Q (w, z.2) := by
  rw [evIt]
  cases h : ev G c a σ S with
  | none => simp only [wp_some, wp_none, wp_map, Option.map_some, Option.map_none, Option.join_some, Option.join_none, blD, intD, lstD, tupD, locD, if_true, Bool.false_eq_true, if_false, Bool.not_true, Bool.not_false, true_and, false_and, iff_self]
  | some p =>
    obtain ⟨p1, p2⟩ := p
    cases h2 : ev G c b σ p2 with
    | none => simp only [wp_some, wp_none, wp_map, Option.map_some, Option.map_none, Option.join_some, Option.join_none, blD, intD, lstD, tupD, locD, if_true, Bool.false_eq_true, if_false, Bool.not_true, Bool.not_false, true_and, false_and, iff_self, h2]
    | some q =>
      obtain ⟨q1, q2⟩ := q
      cases h4 : ev G c d σ q2 with
      | none => simp only [wp_some, wp_none, wp_map, Option.map_some, Option.map_none, Option.join_some, Option.join_none, blD, intD, lstD, tupD, locD, if_true, Bool.false_eq_true, if_false, Bool.not_true, Bool.not_false, true_and, false_and, iff_self, h2, h4]
      | some u => obtain ⟨u1, u2⟩ := u; cases h3 : zip3Wk u2 p1 q1 u1 <;> simp only [wp_some, wp_none, wp_map, Option.map_some, Option.map_none, Option.join_some, Option.join_none, blD, intD, lstD, tupD, locD, if_true, Bool.false_eq_true, if_false, Bool.not_true, Bool.not_false, true_and, false_and, iff_self, h2, h4, h3]
theorem wi_zip {a b : E} : wp (evIt G c (.zip a b) σ S) Q ↔ wp (ev G c a σ S) fun x => wp (ev G c b σ x.2) fun y => wp (zipWk y.2 x.1 y.1) fun w => Q (w, y.2) := by
  rw [evIt]
  cases h : ev G c a σ S with
  | none => simp only [wp_some, wp_none, wp_map, Option.map_some, Option.map_none, Option.join_some, Option.join_none, blD, intD, lstD, tupD, locD, if_true, Bool.false_eq_true, if_false, Bool.not_true, Bool.not_false, true_and, false_and, iff_self]
  | some p =>
    obtain ⟨p1, p2⟩ := p
    cases h2 : ev G c b σ p2 with
    | none => simp only [wp_some, wp_none, wp_map, Option.map_some, Option.map_none, Option.join_some, Option.join_none, blD, intD, lstD, tupD, locD, if_true, Bool.false_eq_true, if_false, Bool.not_true, Bool.not_false, true_and, false_and, iff_self, h2]
    | some q => obtain ⟨q1, q2⟩ := q; cases h3 : zipWk q2 p1 q1 <;> simp only [wp_some, wp_none, wp_map, Option.map_some, Option.map_none, Option.join_some, Option.join_none, blD, intD, lstD, tupD, locD, if_true, Bool.false_eq_true, if_false, Bool.not_true, Bool.not_false, true_and, false_and, iff_self, h2, h3]
end

/-! ## statements -/
abbrev Out : Type := Fl × DEnv × Sto
section
variable {W : Nat} {Q : Out → Prop}
/-- on behind a statement -/
def thn (Q : Out → Prop) (k : DEnv → Sto → Prop) (p : Out) : Prop := match p.1 with
  | .nx => k p.2.1 p.2.2
  | .rt d => Q (.rt d, p.2.1, p.2.2)
  | .bk => Q (.bk, p.2.1, p.2.2)
  | .ct => Q (.ct, p.2.1, p.2.2)
theorem wb_nil : wp (svs G c W .nil σ S) Q ↔ Q (.nx, σ, S) := by rw [svs]; exact wp_some
theorem wb_cons {s : Rf.S} {r : Ss} {S' : Sto} : wp (svs G c W (.cons s r) σ S') Q ↔ wp (sv G c W s σ S') (thn Q fun σ1 S1 => wp (svs G c W r σ1 S1) Q) := by
  rw [svs]
  cases h : sv G c W s σ S' with
  | none => simp only [wp_some, wp_none, wp_map, Option.map_some, Option.map_none, Option.join_some, Option.join_none, blD, intD, lstD, tupD, locD, if_true, Bool.false_eq_true, if_false, Bool.not_true, Bool.not_false, true_and, false_and, iff_self]
  | some p =>
    obtain ⟨f, σ1, S1⟩ := p
    cases f <;> simp only [wp_some, wp_none, wp_map, Option.map_some, Option.map_none, Option.join_some, Option.join_none, blD, intD, lstD, tupD, locD, if_true, Bool.false_eq_true, if_false, Bool.not_true, Bool.not_false, true_and, false_and, iff_self, thn]
theorem wx_set {i : Nat} {e : E} : wp (sv G c W (.set i e) σ S) Q ↔ wp (ev G c e σ S) fun x => Q (.nx, σ.set i (some x.1), x.2) := by
  rw [sv]
  cases h : ev G c e σ S <;> simp only [wp_some, wp_none, wp_map, Option.map_some, Option.map_none, Option.join_some, Option.join_none, blD, intD, lstD, tupD, locD, if_true, Bool.false_eq_true, if_false, Bool.not_true, Bool.not_false, true_and, false_and, iff_self]
theorem wx_par {is : List Nat} {es : Es} : wp (sv G c W (.par is es) σ S) Q ↔ wp (evs G c es σ S) fun x => wp (setAll σ is x.1) fun τ => Q (.nx, τ, x.2) := by
  rw [sv]
  cases h : evs G c es σ S with
  | none => simp only [wp_some, wp_none, wp_map, Option.map_some, Option.map_none, Option.join_some, Option.join_none, blD, intD, lstD, tupD, locD, if_true, Bool.false_eq_true, if_false, Bool.not_true, Bool.not_false, true_and, false_and, iff_self]
  | some p => obtain ⟨p1, p2⟩ := p; cases h2 : setAll σ is p1 <;> simp only [wp_some, wp_none, wp_map, Option.map_some, Option.map_none, Option.join_some, Option.join_none, blD, intD, lstD, tupD, locD, if_true, Bool.false_eq_true, if_false, Bool.not_true, Bool.not_false, true_and, false_and, iff_self, h2]
theorem wx_unp {ts : List Lt} {e : E} : wp (sv G c W (.unp ts e) σ S) Q ↔ wp (ev G c e σ S) fun x => wp (tupD x.1) fun xs => wp (ltsD G c ts xs σ x.2) fun p => Q (.nx, p.1, p.2) := by
  rw [sv]
  cases h : ev G c e σ S with
  | none => simp only [wp_some, wp_none, wp_map, Option.map_some, Option.map_none, Option.join_some, Option.join_none, blD, intD, lstD, tupD, locD, if_true, Bool.false_eq_true, if_false, Bool.not_true, Bool.not_false, true_and, false_and, iff_self]
  | some p =>
    obtain ⟨d, S1⟩ := p
    cases d with
    | tup xs => cases h2 : ltsD G c ts xs σ S1 <;> simp only [wp_some, wp_none, wp_map, Option.map_some, Option.map_none, Option.join_some, Option.join_none, blD, intD, lstD, tupD, locD, if_true, Bool.false_eq_true, if_false, Bool.not_true, Bool.not_false, true_and, false_and, iff_self, tupD, h2]
    | _ => simp only [wp_some, wp_none, wp_map, Option.map_some, Option.map_none, Option.join_some, Option.join_none, blD, intD, lstD, tupD, locD, if_true, Bool.false_eq_true, if_false, Bool.not_true, Bool.not_false, true_and, false_and, iff_self, tupD]
theorem wl_nil {Q : DEnv × Sto → Prop} : wp (ltsD G c [] [] σ S) Q ↔ Q (σ, S) := by unfold ltsD; exact wp_some
theorem wl_name {i : Nat} {ts : List Lt} {d : D} {ds : List D} {Q : DEnv × Sto → Prop} : wp (ltsD G c (.name i :: ts) (d :: ds) σ S) Q ↔ wp (ltsD G c ts ds (σ.set i (some d)) S) Q := by
  rw [ltsD, ltD]
theorem wl_tgt {g : Tg} {ts : List Lt} {d : D} {ds : List D} {Q : DEnv × Sto → Prop} : wp (ltsD G c (.tgt g :: ts) (d :: ds) σ S) Q ↔ wp (tgD g d σ) fun τ => wp (ltsD G c ts ds τ S) Q := by
  rw [ltsD, ltD]
  cases h : tgD g d σ with
  | none => simp only [wp_none, Option.map_none]
  | some τ => simp only [wp_some, Option.map_some]
theorem wl_sub {o i : E} {ts : List Lt} {d : D} {ds : List D} {Q : DEnv × Sto → Prop} : wp (ltsD G c (.sub o i :: ts) (d :: ds) σ S) Q ↔ wp (ev G c o σ S) fun x => wp (ev G c i σ x.2) fun y => wp (setxD y.2 x.1 y.1 d) fun S3 => wp (ltsD G c ts ds σ S3) Q := by
  rw [ltsD, ltD]
  cases h : ev G c o σ S with
  | none => simp only [wp_some, wp_none, wp_map, Option.map_some, Option.map_none, Option.join_some, Option.join_none, blD, intD, lstD, tupD, locD, if_true, Bool.false_eq_true, if_false, Bool.not_true, Bool.not_false, true_and, false_and, iff_self]
  | some p =>
    obtain ⟨p1, p2⟩ := p
    cases h2 : ev G c i σ p2 with
    | none => simp only [wp_some, wp_none, wp_map, Option.map_some, Option.map_none, Option.join_some, Option.join_none, blD, intD, lstD, tupD, locD, if_true, Bool.false_eq_true, if_false, Bool.not_true, Bool.not_false, true_and, false_and, iff_self, h2]
    | some q => obtain ⟨q1, q2⟩ := q; cases h3 : setxD q2 p1 q1 d <;> simp only [wp_some, wp_none, wp_map, Option.map_some, Option.map_none, Option.join_some, Option.join_none, blD, intD, lstD, tupD, locD, if_true, Bool.false_eq_true, if_false, Bool.not_true, Bool.not_false, true_and, false_and, iff_self, h2, h3]
theorem wx_setx {o i e : E} : wp (sv G c W (.setx o i e) σ S) Q ↔ wp (ev G c e σ S) fun d => wp (ev G c o σ d.2) fun x => wp (ev G c i σ x.2) fun y => wp (setxD y.2 x.1 y.1 d.1) fun S3 => Q (.nx, σ, S3) := by
  rw [sv]
  cases h : ev G c e σ S with
  | none => simp only [wp_some, wp_none, wp_map, Option.map_some, Option.map_none, Option.join_some, Option.join_none, blD, intD, lstD, tupD, locD, if_true, Bool.false_eq_true, if_false, Bool.not_true, Bool.not_false, true_and, false_and, iff_self]
  | some d =>
    obtain ⟨d1, d2⟩ := d
    dsimp only
    rw [ltD]
    cases h1 : ev G c o σ d2 with
    | none => simp only [wp_some, wp_none, wp_map, Option.map_some, Option.map_none, Option.join_some, Option.join_none, blD, intD, lstD, tupD, locD, if_true, Bool.false_eq_true, if_false, Bool.not_true, Bool.not_false, true_and, false_and, iff_self, h1]
    | some p =>
      obtain ⟨p1, p2⟩ := p
      cases h2 : ev G c i σ p2 with
      | none => simp only [wp_some, wp_none, wp_map, Option.map_some, Option.map_none, Option.join_some, Option.join_none, blD, intD, lstD, tupD, locD, if_true, Bool.false_eq_true, if_false, Bool.not_true, Bool.not_false, true_and, false_and, iff_self, h1, h2]
      | some q => obtain ⟨q1, q2⟩ := q; cases h3 : setxD q2 p1 q1 d1 <;> simp only [wp_some, wp_none, wp_map, Option.map_some, Option.map_none, Option.join_some, Option.join_none, blD, intD, lstD, tupD, locD, if_true, Bool.false_eq_true, if_false, Bool.not_true, Bool.not_false, true_and, false_and, iff_self, h1, h2, h3]
theorem wx_app {o e : E} : wp (sv G c W (.app o e) σ S) Q ↔ wp (ev G c o σ S) fun x => wp (ev G c e σ x.2) fun d => wp (appD d.2 x.1 d.1) fun S3 => Q (.nx, σ, S3) := by
  rw [sv]
  cases h1 : ev G c o σ S with
  | none => simp only [wp_some, wp_none, wp_map, Option.map_some, Option.map_none, Option.join_some, Option.join_none, blD, intD, lstD, tupD, locD, if_true, Bool.false_eq_true, if_false, Bool.not_true, Bool.not_false, true_and, false_and, iff_self]
  | some p =>
    obtain ⟨p1, p2⟩ := p
    cases h2 : ev G c e σ p2 with
    | none => simp only [wp_some, wp_none, wp_map, Option.map_some, Option.map_none, Option.join_some, Option.join_none, blD, intD, lstD, tupD, locD, if_true, Bool.false_eq_true, if_false, Bool.not_true, Bool.not_false, true_and, false_and, iff_self, h2]
    | some q => obtain ⟨q1, q2⟩ := q; cases h3 : appD q2 p1 q1 <;> simp only [wp_some, wp_none, wp_map, Option.map_some, Option.map_none, Option.join_some, Option.join_none, blD, intD, lstD, tupD, locD, if_true, Bool.false_eq_true, if_false, Bool.not_true, Bool.not_false, true_and, false_and, iff_self, h2, h3]
theorem wx_exp {e : E} : wp (sv G c W (.exp e) σ S) Q ↔ wp (ev G c e σ S) fun x => Q (.nx, σ, x.2) := by
  rw [sv]
  cases h : ev G c e σ S <;> simp only [wp_some, wp_none, wp_map, Option.map_some, Option.map_none, Option.join_some, Option.join_none, blD, intD, lstD, tupD, locD, if_true, Bool.false_eq_true, if_false, Bool.not_true, Bool.not_false, true_and, false_and, iff_self]
theorem wx_ret {e : E} : wp (sv G c W (.ret e) σ S) Q ↔ wp (ev G c e σ S) fun x => Q (.rt x.1, σ, x.2) := by
  rw [sv]
  cases h : ev G c e σ S <;> simp only [wp_some, wp_none, wp_map, Option.map_some, Option.map_none, Option.join_some, Option.join_none, blD, intD, lstD, tupD, locD, if_true, Bool.false_eq_true, if_false, Bool.not_true, Bool.not_false, true_and, false_and, iff_self]
theorem wx_retn : wp (sv G c W .retn σ S) Q ↔ Q (.rt .non, σ, S) := by rw [sv]; exact wp_some
theorem wx_ite {t : E} {a b : Ss} : wp (sv G c W (.ite t a b) σ S) Q ↔ wp (ev G c t σ S) fun x => wp (blD x.1) fun k => if k = true then wp (svs G c W a σ x.2) Q else wp (svs G c W b σ x.2) Q := by
  rw [sv]
  cases h : ev G c t σ S with
  | none => simp only [wp_some, wp_none, wp_map, Option.map_some, Option.map_none, Option.join_some, Option.join_none, blD, intD, lstD, tupD, locD, if_true, Bool.false_eq_true, if_false, Bool.not_true, Bool.not_false, true_and, false_and, iff_self]
  | some p =>
    obtain ⟨d, S1⟩ := p
    cases d with
    | bl b => cases b <;> simp only [wp_some, wp_none, wp_map, Option.map_some, Option.map_none, Option.join_some, Option.join_none, blD, intD, lstD, tupD, locD, if_true, Bool.false_eq_true, if_false, Bool.not_true, Bool.not_false, true_and, false_and, iff_self, blD]
    | _ => simp only [wp_some, wp_none, wp_map, Option.map_some, Option.map_none, Option.join_some, Option.join_none, blD, intD, lstD, tupD, locD, if_true, Bool.false_eq_true, if_false, Bool.not_true, Bool.not_false, true_and, false_and, iff_self, blD]
/-- a turn of a for -/
def turnF (G : Nat → Option D) (c : Cal) (W : Nat) (tg : Tg) (b : Ss) : D → DEnv → Sto → Option Out := fun x σ S => match tgD tg x σ with
  | some σ1 => svs G c W b σ1 S
  | none => none
theorem wx_for {it : Rf.It} {tg : Tg} {b : Ss} : wp (sv G c W (.for it tg b) σ S) Q ↔ wp (evIt G c it σ S) fun w => wp (forLoop (turnF G c W tg b) w.1.still w.1.items σ w.2) Q := by
  rw [sv]
  show wp (match evIt G c it σ S with
    | some (w, S1) => forLoop (turnF G c W tg b) w.still w.items σ S1
    | none => none) Q ↔ _
  cases h : evIt G c it σ S <;> simp only [wp_some, wp_none, wp_map, Option.map_some, Option.map_none, Option.join_some, Option.join_none, blD, intD, lstD, tupD, locD, if_true, Bool.false_eq_true, if_false, Bool.not_true, Bool.not_false, true_and, false_and, iff_self]
theorem wx_while {t : E} {b : Ss} : wp (sv G c W (.while t b) σ S) Q ↔ wp (whileLoop (fun σ S => ev G c t σ S) (fun σ S => svs G c W b σ S) W σ S) Q := by
  unfold sv; exact Iff.rfl
theorem wx_pass : wp (sv G c W .pass σ S) Q ↔ Q (.nx, σ, S) := by rw [sv]; exact wp_some
theorem wx_brk : wp (sv G c W .brk σ S) Q ↔ Q (.bk, σ, S) := by rw [sv]; exact wp_some
theorem wx_cont : wp (sv G c W .cont σ S) Q ↔ Q (.ct, σ, S) := by rw [sv]; exact wp_some
theorem wx_never : wp (sv G c W .never σ S) Q ↔ False := by rw [sv]; exact wp_none
end
end
end Rf
end

section
set_option maxRecDepth 100000
set_option maxHeartbeats 4000000
set_option autoImplicit false
namespace Rf
open PySem PySem.Spec PyProof.Rows L2
/-! ## values -/
section
variable {S : Sto}
theorem vo_add {i j : Int} {Q : D → Prop} : wp (opD S .add (.int i) (.int j)) Q ↔ Q (.int (i + j)) := wp_some
theorem vo_sub {i j : Int} {Q : D → Prop} : wp (opD S .sub (.int i) (.int j)) Q ↔ Q (.int (i - j)) := wp_some
theorem vo_mul {i j : Int} {Q : D → Prop} : wp (opD S .mul (.int i) (.int j)) Q ↔ i.natAbs.log2 + j.natAbs.log2 < 1000000 ∧ Q (.int (i * j)) := by
  show wp (if _ then _ else _) Q ↔ _
  rw [wp_if, wp_some, wp_none]
  by_cases h : i.natAbs.log2 + j.natAbs.log2 < 1000000 <;> simp only [h, if_true, if_false, true_and, false_and]
theorem vo_fdiv {i j : Int} {Q : D → Prop} : wp (opD S .fdiv (.int i) (.int j)) Q ↔ (j ≠ 0 ∧ j.natAbs.log2 < 9000) ∧ Q (.int (i.fdiv j)) := by
  show wp (if _ then _ else _) Q ↔ _
  rw [wp_if, wp_some, wp_none]
  by_cases h : j ≠ 0 ∧ j.natAbs.log2 < 9000
  · rw [if_pos h]; exact ⟨fun q => ⟨h, q⟩, fun q => q.2⟩
  · rw [if_neg h]; exact ⟨fun q => q.elim, fun q => h q.1⟩
theorem vo_mod {i j : Int} {Q : D → Prop} : wp (opD S .mod (.int i) (.int j)) Q ↔ j ≠ 0 ∧ Q (.int (i.fmod j)) := by
  show wp (if _ then _ else _) Q ↔ _
  rw [wp_if, wp_some, wp_none]
  by_cases h : j ≠ 0
  · rw [if_pos h]; exact ⟨fun q => ⟨h, q⟩, fun q => q.2⟩
  · rw [if_neg h]; exact ⟨fun q => q.elim, fun q => h q.1⟩
theorem vo_pow {i j : Int} {Q : D → Prop} : wp (opD S .pow (.int i) (.int j)) Q ↔ (0 ≤ j ∧ j ≤ 1000 ∧ i.natAbs < 2 ^ 64) ∧ Q (.int (i ^ j.toNat)) := by
  show wp (if _ then _ else _) Q ↔ _
  rw [wp_if, wp_some, wp_none]
  by_cases h : 0 ≤ j ∧ j ≤ 1000 ∧ i.natAbs < 2 ^ 64
  · rw [if_pos h]; exact ⟨fun q => ⟨h, q⟩, fun q => q.2⟩
  · rw [if_neg h]; exact ⟨fun q => q.elim, fun q => h q.1⟩
theorem vo_cat {xs ys : List D} {Q : D → Prop} : wp (opD S .add (.tup xs) (.tup ys)) Q ↔ xs.length + ys.length ≤ many ∧ Q (.tup (xs ++ ys)) := by
  show wp (if _ then _ else _) Q ↔ _
  rw [wp_if, wp_some, wp_none]
  by_cases h : xs.length + ys.length ≤ many <;> simp only [h, if_true, if_false, true_and, false_and]
theorem vo_catL {xs ys : List D} {Q : D → Prop} : wp (opD S .add (.lst xs) (.lst ys)) Q ↔ xs.length + ys.length ≤ many ∧ Q (.lst (xs ++ ys)) := by
  show wp (if _ then _ else _) Q ↔ _
  rw [wp_if, wp_some, wp_none]
  by_cases h : xs.length + ys.length ≤ many <;> simp only [h, if_true, if_false, true_and, false_and]
theorem vo_catM {n : Nat} {ys : List D} {Q : D → Prop} : wp (opD S .add (.loc n) (.lst ys)) Q ↔ wp (S[n]?) fun xs => xs.length + ys.length ≤ many ∧ Q (.lst (xs ++ ys)) := by
  show wp ((S[n]?).bind fun xs => if xs.length + ys.length ≤ many then some (D.lst (xs ++ ys)) else none) Q ↔ _
  rw [wp_bind]
  cases S[n]? with
  | none => rw [wp_none, wp_none]
  | some xs =>
    rw [wp_some, wp_some, wp_if, wp_some, wp_none]
    by_cases h : xs.length + ys.length ≤ many <;> simp only [h, if_true, if_false, true_and, false_and]
theorem vo_rep {xs : List D} {k : Int} {Q : D → Prop} : wp (opD S .mul (.tup xs) (.int k)) Q ↔ (0 ≤ k ∧ k ≤ 1000 ∧ 0 < xs.length ∧ xs.length ≤ 1000) ∧ Q (.tup (List.replicate k.toNat xs).flatten) := by
  show wp (if _ then _ else _) Q ↔ _
  rw [wp_if, wp_some, wp_none]
  by_cases h : 0 ≤ k ∧ k ≤ 1000 ∧ 0 < xs.length ∧ xs.length ≤ 1000
  · rw [if_pos h]; exact ⟨fun q => ⟨h, q⟩, fun q => q.2⟩
  · rw [if_neg h]; exact ⟨fun q => q.elim, fun q => h q.1⟩
theorem vc_lt {i j : Int} {Q : Bool → Prop} : wp (cmpD S .lt (.int i) (.int j)) Q ↔ Q (decide (i < j)) := wp_some
theorem vc_le {i j : Int} {Q : Bool → Prop} : wp (cmpD S .le (.int i) (.int j)) Q ↔ Q (decide (i ≤ j)) := wp_some
theorem vc_gt {i j : Int} {Q : Bool → Prop} : wp (cmpD S .gt (.int i) (.int j)) Q ↔ Q (decide (j < i)) := wp_some
theorem vc_ge {i j : Int} {Q : Bool → Prop} : wp (cmpD S .ge (.int i) (.int j)) Q ↔ Q (decide (j ≤ i)) := wp_some
theorem vc_eqI {i j : Int} {Q : Bool → Prop} : wp (cmpD S .eq (.int i) (.int j)) Q ↔ Q (decide (i = j)) := by
  have e : cmpD S .eq (.int i) (.int j) = some (decide (i = j)) := by
    show eqD S (.int i) (.int j) = _
    unfold eqD eqD0
    simp only [res, pyD, Option.bind_some]
    have h1 : SeqAt.shaped (.int i) = true := rfl
    have h2 : SeqAt.shaped (.int j) = true := rfl
    rw [h1, h2]
    simp only [Bool.and_self, if_true]
    rfl
  rw [e, wp_some]
theorem vc_neI {i j : Int} {Q : Bool → Prop} : wp (cmpD S .ne (.int i) (.int j)) Q ↔ Q (!decide (i = j)) := by
  have e : cmpD S .ne (.int i) (.int j) = (cmpD S .eq (.int i) (.int j)).map fun k => !k := rfl
  rw [e, wp_map, vc_eqI]
theorem vi_0 {a : D} {l : List D} {Q : D → Prop} : wp (idxD S (.tup (a :: l)) (.int 0)) Q ↔ Q a := by
  have e : idxD S (.tup (a :: l)) (.int 0) = some a := by
    show (some (a :: l)).bind (fun xs => atI xs 0) = _
    simp [atI, ixN]
  rw [e, wp_some]
theorem vi_nat {xs : List D} {n : Nat} {Q : D → Prop} : wp (idxD S (.tup xs) (.int (n : Int))) Q ↔ wp (xs[n]?) Q := by
  have e : idxD S (.tup xs) (.int (n : Int)) = xs[n]? := by
    show (some xs).bind (fun xs => atI xs (n : Int)) = _
    rw [Option.bind_some]
    unfold atI ixN
    rw [if_pos (by omega)]
    by_cases h : n < xs.length
    · rw [if_pos (by omega)]; simp
    · rw [if_neg (by omega), List.getElem?_eq_none (by omega)]; rfl
  rw [e]
theorem vi_lit {xs : List D} {n : Nat} {Q : D → Prop} : wp (idxD S (.tup xs) (.int (@OfNat.ofNat Int n _))) Q ↔ wp (xs[(@OfNat.ofNat Nat n _)]?) Q := vi_nat
theorem atI_nat {α : Type} {xs : List α} {n : Nat} : atI xs (n : Int) = xs[n]? := by
  unfold atI ixN
  rw [if_pos (by omega)]
  by_cases h : n < xs.length
  · rw [if_pos (by omega)]; simp
  · rw [if_neg (by omega), List.getElem?_eq_none (by omega)]; rfl
/-- a list in the store -/
theorem vi_loc {m n : Nat} {Q : D → Prop} : wp (idxD S (.loc m) (.int (n : Int))) Q ↔ wp (S[m]?) fun xs => wp (xs[n]?) Q := by
  show wp ((S[m]?).bind fun xs => atI xs (n : Int)) Q ↔ _
  rw [wp_bind]
  simp only [atI_nat]
theorem vi_locL {m n : Nat} {Q : D → Prop} : wp (idxD S (.loc m) (.int (@OfNat.ofNat Int n _))) Q ↔ wp (S[m]?) fun xs => wp (xs[(@OfNat.ofNat Nat n _)]?) Q := vi_loc
theorem vi_lst {xs : List D} {n : Nat} {Q : D → Prop} : wp (idxD S (.lst xs) (.int (n : Int))) Q ↔ wp (xs[n]?) Q := by
  show wp ((some xs).bind fun xs => atI xs (n : Int)) Q ↔ _
  rw [Option.bind_some, atI_nat]
theorem vi_lstL {xs : List D} {n : Nat} {Q : D → Prop} : wp (idxD S (.lst xs) (.int (@OfNat.ofNat Int n _))) Q ↔ wp (xs[(@OfNat.ofNat Nat n _)]?) Q := vi_lst
theorem ixN_nat' {n j : Nat} : ixN n (j : Int) = if j < n then some j else none := by
  unfold ixN
  rw [if_pos (by omega)]
  by_cases h : j < n
  · rw [if_pos (by omega), if_pos h]; simp
  · rw [if_neg (by omega), if_neg h]
theorem vs_set {m n : Nat} {d : D} {Q : Sto → Prop} : wp (setxD S (.loc m) (.int (n : Int)) d) Q ↔ wp (S[m]?) fun xs => n < xs.length ∧ Q (S.set m (xs.set n d)) := by
  show wp ((S[m]?).bind fun xs => (ixN xs.length (n : Int)).map fun j => S.set m (xs.set j d)) Q ↔ _
  rw [wp_bind]
  simp only [ixN_nat', wp_map]
  have e : (fun xs : List D => wp (if n < xs.length then some n else none) fun x => Q (S.set m (xs.set x d))) = fun xs => n < xs.length ∧ Q (S.set m (xs.set n d)) := by
    funext xs
    rw [wp_if, wp_some, wp_none]
    by_cases h : n < xs.length <;> simp only [h, if_true, if_false, true_and, false_and]
  rw [e]
theorem vs_setL {m n : Nat} {d : D} {Q : Sto → Prop} : wp (setxD S (.loc m) (.int (@OfNat.ofNat Int n _)) d) Q ↔ wp (S[m]?) fun xs => (@OfNat.ofNat Nat n _) < xs.length ∧ Q (S.set m (xs.set (@OfNat.ofNat Nat n _) d)) := vs_set
theorem vi_t1 {xs : List D} {Q : D → Prop} : wp (idxD S (.tup xs) (.int 1)) Q ↔ wp (xs[1]?) Q := vi_nat (n := 1)
theorem vi_t2 {xs : List D} {Q : D → Prop} : wp (idxD S (.tup xs) (.int 2)) Q ↔ wp (xs[2]?) Q := vi_nat (n := 2)
theorem vi_t3 {xs : List D} {Q : D → Prop} : wp (idxD S (.tup xs) (.int 3)) Q ↔ wp (xs[3]?) Q := vi_nat (n := 3)
theorem vi_t4 {xs : List D} {Q : D → Prop} : wp (idxD S (.tup xs) (.int 4)) Q ↔ wp (xs[4]?) Q := vi_nat (n := 4)
theorem vi_t5 {xs : List D} {Q : D → Prop} : wp (idxD S (.tup xs) (.int 5)) Q ↔ wp (xs[5]?) Q := vi_nat (n := 5)
theorem vi_t6 {xs : List D} {Q : D → Prop} : wp (idxD S (.tup xs) (.int 6)) Q ↔ wp (xs[6]?) Q := vi_nat (n := 6)
theorem vi_t7 {xs : List D} {Q : D → Prop} : wp (idxD S (.tup xs) (.int 7)) Q ↔ wp (xs[7]?) Q := vi_nat (n := 7)
theorem vi_t8 {xs : List D} {Q : D → Prop} : wp (idxD S (.tup xs) (.int 8)) Q ↔ wp (xs[8]?) Q := vi_nat (n := 8)
theorem vi_t9 {xs : List D} {Q : D → Prop} : wp (idxD S (.tup xs) (.int 9)) Q ↔ wp (xs[9]?) Q := vi_nat (n := 9)
theorem vi_t10 {xs : List D} {Q : D → Prop} : wp (idxD S (.tup xs) (.int 10)) Q ↔ wp (xs[10]?) Q := vi_nat (n := 10)
theorem vi_t11 {xs : List D} {Q : D → Prop} : wp (idxD S (.tup xs) (.int 11)) Q ↔ wp (xs[11]?) Q := vi_nat (n := 11)
theorem vi_t12 {xs : List D} {Q : D → Prop} : wp (idxD S (.tup xs) (.int 12)) Q ↔ wp (xs[12]?) Q := vi_nat (n := 12)
theorem vi_m0 {m : Nat} {Q : D → Prop} : wp (idxD S (.loc m) (.int 0)) Q ↔ wp (S[m]?) fun xs => wp (xs[0]?) Q := vi_loc (n := 0)
theorem vi_l0 {xs : List D} {Q : D → Prop} : wp (idxD S (.lst xs) (.int 0)) Q ↔ wp (xs[0]?) Q := vi_lst (n := 0)
theorem vs_s0 {m : Nat} {d : D} {Q : Sto → Prop} : wp (setxD S (.loc m) (.int 0) d) Q ↔ wp (S[m]?) fun xs => 0 < xs.length ∧ Q (S.set m (xs.set 0 d)) := vs_set (n := 0)
theorem vi_m1 {m : Nat} {Q : D → Prop} : wp (idxD S (.loc m) (.int 1)) Q ↔ wp (S[m]?) fun xs => wp (xs[1]?) Q := vi_loc (n := 1)
theorem vi_l1 {xs : List D} {Q : D → Prop} : wp (idxD S (.lst xs) (.int 1)) Q ↔ wp (xs[1]?) Q := vi_lst (n := 1)
theorem vs_s1 {m : Nat} {d : D} {Q : Sto → Prop} : wp (setxD S (.loc m) (.int 1) d) Q ↔ wp (S[m]?) fun xs => 1 < xs.length ∧ Q (S.set m (xs.set 1 d)) := vs_set (n := 1)
theorem vi_m2 {m : Nat} {Q : D → Prop} : wp (idxD S (.loc m) (.int 2)) Q ↔ wp (S[m]?) fun xs => wp (xs[2]?) Q := vi_loc (n := 2)
theorem vi_l2 {xs : List D} {Q : D → Prop} : wp (idxD S (.lst xs) (.int 2)) Q ↔ wp (xs[2]?) Q := vi_lst (n := 2)
theorem vs_s2 {m : Nat} {d : D} {Q : Sto → Prop} : wp (setxD S (.loc m) (.int 2) d) Q ↔ wp (S[m]?) fun xs => 2 < xs.length ∧ Q (S.set m (xs.set 2 d)) := vs_set (n := 2)
theorem vi_m3 {m : Nat} {Q : D → Prop} : wp (idxD S (.loc m) (.int 3)) Q ↔ wp (S[m]?) fun xs => wp (xs[3]?) Q := vi_loc (n := 3)
theorem vi_l3 {xs : List D} {Q : D → Prop} : wp (idxD S (.lst xs) (.int 3)) Q ↔ wp (xs[3]?) Q := vi_lst (n := 3)
theorem vs_s3 {m : Nat} {d : D} {Q : Sto → Prop} : wp (setxD S (.loc m) (.int 3) d) Q ↔ wp (S[m]?) fun xs => 3 < xs.length ∧ Q (S.set m (xs.set 3 d)) := vs_set (n := 3)
theorem vs_app {m : Nat} {d : D} {Q : Sto → Prop} : wp (appD S (.loc m) d) Q ↔ wp (S[m]?) fun xs => xs.length < many ∧ Q (S.set m (xs ++ [d])) := by
  show wp ((S[m]?).bind fun xs => if xs.length < many then some (S.set m (xs ++ [d])) else none) Q ↔ _
  rw [wp_bind]
  have e : (fun xs : List D => wp (if xs.length < many then some (S.set m (xs ++ [d])) else none) Q) = fun xs => xs.length < many ∧ Q (S.set m (xs ++ [d])) := by
    funext xs
    rw [wp_if, wp_some, wp_none]
    by_cases h : xs.length < many <;> simp only [h, if_true, if_false, true_and, false_and]
  rw [e]
/-! ### calls of builtins -/
theorem vp_lenT {xs : List D} {Q : D → Prop} : wp (prD S .len [.tup xs]) Q ↔ Q (.int (xs.length : Int)) := wp_some
theorem vp_lenL {xs : List D} {Q : D → Prop} : wp (prD S .len [.lst xs]) Q ↔ Q (.int (xs.length : Int)) := wp_some
theorem vp_lenF {xs : List D} {Q : D → Prop} : wp (prD S .len [.fro xs]) Q ↔ Q (.int (xs.length : Int)) := wp_some
theorem vp_lenM {m : Nat} {Q : D → Prop} : wp (prD S .len [.loc m]) Q ↔ wp (S[m]?) fun xs => Q (.int (xs.length : Int)) := wp_map
theorem vp_int {i : Int} {Q : D → Prop} : wp (prD S .int [.int i]) Q ↔ Q (.int i) := wp_some
theorem vp_intB {b : Bool} {Q : D → Prop} : wp (prD S .int [.bl b]) Q ↔ Q (.int (if b then 1 else 0)) := wp_some
theorem vp_abs {i : Int} {Q : D → Prop} : wp (prD S .abs [.int i]) Q ↔ Q (.int (if i < 0 then -i else i)) := wp_some
theorem vp_min {i j : Int} {Q : D → Prop} : wp (prD S .min2 [.int i, .int j]) Q ↔ Q (.int (if j < i then j else i)) := wp_some
theorem vp_max {i j : Int} {Q : D → Prop} : wp (prD S .max2 [.int i, .int j]) Q ↔ Q (.int (if j > i then j else i)) := wp_some
theorem vp_gcd {i j : Int} {Q : D → Prop} : wp (prD S .gcd [.int i, .int j]) Q ↔ Q (.int ((Nat.gcd i.natAbs j.natAbs : Nat) : Int)) := wp_some
theorem vp_dm {i j : Int} {Q : D → Prop} : wp (prD S .divmod [.int i, .int j]) Q ↔ (0 < j ∧ j < 1073741824) ∧ Q (.tup [.int (i / j), .int (i % j)]) := by
  show wp (if _ then _ else _) Q ↔ _
  rw [wp_if, wp_some, wp_none]
  by_cases h : 0 < j ∧ j < 1073741824
  · rw [if_pos h]; exact ⟨fun q => ⟨h, q⟩, fun q => q.2⟩
  · rw [if_neg h]; exact ⟨fun q => q.elim, fun q => h q.1⟩
theorem vp_tupL {xs : List D} {Q : D → Prop} : wp (prD S .tup [.lst xs]) Q ↔ Q (.tup xs) := wp_some
theorem vp_tupT {xs : List D} {Q : D → Prop} : wp (prD S .tup [.tup xs]) Q ↔ Q (.tup xs) := wp_some
theorem vp_tupM {m : Nat} {Q : D → Prop} : wp (prD S .tup [.loc m]) Q ↔ wp (S[m]?) fun xs => Q (.tup xs) := wp_map
theorem vp_lstT {xs : List D} {Q : D → Prop} : wp (prD S .lst [.tup xs]) Q ↔ Q (.lst xs) := wp_some
theorem allBl_map : ∀ bs : List Bool, allBl (bs.map .bl) = some bs
  | [] => rfl
  | b :: bs => by rw [List.map_cons, allBl, allBl_map bs]; rfl
theorem vp_all {bs : List Bool} {Q : D → Prop} : wp (prD S .all [.lst (bs.map .bl)]) Q ↔ Q (.bl (bs.all id)) := by
  show wp ((some (bs.map D.bl)).bind fun xs => (allBl xs).map fun bs => D.bl (bs.all id)) Q ↔ _
  rw [Option.bind_some, allBl_map, wp_map, wp_some]
theorem vp_any {bs : List Bool} {Q : D → Prop} : wp (prD S .any [.lst (bs.map .bl)]) Q ↔ Q (.bl (bs.any id)) := by
  show wp ((some (bs.map D.bl)).bind fun xs => (allBl xs).map fun bs => D.bl (bs.any id)) Q ↔ _
  rw [Option.bind_some, allBl_map, wp_map, wp_some]
theorem vp_repr {a : D} {Q : D → Prop} : wp (prD S .repr [a]) Q ↔ wp (shS S a) fun p => shOk p = true ∧ Q (.str (PyData.shown p)) := by
  show wp ((shS S a).bind fun p => if shOk p then some (D.str (PyData.shown p)) else none) Q ↔ _
  rw [wp_bind]
  have e : (fun p : PyData => wp (if shOk p = true then some (D.str (PyData.shown p)) else none) Q) = fun p => shOk p = true ∧ Q (.str (PyData.shown p)) := by
    funext p
    rw [wp_if, wp_some, wp_none]
    by_cases h : shOk p = true <;> simp only [h, if_true, if_false, true_and, false_and, Bool.false_eq_true]
  rw [e]
theorem vc_eqS {x y : Str} {Q : Bool → Prop} : wp (cmpD S .eq (.str x) (.str y)) Q ↔ Q (decide (x = y)) := by
  have e : cmpD S .eq (.str x) (.str y) = some (decide (x = y)) := by
    show eqD S (.str x) (.str y) = _
    unfold eqD eqD0
    simp only [res, pyD, Option.bind_some]
    by_cases h : (SeqAt.shaped (.str x) && SeqAt.shaped (.str y)) = true
    · rw [if_pos h]
      have hb : (x == y) = decide (x = y) := by by_cases h2 : x = y <;> simp [h2]
      show some (x == y) = _
      rw [hb]
    · rw [if_neg h]
      rfl
  rw [e, wp_some]
theorem vc_neS {x y : Str} {Q : Bool → Prop} : wp (cmpD S .ne (.str x) (.str y)) Q ↔ Q (!decide (x = y)) := by
  have e : cmpD S .ne (.str x) (.str y) = (cmpD S .eq (.str x) (.str y)).map fun k => !k := rfl
  rw [e, wp_map, vc_eqS]
/-! ### walks -/
theorem vw_tup {xs : List D} {Q : Wk → Prop} : wp (seqWk S (.tup xs)) Q ↔ Q ⟨xs, []⟩ := wp_some
theorem vw_lst {xs : List D} {Q : Wk → Prop} : wp (seqWk S (.lst xs)) Q ↔ Q ⟨xs, []⟩ := wp_some
theorem vw_fro {xs : List D} {Q : Wk → Prop} : wp (seqWk S (.fro xs)) Q ↔ Q ⟨xs, []⟩ := wp_some
theorem heldS {n : Nat} {xs : List D} (e : S[n]? = some xs) : heldOf S (.loc n) = [(n, xs)] := by simp only [heldOf, e]
theorem vw_loc {n : Nat} {Q : Wk → Prop} : wp (seqWk S (.loc n)) Q ↔ wp (S[n]?) fun xs => Q ⟨xs, [(n, xs)]⟩ := by
  show wp ((S[n]?).map fun xs => (⟨xs, heldOf S (.loc n)⟩ : Wk)) Q ↔ _
  rw [wp_map]
  cases e : S[n]? with
  | none => rw [wp_none, wp_none]
  | some xs => rw [wp_some, wp_some, heldS e]
theorem vz_tup {xs ys : List D} {Q : Wk → Prop} : wp (zipWk S (.tup xs) (.tup ys)) Q ↔ Q ⟨(xs.zip ys).map fun p => .tup [p.1, p.2], []⟩ := wp_some
theorem vz_lst {xs ys : List D} {Q : Wk → Prop} : wp (zipWk S (.lst xs) (.lst ys)) Q ↔ Q ⟨(xs.zip ys).map fun p => .tup [p.1, p.2], []⟩ := wp_some
theorem vz3_tup {xs ys zs : List D} {Q : Wk → Prop} : wp (zip3Wk S (.tup xs) (.tup ys) (.tup zs)) Q ↔ Q ⟨(xs.zip (ys.zip zs)).map fun p => .tup [p.1, p.2.1, p.2.2], []⟩ := wp_some
theorem vz_loc {n : Nat} {ys : List D} {Q : Wk → Prop} : wp (zipWk S (.loc n) (.lst ys)) Q ↔ wp (S[n]?) fun xs => Q ⟨(xs.zip ys).map fun p => .tup [p.1, p.2], [(n, xs)]⟩ := by
  show wp ((S[n]?).bind fun xs => (some ys).map fun ys => (⟨(xs.zip ys).map fun p => D.tup [p.1, p.2], heldOf S (.loc n) ++ []⟩ : Wk)) Q ↔ _
  rw [wp_bind]
  cases e : S[n]? with
  | none => rw [wp_none, wp_none]
  | some xs => rw [wp_some, wp_some, Option.map_some, wp_some, List.append_nil, heldS e]
theorem vz_tl {xs ys : List D} {Q : Wk → Prop} : wp (zipWk S (.tup xs) (.lst ys)) Q ↔ Q ⟨(xs.zip ys).map fun p => .tup [p.1, p.2], []⟩ := wp_some
theorem vz_lt {xs ys : List D} {Q : Wk → Prop} : wp (zipWk S (.lst xs) (.tup ys)) Q ↔ Q ⟨(xs.zip ys).map fun p => .tup [p.1, p.2], []⟩ := wp_some
theorem ve_tup {xs : List D} {Q : Wk → Prop} : wp (enuWk S (.tup xs)) Q ↔ Q ⟨xs.zipIdx.map fun p => .tup [.int (p.2 : Nat), p.1], []⟩ := wp_some
theorem ve_lst {xs : List D} {Q : Wk → Prop} : wp (enuWk S (.lst xs)) Q ↔ Q ⟨xs.zipIdx.map fun p => .tup [.int (p.2 : Nat), p.1], []⟩ := wp_some
theorem vr_rng {i j : Int} {Q : Wk → Prop} : wp (rngWk i j) Q ↔ ((-1000000 ≤ i ∧ i ≤ 1000000) ∧ (-1000000 ≤ j ∧ j ≤ 1000000)) ∧ Q ⟨(List.range (j - i).toNat).map fun k => .int (i + (k : Nat)), []⟩ := by
  show wp (if _ then _ else _) Q ↔ _
  rw [wp_if, wp_some, wp_none]
  by_cases h : (-1000000 ≤ i ∧ i ≤ 1000000) ∧ (-1000000 ≤ j ∧ j ≤ 1000000)
  · rw [if_pos h]; exact ⟨fun q => ⟨h, q⟩, fun q => q.2⟩
  · rw [if_neg h]; exact ⟨fun q => q.elim, fun q => h q.1⟩
theorem vr_n {n : Nat} {Q : Wk → Prop} : wp (rngWk 0 (n : Int)) Q ↔ n ≤ 1000000 ∧ Q ⟨(List.range n).map fun k => .int (k : Nat), []⟩ := by
  rw [vr_rng]
  have e : ((List.range ((n : Int) - 0).toNat).map fun k => D.int (0 + (k : Nat))) = (List.range n).map fun k => .int (k : Nat) := by
    rw [Int.sub_zero, Int.toNat_natCast]
    simp only [Int.zero_add]
  rw [e]
  exact ⟨fun q => ⟨by omega, q.2⟩, fun q => ⟨by omega, q.2⟩⟩
theorem vr_nn {i n : Nat} {Q : Wk → Prop} : wp (rngWk (i : Int) (n : Int)) Q ↔ (i ≤ 1000000 ∧ n ≤ 1000000) ∧ Q ⟨(List.range (n - i)).map fun k => .int ((i + k : Nat) : Int), []⟩ := by
  rw [vr_rng]
  have e : ((List.range ((n : Int) - (i : Int)).toNat).map fun k => D.int ((i : Int) + (k : Nat))) = (List.range (n - i)).map fun k => .int ((i + k : Nat) : Int) := by
    rw [show ((n : Int) - (i : Int)).toNat = n - i by omega]
    simp only [Int.natCast_add]
  rw [e]
  exact ⟨fun q => ⟨by omega, q.2⟩, fun q => ⟨by omega, q.2⟩⟩
theorem still_nil {xs : List D} : (Wk.mk xs []).still S = true := rfl
theorem still_one {n : Nat} {xs ys : List D} (h : S[n]? = some ys) : (Wk.mk xs [(n, ys)]).still S = true := by
  show ([(n, ys)].all fun p => match S[p.1]? with
    | some xs => D.beqs xs p.2
    | none => false) = true
  simp only [List.all_cons, List.all_nil, Bool.and_true, h]
  exact D.beqs_refl ys
end
theorem isi_non_int  : isiD (D.non) .int = false := rfl
theorem isi_non_bool  : isiD (D.non) .bool = false := rfl
theorem isi_non_tuple  : isiD (D.non) .tuple = false := rfl
theorem isi_non_str  : isiD (D.non) .str = false := rfl
theorem isi_non_list  : isiD (D.non) .list = false := rfl
theorem isi_bl_int {b : Bool} : isiD (D.bl b) .int = true := rfl
theorem isi_bl_bool {b : Bool} : isiD (D.bl b) .bool = true := rfl
theorem isi_bl_tuple {b : Bool} : isiD (D.bl b) .tuple = false := rfl
theorem isi_bl_str {b : Bool} : isiD (D.bl b) .str = false := rfl
theorem isi_bl_list {b : Bool} : isiD (D.bl b) .list = false := rfl
theorem isi_int_int {i : Int} : isiD (D.int i) .int = true := rfl
theorem isi_int_bool {i : Int} : isiD (D.int i) .bool = false := rfl
theorem isi_int_tuple {i : Int} : isiD (D.int i) .tuple = false := rfl
theorem isi_int_str {i : Int} : isiD (D.int i) .str = false := rfl
theorem isi_int_list {i : Int} : isiD (D.int i) .list = false := rfl
theorem isi_str_int {x : Str} : isiD (D.str x) .int = false := rfl
theorem isi_str_bool {x : Str} : isiD (D.str x) .bool = false := rfl
theorem isi_str_tuple {x : Str} : isiD (D.str x) .tuple = false := rfl
theorem isi_str_str {x : Str} : isiD (D.str x) .str = true := rfl
theorem isi_str_list {x : Str} : isiD (D.str x) .list = false := rfl
theorem isi_tup_int {xs : List D} : isiD (D.tup xs) .int = false := rfl
theorem isi_tup_bool {xs : List D} : isiD (D.tup xs) .bool = false := rfl
theorem isi_tup_tuple {xs : List D} : isiD (D.tup xs) .tuple = true := rfl
theorem isi_tup_str {xs : List D} : isiD (D.tup xs) .str = false := rfl
theorem isi_tup_list {xs : List D} : isiD (D.tup xs) .list = false := rfl
theorem isi_lst_int {xs : List D} : isiD (D.lst xs) .int = false := rfl
theorem isi_lst_bool {xs : List D} : isiD (D.lst xs) .bool = false := rfl
theorem isi_lst_tuple {xs : List D} : isiD (D.lst xs) .tuple = false := rfl
theorem isi_lst_str {xs : List D} : isiD (D.lst xs) .str = false := rfl
theorem isi_lst_list {xs : List D} : isiD (D.lst xs) .list = true := rfl
theorem isi_fro_int {xs : List D} : isiD (D.fro xs) .int = false := rfl
theorem isi_fro_bool {xs : List D} : isiD (D.fro xs) .bool = false := rfl
theorem isi_fro_tuple {xs : List D} : isiD (D.fro xs) .tuple = false := rfl
theorem isi_fro_str {xs : List D} : isiD (D.fro xs) .str = false := rfl
theorem isi_fro_list {xs : List D} : isiD (D.fro xs) .list = true := rfl
theorem isi_loc_int {n : Nat} : isiD (D.loc n) .int = false := rfl
theorem isi_loc_bool {n : Nat} : isiD (D.loc n) .bool = false := rfl
theorem isi_loc_tuple {n : Nat} : isiD (D.loc n) .tuple = false := rfl
theorem isi_loc_str {n : Nat} : isiD (D.loc n) .str = false := rfl
theorem isi_loc_list {n : Nat} : isiD (D.loc n) .list = true := rfl
theorem isi_dct_int  : isiD (D.dct) .int = false := rfl
theorem isi_dct_bool  : isiD (D.dct) .bool = false := rfl
theorem isi_dct_tuple  : isiD (D.dct) .tuple = false := rfl
theorem isi_dct_str  : isiD (D.dct) .str = false := rfl
theorem isi_dct_list  : isiD (D.dct) .list = false := rfl
/-! ## loops -/
section
variable {G : Nat → Option D} {c : Cal} {W : Nat}
theorem wf_turn {tg : Tg} {b : Ss} {x : D} {σ : DEnv} {S : Sto} {Q : Out → Prop} : wp (turnF G c W tg b x σ S) Q ↔ wp (tgD tg x σ) fun τ => wp (svs G c W b τ S) Q := by
  unfold turnF
  cases tgD tg x σ with
  | none => simp only [wp_none]
  | some τ => simp only [wp_some]
theorem wf_inv {F : D → DEnv → Sto → Option Out} {w : Sto → Bool} {Q : Out → Prop} : ∀ {items : List D} {σ : DEnv} {S : Sto} (Iv : List D → DEnv → Sto → Prop), Iv items σ S →
    (∀ x r σ S, Iv (x :: r) σ S → wp (F x σ S) fun p => match p.1 with
      | .nx => w p.2.2 = true ∧ Iv r p.2.1 p.2.2
      | .ct => w p.2.2 = true ∧ Iv r p.2.1 p.2.2
      | .bk => Q (.nx, p.2.1, p.2.2)
      | .rt d => Q (.rt d, p.2.1, p.2.2)) → (∀ σ S, Iv [] σ S → Q (.nx, σ, S)) → wp (forLoop F w items σ S) Q
  | [], σ, S, Iv, h0, hs, hd => by rw [forLoop, wp_some]; exact hd σ S h0
  | x :: xs, σ, S, Iv, h0, hs, hd => by
    obtain ⟨⟨f, σ1, S1⟩, e, q⟩ := hs x xs σ S h0
    rw [forLoop, e]
    cases f with
    | nx =>
      dsimp only at q ⊢
      rw [if_pos q.1]
      exact wf_inv Iv q.2 hs hd
    | ct =>
      dsimp only at q ⊢
      rw [if_pos q.1]
      exact wf_inv Iv q.2 hs hd
    | bk => exact ⟨_, rfl, q⟩
    | rt d => exact ⟨_, rfl, q⟩
theorem wc_item {tg : Tg} {own : List (Str × Nat)} {t : Eo} {elt : E} {x : D} {σ : DEnv} {S : Sto} {Q : Option D × Sto → Prop} : wp (cmpF G c tg own t elt σ x S) Q ↔
    wp (tgD tg x (wipeD σ (own.map (·.2)))) fun τ => wp (evt G c t τ S) fun p => if p.1 = true then wp (ev G c elt τ p.2) fun q => Q (some q.1, q.2) else Q (none, p.2) := by
  unfold cmpF
  cases tgD tg x (wipeD σ (own.map (·.2))) with
  | none => simp only [wp_none]
  | some τ =>
    simp only [wp_some]
    cases evt G c t τ S with
    | none => simp only [wp_none]
    | some p =>
      obtain ⟨b, S2⟩ := p
      cases b with
      | true =>
        simp only [wp_some, if_true]
        cases ev G c elt τ S2 with
        | none => simp only [wp_none]
        | some q => simp only [wp_some]
      | false => simp only [wp_some, Bool.false_eq_true, if_false]
theorem wc_map {f : D → Sto → Option (Option D × Sto)} {w : Sto → Bool} {S : Sto} {Q : List D × Sto → Prop} (g : D → D) (hw : w S = true) : ∀ {items : List D}, (∀ x ∈ items, wp (f x S) fun p => p = (some (g x), S)) → Q (items.map g, S) → wp (compLoop f w items S) Q
  | [], _, q => ⟨_, rfl, q⟩
  | x :: xs, h, q => by
    obtain ⟨p, e, rfl⟩ := h x List.mem_cons_self
    obtain ⟨r, e2, q2⟩ := wc_map (Q := fun r => Q (g x :: r.1, r.2)) g hw (items := xs) (fun y hy => h y (List.mem_cons_of_mem _ hy)) q
    refine ⟨(g x :: r.1, r.2), ?_, q2⟩
    rw [compLoop, e]
    dsimp only
    rw [if_pos hw, e2]
theorem wc_mapL {α : Type} {f : D → Sto → Option (Option D × Sto)} {w : Sto → Bool} {S : Sto} {Q : List D × Sto → Prop} (ι g : α → D) (hw : w S = true) : ∀ {l : List α}, (∀ a ∈ l, wp (f (ι a) S) fun p => p = (some (g a), S)) → Q (l.map g, S) → wp (compLoop f w (l.map ι) S) Q
  | [], _, q => ⟨_, rfl, q⟩
  | x :: xs, h, q => by
    obtain ⟨p, e, rfl⟩ := h x List.mem_cons_self
    obtain ⟨r, e2, q2⟩ := wc_mapL (Q := fun r => Q (g x :: r.1, r.2)) ι g hw (l := xs) (fun y hy => h y (List.mem_cons_of_mem _ hy)) q
    refine ⟨(g x :: r.1, r.2), ?_, q2⟩
    rw [List.map_cons, compLoop, e]
    dsimp only
    rw [if_pos hw, e2]
theorem zip_pairs {α β : Type} (f : α → D) (g : β → D) (a : List α) (b : List β) : ((a.map f).zip (b.map g)).map (fun p => D.tup [p.1, p.2]) = (a.zip b).map fun p => D.tup [f p.1, g p.2] := by
  rw [List.zip_map, List.map_map]; rfl
theorem wc_filter {f : D → Sto → Option (Option D × Sto)} {w : Sto → Bool} {S : Sto} {Q : List D × Sto → Prop} (g : D → Option D) (hw : w S = true) : ∀ {items : List D}, (∀ x ∈ items, wp (f x S) fun p => p = (g x, S)) → Q (items.filterMap g, S) → wp (compLoop f w items S) Q
  | [], _, q => ⟨_, rfl, q⟩
  | x :: xs, h, q => by
    obtain ⟨p, e, rfl⟩ := h x List.mem_cons_self
    cases hg : g x with
    | none =>
      rw [List.filterMap_cons_none hg] at q
      obtain ⟨r, e2, q2⟩ := wc_filter (Q := Q) g hw (items := xs) (fun y hy => h y (List.mem_cons_of_mem _ hy)) q
      refine ⟨r, ?_, q2⟩
      rw [compLoop, e, hg]
      dsimp only
      rw [if_pos hw, e2]
    | some y =>
      rw [List.filterMap_cons_some hg] at q
      obtain ⟨r, e2, q2⟩ := wc_filter (Q := fun r => Q (y :: r.1, r.2)) g hw (items := xs) (fun y hy => h y (List.mem_cons_of_mem _ hy)) q
      refine ⟨(y :: r.1, r.2), ?_, q2⟩
      rw [compLoop, e, hg]
      dsimp only
      rw [if_pos hw, e2]
/-! ### two for -/
theorem w2_out {G : Nat → Option D} {c : Cal} {tg tg1 : Tg} {it1 : Rf.It} {own : List (Str × Nat)} {vs1 : List Nat} {t : Eo} {elt : E} {n : Nat} {σ : DEnv} {x : D} {S : Sto} {Q : Sto → Prop} : wp (out2F G c tg it1 tg1 own vs1 t elt n σ x S) Q ↔ wp (tgD tg x (wipeD σ (own.map (·.2)))) fun σ1 => wp (evIt G c it1 σ1 S) fun w => w.1.items.length ≤ many ∧ wp (loopS (in2F G c tg1 vs1 t elt n σ1) w.1.still w.1.items w.2) Q := by
  unfold out2F
  cases tgD tg x (wipeD σ (own.map (·.2))) with
  | none => simp only [wp_none]
  | some σ1 =>
    simp only [wp_some]
    cases evIt G c it1 σ1 S with
    | none => simp only [wp_none]
    | some p =>
      obtain ⟨w1, S2⟩ := p
      simp only [wp_some]
      by_cases hl : w1.items.length ≤ many
      · simp only [hl, if_true, true_and]
      · simp only [hl, if_false, wp_none, false_and]
theorem w2_in {G : Nat → Option D} {c : Cal} {tg1 : Tg} {vs1 : List Nat} {t : Eo} {elt : E} {n : Nat} {σ1 : DEnv} {y : D} {S : Sto} {Q : Sto → Prop} : wp (in2F G c tg1 vs1 t elt n σ1 y S) Q ↔ wp (tgD tg1 y (wipeD σ1 vs1)) fun σ2 => wp (evt G c t σ2 S) fun b => if b.1 = true then wp (ev G c elt σ2 b.2) fun d => wp (appD d.2 (.loc n) d.1) Q else Q b.2 := by
  unfold in2F
  cases tgD tg1 y (wipeD σ1 vs1) with
  | none => simp only [wp_none]
  | some σ2 =>
    simp only [wp_some]
    cases evt G c t σ2 S with
    | none => simp only [wp_none]
    | some p =>
      obtain ⟨b, S3⟩ := p
      cases b with
      | true =>
        simp only [wp_some, if_true]
        cases ev G c elt σ2 S3 with
        | none => simp only [wp_none]
        | some q => simp only [wp_some]
      | false => simp only [wp_some, Bool.false_eq_true, if_false]
/-- each item adds its own to the last list -/
theorem w2_flat {f : D → Sto → Option Sto} {w : Sto → Bool} {S : Sto} {Q : Sto → Prop} {α : Type} (ι : α → D) (g : α → List D) (hw : ∀ xs, w (S ++ [xs]) = true) : ∀ {l : List α} {acc : List D}, (∀ a ∈ l, ∀ xs : List D, xs.length + (g a).length ≤ many → wp (f (ι a) (S ++ [xs])) fun S1 => S1 = S ++ [xs ++ g a]) →
    acc.length + (l.flatMap g).length ≤ many → Q (S ++ [acc ++ l.flatMap g]) → wp (loopS f w (l.map ι) (S ++ [acc])) Q
  | [], acc, _, _, q => by
    rw [List.map_nil, loopS, wp_some]
    simpa using q
  | a :: l, acc, h, hl, q => by
    rw [List.flatMap_cons, List.length_append] at hl
    obtain ⟨S1, e, rfl⟩ := h a List.mem_cons_self acc (by omega)
    rw [List.map_cons, loopS, e]
    dsimp only
    rw [if_pos (hw _)]
    refine w2_flat ι g hw (fun b hb => h b (List.mem_cons_of_mem _ hb)) (by rw [List.length_append]; omega) ?_
    rw [List.flatMap_cons] at q
    rwa [List.append_assoc]
theorem va_new {S : Sto} {xs : List D} {d : D} {Q : Sto → Prop} (h : xs.length < many) (q : Q (S ++ [xs ++ [d]])) : wp (appD (S ++ [xs]) (.loc S.length) d) Q := by
  refine ⟨_, ?_, q⟩
  unfold appD
  have e : (S ++ [xs])[S.length]? = some xs := by rw [List.getElem?_append_right (Nat.le_refl _), Nat.sub_self]; rfl
  dsimp only
  rw [e]
  simp only [Option.bind_some, h, if_true]
  refine congrArg some ?_
  rw [List.set_append, if_neg (Nat.lt_irrefl _), Nat.sub_self]
  rfl
theorem vv_tup {S : Sto} {xs : List D} {Q : D → Prop} : wp (rvD S (.tup xs)) Q ↔ Q (.tup xs.reverse) := wp_some
theorem vv_lst {S : Sto} {xs : List D} {Q : D → Prop} : wp (rvD S (.lst xs)) Q ↔ Q (.lst xs.reverse) := wp_some
/-- .. where the store may change -/
theorem wc_inv {f : D → Sto → Option (Option D × Sto)} {w : Sto → Bool} {Q : List D × Sto → Prop} : ∀ {items : List D} {S : Sto} (acc : List D) (Iv : List D → List D → Sto → Prop), Iv items acc S →
    (∀ x r acc S, Iv (x :: r) acc S → wp (f x S) fun p => w p.2 = true ∧ Iv r (match p.1 with | some y => acc ++ [y] | none => acc) p.2) → (∀ ys S, Iv [] (acc ++ ys) S → Q (ys, S)) → wp (compLoop f w items S) Q
  | [], S, acc, Iv, h0, hs, hd => by rw [compLoop, wp_some]; exact hd [] S (by rw [List.append_nil]; exact h0)
  | x :: xs, S, acc, Iv, h0, hs, hd => by
    obtain ⟨⟨o, S1⟩, e, hw, q⟩ := hs x xs acc S h0
    rw [compLoop, e]
    dsimp only at hw ⊢
    rw [if_pos hw]
    cases o with
    | none =>
      obtain ⟨r, e2, q2⟩ := wc_inv (Q := Q) acc Iv q hs hd
      rw [e2]
      exact ⟨_, rfl, q2⟩
    | some y =>
      obtain ⟨r, e2, q2⟩ := wc_inv (Q := fun r => Q (y :: r.1, r.2)) (acc ++ [y]) Iv q hs fun ys S h => hd (y :: ys) S (by rw [List.append_assoc] at h; exact h)
      rw [e2]
      exact ⟨_, rfl, q2⟩
/-- a while, by a measure -/
theorem ww_inv {t : DEnv → Sto → Option (D × Sto)} {F : DEnv → Sto → Option Out} {Q : Out → Prop} (Iv : Nat → DEnv → Sto → Prop)
    (hs : ∀ m σ S, Iv m σ S → wp (t σ S) fun x => ∃ b, x.1 = .bl b ∧ if b = true then wp (F σ x.2) fun p => match p.1 with
      | .nx => ∃ m', m' < m ∧ Iv m' p.2.1 p.2.2
      | .ct => ∃ m', m' < m ∧ Iv m' p.2.1 p.2.2
      | .bk => Q (.nx, p.2.1, p.2.2)
      | .rt d => Q (.rt d, p.2.1, p.2.2) else Q (.nx, σ, x.2)) : ∀ {n m : Nat} {σ : DEnv} {S : Sto}, m < n → Iv m σ S → wp (whileLoop t F n σ S) Q
  | 0, m, σ, S, h, _ => by omega
  | n + 1, m, σ, S, h, i => by
    obtain ⟨⟨d, S1⟩, e, b, hb, q⟩ := hs m σ S i
    dsimp only at hb q
    subst hb
    rw [whileLoop, e]
    cases b with
    | false =>
      rw [if_neg Bool.false_ne_true] at q
      exact ⟨_, rfl, q⟩
    | true =>
      rw [if_pos rfl] at q
      obtain ⟨⟨f, σ1, S2⟩, e2, q2⟩ := q
      dsimp only
      rw [e2]
      cases f with
      | nx =>
        obtain ⟨m', hm, i'⟩ := q2
        exact ww_inv Iv hs (by omega) i'
      | ct =>
        obtain ⟨m', hm, i'⟩ := q2
        exact ww_inv Iv hs (by omega) i'
      | bk => exact ⟨_, rfl, q2⟩
      | rt d => exact ⟨_, rfl, q2⟩
end
/-! ## targets -/
theorem wt_name {i : Nat} {d : D} {σ : DEnv} {Q : DEnv → Prop} : wp (tgD (.name i) d σ) Q ↔ Q (σ.set i (some d)) := wp_some
theorem wt_nest {i : Nat} {is : List Nat} {x : D} {xs : List D} {σ : DEnv} {Q : DEnv → Prop} : wp (tgD (.nest i is) (.tup [x, .tup xs]) σ) Q ↔ wp (setAll (σ.set i (some x)) is xs) Q := Iff.rfl
theorem wt_tup {is : List Nat} {xs : List D} {σ : DEnv} {Q : DEnv → Prop} : wp (tgD (.tup is) (.tup xs) σ) Q ↔ wp (setAll σ is xs) Q := Iff.rfl
theorem wa_nil {σ : DEnv} {Q : DEnv → Prop} : wp (setAll σ [] []) Q ↔ Q σ := wp_some
theorem wa_cons {i : Nat} {is : List Nat} {d : D} {ds : List D} {σ : DEnv} {Q : DEnv → Prop} : wp (setAll σ (i :: is) (d :: ds)) Q ↔ wp (setAll (σ.set i (some d)) is ds) Q := Iff.rfl
theorem wq_bl {b : Bool} {Q : Bool → Prop} : wp (blD (.bl b)) Q ↔ Q b := wp_some
theorem wq_int {b : Int} {Q : Int → Prop} : wp (intD (.int b)) Q ↔ Q b := wp_some
theorem wq_lst {b : List D} {Q : List D → Prop} : wp (lstD (.lst b)) Q ↔ Q b := wp_some
theorem wq_tup {b : List D} {Q : List D → Prop} : wp (tupD (.tup b)) Q ↔ Q b := wp_some
theorem wq_loc {b : Nat} {Q : Nat → Prop} : wp (locD (.loc b)) Q ↔ Q b := wp_some
theorem thn_nx {Q : Out → Prop} {k : DEnv → Sto → Prop} {σ : DEnv} {S : Sto} : thn Q k (.nx, σ, S) = k σ S := rfl
theorem thn_rt {Q : Out → Prop} {k : DEnv → Sto → Prop} {d : D} {σ : DEnv} {S : Sto} : thn Q k (.rt d, σ, S) = Q (.rt d, σ, S) := rfl
theorem getD_0 {o : Option D} {σ : DEnv} : getD' (o :: σ) 0 = o := by cases o <;> rfl
theorem getD_s {o : Option D} {σ : DEnv} {i : Nat} : getD' (o :: σ) (i + 1) = getD' σ i := rfl

/-! ## a def's end -/
def outF (keep : Bool) (b : Nat) : Option Out → Option (D × Sto)
  | some (.rt d, _, S1) => fin keep b d S1
  | some (.nx, _, S1) => fin keep b .non S1
  | _ => none
theorem fin_same {b : Nat} {d : D} {S : Sto} (keep : Bool) (h : S.length = b) : fin keep b d S = some (d, S) := by
  unfold fin
  rw [if_pos (by simp [h])]
theorem fin_keep {b : Nat} {d : D} {S : Sto} : fin true b d S = some (d, S) := by
  unfold fin
  rw [if_pos (by simp)]
/-- what a def hands out -/
def endQ (keep : Bool) (b : Nat) (Q : D × Sto → Prop) (p : Out) : Prop := match p.1 with
  | .rt d => wp (fin keep b d p.2.2) Q
  | .nx => wp (fin keep b .non p.2.2) Q
  | _ => False
theorem wp_out {keep : Bool} {b : Nat} {o : Option Out} {Q : D × Sto → Prop} : wp (outF keep b o) Q ↔ wp o (endQ keep b Q) := by
  cases o with
  | none => rw [wp_none]; exact wp_none
  | some p =>
    obtain ⟨f, σ, S⟩ := p
    rw [wp_some]
    cases f <;> first | exact Iff.rfl | exact wp_none
theorem runF_wp {G : Nat → Option D} {T : Nat → Option Fn} {W k f : Nat} {fn : Fn} {ds : List D} {S : Sto} {Q : D × Sto → Prop} (hf : T f = some fn) (hl : ds.length = fn.np) :
    wp (runF G T W (k + 1) f ds S) Q ↔ wp (svs G (runF G T W k) W fn.body (beg fn ds) S) (endQ fn.keep S.length Q) := by
  rw [← wp_out]
  have e : runF G T W (k + 1) f ds S = outF fn.keep S.length (svs G (runF G T W k) W fn.body (beg fn ds) S) := by
    rw [runF, hf]
    dsimp only
    rw [if_pos hl]
    unfold outF
    rfl
  rw [e]
/-- pure values -/
def pdp : Nat → D → Bool
  | 0, _ => false
  | k + 1, .tup xs => xs.all (pdp k)
  | k + 1, .lst xs => xs.all (pdp k)
  | k + 1, .fro xs => xs.all (pdp k)
  | _ + 1, .loc _ => false
  | _ + 1, _ => true
theorem frz_pdp {S : Sto} {b : Nat} : ∀ {k : Nat} {d : D}, pdp k d = true → frz S b k d = some d
  | 0, d, h => by cases h
  | k + 1, d, h => by
    have many : ∀ xs : List D, xs.all (pdp k) = true → mapO (frz S b k) xs = some xs := by
      intro xs
      induction xs with
      | nil => intro _; rfl
      | cons x xs ih =>
        intro h
        rw [List.all_cons, Bool.and_eq_true] at h
        rw [mapO, frz_pdp h.1]
        dsimp only
        rw [ih h.2]
    cases d with
    | tup xs => rw [frz, many xs h]; rfl
    | lst xs => rw [frz, many xs h]; rfl
    | fro xs => rw [frz, many xs h]; rfl
    | loc n => cases h
    | _ => rfl
theorem mapO_id {α : Type} {f : α → Option α} : ∀ {xs : List α}, (∀ x ∈ xs, f x = some x) → mapO f xs = some xs
  | [], _ => rfl
  | x :: xs, h => by
    rw [mapO, h x List.mem_cons_self]
    dsimp only
    rw [mapO_id fun y hy => h y (List.mem_cons_of_mem _ hy)]
def Pur (S : Sto) : Prop := ∀ xs ∈ S, ∀ x ∈ xs, pdp 20 x = true
theorem fin_pur {b : Nat} {d : D} {S0 S1 : Sto} (hb : S0.length = b) (hp : Pur S0) (hd : pdp 20 d = true) (h : S1.take b = S0) : fin false b d S1 = some (d, S0) := by
  unfold fin
  rw [Bool.false_or]
  by_cases he : S1.length = b
  · rw [if_pos (decide_eq_true he)]
    rw [← h, ← he, List.take_length]
  · rw [if_neg (by simp [he]), frz_pdp hd]
    dsimp only
    rw [h, mapO_id fun xs hx => mapO_id fun x hxx => frz_pdp (hp xs hx x hxx)]
theorem get_last {α : Type} {S : List α} {x : α} : (S ++ [x])[S.length]? = some x := by simp
theorem set_last {α : Type} {S : List α} {x y : α} : (S ++ [x]).set S.length y = S ++ [y] := by
  rw [List.set_append_right _ _ (Nat.le_refl _)]
  simp
theorem vc_nilnil {S : Sto} {Q : Bool → Prop} : wp (cmpD S .ne (.lst []) (.lst [])) Q ↔ Q false := by
  have e : cmpD S .ne (.lst []) (.lst []) = some false := rfl
  rw [e, wp_some]
theorem fin_own {d : D} {S : Sto} {x : List D} {Q : D × Sto → Prop} (hp : Pur S) (hd : pdp 20 d = true) : wp (fin false S.length d (S ++ [x])) Q ↔ Q (d, S) := by
  rw [fin_pur rfl hp hd (by simp), wp_some]
theorem pdp_mono : ∀ {k : Nat} {d : D}, pdp k d = true → pdp (k + 1) d = true
  | 0, d, h => by cases h
  | k + 1, d, h => by
    have many : ∀ xs : List D, xs.all (pdp k) = true → xs.all (pdp (k + 1)) = true := fun xs h => by
      rw [List.all_eq_true] at h ⊢
      exact fun x hx => pdp_mono (h x hx)
    cases d with
    | tup xs => exact many xs h
    | lst xs => exact many xs h
    | fro xs => exact many xs h
    | loc n => cases h
    | _ => rfl
theorem pdp_le {k j : Nat} {d : D} (h : pdp k d = true) (hk : k ≤ j) : pdp j d = true := by
  obtain ⟨m, rfl⟩ := Nat.exists_eq_add_of_le hk
  clear hk
  induction m with
  | zero => exact h
  | succ m ih => exact pdp_mono ih
theorem Pur.app {S : Sto} {xs : List D} (h : Pur S) (hx : ∀ x ∈ xs, pdp 20 x = true) : Pur (S ++ [xs]) := fun ys hy x hxx => by
  rcases List.mem_append.mp hy with hy | hy
  · exact h ys hy x hxx
  · rw [List.mem_singleton.mp hy] at hxx; exact hx x hxx
theorem Pur.set {S : Sto} {n : Nat} {xs : List D} (h : Pur S) (hx : ∀ x ∈ xs, pdp 20 x = true) : Pur (S.set n xs) := fun ys hy x hxx => by
  rcases List.mem_or_eq_of_mem_set hy with hy | hy
  · exact h ys hy x hxx
  · rw [hy] at hxx; exact hx x hxx
/-! ## caught calls, exceptions -/
section
variable {G : Nat → Option D} {c : Cal} {σ : DEnv} {S : Sto}
def toldR (t : Bool) (x : Str) (a b : Option (D × Sto)) : Option (D × Sto) := match a with
  | some q => some (toldD t q.1, q.2)
  | none => (match b with
    | some (.str y, S2) => if y = x then some (untoldD t, S2) else none
    | _ => none)
theorem toldR_ok {t : Bool} {x : Str} {d : D} {S : Sto} {b : Option (D × Sto)} : toldR t x (some (d, S)) b = some (toldD t d, S) := rfl
theorem toldR_no {t : Bool} {x : Str} {S : Sto} : toldR t x none (some (.str x, S)) = some (untoldD t, S) := if_pos rfl
theorem we_toldC {t : Bool} {x : Str} {f : Nat} {es : Es} {Q : D × Sto → Prop} : wp (ev G c (.told t x (.call f es)) σ S) Q ↔ wp (evs G c es σ S) fun p => wp (toldR t x (c f p.1 p.2) (c (f + rzN) p.1 p.2)) Q := by
  rw [ev, ev, evX]
  cases h : evs G c es σ S with
  | none => simp only [wp_none]
  | some p =>
    obtain ⟨ds, S1⟩ := p
    rw [wp_some]
    dsimp only
    cases h2 : c f ds S1 with
    | some q => rfl
    | none =>
      dsimp only
      cases h3 : c (f + rzN) ds S1 with
      | none => rfl
      | some q =>
        obtain ⟨d, S2⟩ := q
        cases d <;> rfl
theorem we_toldK {t : Bool} {x : Str} {f : Nat} {ks : List Str} {perm : List Nat} {es zs : Es} {Q : D × Sto → Prop} : wp (ev G c (.told t x (.callK f ks perm es zs)) σ S) Q ↔ wp (evs G c es σ S) fun p => wp (evs G c zs σ p.2) fun u => wp (toldR t x (c f (p.1 ++ pick perm u.1) u.2) (c (f + rzN) (p.1 ++ pick perm u.1) u.2)) Q := by
  rw [ev, ev, evX]
  cases h : evs G c es σ S with
  | none => simp only [wp_none]
  | some p =>
    obtain ⟨ds, S1⟩ := p
    rw [wp_some]
    dsimp only
    cases h1 : evs G c zs σ S1 with
    | none => simp only [wp_none]
    | some p =>
    obtain ⟨us, S0⟩ := p
    rw [wp_some]
    dsimp only
    cases h2 : c f (ds ++ pick perm us) S0 with
    | some q => rfl
    | none =>
      dsimp only
      cases h3 : c (f + rzN) (ds ++ pick perm us) S0 with
      | none => rfl
      | some q =>
        obtain ⟨d, S2⟩ := q
        cases d <;> rfl
theorem wx_rais {W : Nat} {x : Str} {Q : Out → Prop} : wp (sv G c W (.rais x) σ S) Q ↔ False := by rw [sv]; exact wp_none
end
theorem runX_wp {G : Nat → Option D} {T : Nat → Option Fn} {W k f : Nat} {fn : Fn} {ds : List D} {S : Sto} {Q : D × Sto → Prop} (hf : T f = some fn) (hn : T (f + rzN) = none) (hl : ds.length = fn.np) :
    wp (runF G T W (k + 1) (f + rzN) ds S) Q ↔ wp (svsX G (runF G T W k) W fn.body (beg fn ds) S) fun p => wp (fin fn.keep S.length (.str p.1) p.2) Q := by
  rw [runF, hn]
  dsimp only
  rw [if_pos (Nat.le_add_left _ _), Nat.add_sub_cancel, hf]
  dsimp only
  rw [if_pos hl]
  cases svsX G (runF G T W k) W fn.body (beg fn ds) S with
  | none => simp only [wp_none]
  | some p => obtain ⟨y, S1⟩ := p; rw [wp_some]
theorem none_of {α : Type} {o : Option α} (h : wp o (fun _ => True) ↔ False) : o = none := by
  cases o with
  | none => rfl
  | some x => exact (h.mp ⟨x, rfl, trivial⟩).elim
end Rf
end

section
set_option maxRecDepth 100000
set_option maxHeartbeats 4000000
set_option autoImplicit false
namespace Rf
open PySem PySem.Spec PyProof.Rows L2
/-! ## equality of values of ints, None, tuples, lists -/
def nt : Nat → D → Bool
  | 0, _ => false
  | k + 1, .tup xs => xs.all (nt k)
  | k + 1, .lst xs => xs.all (nt k)
  | _ + 1, .int _ => true
  | _ + 1, .non => true
  | _ + 1, _ => false
theorem nt_py : ∀ {k : Nat} {d : D}, nt k d = true → ∃ p, pyD d = some p ∧ p.canLay0 = true ∧ p.depth ≤ k
  | 0, d, h => by cases h
  | k + 1, d, h => by
    have many : ∀ xs : List D, xs.all (nt k) = true → ∃ ps, pyDs xs = some ps ∧ PyData.canLayAll0 ps = true ∧ PyData.depthAll ps ≤ k := by
      intro xs
      induction xs with
      | nil => intro _; exact ⟨[], rfl, rfl, Nat.zero_le _⟩
      | cons x xs ih =>
        intro h
        rw [List.all_cons, Bool.and_eq_true] at h
        obtain ⟨p, e1, e2, e3⟩ := nt_py h.1
        obtain ⟨ps, f1, f2, f3⟩ := ih h.2
        refine ⟨p :: ps, by simp only [pyDs, e1, f1, Option.bind_some, Option.map_some], by simp only [PyData.canLayAll0, e2, f2, Bool.and_self], ?_⟩
        simp only [PyData.depthAll]
        omega
    cases d with
    | tup xs =>
      obtain ⟨ps, f1, f2, f3⟩ := many xs h
      exact ⟨.tuple ps, by simp only [pyD, f1, Option.map_some], by simp only [PyData.canLay0]; exact f2, by simp only [PyData.depth]; omega⟩
    | lst xs =>
      obtain ⟨ps, f1, f2, f3⟩ := many xs h
      exact ⟨.list ps, by simp only [pyD, f1, Option.map_some], by simp only [PyData.canLay0]; exact f2, by simp only [PyData.depth]; omega⟩
    | int i => exact ⟨.int i, rfl, rfl, by simp [PyData.depth]⟩
    | non => exact ⟨.none, rfl, rfl, by simp [PyData.depth]⟩
    | _ => cases h
theorem eqv_nt : ∀ {k : Nat} {a b : D} {p q : PyData}, nt k a = true → nt k b = true → pyD a = some p → pyD b = some q → PyData.eqv p q = D.beq a b
  | 0, a, b, p, q, h, _, _, _ => by cases h
  | k + 1, a, b, p, q, ha, hb, ep, eq => by
    have many : ∀ (xs ys : List D) (ps qs : List PyData), xs.all (nt k) = true → ys.all (nt k) = true → pyDs xs = some ps → pyDs ys = some qs → PyData.eqvAll ps qs = D.beqs xs ys := by
      intro xs
      induction xs with
      | nil =>
        intro ys ps qs _ hy e1 e2
        cases e1
        cases ys with
        | nil => cases e2; rfl
        | cons y ys =>
          simp only [pyDs] at e2
          obtain ⟨q, f1, f2⟩ := Option.bind_eq_some_iff.mp e2
          obtain ⟨qs', f3, f4⟩ := Option.map_eq_some_iff.mp f2
          subst f4
          rfl
      | cons x xs ih =>
        intro ys ps qs hx hy e1 e2
        rw [List.all_cons, Bool.and_eq_true] at hx
        simp only [pyDs] at e1
        obtain ⟨p, g1, g2⟩ := Option.bind_eq_some_iff.mp e1
        obtain ⟨ps', g3, g4⟩ := Option.map_eq_some_iff.mp g2
        subst g4
        cases ys with
        | nil => cases e2; rfl
        | cons y ys =>
          rw [List.all_cons, Bool.and_eq_true] at hy
          simp only [pyDs] at e2
          obtain ⟨q, f1, f2⟩ := Option.bind_eq_some_iff.mp e2
          obtain ⟨qs', f3, f4⟩ := Option.map_eq_some_iff.mp f2
          subst f4
          simp only [PyData.eqvAll, D.beqs, eqv_nt hx.1 hy.1 g1 f1, ih ys ps' qs' hx.2 hy.2 g3 f3]
    cases a with
    | tup xs =>
      simp only [pyD] at ep
      obtain ⟨ps, e1, rfl⟩ := Option.map_eq_some_iff.mp ep
      cases b with
      | tup ys =>
        simp only [pyD] at eq
        obtain ⟨qs, e2, rfl⟩ := Option.map_eq_some_iff.mp eq
        simp only [PyData.eqv, D.beq, many xs ys ps qs ha hb e1 e2]
      | lst ys =>
        simp only [pyD] at eq
        obtain ⟨qs, e2, rfl⟩ := Option.map_eq_some_iff.mp eq
        rfl
      | int i => cases eq; rfl
      | non => cases eq; rfl
      | _ => cases hb
    | lst xs =>
      simp only [pyD] at ep
      obtain ⟨ps, e1, rfl⟩ := Option.map_eq_some_iff.mp ep
      cases b with
      | lst ys =>
        simp only [pyD] at eq
        obtain ⟨qs, e2, rfl⟩ := Option.map_eq_some_iff.mp eq
        simp only [PyData.eqv, D.beq, many xs ys ps qs ha hb e1 e2]
      | tup ys =>
        simp only [pyD] at eq
        obtain ⟨qs, e2, rfl⟩ := Option.map_eq_some_iff.mp eq
        rfl
      | int i => cases eq; rfl
      | non => cases eq; rfl
      | _ => cases hb
    | int i =>
      cases ep
      cases b with
      | lst ys =>
        simp only [pyD] at eq
        obtain ⟨qs, e2, rfl⟩ := Option.map_eq_some_iff.mp eq
        rfl
      | tup ys =>
        simp only [pyD] at eq
        obtain ⟨qs, e2, rfl⟩ := Option.map_eq_some_iff.mp eq
        rfl
      | int j => cases eq; rfl
      | non => cases eq; rfl
      | _ => cases hb
    | non =>
      cases ep
      cases b with
      | lst ys =>
        simp only [pyD] at eq
        obtain ⟨qs, e2, rfl⟩ := Option.map_eq_some_iff.mp eq
        rfl
      | tup ys =>
        simp only [pyD] at eq
        obtain ⟨qs, e2, rfl⟩ := Option.map_eq_some_iff.mp eq
        rfl
      | int j => cases eq; rfl
      | non => cases eq; rfl
      | _ => cases hb
    | _ => cases ha
theorem nt_res {k : Nat} {S : Sto} {d : D} (h : nt k d = true) : res S d = some d := by
  cases k with
  | zero => cases h
  | succ k => cases d <;> first | rfl | cases h
theorem eq_nt {S : Sto} {a b : D} (ha : nt 60 a = true) (hb : nt 60 b = true) : eqD S a b = some (D.beq a b) := by
  obtain ⟨p, e1, e2, e3⟩ := nt_py ha
  obtain ⟨q, f1, f2, f3⟩ := nt_py hb
  have s1 : SeqAt.shaped p = true := by unfold SeqAt.shaped; rw [e2, decide_eq_true (by omega)]; rfl
  have s2 : SeqAt.shaped q = true := by unfold SeqAt.shaped; rw [f2, decide_eq_true (by omega)]; rfl
  unfold eqD eqD0
  simp only [nt_res ha, nt_res hb, Option.bind_some, e1, f1, s1, s2, Bool.and_self, if_true, eqv_nt ha hb e1 f1]
theorem vc_eqN {S : Sto} {a b : D} {Q : Bool → Prop} (ha : nt 60 a = true) (hb : nt 60 b = true) : wp (cmpD S .eq a b) Q ↔ Q (D.beq a b) := by
  show wp (eqD S a b) Q ↔ _
  rw [eq_nt ha hb, wp_some]
theorem vc_neN {S : Sto} {a b : D} {Q : Bool → Prop} (ha : nt 60 a = true) (hb : nt 60 b = true) : wp (cmpD S .ne a b) Q ↔ Q (!D.beq a b) := by
  show wp ((eqD S a b).map fun k => !k) Q ↔ _
  rw [wp_map, eq_nt ha hb, wp_some]
theorem nt_ints {k : Nat} (is : List Int) : nt (k + 2) (.lst (is.map .int)) = true := by
  show (is.map D.int).all (nt (k + 1)) = true
  rw [List.all_eq_true]
  intro x hx
  obtain ⟨i, _, rfl⟩ := List.mem_map.mp hx
  rfl
/-- a list of ints is empty, or not -/
theorem vc_ints {S : Sto} {is : List Int} {Q : Bool → Prop} : wp (cmpD S .ne (.lst (is.map .int)) (.lst [])) Q ↔ Q (!is.isEmpty) := by
  rw [vc_neN (nt_ints (k := 58) is) rfl]
  cases is <;> exact Iff.rfl
theorem wc_filterL {α : Type} {f : D → Sto → Option (Option D × Sto)} {w : Sto → Bool} {S : Sto} {Q : List D × Sto → Prop} (ι g : α → D) (p : α → Bool) (hw : w S = true) : ∀ {l : List α}, (∀ a ∈ l, wp (f (ι a) S) fun r => r = (if p a then some (g a) else none, S)) → Q ((l.filter p).map g, S) → wp (compLoop f w (l.map ι) S) Q
  | [], _, q => ⟨_, rfl, q⟩
  | x :: xs, h, q => by
    obtain ⟨r, e, rfl⟩ := h x List.mem_cons_self
    cases hp : p x with
    | false =>
      rw [List.filter_cons_of_neg (by rw [hp]; exact Bool.false_ne_true)] at q
      obtain ⟨r, e2, q2⟩ := wc_filterL (Q := Q) ι g p hw (l := xs) (fun y hy => h y (List.mem_cons_of_mem _ hy)) q
      refine ⟨r, ?_, q2⟩
      rw [List.map_cons, compLoop, e, hp]
      simp only [Bool.false_eq_true, if_false]
      rw [if_pos hw, e2]
    | true =>
      rw [List.filter_cons_of_pos hp] at q
      obtain ⟨r, e2, q2⟩ := wc_filterL (Q := fun r => Q (g x :: r.1, r.2)) ι g p hw (l := xs) (fun y hy => h y (List.mem_cons_of_mem _ hy)) q
      refine ⟨(g x :: r.1, r.2), ?_, q2⟩
      rw [List.map_cons, compLoop, e, hp]
      simp only [if_true]
      rw [if_pos hw, e2]
end Rf
end

set_option maxRecDepth 100000
local macro_rules | `(tactic| simp_arith only [$as,*]) => `(tactic| simp only [$as,*, Rf.wp_some, Rf.wp_bind, Rf.wp_map, Rf.we_var, Rf.we_int, Rf.we_bl, Rf.we_non, Rf.we_str, Rf.we_glob, Rf.we_tup, Rf.we_lst, Rf.we_tupA, Rf.we_tupB, Rf.we_bin, Rf.we_neg, Rf.we_not, Rf.we_cmp, Rf.we_chain, Rf.we_and, Rf.we_or, Rf.we_orT, Rf.we_ite, Rf.we_call, Rf.we_callK, Rf.we_toldC, Rf.we_toldK, Rf.we_prim, Rf.we_isi, Rf.we_idx, Rf.we_sl, Rf.we_comp, Rf.we_comp2, Rf.we_rvs, Rf.we_dct, Rf.w2_out, Rf.w2_in, Rf.vv_tup, Rf.vv_lst, Rf.we_alloc, Rf.we_pop, Rf.we_rngv, Rf.wr_one, Rf.wr_two, Rf.wi_rrng, Rf.ws_nil, Rf.ws_cons, Rf.wo_no, Rf.wo_so, Rf.wt_no, Rf.wt_so, Rf.wi_seq, Rf.wi_rng1, Rf.wi_rng2, Rf.wi_rng3, Rf.wi_enu, Rf.wi_rev, Rf.wi_zip, Rf.wi_zip3, Rf.wb_nil, Rf.wb_cons, Rf.wx_set, Rf.wx_par, Rf.wx_unp, Rf.wl_nil, Rf.wl_name, Rf.wl_sub, Rf.wl_tgt, Rf.wx_setx, Rf.wx_app, Rf.wx_exp, Rf.wx_ret, Rf.wx_retn, Rf.wx_ite, Rf.wx_for, Rf.wx_while, Rf.wx_pass, Rf.wx_brk, Rf.wx_cont, Rf.wx_rais, Rf.vo_add, Rf.vo_sub, Rf.vo_mul, Rf.vo_fdiv, Rf.vo_mod, Rf.vo_pow, Rf.vo_cat, Rf.vo_catL, Rf.vo_catM, Rf.vo_rep, Rf.vc_lt, Rf.vc_le, Rf.vc_gt, Rf.vc_ge, Rf.vc_eqI, Rf.vc_neI, Rf.vc_nilnil, Rf.get_last, Rf.set_last, Rf.vi_0, Rf.vi_nat, Rf.vi_loc, Rf.vi_lst, Rf.vs_set, Rf.vi_t1, Rf.vi_t2, Rf.vi_t3, Rf.vi_t4, Rf.vi_t5, Rf.vi_t6, Rf.vi_t7, Rf.vi_t8, Rf.vi_t9, Rf.vi_t10, Rf.vi_t11, Rf.vi_t12, Rf.vi_m0, Rf.vi_l0, Rf.vs_s0, Rf.vi_m1, Rf.vi_l1, Rf.vs_s1, Rf.vi_m2, Rf.vi_l2, Rf.vs_s2, Rf.vi_m3, Rf.vi_l3, Rf.vs_s3, Rf.vs_app, Rf.vp_lenT, Rf.vp_lenL, Rf.vp_lenF, Rf.vp_lenM, Rf.vp_int, Rf.vp_intB, Rf.vp_abs, Rf.vp_min, Rf.vp_max, Rf.vp_gcd, Rf.vp_dm, Rf.vp_tupL, Rf.vp_tupT, Rf.vp_tupM, Rf.vp_lstT, Rf.vp_all, Rf.vp_any, Rf.vp_repr, Rf.vc_eqS, Rf.vc_neS, Rf.vw_tup, Rf.vw_lst, Rf.vw_fro, Rf.vw_loc, Rf.vz_tup, Rf.vz3_tup, Rf.vz_lst, Rf.vz_tl, Rf.vz_lt, Rf.vz_loc, Rf.ve_tup, Rf.ve_lst, Rf.vr_n, Rf.wf_turn, Rf.wc_item, Rf.wt_name, Rf.wt_tup, Rf.wt_nest, Rf.wa_nil, Rf.wa_cons, Rf.wq_bl, Rf.wq_int, Rf.wq_lst, Rf.wq_tup, Rf.wq_loc, Rf.thn_nx, Rf.thn_rt, Rf.getD_0, Rf.getD_s, Rf.endQ, Rf.beg, List.map_cons, List.map_nil, List.length_cons, List.length_nil, List.cons_append, List.nil_append, List.getElem?_cons_zero, List.getElem?_cons_succ, List.set_cons_zero, List.set_cons_succ, List.replicate, Rf.wipeD, Nat.reduceAdd, Nat.reduceSub, if_true, Bool.false_eq_true, if_false, Rf.isi_non_int, Rf.isi_non_bool, Rf.isi_non_tuple, Rf.isi_non_str, Rf.isi_non_list, Rf.isi_bl_int, Rf.isi_bl_bool, Rf.isi_bl_tuple, Rf.isi_bl_str, Rf.isi_bl_list, Rf.isi_int_int, Rf.isi_int_bool, Rf.isi_int_tuple, Rf.isi_int_str, Rf.isi_int_list, Rf.isi_str_int, Rf.isi_str_bool, Rf.isi_str_tuple, Rf.isi_str_str, Rf.isi_str_list, Rf.isi_tup_int, Rf.isi_tup_bool, Rf.isi_tup_tuple, Rf.isi_tup_str, Rf.isi_tup_list, Rf.isi_lst_int, Rf.isi_lst_bool, Rf.isi_lst_tuple, Rf.isi_lst_str, Rf.isi_lst_list, Rf.isi_fro_int, Rf.isi_fro_bool, Rf.isi_fro_tuple, Rf.isi_fro_str, Rf.isi_fro_list, Rf.isi_loc_int, Rf.isi_loc_bool, Rf.isi_loc_tuple, Rf.isi_loc_str, Rf.isi_loc_list, Rf.isi_dct_int, Rf.isi_dct_bool, Rf.isi_dct_tuple, Rf.isi_dct_str, Rf.isi_dct_list, Bool.not_true, Bool.not_false])
section
set_option maxRecDepth 100000
set_option maxHeartbeats 4000000
set_option autoImplicit false
namespace Rf
open PySem PySem.Spec PyProof.Rows L2
def W : Nat := 4000000
abbrev R (k f : Nat) (ds : List D) (S : Sto) : Option (D × Sto) := runF G T W k f ds S
theorem R_wp {k f : Nat} {fn : Fn} {ds : List D} {S : Sto} {Q : D × Sto → Prop} (hf : T f = some fn) (hl : ds.length = fn.np) :
    wp (R (k + 1) f ds S) Q ↔ wp (svs G (R k) W fn.body (beg fn ds) S) (endQ fn.keep S.length Q) := runF_wp hf hl
theorem R_eq {o : Option (D × Sto)} {r : D × Sto} (h : wp o fun p => p = r) : o = some r := by obtain ⟨p, e, rfl⟩ := h; exact e
theorem fin_wp {d : D} {S : Sto} {keep : Bool} {Q : D × Sto → Prop} : wp (fin keep S.length d S) Q ↔ Q (d, S) := by rw [fin_same keep rfl, wp_some]

/-! ## sizes -/
theorem log2_lt {n k : Nat} (h : n < 2 ^ k) (hk : 0 < k) : n.log2 < k := by
  by_cases h0 : n = 0
  · subst h0; simpa using hk
  · exact (Nat.log2_lt h0).mpr h
/-- a fraction of at most b bits -/
def Bt (b : Nat) (r : Rat) : Prop := r.num.natAbs < 2 ^ b ∧ r.den < 2 ^ b
theorem mul_lt {a b i j : Nat} (h1 : a < 2 ^ i) (h2 : b < 2 ^ j) : a * b < 2 ^ (i + j) := by
  rw [Nat.pow_add]
  exact Nat.mul_lt_mul'' h1 h2

/-! ## fractions -/
def fr (r : Rat) : D := .tup [.int r.num, .int (r.den : Int)]
theorem divisor_ok {k : Nat} {i j : Int} {S : Sto} : R (k + 1) 3 [.int i, .int j] S = some (.int ((Nat.gcd i.natAbs j.natAbs : Nat) : Int), S) := by
  refine R_eq ((R_wp T_divisor_of rfl).mpr ?_)
  simp_arith only [F.divisor_of, fin_wp]
theorem fr_norm {top : Int} {low : Nat} (h0 : low ≠ 0) : D.tup [.int (top.fdiv ((top.natAbs.gcd low : Nat) : Int)), .int ((low : Int).fdiv ((top.natAbs.gcd low : Nat) : Int))] = fr (Rat.normalize top low h0) := by
  rw [Rat.normalize_eq]
  unfold fr
  rw [Int.fdiv_eq_ediv_of_nonneg _ (by omega), Int.fdiv_eq_ediv_of_nonneg _ (by omega)]
  rfl
theorem gcd_facts {top : Int} {low : Nat} (h0 : low ≠ 0) (hb : low.log2 < 9000) : ((top.natAbs.gcd low : Nat) : Int) ≠ 0 ∧ ((top.natAbs.gcd low : Nat) : Int).natAbs.log2 < 9000 := by
  have hg : top.natAbs.gcd low ≠ 0 := by
    have := Nat.gcd_pos_of_pos_right top.natAbs (Nat.pos_of_ne_zero h0)
    omega
  have hle : top.natAbs.gcd low ≤ low := Nat.gcd_le_right _ (Nat.pos_of_ne_zero h0)
  refine ⟨by omega, ?_⟩
  rw [Int.natAbs_natCast]
  have := (Nat.log2_lt h0).mp hb
  exact (Nat.log2_lt hg).mpr (by omega)
theorem ratio_ok {k : Nat} {top : Int} {low : Nat} {S : Sto} (h0 : low ≠ 0) (hb : low.log2 < 9000) : R (k + 2) 5 [.int top, .int (low : Int)] S = some (fr (Rat.normalize top low h0), S) := by
  refine R_eq ((R_wp T_ratio rfl).mpr ?_)
  have hp : (0 : Int) < (low : Int) := by omega
  have hg := gcd_facts (top := top) h0 hb
  simp_arith only [F.ratio, fin_wp, divisor_ok, hp, decide_true, Int.natAbs_natCast]
  exact ⟨hg, hg, by rw [fr_norm h0]⟩
theorem plus_ok {k : Nat} {a b : Rat} {S : Sto} (ha : Bt 4000 a) (hb : Bt 4000 b) : R (k + 3) 6 [fr a, fr b] S = some (fr (a + b), S) := by
  refine R_eq ((R_wp T_plus rfl).mpr ?_)
  have e1 := log2_lt ha.1 (by omega)
  have e2 := log2_lt ha.2 (by omega)
  have e3 := log2_lt hb.1 (by omega)
  have e4 := log2_lt hb.2 (by omega)
  have h0 : a.den * b.den ≠ 0 := Nat.mul_ne_zero a.den_nz b.den_nz
  have hl : (a.den * b.den).log2 < 9000 := by
    have := log2_lt (mul_lt ha.2 hb.2) (by omega)
    omega
  have ec : ((a.den : Int) * (b.den : Int)) = ((a.den * b.den : Nat) : Int) := by simp
  simp_arith only [F.plus, fr, fin_wp, Int.natAbs_natCast]
  refine ⟨by omega, by omega, by omega, ?_⟩
  rw [ec, ratio_ok h0 hl, wp_some]
  exact fin_wp.mpr (by rw [Rat.add_def]; rfl)
theorem times_ok {k : Nat} {a b : Rat} {S : Sto} (ha : Bt 4000 a) (hb : Bt 4000 b) : R (k + 3) 7 [fr a, fr b] S = some (fr (a * b), S) := by
  refine R_eq ((R_wp T_times rfl).mpr ?_)
  have e1 := log2_lt ha.1 (by omega)
  have e2 := log2_lt ha.2 (by omega)
  have e3 := log2_lt hb.1 (by omega)
  have e4 := log2_lt hb.2 (by omega)
  have h0 : a.den * b.den ≠ 0 := Nat.mul_ne_zero a.den_nz b.den_nz
  have hl : (a.den * b.den).log2 < 9000 := by
    have := log2_lt (mul_lt ha.2 hb.2) (by omega)
    omega
  have ec : ((a.den : Int) * (b.den : Int)) = ((a.den * b.den : Nat) : Int) := by simp
  simp_arith only [F.times, fr, fin_wp, Int.natAbs_natCast]
  refine ⟨by omega, by omega, ?_⟩
  rw [ec, ratio_ok h0 hl, wp_some]
  exact fin_wp.mpr (by rw [Rat.mul_def]; rfl)

/-! ## lists of fractions -/
def row (l : List Rat) : D := .tup (l.map fr)
def mat (m : List (List Rat)) : D := .tup (m.map row)
theorem G_0 : G 0 = some (fr 0) := rfl
theorem G_2 : G 2 = some (.int 6) := rfl
/-- the sums of the parts from the left -/
def sumF : List Rat → Rat → Rat
  | [], s => s
  | x :: xs, s => sumF xs (s + x)
/-- all sums on the way are small -/
def Sums (b : Nat) : List Rat → Rat → Prop
  | [], _ => True
  | x :: xs, s => Bt b s ∧ Bt b x ∧ Sums b xs (s + x)
def dotL (a b : List Rat) : List Rat := (a.zip b).map fun p => p.1 * p.2
def dotF (a b : List Rat) : Rat := sumF (dotL a b) 0
/-- the parts of a product of two lines are small -/
def Dots (a b : List Rat) : Prop := (∀ x ∈ a, Bt 4000 x) ∧ (∀ x ∈ b, Bt 4000 x) ∧ Sums 4000 (dotL a b) 0 ∧ a.length ≤ 1000
theorem many_val : many = 1000000 := rfl
theorem row_plus_ok {k : Nat} {a b : List Rat} {S : Sto} (h1 : ∀ x ∈ a, Bt 4000 x) (h2 : ∀ x ∈ b, Bt 4000 x) (h4 : a.length ≤ 1000) : R (k + 4) 13 [row a, row b] S = some (row ((a.zip b).map fun p => p.1 + p.2), S) := by
  refine R_eq ((R_wp T_row_plus rfl).mpr ?_)
  have hl : (a.zip b).length ≤ many := by rw [List.length_zip, many_val]; omega
  simp_arith only [F.row_plus, row, fin_wp, zip_pairs, List.length_map, hl, true_and]
  refine wc_mapL (fun p : Rat × Rat => D.tup [fr p.1, fr p.2]) (fun p => fr (p.1 + p.2)) still_nil (fun p hp => ?_) ?_
  · simp_arith only [wp_some]
    rw [plus_ok (h1 _ (List.of_mem_zip hp).1) (h2 _ (List.of_mem_zip hp).2)]
    simp_arith only [wp_some]
  · simp_arith only [fin_wp, List.map_map]
    rfl
theorem row_scaled_ok {k : Nat} {a : List Rat} {x : Rat} {S : Sto} (h1 : ∀ x ∈ a, Bt 4000 x) (h2 : Bt 4000 x) (h4 : a.length ≤ 1000) : R (k + 4) 14 [row a, fr x] S = some (row (a.map fun y => y * x), S) := by
  refine R_eq ((R_wp T_row_scaled rfl).mpr ?_)
  have hl : a.length ≤ many := by rw [many_val]; omega
  simp_arith only [F.row_scaled, row, fin_wp, List.length_map, hl, true_and]
  refine wc_mapL fr (fun y => fr (y * x)) still_nil (fun y hy => ?_) ?_
  · simp_arith only [wp_some]
    rw [times_ok (h1 _ hy) h2]
    simp_arith only [wp_some]
  · simp_arith only [fin_wp, List.map_map]
    rfl
end Rf
end

section
set_option maxRecDepth 100000
set_option maxHeartbeats 4000000
set_option autoImplicit false
namespace Rf
open PySem PySem.Spec PyProof.Rows L2
/-! ## tests of values -/
theorem is_whole_ok {k : Nat} {d : D} {S : Sto} : R (k + 1) 0 [d] S = some (.bl (isiD d .int && !isiD d .bool), S) := by
  refine R_eq ((R_wp T_is_whole rfl).mpr ?_)
  simp_arith only [F.is_whole, fin_wp]
  cases d <;> simp only [isiD, if_true, Bool.false_eq_true, if_false, fin_wp, Bool.and_true, Bool.not_false, Bool.not_true, Bool.true_and, Bool.false_and]
theorem is_between_ok {k : Nat} {i j l : Int} {S : Sto} : R (k + 2) 1 [.int i, .int j, .int l] S = some (.bl (decide (j ≤ i) && decide (i ≤ l)), S) := by
  refine R_eq ((R_wp T_is_between rfl).mpr ?_)
  simp_arith only [F.is_between, fin_wp, is_whole_ok, Bool.and_true]
  by_cases h : j ≤ i <;> simp only [h, decide_true, decide_false, if_true, Bool.false_eq_true, if_false, fin_wp, Bool.true_and, Bool.false_and]
/-- ints and not bools -/
def whole (d : D) : Bool := isiD d .int && !isiD d .bool
theorem are_wholes_ok {k : Nat} {xs : List D} {n : Nat} {S : Sto} (hl : xs.length ≤ many) : R (k + 2) 2 [.tup xs, .int (n : Int)] S = some (.bl (decide (xs.length = n) && xs.all whole), S) := by
  refine R_eq ((R_wp T_are_wholes rfl).mpr ?_)
  simp_arith only [F.are_wholes, fin_wp]
  by_cases h : xs.length = n
  · have e : decide ((xs.length : Int) = (n : Int)) = true := by simp [h]
    simp only [e, if_true, still_nil, hl, true_and]
    refine wc_map (fun x => .bl (whole x)) still_nil (fun x hx => ?_) ?_
    · simp_arith only [is_whole_ok]
      rfl
    · have em : xs.map (fun x => D.bl (whole x)) = (xs.map whole).map D.bl := by rw [List.map_map]; rfl
      rw [em]
      simp_arith only [fin_wp, List.all_map, h, decide_true, Bool.true_and]
      rfl
  · have e : decide ((xs.length : Int) = (n : Int)) = false := by simp; omega
    simp only [e, if_true, Bool.false_eq_true, if_false, fin_wp, h, decide_false, Bool.false_and]
theorem is_ratio_fr {k : Nat} {r : Rat} {S : Sto} : R (k + 3) 4 [fr r] S = some (.bl true, S) := by
  refine R_eq ((R_wp T_is_ratio rfl).mpr ?_)
  have h1 : ∀ S, R (k + 2) 2 [fr r, .int 2] S = some (.bl true, S) := fun S => are_wholes_ok (k := k) (n := 2) (xs := [.int r.num, .int (r.den : Int)]) (by rw [many_val]; simp)
  have h2 : (0 : Int) < (r.den : Int) := by have := r.den_pos; omega
  have h3 : r.num.natAbs.gcd r.den = 1 := r.reduced
  simp_arith only [F.is_ratio, fin_wp, h1]
  simp_arith only [fr, fin_wp, h2, decide_true, divisor_ok, Int.natAbs_natCast, h3]
  rfl
theorem is_row_ok {k : Nat} {l : List Rat} {n : Nat} {S : Sto} (hl : l.length ≤ 1000) : R (k + 4) 10 [row l, .int (n : Int)] S = some (.bl (decide (l.length = n)), S) := by
  refine R_eq ((R_wp T_is_row rfl).mpr ?_)
  have hm : l.length ≤ many := by rw [many_val]; omega
  simp_arith only [F.is_row, row, fin_wp, List.length_map]
  by_cases h : l.length = n
  · have e : decide ((l.length : Int) = (n : Int)) = true := by simp [h]
    simp only [e, if_true, still_nil, hm, true_and]
    refine wc_mapL fr (fun _ => .bl true) still_nil (fun x hx => ?_) ?_
    · simp_arith only [is_ratio_fr]
    · have em : l.map (fun _ => D.bl true) = (l.map fun _ => true).map D.bl := by rw [List.map_map]; rfl
      rw [em]
      simp_arith only [fin_wp, List.all_map, h, decide_true]
      have ea : (l.all (id ∘ fun _ => true)) = true := by rw [List.all_eq_true]; intro _ _; rfl
      rw [ea]
  · have e : decide ((l.length : Int) = (n : Int)) = false := by simp; omega
    simp only [e, if_true, Bool.false_eq_true, if_false, fin_wp, h, decide_false]
theorem are_rows_ok {k : Nat} {m : List (List Rat)} {n w : Nat} {S : Sto} (hl : m.length ≤ 1000) (hw : ∀ r ∈ m, r.length = w) (hw2 : w ≤ 1000) : R (k + 5) 11 [mat m, .int (n : Int), .int (w : Int)] S = some (.bl (decide (m.length = n)), S) := by
  refine R_eq ((R_wp T_are_rows rfl).mpr ?_)
  have hm : m.length ≤ many := by rw [many_val]; omega
  simp_arith only [F.are_rows, mat, fin_wp, List.length_map]
  by_cases h : m.length = n
  · have e : decide ((m.length : Int) = (n : Int)) = true := by simp [h]
    simp only [e, if_true, still_nil, hm, true_and]
    refine wc_mapL row (fun _ => .bl true) still_nil (fun x hx => ?_) ?_
    · simp_arith only [wp_some]
      rw [is_row_ok (by rw [hw x hx]; exact hw2), hw x hx]
      simp_arith only [decide_true]
    · have em : m.map (fun _ => D.bl true) = (m.map fun _ => true).map D.bl := by rw [List.map_map]; rfl
      rw [em]
      simp_arith only [fin_wp, List.all_map, h, decide_true]
      have ea : (m.all (id ∘ fun _ => true)) = true := by rw [List.all_eq_true]; intro _ _; rfl
      rw [ea]
  · have e : decide ((m.length : Int) = (n : Int)) = false := by simp; omega
    simp only [e, if_true, Bool.false_eq_true, if_false, fin_wp, h, decide_false]
end Rf
end

section
set_option maxRecDepth 100000
set_option maxHeartbeats 4000000
set_option autoImplicit false
namespace Rf
open PySem PySem.Spec PyProof.Rows L2
/-! ## carriers -/
structure Tri where
  out : List Rat
  lines : List (List Rat)
  side : List Rat
def Tri.d (t : Tri) : D := .tup [row t.out, mat t.lines, row t.side]
def car (c : List Tri) : D := .tup (c.map Tri.d)
/-- a place of the size n before it -/
def Tri.fits (t : Tri) (n : Nat) : Prop := t.out.length = n ∧ t.lines.length = t.side.length ∧ (∀ r ∈ t.lines, r.length = n) ∧ t.side.length ≤ 6
def Fits : List Tri → Nat → Prop
  | [], n => n = 0
  | t :: ts, n => t.fits n ∧ Fits ts t.side.length
theorem pdp_fr {k : Nat} {r : Rat} : pdp (k + 2) (fr r) = true := rfl
theorem pdp_row {k : Nat} {l : List Rat} : pdp (k + 3) (row l) = true := by
  show (l.map fr).all (pdp (k + 2)) = true
  rw [List.all_eq_true]
  intro x hx
  obtain ⟨r, _, rfl⟩ := List.mem_map.mp hx
  rfl
theorem pdp_mat {k : Nat} {l : List (List Rat)} : pdp (k + 4) (mat l) = true := by
  show (l.map row).all (pdp (k + 3)) = true
  rw [List.all_eq_true]
  intro x hx
  obtain ⟨r, _, rfl⟩ := List.mem_map.mp hx
  exact pdp_row
end Rf
end

section
set_option maxRecDepth 100000
set_option maxHeartbeats 4000000
set_option autoImplicit false
namespace Rf
open PySem PySem.Spec PyProof.Rows L2
/-! ## rows carried -/
def goF (t : Tri) (st : List Rat) (x : Rat) : List Rat := ((t.lines.map fun r => dotF r st).zip (t.side.map fun y => y * x)).map fun p => p.1 + p.2
def carF : List (Tri × Rat) → List Rat → List Rat
  | [], _ => []
  | p :: r, st => dotF p.1.out st :: carF r (goF p.1 st p.2)
def CarS : List (Tri × Rat) → List Rat → Prop
  | [], _ => True
  | p :: r, st => Dots p.1.out st ∧ (∀ l ∈ p.1.lines, Dots l st) ∧ p.1.lines.length ≤ 1000 ∧ (∀ y ∈ p.1.side, Bt 4000 y) ∧ p.1.side.length ≤ 1000 ∧ Bt 4000 p.2 ∧
      (∀ y ∈ p.1.lines.map fun l => dotF l st, Bt 4000 y) ∧ (∀ y ∈ p.1.side.map fun y => y * p.2, Bt 4000 y) ∧ CarS r (goF p.1 st p.2)
def unitF (n i : Nat) : List Rat := (List.range n).map fun j => if j = i then 1 else 0
def flipF (m : List (List Rat)) (n : Nat) : List (List Rat) := (List.range n).map fun j => m.map fun r => r.getD j 0
theorem flipped_ok {k n : Nat} {m : List (List Rat)} {S : Sto} (hn : n ≤ 1000) (hm : m.length ≤ 1000) (hr : ∀ r ∈ m, n ≤ r.length) : R (k + 1) 16 [.lst (m.map row), .int (n : Int)] S = some (mat (flipF m n), S) := by
  refine R_eq ((R_wp T_flipped rfl).mpr ?_)
  have h1 : n ≤ 1000000 := by omega
  have h2 : n ≤ many := by rw [many_val]; omega
  have h3 : m.length ≤ many := by rw [many_val]; omega
  simp_arith only [F.flipped, fin_wp, List.length_map, List.length_range, h1, h2, true_and]
  refine wc_mapL (fun i : Nat => D.int (i : Int)) (fun j => row (m.map fun r => r.getD j 0)) still_nil (fun j hj => ?_) ?_
  · have hj' := List.mem_range.mp hj
    simp_arith only [h3, List.length_map, true_and]
    refine wc_mapL row (fun r => fr (r.getD j 0)) still_nil (fun r hrm => ?_) ?_
    · have hlt : j < r.length := by have := hr r hrm; omega
      simp_arith only [row]
      rw [List.getElem?_map, List.getElem?_eq_getElem hlt]
      simp_arith only [Option.map_some]
      rw [List.getD_eq_getElem?_getD, List.getElem?_eq_getElem hlt]
      rfl
    · simp_arith only [row, List.map_map]
      rfl
  · simp_arith only [fin_wp, mat]
    unfold flipF
    rw [List.map_map]
    rfl
/-- the table that is carried -/
def tabF (c : List Tri) : List (List Rat) := flipF ((List.range c.length).map fun i => carF (c.zip (unitF c.length i)) []) c.length
theorem carF_len : ∀ (q : List (Tri × Rat)) (st : List Rat), (carF q st).length = q.length
  | [], _ => rfl
  | p :: r, st => congrArg Nat.succ (carF_len r _)
theorem unitF_len {n i : Nat} : (unitF n i).length = n := by unfold unitF; rw [List.length_map, List.length_range]
end Rf
end

section
set_option maxRecDepth 100000
set_option maxHeartbeats 4000000
set_option autoImplicit false
namespace Rf
open PySem PySem.Spec PyProof.Rows L2
/-! ## the law's own fractions -/
theorem half_mod {a b : Nat} (hb : b ≠ 0) (h : b ≤ a) : 2 * (a % b) ≤ a := by
  by_cases h2 : 2 * b ≤ a
  · have := Nat.mod_lt a (Nat.pos_of_ne_zero hb); omega
  · rw [Nat.mod_eq_sub_mod h, Nat.mod_eq_of_lt (by omega)]; omega
theorem fmod_nat {a b : Nat} : (a : Int).fmod (b : Int) = ((a % b : Nat) : Int) := by
  rw [Int.fmod_eq_emod_of_nonneg _ (by omega)]; rfl
theorem abs_nat {i : Int} : (if i < 0 then -i else i) = (i.natAbs : Int) := by split <;> omega
theorem two_pow_pos' (n : Nat) : 0 < 2 ^ n := Nat.pow_pos (by omega)
theorem pow_le' {i j : Nat} (h : i ≤ j) : 2 ^ i ≤ 2 ^ j := Nat.pow_le_pow_right (by omega) h
theorem lt_pow {n i j : Nat} (h : n < 2 ^ i) (hij : i ≤ j) : n < 2 ^ j := Nat.lt_of_lt_of_le h (pow_le' hij)
theorem lean_ok {k u v : Nat} {top : Int} {low : Nat} {S : Sto} (h0 : low ≠ 0) (hlow : low < 2 ^ v) (ht : top.natAbs < 2 ^ u) (hv : v ≤ 8999) (hu : u ≤ 1000000) : R (k + 1) 29 [.int top, .int (low : Int)] S = some (fr (Rat.normalize top low h0), S) := by
  refine R_eq ((R_wp T__law_lean rfl).mpr ?_)
  have hp : decide ((0 : Int) < (low : Int)) = true := by rw [decide_eq_true_eq]; omega
  have hb : low.log2 < 9000 := log2_lt (lt_pow hlow (show v ≤ 9000 by omega)) (by omega)
  simp_arith only [F._law_lean, abs_nat, Int.natAbs_natCast]
  refine ww_inv (fun m σ S' => S' = S ∧ ∃ far near : Nat, σ = [some (.int top), some (.int (low : Int)), some (.int (far : Int)), some (.int (near : Int))] ∧ far.gcd near = top.natAbs.gcd low ∧
      ((near ≤ far ∧ far * near < 2 ^ m) ∨ (1 ≤ m ∧ far * near < 2 ^ (m - 1)))) ?_ (n := W) (m := u + v + 1) (by unfold W; omega) ⟨rfl, top.natAbs, low, rfl, rfl, .inr ⟨by omega, ?_⟩⟩
  · rintro m σ S' ⟨rfl, far, near, rfl, hg, hm⟩
    simp_arith only [wp_some]
    by_cases hn : near = 0
    · have e : decide ((near : Int) = 0) = true := by simp [hn]
      simp only [e, Bool.not_true, D.bl.injEq]
      refine ⟨false, rfl, ?_⟩
      have ef : far = top.natAbs.gcd low := by rw [← hg, hn, Nat.gcd_zero_right]
      have hgf := gcd_facts (top := top) h0 hb
      simp_arith only [hp, fin_wp, ef]
      exact ⟨hgf, hgf, by rw [fr_norm h0]⟩
    · have e : decide ((near : Int) = 0) = false := by simp; omega
      have hz : (near : Int) ≠ 0 := by omega
      simp only [e, Bool.not_false, D.bl.injEq]
      refine ⟨true, rfl, ?_⟩
      simp_arith only [fmod_nat, hz, ne_eq, not_false_eq_true, true_and]
      have hg' : near.gcd (far % near) = top.natAbs.gcd low := by rw [← hg, Nat.gcd_comm far near, Nat.gcd_rec near far, Nat.gcd_comm]
      have hlt := Nat.mod_lt far (Nat.pos_of_ne_zero hn)
      rcases hm with ⟨h1, h2⟩ | ⟨h1, h2⟩
      · have hf : 1 ≤ far * near := Nat.mul_pos (by omega) (by omega)
        have hm1 : m ≠ 0 := fun z => by rw [z] at h2; simp at h2; omega
        obtain ⟨j, rfl⟩ : ∃ j, m = j + 1 := ⟨m - 1, by omega⟩
        refine ⟨j, by omega, near, far % near, rfl, hg', .inl ⟨by omega, ?_⟩⟩
        have h3 := half_mod hn h1
        have h4 : near * (2 * (far % near)) ≤ near * far := Nat.mul_le_mul_left _ h3
        rw [Nat.pow_succ] at h2
        have h5 : near * (2 * (far % near)) = 2 * (near * (far % near)) := by rw [Nat.mul_left_comm]
        have h6 : near * far = far * near := Nat.mul_comm _ _
        omega
      · obtain ⟨j, rfl⟩ : ∃ j, m = j + 1 := ⟨m - 1, by omega⟩
        refine ⟨j, by omega, near, far % near, rfl, hg', .inl ⟨by omega, ?_⟩⟩
        rw [Nat.add_sub_cancel] at h2
        have h3 : near * (far % near) ≤ near * far := Nat.mul_le_mul_left _ (Nat.mod_le _ _)
        have h6 : near * far = far * near := Nat.mul_comm _ _
        omega
  · rw [Nat.add_sub_cancel]; exact mul_lt ht hlow
theorem sum_bits {a b : Int} {i j : Nat} (h1 : a.natAbs < 2 ^ i) (h2 : b.natAbs < 2 ^ j) : (a + b).natAbs < 2 ^ (max i j + 1) := by
  have h3 := pow_le' (Nat.le_max_left i j)
  have h4 := pow_le' (Nat.le_max_right i j)
  have h5 := Int.natAbs_add_le a b
  rw [Nat.pow_succ]
  omega
theorem mul_bits {a b : Int} {i j : Nat} (h1 : a.natAbs < 2 ^ i) (h2 : b.natAbs < 2 ^ j) : (a * b).natAbs < 2 ^ (i + j) := by
  rw [Int.natAbs_mul]; exact mul_lt h1 h2
/-- the bits of a product of two lines, unreduced -/
def DotB (b1 b2 : Nat) (l : List (Rat × Rat)) : Prop := (∀ p ∈ l, Bt b1 p.1 ∧ Bt b2 p.2) ∧ (b1 + b2) * l.length ≤ 8900 ∧ l.length ≤ 1000
theorem mk_step {top : Int} {low : Nat} {x y : Rat} (h0 : low ≠ 0) : mkRat (top * ((x.den * y.den : Nat) : Int) + x.num * y.num * (low : Int)) (low * (x.den * y.den)) = mkRat top low + x * y := by
  have hd : x.den * y.den ≠ 0 := Nat.mul_ne_zero x.den_nz y.den_nz
  have e : x * y = mkRat (x.num * y.num) (x.den * y.den) := by
    rw [← Rat.mkRat_mul_mkRat, Rat.mkRat_self, Rat.mkRat_self]
  rw [e, Rat.mkRat_add_mkRat _ _ h0 hd]
theorem ldot_g {k b1 b2 : Nat} {a b : List Rat} {d : D} {S : Sto} (hz : ∀ Q, wp (zipWk S (.tup (a.map fr)) d) Q ↔ Q ⟨(a.zip b).map fun p => .tup [fr p.1, fr p.2], []⟩) (h : DotB b1 b2 (a.zip b)) : R (k + 2) 32 [row a, d] S = some (fr (dotF a b), S) := by
  obtain ⟨h1, h2, h3⟩ := h
  refine R_eq ((R_wp T__law_dot rfl).mpr ?_)
  simp_arith only [F._law_dot, row, hz]
  refine wf_inv (fun r σ S' => S' = S ∧ ∃ (q : List (Rat × Rat)) (top : Int) (low i : Nat) (o1 o2 o3 : Option D), r = q.map (fun p => D.tup [fr p.1, fr p.2]) ∧ σ = [some (.tup (a.map fr)), some d, some (.int top), some (.int (low : Int)), o1, o2, o3] ∧
      (∀ p ∈ q, Bt b1 p.1 ∧ Bt b2 p.2) ∧ i + q.length = (a.zip b).length ∧ low ≠ 0 ∧ low < 2 ^ (1 + (b1 + b2) * i) ∧ top.natAbs < 2 ^ (1 + (b1 + b2 + 1) * i) ∧ sumF (q.map fun p => p.1 * p.2) (mkRat top low) = dotF a b)
    ⟨rfl, a.zip b, 0, 1, 0, none, none, none, rfl, rfl, h1, by omega, by omega, by simp, by simp, rfl⟩ ?_ ?_
  · rintro x r σ S' ⟨rfl, q, top, low, i, o1, o2, o3, e1, rfl, hq, hi, hl0, hl, ht, hs⟩
    cases q with
    | nil => cases e1
    | cons p q =>
      cases e1
      obtain ⟨⟨p1, p2⟩, ⟨p3, p4⟩⟩ := hq p List.mem_cons_self
      rw [List.length_cons] at hi
      have hi2 : (b1 + b2) * (i + 1) ≤ 8900 := Nat.le_trans (Nat.mul_le_mul_left _ (by omega)) h2
      rw [Nat.mul_add, Nat.mul_one] at hi2
      have ti : (b1 + b2 + 1) * i = (b1 + b2) * i + i := by rw [Nat.add_mul, Nat.one_mul]
      have l1 : p.1.num.natAbs.log2 < b1 + 1 := log2_lt (lt_pow p1 (by omega)) (by omega)
      have l2 : p.1.den.log2 < b1 + 1 := log2_lt (lt_pow p2 (by omega)) (by omega)
      have l3 : p.2.num.natAbs.log2 < b2 + 1 := log2_lt (lt_pow p3 (by omega)) (by omega)
      have l4 : p.2.den.log2 < b2 + 1 := log2_lt (lt_pow p4 (by omega)) (by omega)
      have m1 := mul_bits p1 p3
      have m2 := mul_lt p2 p4
      have l5 : (p.1.num * p.2.num).natAbs.log2 < b1 + b2 + 1 := log2_lt (lt_pow m1 (by omega)) (by omega)
      have l6 : (p.1.den * p.2.den).log2 < b1 + b2 + 1 := log2_lt (lt_pow m2 (by omega)) (by omega)
      have l7 := log2_lt hl (by omega)
      have l8 := log2_lt ht (by omega)
      have ec : ((p.1.den : Int) * (p.2.den : Int)) = ((p.1.den * p.2.den : Nat) : Int) := by simp
      have ec2 : ((low : Int) * ((p.1.den * p.2.den : Nat) : Int)) = ((low * (p.1.den * p.2.den) : Nat) : Int) := by simp
      simp_arith only [fr, ec, ec2, Int.natAbs_natCast, still_nil]
      refine ⟨by omega, by omega, by omega, by omega, by omega, trivial, trivial, q, _, low * (p.1.den * p.2.den), i + 1, _, _, _, rfl, rfl, fun z hz => hq z (List.mem_cons_of_mem _ hz), by omega, Nat.mul_ne_zero hl0 (Nat.mul_ne_zero p.1.den_nz p.2.den_nz), ?_, ?_, ?_⟩
      · have := mul_lt hl m2
        rw [show 1 + (b1 + b2) * (i + 1) = 1 + (b1 + b2) * i + (b1 + b2) by rw [Nat.mul_add, Nat.mul_one]; omega]
        exact this
      · refine lt_pow (sum_bits (mul_bits ht (show ((p.1.den * p.2.den : Nat) : Int).natAbs < 2 ^ (b1 + b2) from m2)) (mul_bits m1 (show ((low : Nat) : Int).natAbs < 2 ^ (1 + (b1 + b2) * i) from hl))) ?_
        rw [Nat.mul_add, Nat.mul_one, ti]
        omega
      · rw [mk_step hl0]
        exact hs
  · rintro σ S' ⟨rfl, q, top, low, i, o1, o2, o3, e1, rfl, hq, hi, hl0, hl, ht, hs⟩
    cases q with
    | cons p q => cases e1
    | nil =>
      rw [List.length_nil] at hi
      have ei : i = (a.zip b).length := by omega
      have ti : (b1 + b2 + 1) * i = (b1 + b2) * i + i := by rw [Nat.add_mul, Nat.one_mul]
      have hb2 : (b1 + b2) * i ≤ 8900 := by rw [ei]; exact h2
      have e2 : fr (dotF a b) = fr (Rat.normalize top low hl0) := by
        rw [← hs, Rat.normalize_eq_mkRat]; rfl
      rw [e2]
      simp_arith only [lean_ok hl0 hl ht (show _ ≤ 8999 by omega) (show _ ≤ 1000000 by rw [ti]; omega), fin_wp]
theorem ldot_ok {k b1 b2 : Nat} {a b : List Rat} {S : Sto} (h : DotB b1 b2 (a.zip b)) : R (k + 2) 32 [row a, row b] S = some (fr (dotF a b), S) :=
  ldot_g (fun Q => by rw [show row b = .tup (b.map fr) from rfl, vz_tup, zip_pairs]) h
theorem ldot_l {k b1 b2 : Nat} {a b : List Rat} {S : Sto} (h : DotB b1 b2 (a.zip b)) : R (k + 2) 32 [row a, .lst (b.map fr)] S = some (fr (dotF a b), S) :=
  ldot_g (fun Q => by rw [vz_tl, zip_pairs]) h
end Rf
end

section
set_option maxRecDepth 100000
set_option maxHeartbeats 4000000
set_option autoImplicit false
namespace Rf
open PySem PySem.Spec PyProof.Rows L2
/-! ## wells -/
class Gd (L : Nat) : Prop where
  out : ∃ d, 1 ≤ d ∧ d ≤ 101 ∧ L = 12 * d
/-- what all denominators of a world divide: 12, and once at most times up to 101 -/
theorem gd12 : Gd 12 := ⟨1, by omega, by omega, rfl⟩
/-- a well from which t more figures may be drawn; L is what the denominators so far divide -/
def Well (t L : Nat) (w : List D) : Prop := ∃ a m c f : Int, w = [.int a, .int m, .int c, .int f] ∧ 0 ≤ c ∧ c + t ≤ 1000000000 ∧ 0 ≤ m ∧ m < 2147483563 ∧ (0 < f → L = 12) ∧ Gd L
theorem Well.less {t u L : Nat} {w : List D} (h : Well u L w) (hu : t ≤ u) : Well t L w := by
  obtain ⟨a, m, c, f, e, h1, h2, h3, h4⟩ := h
  exact ⟨a, m, c, f, e, h1, by omega, h3, h4⟩
theorem Well.gd {t L : Nat} {w : List D} (h : Well t L w) : Gd L := by
  obtain ⟨a, m, c, f, e, h1, h2, h3, h4, h5, h6⟩ := h
  exact h6
theorem Well.pure {t L : Nat} {w : List D} (h : Well t L w) : ∀ x ∈ w, pdp 20 x = true := by
  obtain ⟨a, m, c, f, rfl, _⟩ := h
  intro x hx
  simp only [List.mem_cons, List.not_mem_nil, or_false] at hx
  rcases hx with rfl | rfl | rfl | rfl <;> rfl
theorem fmod_b {i b : Int} (hb : 0 < b) : 0 ≤ i.fmod b ∧ i.fmod b < b := ⟨Int.fmod_nonneg_of_pos i hb, Int.fmod_lt_of_pos i hb⟩
theorem log2_i {i : Int} {k : Nat} (h0 : 0 ≤ i) (h : i < 2 ^ k) (hk : 0 < k) : i.natAbs.log2 < k := by
  refine log2_lt ?_ hk
  have : ((2 ^ k : Nat) : Int) = (2 : Int) ^ k := by simp
  omega
theorem draw_f {k n t m L : Nat} {S : Sto} {w : List D} {Q : D × Sto → Prop} (hs : S[n]? = some w) (hw : Well (t + 1) L w) (hm : 0 < m) (hm2 : m < 1073741824)
    (h : ∀ (v : Nat) (w' : List D), v < m → Well t L w' → w'[3]? = w[3]? → Q (.int (v : Int), S.set n w')) : wp (R (k + 1) 27 [.loc n, .int (m : Int)] S) Q := by
  obtain ⟨a, u, c, f, rfl, h1, h2, h3, h4, h5, h6⟩ := hw
  have hn : n < S.length := (List.getElem?_eq_some_iff.mp hs).1
  have hg : ∀ x : List D, (S.set n x)[n]? = some x := fun x => List.getElem?_set_self hn
  have hl : ∀ x : List D, (S.set n x).length = S.length := fun x => List.length_set
  have fw : ∀ (d : D) (x : List D) (Q : D × Sto → Prop), wp (fin false S.length d (S.set n x)) Q ↔ Q (d, S.set n x) := fun d x Q => by rw [fin_same false (hl x), wp_some]
  rw [R_wp T__law_draw rfl]
  simp_arith only [F._law_draw, hs]
  by_cases ha : 0 < a
  · simp_arith only [decide_eq_true ha, hs, hg, List.set_set, fw]
    have hm' : (0 : Int) < (m : Int) ∧ (m : Int) < 1073741824 := by omega
    refine ⟨hm', by omega, ?_⟩
    have e1 : a % (m : Int) = (((a % (m : Int)).toNat : Nat) : Int) := by
      have := Int.emod_nonneg a (show (m : Int) ≠ 0 by omega); omega
    rw [e1]
    refine h _ _ ?_ ⟨_, _, _, _, rfl, h1, by omega, h3, h4, h5, h6⟩ rfl
    have := Int.emod_lt_of_pos a hm'.1
    have := Int.emod_nonneg a (show (m : Int) ≠ 0 by omega)
    omega
  · simp_arith only [decide_eq_false ha, hs, hg, List.set_set, fw]
    have q1 : ∀ i : Int, 0 ≤ i.fmod 2147483563 ∧ i.fmod 2147483563 < 2147483563 := fun i => fmod_b (by omega)
    have q2 : ∀ i : Int, 0 ≤ i.fmod 5003 ∧ i.fmod 5003 < 5003 := fun i => fmod_b (by omega)
    have q3 : ∀ i : Int, 0 ≤ i.fmod (m : Int) ∧ i.fmod (m : Int) < (m : Int) := fun i => fmod_b (by omega)
    have l1 : (60013 : Int).natAbs.log2 < 17 := by decide
    have l2 : (c + 1).natAbs.log2 < 31 := log2_i (by omega) (by omega) (by omega)
    have l3 : (31 : Int).natAbs.log2 < 6 := by decide
    have l4 := fun i : Int => log2_i (k := 31) (q1 i).1 (by have := (q1 i).2; omega) (by omega)
    have l5 := fun i : Int => log2_i (i := i.fmod 5003 + 40009) (k := 31) (by have := (q2 i).1; omega) (by have := (q2 i).2; omega) (by omega)
    have l4' := l4 (u + 60013 * (c + 1))
    have l5' := l5 ((u + 60013 * (c + 1)).fmod 2147483563)
    have l6 : (641 : Int).natAbs.log2 < 9000 := by decide
    refine ⟨by omega, by omega, by omega, by omega, by omega, by omega, by omega, by omega, ⟨by omega, l6⟩, by omega, ?_⟩
    generalize hX : ((u + 60013 * (c + 1)).fmod 2147483563 * (((u + 60013 * (c + 1)).fmod 2147483563).fmod 5003 + 40009) + 31 * (c + 1)).fmod 2147483563 = X
    have hx1 : 0 ≤ X ∧ X < 2147483563 := by rw [← hX]; exact q1 _
    generalize hY : (X.fdiv 641).fmod (m : Int) = Y
    have hy1 : 0 ≤ Y ∧ Y < (m : Int) := by rw [← hY]; exact q3 _
    have e1 : Y = ((Y.toNat : Nat) : Int) := by omega
    rw [e1]
    exact h _ _ (by omega) ⟨_, _, _, _, rfl, by omega, by omega, hx1.1, hx1.2, h5, h6⟩ rfl
theorem draw_ok {k n t m L : Nat} {S : Sto} {w : List D} {Q : D × Sto → Prop} (hs : S[n]? = some w) (hw : Well (t + 1) L w) (hm : 0 < m) (hm2 : m < 1073741824)
    (h : ∀ (v : Nat) (w' : List D), v < m → Well t L w' → Q (.int (v : Int), S.set n w')) : wp (R (k + 1) 27 [.loc n, .int (m : Int)] S) Q :=
  draw_f hs hw hm hm2 fun v w' h1 h2 _ => h v w' h1 h2
theorem pick_ok {k n t L : Nat} {S : Sto} {w xs : List D} {Q : D × Sto → Prop} (hs : S[n]? = some w) (hw : Well (t + 1) L w) (hm : 0 < xs.length) (hm2 : xs.length < 1000)
    (h : ∀ (x : D) (w' : List D), x ∈ xs → Well t L w' → Q (x, S.set n w')) : wp (R (k + 2) 28 [.loc n, .lst xs] S) Q := by
  rw [R_wp T__law_pick rfl]
  simp_arith only [F._law_pick]
  refine draw_ok hs hw hm (by omega) fun v w' hv hw' => ?_
  simp_arith only [wp_some]
  rw [List.getElem?_eq_getElem hv]
  simp_arith only [wp_some]
  rw [fin_same false (by simp), wp_some]
  exact h _ _ (List.getElem_mem hv) hw'
/-- a fraction as it is drawn -/
def Dr (L : Nat) (r : Rat) : Prop := r.den ∣ L ∧ r.den ≤ 101 ∧ r.num.natAbs ≤ 1500008
theorem Dr.up {L L' : Nat} {r : Rat} (h : Dr L r) (hL : L ∣ L') : Dr L' r := ⟨Nat.dvd_trans h.1 hL, h.2⟩
theorem drs {L L' : Nat} {l : List Rat} (h : ∀ x ∈ l, Dr L x) (hL : L ∣ L') : ∀ x ∈ l, Dr L' x := fun x hx => (h x hx).up hL
theorem dr_norm {L : Nat} {top : Int} {low : Nat} (h0 : low ≠ 0) (h1 : low ≤ 101) (h2 : top.natAbs ≤ 1500008) (h3 : low ∣ L) : Dr L (Rat.normalize top low h0) := by
  rw [Rat.normalize_eq]
  refine ⟨Nat.dvd_trans (Nat.div_dvd_of_dvd (Nat.gcd_dvd_right _ _)) h3, Nat.le_trans (Nat.div_le_self _ _) h1, ?_⟩
  show (top / ((top.natAbs.gcd low : Nat) : Int)).natAbs ≤ _
  refine Nat.le_trans (Int.natAbs_ediv_le_natAbs _ _) h2
theorem small_dvd {L low : Nat} [h : Gd L] (h1 : 1 ≤ low) (h4 : low ≤ 4) : low ∣ L := by
  obtain ⟨d, _, _, rfl⟩ := h.out
  refine Nat.dvd_trans ?_ (Nat.dvd_mul_right 12 d)
  match low, h1, h4 with
  | 1, _, _ | 2, _, _ | 3, _, _ | 4, _, _ => decide
theorem fr_int (i : Int) : D.tup [.int i, .int 1] = fr (Rat.normalize i 1 (by omega)) := by
  rw [Rat.normalize_eq]
  unfold fr
  simp
theorem number_ok {k n t L : Nat} {S : Sto} {w : List D} {Q : D × Sto → Prop} (hs : S[n]? = some w) (hw : Well (t + 3) L w) (h : ∀ (r : Rat) (w' : List D) (L' : Nat), L ∣ L' → Dr L' r → Well t L' w' → Q (fr r, S.set n w')) : wp (R (k + 2) 34 [.loc n] S) Q := by
  have hn : n < S.length := (List.getElem?_eq_some_iff.mp hs).1
  have hg : ∀ x : List D, (S.set n x)[n]? = some x := fun x => List.getElem?_set_self hn
  have hl : ∀ x : List D, (S.set n x).length = S.length := fun x => List.length_set
  have fw : ∀ (d : D) (x : List D) (Q : D × Sto → Prop), wp (fin false S.length d (S.set n x)) Q ↔ Q (d, S.set n x) := fun d x Q => by rw [fin_same false (hl x), wp_some]
  rw [R_wp T__law_number rfl]
  simp_arith only [F._law_number]
  refine draw_ok (m := 72) hs hw (by omega) (by omega) fun v w1 hv hw1 => ?_
  simp_arith only [hg, List.set_set, fw]
  have hw1c := hw1
  have hgd : Gd L := hw1.gd
  obtain ⟨a, u, c, f, rfl, p1, p2, p3, p4, p5, p6⟩ := hw1
  have hw1' : Well (t + 2) L [.int a, .int u, .int c, .int f] := hw1c
  by_cases h71 : v = 71
  · have d1 : decide ((v : Int) = 71) = true := by rw [decide_eq_true_eq]; omega
    by_cases hf : 0 < f
    · simp_arith only [d1, decide_eq_true hf, hg, List.set_set, fw]
      refine ⟨by omega, ?_⟩
      have hwz : Well (t + 2) L [.int a, .int u, .int c, .int 0] := ⟨a, u, c, 0, rfl, p1, p2, p3, p4, fun z => by omega, p6⟩
      refine draw_f (m := 3000017) (hg _) hwz (by omega) (by omega) fun x w2 hx hw2 hf2 => ?_
      simp_arith only [hg, List.set_set, hl]
      refine draw_f (m := 101) (hg _) hw2 (by omega) (by omega) fun y w3 hy hw3 hf3 => ?_
      have ey : (1 : Int) + (y : Int) = ((1 + y : Nat) : Int) := by omega
      simp_arith only [hg, List.set_set, hl, ey]
      rw [lean_ok (u := 30) (v := 30) (by omega) (show 1 + y < 2 ^ 30 by omega) (show ((x : Int) - 1500008).natAbs < 2 ^ 30 by omega) (by omega) (by omega), wp_some]
      have e12 : L = 12 := p5 hf
      obtain ⟨a3, u3, c3, f3, r0, r1, r2, r3, r4, r5, r6⟩ := hw3
      refine (fw _ _ _).mpr (h _ _ (12 * (1 + y)) (by rw [e12]; exact Nat.dvd_mul_right _ _) (dr_norm _ (by omega) (by omega) (Nat.dvd_mul_left _ _)) ⟨a3, u3, c3, f3, r0, r1, r2, r3, r4, fun z => ?_, ⟨1 + y, by omega, by omega, rfl⟩⟩)
      rw [hf2, r0] at hf3
      have hf4 : some (D.int f3) = some (D.int 0) := hf3
      cases hf4
      omega
    · have d2 : decide ((v : Int) < 50) = false := by rw [decide_eq_false_iff_not]; omega
      simp_arith only [d1, d2, decide_eq_false hf, hg, List.set_set, fw]
      refine draw_ok (m := 11) (hg _) hw1' (by omega) (by omega) fun x w2 hx hw2 => ?_
      simp_arith only [hg, List.set_set, hl]
      refine draw_ok (m := 3) (hg _) hw2 (by omega) (by omega) fun y w3 hy hw3 => ?_
      have ey : (2 : Int) + (y : Int) = ((2 + y : Nat) : Int) := by omega
      simp_arith only [hg, List.set_set, hl, ey]
      rw [lean_ok (u := 30) (v := 30) (by omega) (show 2 + y < 2 ^ 30 by omega) (show ((x : Int) - 5).natAbs < 2 ^ 30 by omega) (by omega) (by omega), wp_some]
      exact (fw _ _ _).mpr (h _ _ L (Nat.dvd_refl _) (dr_norm _ (by omega) (by omega) (small_dvd (by omega) (by omega))) hw3)
  · have d1 : decide ((v : Int) = 71) = false := by rw [decide_eq_false_iff_not]; omega
    by_cases h50 : v < 50
    · have d2 : decide ((v : Int) < 50) = true := by rw [decide_eq_true_eq]; omega
      simp_arith only [d1, d2, hg, List.set_set, fw]
      refine draw_ok (m := 8) (hg _) hw1' (by omega) (by omega) fun x w2 hx hw2 => ?_
      simp_arith only [hg, List.set_set, hl]
      have ex : ∃ i : Int, i.natAbs ≤ 3 ∧ [D.int 0, D.int 1, D.int (-1), D.int 2, D.int 1, D.int 0, D.int (-2), D.int 3][x]? = some (.int i) := by
        match x, hx with
        | 0, _ | 1, _ | 2, _ | 3, _ | 4, _ | 5, _ | 6, _ | 7, _ => exact ⟨_, by decide, rfl⟩
      obtain ⟨i, hi, ei⟩ := ex
      simp_arith only [ei, fr_int]
      exact (fw _ _ _).mpr (h _ _ L (Nat.dvd_refl _) (dr_norm _ (by omega) (by omega) (small_dvd (by omega) (by omega))) (hw2.less (by omega)))
    · have d2 : decide ((v : Int) < 50) = false := by rw [decide_eq_false_iff_not]; omega
      simp_arith only [d1, d2, hg, List.set_set, fw]
      refine draw_ok (m := 11) (hg _) hw1' (by omega) (by omega) fun x w2 hx hw2 => ?_
      simp_arith only [hg, List.set_set, hl]
      refine draw_ok (m := 3) (hg _) hw2 (by omega) (by omega) fun y w3 hy hw3 => ?_
      have ey : (2 : Int) + (y : Int) = ((2 + y : Nat) : Int) := by omega
      simp_arith only [hg, List.set_set, hl, ey]
      rw [lean_ok (u := 30) (v := 30) (by omega) (show 2 + y < 2 ^ 30 by omega) (show ((x : Int) - 5).natAbs < 2 ^ 30 by omega) (by omega) (by omega), wp_some]
      exact (fw _ _ _).mpr (h _ _ L (Nat.dvd_refl _) (dr_norm _ (by omega) (by omega) (small_dvd (by omega) (by omega))) hw3)
theorem set_same {S : Sto} {n : Nat} {w : List D} (h : S[n]? = some w) : S.set n w = S := by
  obtain ⟨hn, e⟩ := List.getElem?_eq_some_iff.mp h
  rw [← e, List.set_getElem_self]
section
variable {S : Sto} {n : Nat} {w w' y y' : List D}
theorem lg_n (hn : n < S.length) : (S.set n w ++ [y])[n]? = some w := by
  rw [List.getElem?_append_left (by rw [List.length_set]; exact hn)]
  exact List.getElem?_set_self hn
theorem lg_l : (S.set n w ++ [y])[S.length]? = some y := by
  have := get_last (S := S.set n w) (x := y)
  rwa [List.length_set] at this
theorem ls_n (hn : n < S.length) : (S.set n w ++ [y]).set n w' = S.set n w' ++ [y] := by
  rw [List.set_append_left _ _ (by rw [List.length_set]; exact hn), List.set_set]
theorem ls_l : (S.set n w ++ [y]).set S.length y' = S.set n w ++ [y'] := by
  have := set_last (S := S.set n w) (x := y) (y := y')
  rwa [List.length_set] at this
theorem pur_set {t L : Nat} (hp : Pur S) (hw : Well t L w) : Pur (S.set n w) := hp.set hw.pure
theorem fin_set {t L : Nat} {d : D} {Q : D × Sto → Prop} (hp : Pur S) (hw : Well t L w) (hd : pdp 20 d = true) : wp (fin false S.length d (S.set n w ++ [y])) Q ↔ Q (d, S.set n w) := by
  rw [fin_pur (S0 := S.set n w) List.length_set (pur_set hp hw) hd (by
    have e : S.length = (S.set n w).length := List.length_set.symm
    rw [e, List.take_left']
    rfl), wp_some]
theorem fin_s {d : D} {Q : D × Sto → Prop} : wp (fin false S.length d (S.set n w)) Q ↔ Q (d, S.set n w) := by rw [fin_same false List.length_set, wp_some]
end
theorem line_ok {k n t m L : Nat} {S : Sto} {w : List D} {Q : D × Sto → Prop} (hp : Pur S) (hs : S[n]? = some w) (hw : Well (t + 3 * m) L w) (hm : m ≤ 1000) (h : ∀ (l : List Rat) (w' : List D) (L' : Nat), L ∣ L' → l.length = m → (∀ r ∈ l, Dr L' r) → Well t L' w' → Q (row l, S.set n w')) : wp (R (k + 3) 35 [.loc n, .int (m : Int)] S) Q := by
  have hn : n < S.length := (List.getElem?_eq_some_iff.mp hs).1
  rw [R_wp T__law_line rfl]
  have h1 : m ≤ 1000000 := by omega
  simp_arith only [F._law_line, h1, true_and]
  refine wf_inv (fun r σ S' => ∃ (q : List Nat) (acc : List Rat) (w' : List D) (L' : Nat) (o : Option D), S' = S.set n w' ++ [acc.map fr] ∧ r = q.map (fun i : Nat => D.int (i : Int)) ∧ σ = [some (.loc n), some (.int (m : Int)), some (.loc S.length), o] ∧
      Well (t + 3 * q.length) L' w' ∧ acc.length + q.length = m ∧ L ∣ L' ∧ ∀ x ∈ acc, Dr L' x) ⟨List.range m, [], w, L, none, by rw [set_same hs]; rfl, rfl, rfl, by rw [List.length_range]; exact hw, by simp, Nat.dvd_refl _, by simp⟩ ?_ ?_
  · rintro x r σ S' ⟨q, acc, w', L', o, rfl, e1, rfl, hw', hl, hL, ha⟩
    cases q with
    | nil => cases e1
    | cons i q =>
      cases e1
      rw [List.length_cons] at hl hw'
      simp_arith only [still_nil]
      refine number_ok (k := k) (t := t + 3 * q.length) (lg_n hn) (hw'.less (by omega)) fun x w'' L'' hL2 hx hw'' => ?_
      simp_arith only [ls_n hn, lg_l, ls_l, List.length_map, many_val]
      exact ⟨by omega, trivial, q, acc ++ [x], w'', L'', _, by rw [List.map_append]; rfl, rfl, rfl, hw'', by rw [List.length_append]; simp only [List.length_cons, List.length_nil]; omega, Nat.dvd_trans hL hL2, fun y hy => by
        rcases List.mem_append.mp hy with hy | hy
        · exact (ha y hy).up hL2
        · rw [List.mem_singleton.mp hy]; exact hx⟩
  · rintro σ S' ⟨q, acc, w', L', o, rfl, e1, rfl, hw', hl, hL, ha⟩
    cases q with
    | cons i q => cases e1
    | nil =>
      simp_arith only [lg_l]
      exact (fin_set hp hw' (pdp_row (k := 17) (l := acc))).mpr (h acc w' L' hL (by simpa using hl) ha hw')
theorem lines_ok {k n t m v L : Nat} {S : Sto} {w : List D} {Q : D × Sto → Prop} (hp : Pur S) (hs : S[n]? = some w) (hw : Well (t + 3 * v * m) L w) (hm : m ≤ 1000) (hv : v ≤ 1000) (h : ∀ (l : List (List Rat)) (w' : List D) (L' : Nat), L ∣ L' → l.length = m → (∀ r ∈ l, r.length = v ∧ ∀ x ∈ r, Dr L' x) → Well t L' w' → Q (mat l, S.set n w')) :
    wp (R (k + 4) 36 [.loc n, .int (m : Int), .int (v : Int)] S) Q := by
  have hn : n < S.length := (List.getElem?_eq_some_iff.mp hs).1
  rw [R_wp T__law_lines rfl]
  have h1 : m ≤ 1000000 := by omega
  simp_arith only [F._law_lines, h1, true_and]
  refine wf_inv (fun r σ S' => ∃ (q : List Nat) (acc : List (List Rat)) (w' : List D) (L' : Nat) (o : Option D), S' = S.set n w' ++ [acc.map row] ∧ r = q.map (fun i : Nat => D.int (i : Int)) ∧ σ = [some (.loc n), some (.int (m : Int)), some (.int (v : Int)), some (.loc S.length), o] ∧
      Well (t + 3 * v * q.length) L' w' ∧ acc.length + q.length = m ∧ L ∣ L' ∧ ∀ r ∈ acc, r.length = v ∧ ∀ x ∈ r, Dr L' x) ⟨List.range m, [], w, L, none, by rw [set_same hs]; rfl, rfl, rfl, by rw [List.length_range]; exact hw, by simp, Nat.dvd_refl _, by simp⟩ ?_ ?_
  · rintro x r σ S' ⟨q, acc, w', L', o, rfl, e1, rfl, hw', hl, hL, ha⟩
    cases q with
    | nil => cases e1
    | cons i q =>
      cases e1
      rw [List.length_cons] at hl hw'
      simp_arith only [still_nil]
      have hps : Pur (S.set n w' ++ [acc.map row]) := (pur_set hp hw').app fun x hx => by
        obtain ⟨r, _, rfl⟩ := List.mem_map.mp hx
        exact pdp_row (k := 17)
      refine line_ok (k := k) (t := t + 3 * v * q.length) hps (lg_n hn) (hw'.less (by rw [Nat.mul_succ]; omega)) hv fun x w'' L'' hL2 hxl hx hw'' => ?_
      simp_arith only [ls_n hn, lg_l, ls_l, List.length_map, many_val]
      exact ⟨by omega, trivial, q, acc ++ [x], w'', L'', _, by rw [List.map_append]; rfl, rfl, rfl, hw'', by rw [List.length_append]; simp only [List.length_cons, List.length_nil]; omega, Nat.dvd_trans hL hL2, fun y hy => by
        rcases List.mem_append.mp hy with hy | hy
        · exact ⟨(ha y hy).1, drs (ha y hy).2 hL2⟩
        · rw [List.mem_singleton.mp hy]; exact ⟨hxl, hx⟩⟩
  · rintro σ S' ⟨q, acc, w', L', o, rfl, e1, rfl, hw', hl, hL, ha⟩
    cases q with
    | cons i q => cases e1
    | nil =>
      simp_arith only [lg_l]
      exact (fin_set hp hw' (pdp_mat (k := 16) (l := acc))).mpr (h acc w' L' hL (by simpa using hl) ha hw')
end Rf
end

section
set_option maxRecDepth 100000
set_option maxHeartbeats 4000000
set_option autoImplicit false
namespace Rf
open PySem PySem.Spec PyProof.Rows L2
/-! ## ranks by the law's own elimination -/
def intsD (l : List Int) : D := .lst (l.map .int)
/-- a tuple or a list, by its items -/
structure LD (d : D) (xs : List D) : Prop where
  len : ∀ (S : Sto) (Q : D → Prop), wp (prD S .len [d]) Q ↔ Q (.int (xs.length : Int))
  ix : ∀ (S : Sto) (Q : D → Prop), wp (idxD S d (.int 0)) Q ↔ wp (xs[0]?) Q
  seq : ∀ (S : Sto) (Q : Wk → Prop), wp (seqWk S d) Q ↔ Q ⟨xs, []⟩
theorem LD.tup (xs : List D) : LD (.tup xs) xs := ⟨fun _ _ => vp_lenT, fun _ _ => vi_nat (n := 0), fun _ _ => vw_tup⟩
theorem LD.lst (xs : List D) : LD (.lst xs) xs := ⟨fun _ _ => vp_lenL, fun _ _ => vi_lst (n := 0), fun _ _ => vw_lst⟩
def comF : List Rat → Nat → Nat
  | [], f => f
  | x :: xs, f => comF xs (if f % x.den = 0 then f else f * x.den)
theorem comF_dvd : ∀ (l : List Rat) (f : Nat), f ∣ comF l f ∧ ∀ x ∈ l, x.den ∣ comF l f
  | [], f => ⟨Nat.dvd_refl f, fun x h => nomatch h⟩
  | y :: l, f => by
    obtain ⟨h1, h2⟩ := comF_dvd l (if f % y.den = 0 then f else f * y.den)
    have hf : f ∣ (if f % y.den = 0 then f else f * y.den) := by split; exact Nat.dvd_refl f; exact Nat.dvd_mul_right _ _
    have hy : y.den ∣ (if f % y.den = 0 then f else f * y.den) := by
      split
      · rename_i h; exact Nat.dvd_of_mod_eq_zero h
      · exact Nat.dvd_mul_left _ _
    refine ⟨Nat.dvd_trans hf h1, fun x hx => ?_⟩
    rcases List.mem_cons.mp hx with rfl | hx
    · exact Nat.dvd_trans hy h1
    · exact h2 x hx
theorem comF_pos : ∀ (l : List Rat) (f : Nat), f ≠ 0 → comF l f ≠ 0
  | [], f, h => h
  | y :: l, f, h => by
    refine comF_pos l _ ?_
    split
    · exact h
    · exact Nat.mul_ne_zero h y.den_nz
theorem comF_lt {b : Nat} : ∀ (l : List Rat) (f u : Nat), (∀ x ∈ l, Bt b x) → f < 2 ^ u → comF l f < 2 ^ (u + b * l.length)
  | [], f, u, _, h => by simpa [comF] using h
  | y :: l, f, u, hb, h => by
    have hy := hb y List.mem_cons_self
    have := comF_lt l (if f % y.den = 0 then f else f * y.den) (u + b) (fun x hx => hb x (List.mem_cons_of_mem _ hx)) (by
      split
      · exact lt_pow h (by omega)
      · exact mul_lt h hy.2)
    rw [List.length_cons, Nat.mul_succ]
    exact lt_pow this (by omega)
def wholeF (l : List Rat) : List Int := l.map fun x => x.num * ((comF l 1 / x.den : Nat) : Int)
theorem fdiv_nat {a b : Nat} : (a : Int).fdiv (b : Int) = ((a / b : Nat) : Int) := by
  rw [Int.fdiv_eq_ediv_of_nonneg _ (by omega)]; rfl
theorem pdp_ints {k : Nat} {l : List Int} : pdp (k + 2) (intsD l) = true := by
  show (l.map D.int).all (pdp (k + 1)) = true
  rw [List.all_eq_true]
  intro x hx
  obtain ⟨r, _, rfl⟩ := List.mem_map.mp hx
  rfl
end Rf
end

section
set_option maxRecDepth 100000
set_option maxHeartbeats 4000000
set_option autoImplicit false
namespace Rf
open PySem PySem.Spec PyProof.Rows L2
section
variable {S : Sto} {A A' B B' : List D}
theorem g2_0 : (S ++ [A, B])[S.length]? = some A := by simp
theorem g2_1 : (S ++ [A, B])[S.length + 1]? = some B := by simp
theorem s2_0 : (S ++ [A, B]).set S.length A' = S ++ [A', B] := by
  rw [List.set_append_right _ _ (Nat.le_refl _), Nat.sub_self]; rfl
theorem s2_1 : (S ++ [A, B]).set (S.length + 1) B' = S ++ [A, B'] := by
  rw [List.set_append_right _ _ (by omega), show S.length + 1 - S.length = 1 by omega]; rfl
end
def subF (x y : List Int) (p b : Int) : List Int := (x.zip y).map fun q => q.1 * p - q.2 * b
def elimAt (lead : List Int) (spot : Nat) (rows : List (List Int)) (at_ : Nat) : List (List Int) :=
  if (rows.getD at_ []).getD spot 0 ≠ 0 then rows.set at_ (subF (rows.getD at_ []) lead (lead.getD spot 0) ((rows.getD at_ []).getD spot 0)) else rows
def swapF (rows : List (List Int)) (i j : Nat) : List (List Int) := (rows.set i (rows.getD j [])).set j (rows.getD i [])
def topsF (rows : List (List Int)) (spot done : Nat) : List Nat := (List.range (rows.length - done)).filter fun k => decide ((rows.getD (done + k) []).getD spot 0 ≠ 0)
def elimF (lead : List Int) (spot : Nat) (rows : List (List Int)) (ats : List Nat) : List (List Int) := ats.foldl (elimAt lead spot) rows
def colF (st : List (List Int) × List Nat) (spot : Nat) : List (List Int) × List Nat := match topsF st.1 spot st.2.length with
  | [] => st
  | t :: _ => (elimF ((swapF st.1 st.2.length (st.2.length + t)).getD st.2.length []) spot (swapF st.1 st.2.length (st.2.length + t)) ((List.range (st.1.length - (st.2.length + 1))).map (st.2.length + 1 + ·)), st.2 ++ [spot])
def headsF (rows : List (List Int)) (w : Nat) : List Nat := ((List.range w).foldl colF (rows, [])).2
/-- rows of w ints of less than b bits -/
def RB (w b : Nat) (rows : List (List Int)) : Prop := ∀ r ∈ rows, r.length = w ∧ ∀ i ∈ r, i.natAbs < 2 ^ b
def widthF (m : List (List Rat)) : Nat := match m with
  | [] => 0
  | r :: _ => r.length
theorem subF_b {w b : Nat} {x y : List Int} {p q : Int} (hx : x.length = w ∧ ∀ i ∈ x, i.natAbs < 2 ^ b) (hy : y.length = w ∧ ∀ i ∈ y, i.natAbs < 2 ^ b) (hp : p.natAbs < 2 ^ b) (hq : q.natAbs < 2 ^ b) : (subF x y p q).length = w ∧ ∀ i ∈ subF x y p q, i.natAbs < 2 ^ (2 * b + 1) := by
  unfold subF
  refine ⟨by rw [List.length_map, List.length_zip]; omega, fun i hi => ?_⟩
  obtain ⟨z, hz, rfl⟩ := List.mem_map.mp hi
  have h1 := mul_bits (hx.2 _ (List.of_mem_zip hz).1) hp
  have h2 := mul_bits (hy.2 _ (List.of_mem_zip hz).2) hq
  have h3 := sum_bits h1 (show (-(z.2 * q)).natAbs < 2 ^ (b + b) by rw [Int.natAbs_neg]; exact h2)
  rw [Int.sub_eq_add_neg]
  exact lt_pow h3 (by omega)
theorem vi_intsD {S : Sto} {r : List Int} {n : Nat} {Q : D → Prop} : wp (idxD S (intsD r) (.int (n : Int))) Q ↔ wp (r[n]?) fun i => Q (.int i) := by
  unfold intsD
  rw [vi_lst, List.getElem?_map, wp_map]
theorem vz_intsD {S : Sto} {x y : List Int} {Q : Wk → Prop} : wp (zipWk S (intsD x) (intsD y)) Q ↔ Q ⟨(x.zip y).map fun p => .tup [.int p.1, .int p.2], []⟩ := by
  unfold intsD
  rw [vz_lst, zip_pairs]
theorem rowsGet {rows : List (List Int)} {j : Nat} (h : j < rows.length) : (rows.map intsD)[j]? = some (intsD (rows.getD j [])) := by
  rw [List.getElem?_map, List.getElem?_eq_getElem h, List.getD_eq_getElem?_getD, List.getElem?_eq_getElem h]; rfl
theorem rGet {r : List Int} {j : Nat} (h : j < r.length) : r[j]? = some (r.getD j 0) := by
  rw [List.getD_eq_getElem?_getD, List.getElem?_eq_getElem h]; rfl
theorem RB.get {w b j : Nat} {rows : List (List Int)} (h : RB w b rows) (hj : j < rows.length) : (rows.getD j []).length = w ∧ ∀ i ∈ rows.getD j [], i.natAbs < 2 ^ b := by
  rw [List.getD_eq_getElem?_getD, List.getElem?_eq_getElem hj]
  exact h _ (List.getElem_mem hj)
theorem RB.set {w b j : Nat} {rows : List (List Int)} {r : List Int} (h : RB w b rows) (hr : r.length = w ∧ ∀ i ∈ r, i.natAbs < 2 ^ b) : RB w b (rows.set j r) := fun x hx => by
  rcases List.mem_or_eq_of_mem_set hx with hx | hx
  · exact h x hx
  · rw [hx]; exact hr
theorem RB.up {w b c : Nat} {rows : List (List Int)} (h : RB w b rows) (hc : b ≤ c) : RB w c rows := fun x hx => ⟨(h x hx).1, fun i hi => lt_pow ((h x hx).2 i hi) hc⟩
theorem getB {r : List Int} {b j : Nat} (h : ∀ i ∈ r, i.natAbs < 2 ^ b) : (r.getD j 0).natAbs < 2 ^ b := by
  rw [List.getD_eq_getElem?_getD]
  cases e : r[j]? with
  | none => exact two_pow_pos' b
  | some i => exact h i (List.mem_of_getElem? e)
theorem vc_intc {S : Sto} {i : Int} {is : List Int} {Q : Bool → Prop} : wp (cmpD S .ne (.lst (.int i :: is.map .int)) (.lst [])) Q ↔ Q true := vc_ints (is := i :: is)
theorem vi_lst0 {S : Sto} {d : D} {xs : List D} {Q : D → Prop} : wp (idxD S (.lst (d :: xs)) (.int 0)) Q ↔ Q d := by
  rw [vi_l0, List.getElem?_cons_zero, wp_some]
theorem swap_rb {w b i j : Nat} {rows : List (List Int)} (h : RB w b rows) (hi : i < rows.length) (hj : j < rows.length) : RB w b (swapF rows i j) := by
  unfold swapF
  exact (h.set (h.get hj)).set (h.get hi)
theorem swap_len {i j : Nat} {rows : List (List Int)} : (swapF rows i j).length = rows.length := by
  unfold swapF; rw [List.length_set, List.length_set]
theorem len_elimAt {lead : List Int} {s a : Nat} {rows : List (List Int)} : (elimAt lead s rows a).length = rows.length := by
  unfold elimAt; split
  · rw [List.length_set]
  · rfl
theorem foldl_cols {q : List Nat} {s : Nat} {st : List (List Int) × List Nat} : (s :: q).foldl colF st = q.foldl colF (colF st s) := rfl
theorem wholeF_b {b : Nat} {l : List Rat} (hb : ∀ x ∈ l, Bt b x) : (wholeF l).length = l.length ∧ ∀ i ∈ wholeF l, i.natAbs < 2 ^ (b * (l.length + 1) + 1) := by
  unfold wholeF
  refine ⟨List.length_map _, fun i hi => ?_⟩
  obtain ⟨x, hx, rfl⟩ := List.mem_map.mp hi
  have hc := comF_lt l 1 1 hb (by omega)
  have h2 : (((comF l 1 / x.den : Nat) : Int)).natAbs < 2 ^ (1 + b * l.length) := Nat.lt_of_le_of_lt (Nat.div_le_self _ _) hc
  exact lt_pow (mul_bits (hb x hx).1 h2) (by rw [Nat.mul_succ]; omega)
theorem fin_loc {n : Nat} {S S1 : Sto} {xs : List D} (hp : Pur S) (h1 : S1[n]? = some xs) (h2 : S.length ≤ n) (h3 : S1.take S.length = S) (hx : ∀ x ∈ xs, pdp 19 x = true) : fin false S.length (.loc n) S1 = some (.lst xs, S) := by
  have hl : n < S1.length := (List.getElem?_eq_some_iff.mp h1).1
  unfold fin
  rw [Bool.false_or, if_neg (by simp; omega)]
  have e : frz S1 S.length 20 (.loc n) = some (.lst xs) := by
    rw [frz, if_neg (by omega), h1, Option.bind_some, mapO_id fun x hxx => frz_pdp (hx x hxx)]
    rfl
  rw [e]
  dsimp only
  rw [h3, mapO_id fun ys hy => mapO_id fun x hxx => frz_pdp (hp ys hy x hxx)]
end Rf
end

section
set_option maxRecDepth 100000
set_option maxHeartbeats 4000000
set_option autoImplicit false
namespace Rf
open PySem PySem.Spec PyProof.Rows L2
/-! ## how big fractions become: over one common denominator -/
theorem Gd.pos {L : Nat} [h : Gd L] : L ≠ 0 := by obtain ⟨d, h1, _, rfl⟩ := h.out; omega
theorem Gd.lt {L : Nat} [h : Gd L] : L < 2 ^ 11 := by obtain ⟨d, h1, h2, rfl⟩ := h.out; omega
theorem LLe_pos {L : Nat} [Gd L] (e : Nat) : L ^ e ≠ 0 := by
  have := Nat.pow_pos (n := e) (Nat.pos_of_ne_zero (Gd.pos (L := L))); omega
theorem LLe_lt {L : Nat} [Gd L] : ∀ e : Nat, L ^ e < 2 ^ (11 * e + 1)
  | 0 => by simp
  | e + 1 => by
    rw [Nat.pow_succ]
    have := Nat.mul_lt_mul'' (LLe_lt (L := L) e) (Gd.lt (L := L))
    rw [← Nat.pow_add] at this
    exact lt_pow this (by omega)
/-- a fraction over L ^ e, its top of b bits -/
def Lz (L e b : Nat) (r : Rat) : Prop := ∃ n : Int, n.natAbs < 2 ^ b ∧ r = mkRat n (L ^ e)
theorem lt_zero {L e b : Nat} : Lz L e b 0 := ⟨0, by simpa using two_pow_pos' b, by rw [Rat.zero_mkRat]⟩
theorem Lz.le {L e b c : Nat} {r : Rat} (h : Lz L e b r) (hc : b ≤ c) : Lz L e c r := let ⟨n, h1, h2⟩ := h; ⟨n, lt_pow h1 hc, h2⟩
section
variable {L : Nat} [hL : Gd L]
theorem Lz.up {e b : Nat} {r : Rat} (h : Lz L e b r) : Lz L (e + 1) (b + 11) r := by
  obtain ⟨n, h1, rfl⟩ := h
  refine ⟨n * (L : Int), mul_bits h1 (show ((L : Nat) : Int).natAbs < 2 ^ 11 by rw [Int.natAbs_natCast]; exact Gd.lt), ?_⟩
  rw [Rat.mkRat_eq_iff (LLe_pos e) (LLe_pos (e + 1)), Nat.pow_succ]
  simp only [Int.natCast_mul, Int.mul_assoc, Int.mul_comm, Int.mul_left_comm]
theorem Lz.ups {e b : Nat} {r : Rat} (h : Lz L e b r) : ∀ k : Nat, Lz L (e + k) (b + 11 * k) r
  | 0 => h
  | k + 1 => by
    have := (Lz.ups h k).up
    rw [Nat.mul_succ, ← Nat.add_assoc b]
    exact this
theorem Lz.add {e b : Nat} {r s : Rat} (h : Lz L e b r) (h' : Lz L e b s) : Lz L e (b + 1) (r + s) := by
  obtain ⟨n, h1, rfl⟩ := h
  obtain ⟨m, h2, rfl⟩ := h'
  refine ⟨n + m, ?_, ?_⟩
  · have := sum_bits h1 h2
    rwa [Nat.max_self] at this
  · rw [Rat.mkRat_add_mkRat _ _ (LLe_pos e) (LLe_pos e), Rat.mkRat_eq_iff (Nat.mul_ne_zero (LLe_pos e) (LLe_pos e)) (LLe_pos e)]
    simp only [Int.natCast_mul, Int.add_mul, Int.mul_assoc]
theorem Lz.mul {e b f c : Nat} {r s : Rat} (h : Lz L e b r) (h' : Lz L f c s) : Lz L (e + f) (b + c) (r * s) := by
  obtain ⟨n, h1, rfl⟩ := h
  obtain ⟨m, h2, rfl⟩ := h'
  exact ⟨n * m, mul_bits h1 h2, by rw [Rat.mkRat_mul_mkRat, Nat.pow_add]⟩
theorem Lz.bt {e b c : Nat} {r : Rat} (h : Lz L e b r) (h1 : b ≤ c) (h2 : 11 * e + 1 ≤ c) : Bt c r := by
  obtain ⟨n, h3, rfl⟩ := h
  refine ⟨?_, ?_⟩
  · rw [Rat.num_mkRat, if_neg (LLe_pos e)]
    exact lt_pow (Nat.lt_of_le_of_lt (Int.natAbs_ediv_le_natAbs _ _) h3) h1
  · rw [Rat.den_mkRat, if_neg (LLe_pos e)]
    exact lt_pow (Nat.lt_of_le_of_lt (Nat.div_le_self _ _) (LLe_lt e)) h2
theorem Dr.lt {r : Rat} (h : Dr L r) : Lz L 1 32 r := by
  obtain ⟨hd, _, h2⟩ := h
  obtain ⟨c, hc⟩ := hd
  have hcl : c ≤ L := Nat.le_of_dvd (Nat.pos_of_ne_zero Gd.pos) ⟨r.den, by rw [hc, Nat.mul_comm]⟩
  refine ⟨r.num * (c : Int), mul_bits (i := 21) (j := 11) (by omega) (show ((c : Nat) : Int).natAbs < 2 ^ 11 from Nat.lt_of_le_of_lt hcl Gd.lt), ?_⟩
  have e : r = mkRat r.num r.den := (Rat.mkRat_self r).symm
  rw [e]
  simp only [Rat.mkRat_self]
  rw [show mkRat (r.num * (c : Int)) (L ^ 1) = mkRat r.num r.den from ?_, Rat.mkRat_self]
  rw [Rat.mkRat_eq_iff (LLe_pos 1) r.den_nz, Nat.pow_one]
  have hc' : (L : Int) = (r.den : Int) * (c : Int) := by rw [hc]; simp
  rw [hc', Int.mul_assoc, Int.mul_comm (c : Int)]
end
theorem Dr.bt {L : Nat} {r : Rat} (h : Dr L r) : Bt 21 r := ⟨by have := h.2.2; omega, by have := h.2.1; omega⟩
/-! ### sums -/
theorem sumF_add : ∀ (l : List Rat) (s : Rat), sumF l s = s + sumF l 0
  | [], s => by show s = s + 0; grind
  | x :: l, s => by
    show sumF l (s + x) = s + sumF l (0 + x)
    rw [sumF_add l (s + x), sumF_add l (0 + x)]
    grind
theorem sumF_cons {x : Rat} {l : List Rat} : sumF (x :: l) 0 = x + sumF l 0 := by
  show sumF l (0 + x) = _
  rw [sumF_add l (0 + x)]; grind
theorem sums_lt {L e b : Nat} [Gd L] : ∀ (l : List Rat) (s : Rat) (c : Nat), (∀ x ∈ l, Lz L e b x) → Lz L e c s → b ≤ c → c + l.length ≤ 4000 → 11 * e + 1 ≤ 4000 → Sums 4000 l s ∧ Lz L e (c + l.length) (sumF l s)
  | [], s, c, _, hs, _, _, _ => ⟨trivial, hs⟩
  | x :: l, s, c, hl, hs, hb, hc, he => by
    rw [List.length_cons] at hc ⊢
    have hx := hl x List.mem_cons_self
    have := sums_lt l (s + x) (c + 1) (fun y hy => hl y (List.mem_cons_of_mem _ hy)) (hs.add (hx.le hb)) (by omega) (by omega) he
    exact ⟨⟨hs.bt (by omega) he, hx.bt (by omega) he, this.1⟩, by rw [show c + (l.length + 1) = c + 1 + l.length by omega]; exact this.2⟩
theorem dot_lt {L e b f c : Nat} [Gd L] {x y : List Rat} (hx : ∀ r ∈ x, Lz L e b r) (hy : ∀ r ∈ y, Lz L f c r) (hl : x.length ≤ 100) (h1 : b + c + 101 ≤ 4000) (h2 : 11 * (e + f) + 1 ≤ 4000) : Dots x y ∧ Lz L (e + f) (b + c + x.length) (dotF x y) := by
  have hz : (dotL x y).length ≤ x.length := by unfold dotL; rw [List.length_map, List.length_zip]; omega
  have := sums_lt (e := e + f) (b := b + c) (dotL x y) 0 (b + c) (fun r hr => by
    obtain ⟨p, hp, rfl⟩ := List.mem_map.mp hr
    exact (hx _ (List.of_mem_zip hp).1).mul (hy _ (List.of_mem_zip hp).2)) lt_zero (Nat.le_refl _) (by omega) h2
  exact ⟨⟨fun r hr => (hx r hr).bt (by omega) (by omega), fun r hr => (hy r hr).bt (by omega) (by omega), this.1, by omega⟩, this.2.le (by omega)⟩
end Rf
end

section
set_option maxRecDepth 100000
set_option maxHeartbeats 4000000
set_option autoImplicit false
namespace Rf
open PySem PySem.Spec PyProof.Rows L2
/-! ## carriers whose numbers are drawn ones -/
structure Tri.dr (L : Nat) (t : Tri) : Prop where
  out : ∀ x ∈ t.out, Dr L x
  lines : ∀ l ∈ t.lines, ∀ x ∈ l, Dr L x
  side : ∀ x ∈ t.side, Dr L x
  l1 : t.out.length ≤ 6
  l2 : t.lines.length ≤ 6
  l3 : t.side.length ≤ 6
  l4 : ∀ l ∈ t.lines, l.length ≤ 6
/-- bits behind t places -/
def sb (t : Nat) : Nat := 40 * (t + 1)
def StB (L t : Nat) (st : List Rat) : Prop := (∀ x ∈ st, Lz L (t + 1) (sb t) x) ∧ st.length ≤ 6
section
variable {L : Nat} [Gd L]
theorem StB.bt {t : Nat} {st : List Rat} (h : StB L t st) : ∀ x ∈ st, Bt (sb t) x := fun x hx => (h.1 x hx).bt (Nat.le_refl _) (by unfold sb; omega)
theorem dots_of {t : Nat} {l st : List Rat} (ht : t ≤ 8) (hl : ∀ x ∈ l, Dr L x) (hl2 : l.length ≤ 6) (hs : StB L t st) : Dots l st ∧ Lz L (t + 2) (sb t + 38) (dotF l st) := by
  have := dot_lt (fun x hx => (hl x hx).lt) hs.1 (by omega) (by unfold sb; omega) (by omega)
  refine ⟨this.1, ?_⟩
  have h2 := this.2.le (show _ ≤ sb t + 38 by omega)
  rw [show 1 + (t + 1) = t + 2 by omega] at h2
  exact h2
theorem go_of {t : Nat} {p : Tri} {st : List Rat} {x : Rat} (ht : t ≤ 8) (hp : p.dr L) (hx : Dr L x) (hs : StB L t st) : StB L (t + 1) (goF p st x) ∧ (∀ y ∈ p.lines.map fun l => dotF l st, Bt 4000 y) ∧ ∀ y ∈ p.side.map fun y => y * x, Bt 4000 y := by
  have h1 : ∀ y ∈ p.lines.map fun l => dotF l st, Lz L (t + 2) (sb t + 38) y := fun y hy => by
    obtain ⟨l, hl, rfl⟩ := List.mem_map.mp hy
    exact (dots_of ht (hp.lines l hl) (hp.l4 l hl) hs).2
  have h2 : ∀ y ∈ p.side.map fun y => y * x, Lz L (t + 2) (sb t + 38) y := fun y hy => by
    obtain ⟨z, hz, rfl⟩ := List.mem_map.mp hy
    have := ((hp.side z hz).lt.mul hx.lt).ups t
    rw [show 1 + 1 + t = t + 2 by omega] at this
    exact this.le (by unfold sb; omega)
  refine ⟨⟨fun y hy => ?_, ?_⟩, fun y hy => (h1 y hy).bt (by unfold sb; omega) (by omega), fun y hy => (h2 y hy).bt (by unfold sb; omega) (by omega)⟩
  · unfold goF at hy
    obtain ⟨q, hq, rfl⟩ := List.mem_map.mp hy
    have := (h1 _ (List.of_mem_zip hq).1).add (h2 _ (List.of_mem_zip hq).2)
    exact this.le (by unfold sb; omega)
  · unfold goF
    rw [List.length_map, List.length_zip, List.length_map, List.length_map]
    have := hp.l2
    omega
theorem carS_of : ∀ (q : List (Tri × Rat)) (st : List Rat) (t : Nat), (∀ p ∈ q, p.1.dr L ∧ Dr L p.2) → StB L t st → t + q.length ≤ 8 → CarS q st
  | [], _, _, _, _, _ => trivial
  | p :: q, st, t, hq, hs, ht => by
    rw [List.length_cons] at ht
    obtain ⟨d1, d2⟩ := hq p List.mem_cons_self
    obtain ⟨g1, g2, g3⟩ := go_of (by omega) d1 d2 hs
    exact ⟨(dots_of (by omega) d1.out d1.l1 hs).1, fun l hl => (dots_of (by omega) (d1.lines l hl) (d1.l4 l hl) hs).1, by have := d1.l2; omega, fun y hy => (d1.side y hy).lt.bt (by omega) (by omega), by have := d1.l3; omega, d2.lt.bt (by omega) (by omega), g2, g3,
      carS_of q _ (t + 1) (fun z hz => hq z (List.mem_cons_of_mem _ hz)) g1 (by omega)⟩
theorem stB_nil {t : Nat} : StB L t [] := ⟨(fun x hx => by cases hx), Nat.zero_le _⟩
theorem dr_unit {n i : Nat} : ∀ x ∈ unitF n i, Dr L x := fun x hx => by
  obtain ⟨j, _, rfl⟩ := List.mem_map.mp hx
  by_cases h : j = i
  · rw [if_pos h]; exact ⟨Nat.one_dvd _, by decide, by decide⟩
  · rw [if_neg h]; exact ⟨Nat.one_dvd _, by decide, by decide⟩
end
/-- a drawn carrier -/
structure CarD (L : Nat) (c : List Tri) : Prop where
  gd : Gd L
  fits : Fits c 0
  n1 : 1 ≤ c.length
  n6 : c.length ≤ 6
  dr : ∀ t ∈ c, t.dr L
theorem CarD.s {L : Nat} {c : List Tri} (h : CarD L c) {l : List Rat} (hl : ∀ x ∈ l, Dr L x) : CarS (c.zip l) [] :=
  haveI := h.gd
  carS_of (L := L) _ _ 0 (fun p hp => ⟨h.dr _ (List.of_mem_zip hp).1, hl _ (List.of_mem_zip hp).2⟩) stB_nil (by rw [List.length_zip]; have := h.n6; omega)
/-! ## the law's own walk -/
theorem dotB_of {L t : Nat} [Gd L] {l st : List Rat} (ht : t ≤ 5) (hl : ∀ x ∈ l, Dr L x) (hl2 : l.length ≤ 6) (hs : StB L t st) : DotB 21 (sb t) (l.zip st) := by
  have hz : (l.zip st).length ≤ 6 := by rw [List.length_zip]; omega
  refine ⟨fun p hp => ⟨(hl _ (List.of_mem_zip hp).1).bt, hs.bt _ (List.of_mem_zip hp).2⟩, ?_, by omega⟩
  have : (21 + sb t) * (l.zip st).length ≤ (21 + sb t) * 6 := Nat.mul_le_mul_left _ hz
  unfold sb at this ⊢
  omega
end Rf
end

section
set_option maxRecDepth 100000
set_option maxHeartbeats 4000000
set_option autoImplicit false
namespace Rf
open PySem PySem.Spec PyProof.Rows L2
def cat (c : List Tri) (i : Nat) : Tri := c.getD i ⟨[], [], []⟩
theorem cat_get {c : List Tri} {i : Nat} (h : i < c.length) : (c.map Tri.d)[i]? = some (cat c i).d := by
  rw [List.getElem?_map, List.getElem?_eq_getElem h]
  unfold cat
  rw [List.getD_eq_getElem?_getD, List.getElem?_eq_getElem h]
  rfl
theorem cat_mem {c : List Tri} {i : Nat} (h : i < c.length) : cat c i ∈ c := by
  unfold cat
  rw [List.getD_eq_getElem?_getD, List.getElem?_eq_getElem h]
  exact List.getElem_mem h
def ledN (c : List Tri) (i : Nat) : Nat → List Rat
  | 0 => (cat c i).side
  | n + 1 => (cat c (i + 1 + n)).lines.map fun r => dotF r (ledN c i n)
section
variable {L : Nat} [Gd L]
theorem StB.side {t : Tri} (h : t.dr L) : StB L 0 t.side := ⟨fun x hx => (h.side x hx).lt.le (by unfold sb; omega), h.l3⟩
theorem StB.next {t : Tri} {n : Nat} {st : List Rat} (hn : n ≤ 8) (h : t.dr L) (hs : StB L n st) : StB L (n + 1) (t.lines.map fun r => dotF r st) := ⟨fun y hy => by
    obtain ⟨l, hl, rfl⟩ := List.mem_map.mp hy
    exact (dots_of hn (h.lines l hl) (h.l4 l hl) hs).2.le (by unfold sb; omega), by rw [List.length_map]; exact h.l2⟩
theorem led_st {c : List Tri} {i : Nat} (hc : c.length ≤ 6) (hd : ∀ t ∈ c, t.dr L) : ∀ n : Nat, i + n < c.length → StB L n (ledN c i n)
  | 0, h => .side (hd _ (cat_mem (by omega)))
  | n + 1, h => .next (by omega) (hd _ (cat_mem (by omega))) (led_st hc hd n (by omega))
end
def belRow (c : List Tri) (i : Nat) : List Rat := ((List.range i).map fun j => dotF (cat c i).out (ledN c j (i - (j + 1)))) ++ List.replicate (c.length - i) 0
def belF (c : List Tri) : List (List Rat) := (List.range c.length).map (belRow c)
theorem flat_one {α : Type} (a : α) : ∀ n : Nat, (List.replicate n [a]).flatten = List.replicate n a
  | 0 => rfl
  | n + 1 => by rw [List.replicate_succ, List.flatten_cons, flat_one a n]; rfl
end Rf
end

section
set_option maxRecDepth 100000
set_option maxHeartbeats 4000000
set_option autoImplicit false
namespace Rf
open PySem PySem.Spec PyProof.Rows L2
/-! ## drawn carriers -/
def nats (ns : List Nat) : List D := ns.map fun n : Nat => D.int (n : Int)
theorem pdp_tri {t : Tri} {k : Nat} : pdp (k + 5) t.d = true := by
  show [row t.out, mat t.lines, row t.side].all (pdp (k + 4)) = true
  simp only [List.all_cons, List.all_nil, Bool.and_true, pdp_mat (k := k), pdp_row (k := k + 1)]
theorem pdp_car {c : List Tri} {k : Nat} : pdp (k + 6) (car c) = true := by
  show (c.map Tri.d).all (pdp (k + 5)) = true
  rw [List.all_eq_true]
  intro x hx
  obtain ⟨t, _, rfl⟩ := List.mem_map.mp hx
  exact pdp_tri
theorem pdp_nats {ns : List Nat} : ∀ x ∈ nats ns, pdp 20 x = true := fun x hx => by
  obtain ⟨t, _, rfl⟩ := List.mem_map.mp hx
  rfl
/-- a place with these sizes before and behind it -/
def Tri.at_ (t : Tri) (a b : Nat) : Prop := t.out.length = a ∧ t.lines.length = b ∧ (∀ l ∈ t.lines, l.length = a) ∧ t.side.length = b
def Spans : List Tri → List Nat → Prop
  | [], _ => True
  | t :: ts, a :: b :: r => t.at_ a b ∧ Spans ts (b :: r)
  | _ :: _, _ => False
theorem Tri.dr.up {L L' : Nat} {t : Tri} (h : t.dr L) (hL : L ∣ L') : t.dr L' := ⟨drs h.out hL, fun l hl => drs (h.lines l hl) hL, drs h.side hL, h.l1, h.l2, h.l3, h.l4⟩
theorem tri_dr {L : Nat} {t : Tri} {a b : Nat} (h : t.at_ a b) (ha : a ≤ 6) (hb : b ≤ 6) (h1 : ∀ x ∈ t.out, Dr L x) (h2 : ∀ l ∈ t.lines, ∀ x ∈ l, Dr L x) (h3 : ∀ x ∈ t.side, Dr L x) : t.dr L :=
  ⟨h1, h2, h3, by rw [h.1]; exact ha, by rw [h.2.1]; exact hb, by rw [h.2.2.2]; exact hb, fun l hl => by rw [h.2.2.1 l hl]; exact ha⟩
theorem vl_tail {S : Sto} {xs : List D} {Q : D → Prop} : wp (slD S (.lst xs) (some 1) none) Q ↔ Q (.lst xs.tail) := by
  have e : cutD xs (some 1) none = xs.tail := by
    unfold cutD
    have h1 : HT.sIx xs.length 0 (some 1) = min 1 xs.length := HT.sIx_nat _ _ 1
    have h2 : HT.sIx xs.length xs.length none = xs.length := HT.sIx_none _ _
    rw [h1, h2]
    cases xs with
    | nil => rfl
    | cons x xs =>
      rw [show min 1 (x :: xs).length = 1 by rw [List.length_cons]; omega, List.drop_one, List.tail_cons]
      exact List.take_of_length_le (by rw [List.length_cons]; omega)
  show wp ((lstOf S (.lst xs)).map fun xs => D.lst (cutD xs (some 1) none)) Q ↔ _
  rw [wp_map]
  show wp (some xs) _ ↔ _
  rw [wp_some, e]
theorem zip_nats (a b : List Nat) : ((nats a).zip (nats b)).map (fun p => D.tup [p.1, p.2]) = (a.zip b).map fun p => D.tup [.int (p.1 : Int), .int (p.2 : Int)] := zip_pairs _ _ a b
theorem dr_01 {L : Nat} (b : Prop) [Decidable b] : Dr L (if b then 1 else 0) := by
  by_cases h : b
  · rw [if_pos h]; exact ⟨Nat.one_dvd _, by decide, by decide⟩
  · rw [if_neg h]; exact ⟨Nat.one_dvd _, by decide, by decide⟩
end Rf
end

section
set_option maxRecDepth 100000
set_option maxHeartbeats 4000000
set_option autoImplicit false
namespace Rf
open PySem PySem.Spec PyProof.Rows L2
theorem fr_one : D.tup [.int 1, .int 1] = fr 1 := rfl
theorem fr_zero : D.tup [.int 0, .int 1] = fr 0 := rfl
theorem fr_b01 (b : Bool) : D.tup [.int (if b = true then 1 else 0), .int 1] = fr (if b = true then 1 else 0) := by cases b <;> rfl
theorem row_app (l : List Rat) (x : Rat) : D.tup (l.map fr ++ [fr x]) = row (l ++ [x]) := by unfold row; rw [List.map_append]; rfl
theorem row_zeros (n : Nat) (x : Rat) : D.tup (List.replicate n (fr 0) ++ [fr x]) = row (List.replicate n 0 ++ [x]) := by unfold row; rw [List.map_append, List.map_replicate]; rfl
def unitM (n m : Nat) : List (List Rat) := (List.range n).map fun i => (List.range m).map fun j => if i = j then 1 else 0
theorem bits_fit {w : Nat} (h : w ≤ 7) : (21 * (w + 2) + 2) * 2 ^ w ≤ 100000 := by
  match w, h with
  | 0, _ | 1, _ | 2, _ | 3, _ | 4, _ | 5, _ | 6, _ | 7, _ => decide
end Rf
end

section
set_option maxRecDepth 100000
set_option maxHeartbeats 4000000
set_option autoImplicit false
namespace Rf
open PySem PySem.Spec PyProof.Rows L2
section
variable {S : Sto} {n : Nat} {w w' A B A' B' : List D}
theorem h2_n (hn : n < S.length) : (S.set n w ++ [A, B])[n]? = some w := by
  rw [List.getElem?_append_left (by rw [List.length_set]; exact hn)]
  exact List.getElem?_set_self hn
theorem h2_0 : (S.set n w ++ [A, B])[S.length]? = some A := by
  have := g2_0 (S := S.set n w) (A := A) (B := B)
  rwa [List.length_set] at this
theorem h2_1 : (S.set n w ++ [A, B])[S.length + 1]? = some B := by
  have := g2_1 (S := S.set n w) (A := A) (B := B)
  rwa [List.length_set] at this
theorem t2_n (hn : n < S.length) : (S.set n w ++ [A, B]).set n w' = S.set n w' ++ [A, B] := by
  rw [List.set_append_left _ _ (by rw [List.length_set]; exact hn), List.set_set]
theorem t2_0 : (S.set n w ++ [A, B]).set S.length A' = S.set n w ++ [A', B] := by
  have := s2_0 (S := S.set n w) (A := A) (B := B) (A' := A')
  rwa [List.length_set] at this
theorem t2_1 : (S.set n w ++ [A, B]).set (S.length + 1) B' = S.set n w ++ [A, B'] := by
  have := s2_1 (S := S.set n w) (A := A) (B := B) (B' := B')
  rwa [List.length_set] at this
theorem fin_set2 {t L : Nat} {d : D} {Q : D × Sto → Prop} (hp : Pur S) (hw : Well t L w) (hd : pdp 20 d = true) : wp (fin false S.length d (S.set n w ++ [A, B])) Q ↔ Q (d, S.set n w) := by
  rw [fin_pur (S0 := S.set n w) List.length_set (pur_set hp hw) hd (by
    have e : S.length = (S.set n w).length := List.length_set.symm
    rw [e, List.take_left']
    rfl), wp_some]
theorem pur2 {t L : Nat} (hp : Pur S) (hw : Well t L w) (hA : ∀ x ∈ A, pdp 20 x = true) (hB : ∀ x ∈ B, pdp 20 x = true) : Pur (S.set n w ++ [A, B]) := by
  have e : S.set n w ++ [A, B] = (S.set n w ++ [A]) ++ [B] := by simp
  rw [e]
  exact ((pur_set hp hw).app hA).app hB
end
theorem vi_lastM {S : Sto} {m : Nat} {xs : List D} {x : D} {Q : D → Prop} (h : S[m]? = some (xs ++ [x])) : wp (idxD S (.loc m) (.int (-1))) Q ↔ Q x := by
  have e : atI (xs ++ [x]) (-1) = some x := by
    unfold atI ixN
    rw [if_neg (by omega), if_pos (by rw [List.length_append]; simp; omega), Option.bind_some]
    rw [show ((-1 : Int) + ((xs ++ [x]).length : Int)).toNat = xs.length by rw [List.length_append, List.length_cons, List.length_nil]; omega]
    simp
  show wp ((S[m]?).bind fun xs => atI xs (-1)) Q ↔ _
  rw [h, Option.bind_some, e, wp_some]
theorem vl_tailM {S : Sto} {m : Nat} {xs : List D} {Q : D → Prop} (h : S[m]? = some xs) : wp (slD S (.loc m) (some 1) none) Q ↔ Q (.lst xs.tail) := by
  have e := vl_tail (S := S) (xs := xs) (Q := Q)
  rw [← e]
  show wp ((S[m]?).map fun xs => D.lst (cutD xs (some 1) none)) Q ↔ wp ((some xs).map fun xs => D.lst (cutD xs (some 1) none)) Q
  rw [h]
/-- neighbours differ by at most 1 -/
def Near : List Nat → Prop
  | a :: b :: r => (a ≤ b + 1 ∧ b ≤ a + 1) ∧ Near (b :: r)
  | _ => True
theorem near_snoc {v x : Nat} (h : v ≤ x + 1 ∧ x ≤ v + 1) : ∀ ns : List Nat, Near (ns ++ [v]) → Near (ns ++ [v] ++ [x])
  | [], _ => ⟨h, trivial⟩
  | [a], hn => ⟨hn.1, h, trivial⟩
  | a :: b :: r, hn => ⟨hn.1, near_snoc h (b :: r) hn.2⟩
theorem nats_snoc (ns : List Nat) (v : Nat) : nats ns ++ [D.int (v : Int)] = nats (ns ++ [v]) := by unfold nats; rw [List.map_append]; rfl
theorem pair_head {a : Nat} {q : List Nat} (hn : Near (a :: q ++ [0])) (h3 : ∀ b ∈ a :: q, b ≤ 3) : ∃ x : Nat, ((a :: q).zip ((a :: q).tail ++ [0])) = (a, x) :: q.zip (q.tail ++ [0]) ∧ (a ≤ x + 1 ∧ x ≤ a + 1) ∧ x ≤ 3 ∧ Near (q ++ [0]) ∧ ∀ p c, Tri.at_ p a x → Spans c (q ++ [0]) → Spans (p :: c) (a :: q ++ [0]) := by
  cases q with
  | nil => exact ⟨0, rfl, hn.1, by omega, trivial, fun p c h1 h2 => ⟨h1, h2⟩⟩
  | cons b q => exact ⟨b, rfl, hn.1, h3 b (List.mem_cons_of_mem _ List.mem_cons_self), hn.2, fun p c h1 h2 => ⟨h1, h2⟩⟩
end Rf
end

section
set_option maxRecDepth 100000
set_option maxHeartbeats 4000000
set_option autoImplicit false
namespace Rf
open PySem PySem.Spec PyProof.Rows L2
/-- places in a row, from the size a to the size z, all behind a up to b -/
def Ch (b : Nat) : List Tri → Nat → Nat → Prop
  | [], a, z => a = z
  | t :: ts, a, z => ∃ m, t.at_ a m ∧ m ≤ b ∧ Ch b ts m z
theorem Ch.app {b : Nat} : ∀ {c d : List Tri} {a z : Nat}, Ch b (c ++ d) a z ↔ ∃ m, Ch b c a m ∧ Ch b d m z
  | [], d, a, z => ⟨fun h => ⟨a, rfl, h⟩, fun ⟨m, h1, h2⟩ => by cases (show a = m from h1); exact h2⟩
  | t :: c, d, a, z => ⟨fun ⟨m, h1, h2, h3⟩ => let ⟨m2, q1, q2⟩ := Ch.app.mp h3; ⟨m2, ⟨m, h1, h2, q1⟩, q2⟩, fun ⟨m2, ⟨m, h1, h2, q1⟩, q2⟩ => ⟨m, h1, h2, Ch.app.mpr ⟨m2, q1, q2⟩⟩⟩
theorem Ch.up {b b' : Nat} (hb : b ≤ b') : ∀ {c : List Tri} {a z : Nat}, Ch b c a z → Ch b' c a z
  | [], _, _, h => h
  | _ :: _, _, _, ⟨m, h1, h2, h3⟩ => ⟨m, h1, by omega, h3.up hb⟩
theorem ch_spans {b : Nat} : ∀ {c : List Tri} {a z : Nat} {ns : List Nat}, Spans c (a :: ns ++ [z]) → c.length = ns.length + 1 → (∀ n ∈ ns, n ≤ b) → z ≤ b → Ch b c a z
  | [], a, z, ns, _, hl, _, _ => by simp at hl
  | [t], a, z, [], h, _, _, hz => ⟨z, h.1, hz, rfl⟩
  | t :: u :: c, a, z, [], h, hl, _, _ => by simp at hl
  | [t], a, z, n :: ns, h, hl, _, _ => by simp at hl
  | t :: u :: c, a, z, n :: ns, h, hl, hb, hz => ⟨n, h.1, hb n List.mem_cons_self, ch_spans (c := u :: c) h.2 (by simpa using hl) (fun x hx => hb x (List.mem_cons_of_mem _ hx)) hz⟩
theorem ch_end {b : Nat} : ∀ {c : List Tri} {a z : Nat}, Ch b c a z → a ≤ b → z ≤ b
  | [], a, z, h, ha => by cases (show a = z from h); exact ha
  | _ :: _, _, _, ⟨_, _, h2, h3⟩, _ => ch_end h3 h2
/-- drawn numbers alone -/
def Tri.en (L : Nat) (t : Tri) : Prop := (∀ x ∈ t.out, Dr L x) ∧ (∀ l ∈ t.lines, ∀ x ∈ l, Dr L x) ∧ ∀ x ∈ t.side, Dr L x
theorem Tri.en.up {L L' : Nat} {t : Tri} (h : t.en L) (hL : L ∣ L') : t.en L' := ⟨drs h.1 hL, fun l hl => drs (h.2.1 l hl) hL, drs h.2.2 hL⟩
theorem Tri.dr.en {L : Nat} {t : Tri} (h : t.dr L) : t.en L := ⟨h.out, h.lines, h.side⟩
theorem ch_dr {b L : Nat} (hb : b ≤ 6) : ∀ {c : List Tri} {a z : Nat}, Ch b c a z → a ≤ 6 → (∀ t ∈ c, t.en L) → ∀ t ∈ c, t.dr L
  | [], _, _, _, _, _ => fun t ht => by cases ht
  | t :: c, a, z, ⟨m, h1, h2, h3⟩, ha, he => fun u hu => by
    rcases List.mem_cons.mp hu with rfl | hu
    · obtain ⟨e1, e2, e3⟩ := he u List.mem_cons_self
      exact tri_dr h1 ha (by omega) e1 e2 e3
    · exact ch_dr hb h3 (by omega) (fun x hx => he x (List.mem_cons_of_mem _ hx)) u hu
theorem ch_fits {b : Nat} (hb : b ≤ 6) : ∀ {c : List Tri} {a : Nat}, Ch b c a 0 → Fits c a
  | [], a, h => h
  | t :: c, a, ⟨m, h1, h2, h3⟩ => by
    have hs : t.side.length = m := h1.2.2.2
    refine ⟨⟨h1.1, by rw [h1.2.1, hs], h1.2.2.1, by omega⟩, ?_⟩
    rw [hs]
    exact ch_fits hb h3
/-- a carrier with sizes up to b -/
def CarG (L b : Nat) (c : List Tri) : Prop := Ch b c 0 0 ∧ (∀ t ∈ c, t.en L) ∧ 1 ≤ c.length ∧ c.length ≤ 6 ∧ Gd L
theorem CarG.d {L b : Nat} {c : List Tri} (h : CarG L b c) (hb : b ≤ 6) : CarD L c := ⟨h.2.2.2.2, ch_fits hb h.1, h.2.2.1, h.2.2.2.1, ch_dr hb h.1 (by omega) h.2.1⟩
theorem vp_lenR {S : Sto} {l : List Rat} {Q : D → Prop} : wp (prD S .len [row l]) Q ↔ Q (.int (l.length : Int)) := by
  show wp (some (D.int ((l.map fr).length : Int))) Q ↔ _
  rw [wp_some, List.length_map]
theorem row_rep (n : Nat) : D.tup (List.replicate n (fr 0)) = row (List.replicate n 0) := by unfold row; rw [List.map_replicate]
theorem vl_to {S : Sto} {xs : List D} {k : Nat} {Q : D → Prop} : wp (slD S (.tup xs) none (some (k : Int))) Q ↔ Q (.tup (xs.take k)) := by
  have e : cutD xs none (some (k : Int)) = xs.take k := by
    unfold cutD
    rw [HT.sIx_none, HT.sIx_nat, List.drop_zero, Nat.sub_zero]
    by_cases h : k ≤ xs.length
    · rw [Nat.min_eq_left h]
    · rw [Nat.min_eq_right (by omega), List.take_length, List.take_of_length_le (by omega)]
  show wp (some (D.tup (cutD xs none (some (k : Int))))) Q ↔ _
  rw [wp_some, e]
theorem vl_from {S : Sto} {xs : List D} {k : Nat} {Q : D → Prop} : wp (slD S (.tup xs) (some (k : Int)) none) Q ↔ Q (.tup (xs.drop k)) := by
  have e : cutD xs (some (k : Int)) none = xs.drop k := by
    unfold cutD
    rw [HT.sIx_none, HT.sIx_nat]
    by_cases h : k ≤ xs.length
    · rw [Nat.min_eq_left h]
      exact List.take_of_length_le (by rw [List.length_drop]; omega)
    · rw [Nat.min_eq_right (by omega), List.drop_length, List.drop_of_length_le (by omega), List.take_nil]
  show wp (some (D.tup (cutD xs (some (k : Int)) none))) Q ↔ _
  rw [wp_some, e]
theorem vo_mat1 {S : Sto} {m : List (List Rat)} {r : List Rat} {Q : D → Prop} : wp (opD S .add (mat m) (.tup [row r])) Q ↔ m.length + 1 ≤ many ∧ Q (mat (m ++ [r])) := by
  unfold mat
  rw [vo_cat, List.map_append, List.length_map]
  exact Iff.rfl
theorem vo_row1 {S : Sto} {m : List Rat} {r : Rat} {Q : D → Prop} : wp (opD S .add (row m) (.tup [fr r])) Q ↔ m.length + 1 ≤ many ∧ Q (row (m ++ [r])) := by
  unfold row
  rw [vo_cat, List.map_append, List.length_map]
  exact Iff.rfl
theorem vz_mr {S : Sto} {m : List (List Rat)} {l : List Rat} {Q : Wk → Prop} : wp (zipWk S (mat m) (row l)) Q ↔ Q ⟨(m.zip l).map fun p => .tup [row p.1, fr p.2], []⟩ := by
  unfold mat row
  rw [vz_tup, zip_pairs]
theorem dr_zero {L : Nat} : Dr L 0 := ⟨Nat.one_dvd _, by decide, by decide⟩
theorem dr_rep {L n : Nat} : ∀ x ∈ List.replicate n (0 : Rat), Dr L x := fun x hx => by rw [(List.mem_replicate.mp hx).2]; exact dr_zero
theorem padG {L b a m d : Nat} (hgd : Gd L) {c1 c2 : List Tri} {p q : Tri} {nw en : List Rat} {la ou : Rat} (he : ∀ t ∈ c1 ++ p :: q :: c2, t.en L) (hl : (c1 ++ p :: q :: c2).length ≤ 6) (ch1 : Ch b c1 0 a) (hpa : p.at_ a m) (hm : m ≤ b) (hqa : q.at_ m d) (hd : d ≤ b) (ch2 : Ch b c2 d 0)
    (h1 : nw.length = p.out.length) (h2 : en.length = q.side.length) (d1 : ∀ x ∈ nw, Dr L x) (d2 : Dr L la) (d3 : Dr L ou) (d4 : ∀ x ∈ en, Dr L x) :
    CarG L (b + 1) (c1 ++ ⟨p.out, p.lines ++ [nw], p.side ++ [la]⟩ :: ⟨q.out ++ [ou], (q.lines.zip en).map fun z => z.1 ++ [z.2], q.side⟩ :: c2) := by
  obtain ⟨p1, p2, p3, p4⟩ := hpa
  obtain ⟨q1, q2, q3, q4⟩ := hqa
  have ep := he p (by simp)
  have eq := he q (by simp)
  have snoc : ∀ {l : List Rat} {y : Rat}, (∀ x ∈ l, Dr L x) → Dr L y → ∀ x ∈ l ++ [y], Dr L x := fun h1 h2 x hx => by
    rcases List.mem_append.mp hx with hx | hx
    · exact h1 x hx
    · rw [List.mem_singleton.mp hx]; exact h2
  refine ⟨Ch.app.mpr ⟨a, ch1.up (by omega), m + 1, ⟨p1, by rw [List.length_append, p2]; rfl, fun l hl => ?_, by rw [List.length_append, p4]; rfl⟩, by omega, d, ⟨by rw [List.length_append, q1]; rfl, by rw [List.length_map, List.length_zip]; omega, fun l hl => ?_, q4⟩, by omega, ch2.up (by omega)⟩, fun t ht => ?_, ?_, ?_, hgd⟩
  · rcases List.mem_append.mp hl with hl | hl
    · exact p3 l hl
    · rw [List.mem_singleton.mp hl, h1, p1]
  · obtain ⟨z, hz, rfl⟩ := List.mem_map.mp hl
    rw [List.length_append, q3 _ (List.of_mem_zip hz).1]; rfl
  · rcases List.mem_append.mp ht with ht | ht
    · exact he t (List.mem_append_left _ ht)
    · rcases List.mem_cons.mp ht with rfl | ht
      · refine ⟨ep.1, fun l hl => ?_, snoc ep.2.2 d2⟩
        rcases List.mem_append.mp hl with hl | hl
        · exact ep.2.1 l hl
        · rw [List.mem_singleton.mp hl]; exact d1
      · rcases List.mem_cons.mp ht with rfl | ht
        · refine ⟨snoc eq.1 d3, fun l hl => ?_, eq.2.2⟩
          obtain ⟨z, hz, rfl⟩ := List.mem_map.mp hl
          exact snoc (eq.2.1 _ (List.of_mem_zip hz).1) (d4 _ (List.of_mem_zip hz).2)
        · exact he t (List.mem_append_right _ (List.mem_cons_of_mem _ (List.mem_cons_of_mem _ ht)))
  · simp; omega
  · simp at hl ⊢; omega
end Rf
end

section
set_option maxRecDepth 100000
set_option maxHeartbeats 4000000
set_option autoImplicit false
namespace Rf
open PySem PySem.Spec PyProof.Rows L2
theorem carG_wide {L : Nat} {c : List Tri} {ns : List Nat} {m b : Nat} (hgd : Gd L) (h1 : Spans c (0 :: ns ++ [0])) (hl : c.length = m) (h2 : ns.length + 1 = m) (h3 : ∀ a ∈ ns, a ≤ b) (hd : ∀ p ∈ c, p.dr L) (hm : 1 ≤ m) (hm6 : m ≤ 6) : CarG L b c :=
  ⟨ch_spans h1 (by omega) h3 (by omega), fun t ht => (hd t ht).en, by omega, by omega, hgd⟩
theorem split_at {c : List Tri} {v : Nat} (h : v + 1 < c.length) : ∃ c1 p q c2, c = c1 ++ p :: q :: c2 ∧ c1.length = v := by
  refine ⟨c.take v, c[v]'(by omega), c[v + 1]'h, c.drop (v + 2), ?_, by rw [List.length_take]; omega⟩
  rw [List.getElem_cons_drop, List.getElem_cons_drop, List.take_append_drop]
/-! ## the same -/
def sm : Nat → D → Bool
  | k + 1, .tup xs => decide (xs.length ≤ 1000) && xs.all (sm k)
  | _ + 1, .int _ => true
  | _ + 1, .bl _ => true
  | _ + 1, .non => true
  | _, _ => false
theorem vc_eqB {S : Sto} {a b : Bool} {Q : Bool → Prop} : wp (cmpD S .eq (.bl a) (.bl b)) Q ↔ Q (a == b) := by cases a <;> cases b <;> exact wp_some
theorem lwhole_ok {k : Nat} {i : Int} {S : Sto} : R (k + 1) 41 [.int i] S = some (.bl true, S) := by
  refine R_eq ((R_wp T__law_is_whole rfl).mpr ?_)
  simp_arith only [F._law_is_whole, fin_wp]
theorem zip_self {x y : D} : ∀ {xs : List D}, (x, y) ∈ xs.zip xs → x = y ∧ x ∈ xs
  | [], h => by cases h
  | z :: xs, h => by
    rw [List.zip_cons_cons] at h
    rcases List.mem_cons.mp h with h | h
    · cases h; exact ⟨rfl, List.mem_cons_self⟩
    · obtain ⟨h1, h2⟩ := zip_self h
      exact ⟨h1, List.mem_cons_of_mem _ h2⟩
theorem same_ok {k : Nat} : ∀ {j : Nat} {d : D} {S : Sto}, sm j d = true → R (k + j + 1) 42 [d, d] S = some (.bl true, S)
  | 0, d, S, h => by cases d <;> cases h
  | j + 1, d, S, h => by
    refine R_eq ((R_wp (k := k + j + 1) T__law_same rfl).mpr ?_)
    cases d with
    | tup xs =>
      have h' : (decide (xs.length ≤ 1000) && xs.all (sm j)) = true := h
      rw [Bool.and_eq_true, decide_eq_true_eq, List.all_eq_true] at h'
      have e1 : decide ((xs.length : Int) = (xs.length : Int)) = true := decide_eq_true rfl
      have hz : (xs.zip xs).length ≤ many := by rw [List.length_zip, many_val]; omega
      simp_arith only [F._law_same, e1, List.length_map, hz, true_and]
      refine wc_mapL (fun p : D × D => D.tup [p.1, p.2]) (fun _ => .bl true) still_nil (fun p hp => ?_) ?_
      · obtain ⟨q1, q2⟩ := zip_self (x := p.1) (y := p.2) hp
        have ih := fun S => same_ok (k := k) (j := j) (d := p.1) (S := S) (h'.2 _ q2)
        simp_arith only [← q1, ih]
      · have em : (xs.zip xs).map (fun _ => D.bl true) = ((xs.zip xs).map fun _ => true).map D.bl := by rw [List.map_map]; rfl
        rw [em]
        have ea : (((xs.zip xs).map fun _ => true).all id) = true := by
          rw [List.all_eq_true]
          intro b hb
          obtain ⟨_, _, rfl⟩ := List.mem_map.mp hb
          rfl
        simp_arith only [fin_wp, ea]
    | int i =>
      have e1 : decide (i = i) = true := decide_eq_true rfl
      have e2 : ∀ (S : Sto) (Q : Bool → Prop), wp (cmpD S .isN (.int i) .non) Q ↔ Q false := fun S Q => wp_some
      simp_arith only [F._law_same, fin_wp, e1, e2, lwhole_ok, decide_true]
    | bl b =>
      have e2 : ∀ (S : Sto) (Q : Bool → Prop), wp (cmpD S .isN (.bl b) .non) Q ↔ Q false := fun S Q => wp_some
      simp_arith only [F._law_same, fin_wp, e2, vc_eqB, beq_self_eq_true]
    | non =>
      have e2 : ∀ (S : Sto) (Q : Bool → Prop), wp (cmpD S .isN .non .non) Q ↔ Q true := fun S Q => wp_some
      simp_arith only [F._law_same, fin_wp, e2]
    | _ => cases h
theorem sm_fr {k : Nat} {r : Rat} : sm (k + 2) (fr r) = true := rfl
theorem sm_row {k : Nat} {l : List Rat} (h : l.length ≤ 1000) : sm (k + 3) (row l) = true := by
  show (decide ((l.map fr).length ≤ 1000) && (l.map fr).all (sm (k + 2))) = true
  rw [List.length_map, decide_eq_true h, Bool.true_and, List.all_eq_true]
  intro x hx
  obtain ⟨r, _, rfl⟩ := List.mem_map.mp hx
  rfl
theorem sm_mat {k : Nat} {m : List (List Rat)} (h : m.length ≤ 1000) (h2 : ∀ r ∈ m, r.length ≤ 1000) : sm (k + 4) (mat m) = true := by
  show (decide ((m.map row).length ≤ 1000) && (m.map row).all (sm (k + 3))) = true
  rw [List.length_map, decide_eq_true h, Bool.true_and, List.all_eq_true]
  intro x hx
  obtain ⟨r, hr, rfl⟩ := List.mem_map.mp hx
  exact sm_row (h2 r hr)
/-! ## wells made -/
theorem vl_fro {S : Sto} {xs : List D} {k : Nat} {Q : D → Prop} : wp (slD S (.fro xs) none (some (k : Int))) Q ↔ Q (.lst (xs.take k)) := by
  have e : cutD xs none (some (k : Int)) = xs.take k := by
    unfold cutD
    rw [HT.sIx_none, HT.sIx_nat, List.drop_zero, Nat.sub_zero]
    by_cases h : k ≤ xs.length
    · rw [Nat.min_eq_left h]
    · rw [Nat.min_eq_right (by omega), List.take_length, List.take_of_length_le (by omega)]
  show wp ((lstOf S (.fro xs)).map fun xs => D.lst (cutD xs none (some (k : Int)))) Q ↔ _
  rw [wp_map]
  show wp (some xs) _ ↔ _
  rw [wp_some, e]
theorem vi_fro {S : Sto} {xs : List D} {n : Nat} {Q : D → Prop} : wp (idxD S (.fro xs) (.int (n : Int))) Q ↔ wp (xs[n]?) Q := by
  show wp ((some xs).bind fun xs => atI xs (n : Int)) Q ↔ _
  rw [Option.bind_some, atI_nat]
theorem well_ok {k turn : Nat} {ns : List Int} {S : Sto} {Q : D × Sto → Prop} (htn : turn ≤ 1000) (h : ∀ w, Well 900000000 12 w → Q (.loc S.length, S ++ [w])) : wp (R (k + 1) 487 [.fro (ns.map .int), .int (turn : Int)] S) Q := by
  rw [R_wp T__law_well_v19 rfl]
  have q1 : ∀ i : Int, 0 ≤ i.fmod 2147483563 ∧ i.fmod 2147483563 < 2147483563 := fun i => fmod_b (by omega)
  have q2 : ∀ i : Int, 0 ≤ i.fmod 2147483587 ∧ i.fmod 2147483587 < 2147483587 := fun i => fmod_b (by omega)
  have l1 : (7129 : Int).natAbs.log2 < 13 := by decide
  have l2 : (turn : Int).natAbs.log2 < 30 := log2_i (by omega) (by omega) (by omega)
  have l3 : (47123 : Int).natAbs.log2 < 16 := by decide
  have l4 : (43 : Int).natAbs.log2 < 16 := by decide
  have l5 : (20011 : Int).natAbs.log2 < 16 := by decide
  have lq : ∀ i : Int, (i.fmod 2147483587).natAbs.log2 < 31 := fun i => log2_i (q2 i).1 (by have := (q2 i).2; omega) (by omega)
  have sl : ∀ Q : D → Prop, wp (slD S (.fro (ns.map D.int)) none (some 9)) Q ↔ Q (.lst ((ns.map D.int).take 9)) := fun Q => vl_fro (k := 9)
  simp_arith only [F._law_well_v19, sl]
  refine ⟨by omega, ?_⟩
  rw [← List.map_take]
  refine wf_inv (fun r σ S' => S' = S ∧ ∃ (q : List Int) (m : Int) (o : Option D), r = q.map D.int ∧ σ = [some (.fro (ns.map .int)), some (.int (turn : Int)), some (.int m), o, none] ∧ 0 ≤ m ∧ m < 2147483648)
    ⟨rfl, _, _, none, rfl, rfl, by omega, by omega⟩ ?_ ?_
  · rintro x r σ S' ⟨rfl, q, m, o, e1, rfl, hm1, hm2⟩
    cases q with
    | nil => cases e1
    | cons i q =>
      cases e1
      have l6 : m.natAbs.log2 < 31 := log2_i hm1 (by omega) (by omega)
      simp_arith only [still_nil]
      refine ⟨by omega, by omega, by omega, trivial, trivial, q, _, _, rfl, rfl, (q1 _).1, ?_⟩
      have := (q1 (m * 47123 + i.fmod 2147483587 + 5)).2
      omega
  · rintro σ S' ⟨rfl, q, m, o, e1, rfl, hm1, hm2⟩
    have l6 : m.natAbs.log2 < 31 := log2_i hm1 (by omega) (by omega)
    have fin : ∀ (x : Int) (i : Int), wp (fin true S'.length (.loc S'.length) (S' ++ [[D.int x, D.int (i.fmod 2147483563), D.int 0, D.int 1]])) Q := fun x i => by
      rw [fin_keep, wp_some]
      exact h _ ⟨_, _, _, _, rfl, by omega, by omega, (q1 _).1, (q1 _).2, fun _ => rfl, gd12⟩
    have p14 : (0 : Int) ≤ 14 ∧ (14 : Int) ≤ 1000 ∧ (10 : Int).natAbs < 2 ^ 64 := by decide
    have rest : ∀ own : Int, own.natAbs.log2 < 4000000000 ∨ True := fun _ => .inr trivial
    by_cases ht : turn < ns.length
    · have d1 : decide ((turn : Int) < (ns.length : Int)) = true := by rw [decide_eq_true_eq]; omega
      have ei : (ns.map D.int)[turn]? = some (.int (ns[turn]'ht)) := by rw [List.getElem?_map, List.getElem?_eq_getElem ht]; rfl
      simp_arith only [List.length_map, d1, vi_fro, ei]
      have l7 := lq (ns[turn]'ht)
      refine ⟨by omega, by omega, by omega, by omega, ?_⟩
      by_cases c1 : (ns[turn]'ht) < 0
      · simp_arith only [decide_eq_true c1]
        exact fin _ _
      · simp_arith only [decide_eq_false c1]
        refine ⟨p14, ?_⟩
        by_cases c2 : (10 : Int) ^ Int.toNat 14 ≤ (ns[turn]'ht)
        · simp_arith only [decide_eq_true c2]
          exact fin _ _
        · simp_arith only [decide_eq_false c2]
          exact fin _ _
    · have d1 : decide ((turn : Int) < (ns.length : Int)) = false := by rw [decide_eq_false_iff_not]; omega
      simp_arith only [List.length_map, d1]
      have l7 := lq 0
      refine ⟨by omega, by omega, by omega, by omega, ?_⟩
      have c1 : decide ((0 : Int) < 0) = false := by decide
      simp_arith only [c1]
      refine ⟨p14, ?_⟩
      by_cases c2 : (10 : Int) ^ Int.toNat 14 ≤ 0
      · simp_arith only [decide_eq_true c2]
        exact fin _ _
      · simp_arith only [decide_eq_false c2]
        exact fin _ _
end Rf
end

section
set_option maxRecDepth 100000
set_option maxHeartbeats 4000000
set_option autoImplicit false
namespace Rf
open PySem PySem.Spec PyProof.Rows L2
/-! ## products of lines, in plain numbers -/
theorem dot_nil {b : List Rat} : dotF [] b = 0 := rfl
theorem dot_nil' {a : List Rat} : dotF a [] = 0 := by unfold dotF dotL; rw [List.zip_nil_right]; rfl
theorem dot_cons {x y : Rat} {a b : List Rat} : dotF (x :: a) (y :: b) = x * y + dotF a b := by
  unfold dotF dotL
  rw [List.zip_cons_cons, List.map_cons, sumF_cons]
theorem dot_rep {n : Nat} : ∀ {b : List Rat}, dotF (List.replicate n 0) b = 0 := by
  induction n with
  | zero => intro b; exact dot_nil
  | succ n ih =>
    intro b
    cases b with
    | nil => exact dot_nil'
    | cons y b => rw [List.replicate_succ, dot_cons, ih]; grind
theorem dot_app : ∀ {a b l : List Rat}, dotF (a ++ b) l = dotF a l + dotF b (l.drop a.length)
  | [], b, l => by rw [List.nil_append, dot_nil, List.length_nil, List.drop_zero]; grind
  | x :: a, b, [] => by rw [dot_nil', dot_nil', List.drop_nil, dot_nil']; grind
  | x :: a, b, y :: l => by rw [List.cons_append, dot_cons, dot_cons, dot_app, List.length_cons, List.drop_succ_cons]; grind
theorem dot_lin {v : Rat} : ∀ {r a st : List Rat}, r.length = a.length → dotF ((r.zip a).map fun p => v * p.1 + p.2) st = v * dotF r st + dotF a st
  | [], [], st, _ => by rw [List.zip_nil_left, List.map_nil, dot_nil]; grind
  | [], _ :: _, st, h => by cases h
  | _ :: _, [], st, h => by cases h
  | x :: r, y :: a, [], h => by rw [dot_nil', dot_nil', dot_nil']; grind
  | x :: r, y :: a, s :: st, h => by
    rw [List.zip_cons_cons, List.map_cons, dot_cons, dot_cons, dot_cons, dot_lin (by simpa using h)]
    grind
theorem dot_add {v : List Rat} : ∀ {a b : List Rat}, a.length = b.length → dotF v ((a.zip b).map fun p => p.1 + p.2) = dotF v a + dotF v b := by
  induction v with
  | nil => intro a b _; rw [dot_nil, dot_nil, dot_nil]; grind
  | cons x v ih =>
    intro a b h
    match a, b, h with
    | [], [], _ => rw [List.zip_nil_left, List.map_nil, dot_nil']; grind
    | y :: a, z :: b, h =>
      rw [List.zip_cons_cons, List.map_cons, dot_cons, dot_cons, dot_cons, ih (by simpa using h)]
      grind
theorem dot_scale {x : Rat} {v : List Rat} : ∀ {a : List Rat}, dotF v (a.map fun y => y * x) = dotF v a * x := by
  induction v with
  | nil => intro a; rw [dot_nil, dot_nil]; grind
  | cons z v ih =>
    intro a
    cases a with
    | nil => rw [List.map_nil, dot_nil']; grind
    | cons y a => rw [List.map_cons, dot_cons, dot_cons, ih]; grind
def adj (w : Nat) : List Rat → List (List Rat) → List Rat
  | v :: vs, r :: rs => (r.zip (adj w vs rs)).map fun p => v * p.1 + p.2
  | _, _ => List.replicate w 0
theorem adj_len {w : Nat} : ∀ {v : List Rat} {m : List (List Rat)}, (∀ r ∈ m, r.length = w) → (adj w v m).length = w
  | [], _, _ => by unfold adj; exact List.length_replicate
  | _ :: _, [], _ => by unfold adj; exact List.length_replicate
  | _ :: vs, r :: rs, h => by
    unfold adj
    rw [List.length_map, List.length_zip, adj_len fun x hx => h x (List.mem_cons_of_mem _ hx), h r List.mem_cons_self, Nat.min_self]
theorem dot_adj {w : Nat} {st : List Rat} : ∀ {v : List Rat} {m : List (List Rat)}, (∀ r ∈ m, r.length = w) → dotF v (m.map fun r => dotF r st) = dotF (adj w v m) st
  | [], _, _ => by unfold adj; rw [dot_nil, dot_rep]
  | _ :: _, [], _ => by unfold adj; rw [List.map_nil, dot_nil', dot_rep]
  | v :: vs, r :: rs, h => by
    unfold adj
    have h' := fun x hx => h x (List.mem_cons_of_mem r hx)
    rw [List.map_cons, dot_cons, dot_lin (by rw [adj_len h', h r List.mem_cons_self]), dot_adj h']
def sumR : Nat → (Nat → Rat) → Rat
  | 0, _ => 0
  | i + 1, f => sumR i f + f i
theorem sumR_succ {i : Nat} {f : Nat → Rat} : sumR (i + 1) f = sumR i f + f i := rfl
theorem sumR_congr {f g : Nat → Rat} : ∀ {i : Nat}, (∀ j < i, f j = g j) → sumR i f = sumR i g
  | 0, _ => rfl
  | i + 1, h => by
    rw [sumR_succ, sumR_succ, sumR_congr fun j hj => h j (by omega), h i (by omega)]
theorem sumR_unit {s : Nat} {g : Nat → Rat} : ∀ i : Nat, sumR i (fun k => (if k = s then 1 else 0) * g k) = if s < i then g s else 0
  | 0 => by rw [if_neg (by omega)]; rfl
  | i + 1 => by
    rw [sumR_succ, sumR_unit i]
    by_cases h : i = s
    · subst h
      rw [if_neg (by omega), if_pos rfl, if_pos (by omega)]; grind
    · rw [if_neg h]
      by_cases h2 : s < i
      · rw [if_pos h2, if_pos (by omega)]; grind
      · rw [if_neg h2, if_neg (by omega)]; grind
theorem dot_range {f : Nat → Rat} {l : List Rat} : ∀ i : Nat, dotF ((List.range i).map f) l = sumR i fun j => f j * l.getD j 0
  | 0 => by rw [List.range_zero, List.map_nil, dot_nil]; rfl
  | i + 1 => by
    rw [List.range_succ, List.map_append, dot_app, dot_range i, List.length_map, List.length_range, sumR_succ]
    congr 1
    by_cases h : i < l.length
    · rw [List.drop_eq_getElem_cons h, List.map_cons, List.map_nil, dot_cons, dot_nil, List.getD_eq_getElem?_getD, List.getElem?_eq_getElem h]
      show f i * l[i] + 0 = f i * l[i]
      grind
    · rw [List.drop_of_length_le (by omega), dot_nil', List.getD_eq_getElem?_getD, List.getElem?_eq_none (by omega)]
      show (0 : Rat) = f i * 0
      grind
/-! ## the states, by what comes from each place -/
def stN (c : List Tri) (l : List Rat) : Nat → List Rat
  | 0 => []
  | i + 1 => goF (cat c i) (stN c l i) (l.getD i 0)
def Sh (c : List Tri) : Prop := ∀ t ∈ c, t.lines.length = t.side.length ∧ ∀ r ∈ t.lines, r.length = t.out.length
theorem fits_sh : ∀ {c : List Tri} {n : Nat}, Fits c n → Sh c
  | [], _, _ => fun t ht => by cases ht
  | t :: c, n, ⟨h1, h2⟩ => fun u hu => by
    rcases List.mem_cons.mp hu with rfl | hu
    · exact ⟨h1.2.1, fun r hr => by rw [h1.2.2.1 r hr, h1.1]⟩
    · exact fits_sh h2 u hu
theorem state_lin {c : List Tri} {l : List Rat} (hs : Sh c) : ∀ i : Nat, i ≤ c.length → ∀ v : List Rat, dotF v (stN c l i) = sumR i fun j => l.getD j 0 * dotF v (ledN c j (i - (j + 1)))
  | 0, _, v => dot_nil'
  | i + 1, hi, v => by
    obtain ⟨h1, h2⟩ := hs _ (cat_mem (show i < c.length by omega))
    show dotF v (goF (cat c i) (stN c l i) (l.getD i 0)) = _
    unfold goF
    rw [dot_add (by rw [List.length_map, List.length_map, h1]), dot_scale, dot_adj h2, state_lin hs i (by omega), sumR_succ]
    congr 1
    · refine sumR_congr fun j hj => ?_
      have e : i + 1 - (j + 1) = (i - (j + 1)) + 1 := by omega
      rw [e]
      show _ = l.getD j 0 * dotF v ((cat c (j + 1 + (i - (j + 1)))).lines.map fun r => dotF r (ledN c j (i - (j + 1))))
      rw [show j + 1 + (i - (j + 1)) = i by omega, dot_adj h2]
    · rw [Nat.sub_self]
      show dotF v (cat c i).side * l.getD i 0 = l.getD i 0 * dotF v (cat c i).side
      grind
theorem car_from {c : List Tri} {l : List Rat} (hl : l.length = c.length) : ∀ (m k : Nat), k + m = c.length → carF ((c.drop k).zip (l.drop k)) (stN c l k) = (List.range' k m).map fun i => dotF (cat c i).out (stN c l i)
  | 0, k, h => by rw [List.drop_of_length_le (by omega)]; rfl
  | m + 1, k, h => by
    have hk : k < c.length := by omega
    have hk2 : k < l.length := by omega
    have ec : c[k] = cat c k := by unfold cat; rw [List.getD_eq_getElem?_getD, List.getElem?_eq_getElem hk]; rfl
    have el : l[k] = l.getD k 0 := by rw [List.getD_eq_getElem?_getD, List.getElem?_eq_getElem hk2]; rfl
    rw [List.drop_eq_getElem_cons hk, List.drop_eq_getElem_cons hk2, List.zip_cons_cons, List.range'_succ, List.map_cons]
    show dotF c[k].out (stN c l k) :: carF _ (goF c[k] (stN c l k) l[k]) = _
    rw [ec, el]
    congr 1
    exact car_from hl m (k + 1) (by omega)
theorem car_all {c : List Tri} {l : List Rat} (hl : l.length = c.length) : carF (c.zip l) [] = (List.range c.length).map fun i => dotF (cat c i).out (stN c l i) := by
  have := car_from hl c.length 0 (by omega)
  rw [List.drop_zero, List.drop_zero] at this
  rw [List.range_eq_range']
  exact this
theorem bel_dot {c : List Tri} {l : List Rat} (hs : Sh c) {i : Nat} (hi : i < c.length) : dotF (belRow c i) l = dotF (cat c i).out (stN c l i) := by
  unfold belRow
  rw [dot_app, dot_rep, dot_range, state_lin hs i (by omega)]
  have e : sumR i (fun j => dotF (cat c i).out (ledN c j (i - (j + 1))) * l.getD j 0) = sumR i fun j => l.getD j 0 * dotF (cat c i).out (ledN c j (i - (j + 1))) := sumR_congr fun j _ => by grind
  rw [e]
  grind
/-- the table times the row is what is carried -/
theorem bel_car {c : List Tri} {l : List Rat} (hs : Sh c) (hl : l.length = c.length) : (belF c).map (fun r => dotF r l) = carF (c.zip l) [] := by
  rw [car_all hl]
  unfold belF
  rw [List.map_map]
  refine List.map_congr_left fun i hi => ?_
  exact bel_dot hs (List.mem_range.mp hi)
theorem unit_get {n s k : Nat} (h : k < n) : (unitF n s).getD k 0 = if k = s then 1 else 0 := by
  unfold unitF
  rw [List.getD_eq_getElem?_getD, List.getElem?_map, List.getElem?_range h]
  rfl
theorem unit_out {c : List Tri} (hs : Sh c) {i s : Nat} (hi : i < c.length) : dotF (cat c i).out (stN c (unitF c.length s) i) = if s < i then dotF (cat c i).out (ledN c s (i - (s + 1))) else 0 := by
  rw [state_lin hs i (by omega)]
  rw [sumR_congr (g := fun k => (if k = s then 1 else 0) * dotF (cat c i).out (ledN c k (i - (k + 1)))) fun j hj => by rw [unit_get (by omega)]]
  exact sumR_unit i
theorem bel_get {c : List Tri} {i s : Nat} (hi : i ≤ c.length) : (belRow c i).getD s 0 = if s < i then dotF (cat c i).out (ledN c s (i - (s + 1))) else 0 := by
  unfold belRow
  rw [List.getD_eq_getElem?_getD]
  by_cases h : s < i
  · rw [List.getElem?_append_left (by rw [List.length_map, List.length_range]; exact h), List.getElem?_map, List.getElem?_range h, if_pos h]
    rfl
  · rw [if_neg h, List.getElem?_append_right (by rw [List.length_map, List.length_range]; omega), List.getElem?_replicate]
    split <;> rfl
/-- a unit row sends out a column -/
theorem car_unit {c : List Tri} (hs : Sh c) {s : Nat} : carF (c.zip (unitF c.length s)) [] = (belF c).map fun r => r.getD s 0 := by
  rw [car_all unitF_len]
  unfold belF
  rw [List.map_map]
  refine List.map_congr_left fun i hi => ?_
  have hi' := List.mem_range.mp hi
  show _ = (belRow c i).getD s 0
  rw [unit_out hs hi', bel_get (by omega)]
theorem bel_len {c : List Tri} {i : Nat} (hi : i ≤ c.length) : (belRow c i).length = c.length := by
  unfold belRow
  rw [List.length_append, List.length_map, List.length_range, List.length_replicate]; omega
theorem tab_bel {c : List Tri} (hs : Sh c) : tabF c = belF c := by
  unfold tabF flipF belF
  refine List.map_congr_left fun j hj => ?_
  have hj' := List.mem_range.mp hj
  rw [List.map_map]
  refine List.ext_getElem (by rw [List.length_map, List.length_range, bel_len (by omega)]) fun i h1 h2 => ?_
  rw [List.length_map, List.length_range] at h1
  rw [List.getElem_map, List.getElem_range]
  show (carF (c.zip (unitF c.length i)) []).getD j 0 = _
  rw [car_unit hs]
  unfold belF
  rw [List.getD_eq_getElem?_getD, List.getElem?_map, List.getElem?_map, List.getElem?_range hj']
  show (belRow c j).getD i 0 = _
  rw [List.getD_eq_getElem?_getD, List.getElem?_eq_getElem h2]
  rfl
end Rf
end

section
set_option maxRecDepth 100000
set_option maxHeartbeats 4000000
set_option autoImplicit false
namespace Rf
open PySem PySem.Spec PyProof.Rows L2
/-! ## rows times tables, plain -/
theorem gd {α : Type} {l : List α} {j : Nat} {d : α} (h : j < l.length) : l.getD j d = l[j] := by rw [List.getD_eq_getElem?_getD, List.getElem?_eq_getElem h]; rfl
theorem zip_gd {f : Rat × Rat → Rat} {a b : List Rat} {j : Nat} (h1 : j < a.length) (h2 : j < b.length) : ((a.zip b).map f).getD j 0 = f (a.getD j 0, b.getD j 0) := by
  rw [gd (by rw [List.length_map, List.length_zip]; omega), List.getElem_map, List.getElem_zip, gd h1, gd h2]
theorem ext_gd {a b : List Rat} (hl : a.length = b.length) (h : ∀ j < a.length, a.getD j 0 = b.getD j 0) : a = b :=
  List.ext_getElem hl fun j h1 h2 => by have := h j h1; rwa [gd h1, gd h2] at this
/-- a column -/
def clm (m : List (List Rat)) (j : Nat) : List Rat := m.map fun r => r.getD j 0
/-- a row times a table of a width -/
def bk (v : List Rat) (m : List (List Rat)) (w : Nat) : List Rat := (List.range w).map fun j => dotF v (clm m j)
theorem bk_len {v : List Rat} {m : List (List Rat)} {w : Nat} : (bk v m w).length = w := by unfold bk; rw [List.length_map, List.length_range]
theorem bk_gd {v : List Rat} {m : List (List Rat)} {w j : Nat} (h : j < w) : (bk v m w).getD j 0 = dotF v (clm m j) := by
  rw [gd (by rw [bk_len]; exact h)]; unfold bk; rw [List.getElem_map, List.getElem_range]
theorem adj_gd {w j : Nat} (hj : j < w) : ∀ {v : List Rat} {m : List (List Rat)}, (∀ r ∈ m, r.length = w) → (adj w v m).getD j 0 = dotF v (clm m j)
  | [], _, _ => by unfold adj; rw [gd (by rw [List.length_replicate]; exact hj), List.getElem_replicate, dot_nil]
  | _ :: _, [], _ => by unfold adj clm; rw [gd (by rw [List.length_replicate]; exact hj), List.getElem_replicate, List.map_nil, dot_nil']
  | v :: vs, r :: rs, h => by
    have h' := fun x hx => h x (List.mem_cons_of_mem r hx)
    have hr := h r List.mem_cons_self
    unfold adj
    rw [zip_gd (by omega) (by rw [adj_len h']; exact hj), adj_gd hj h']
    unfold clm
    rw [List.map_cons, dot_cons]
theorem bk_adj {w : Nat} {v : List Rat} {m : List (List Rat)} (h : ∀ r ∈ m, r.length = w) : bk v m w = adj w v m :=
  ext_gd (by rw [bk_len, adj_len h]) fun j hj => by rw [bk_len] at hj; rw [bk_gd hj, adj_gd hj h]
theorem dot_bk {w : Nat} {v st : List Rat} {m : List (List Rat)} (h : ∀ r ∈ m, r.length = w) : dotF (bk v m w) st = dotF v (m.map fun r => dotF r st) := by
  rw [bk_adj h, dot_adj h]
theorem clm_gd {m : List (List Rat)} {j : Nat} : clm m j = m.map fun r => r.getD j 0 := rfl
/-- (v m) n = v (m n) -/
theorem bk_assoc {w u : Nat} {v : List Rat} {m n : List (List Rat)} (h : ∀ r ∈ m, r.length = w) : bk v (m.map fun r => bk r n u) u = bk (bk v m w) n u := by
  refine ext_gd (by rw [bk_len, bk_len]) fun j hj => ?_
  rw [bk_len] at hj
  rw [bk_gd hj, bk_gd hj, dot_bk h, clm_gd, List.map_map]
  congr 1
  exact List.map_congr_left fun r _ => bk_gd hj
theorem dot_comm : ∀ {a b : List Rat}, dotF a b = dotF b a
  | [], b => by rw [dot_nil, dot_nil']
  | _ :: _, [] => by rw [dot_nil, dot_nil']
  | x :: a, y :: b => by rw [dot_cons, dot_cons, dot_comm]; grind
theorem dot_rep' {n : Nat} {a : List Rat} : dotF a (List.replicate n 0) = 0 := by rw [dot_comm, dot_rep]
theorem dot_unit {s n : Nat} {v : List Rat} (hs : s < n) (hv : v.length = n) : dotF v (unitF n s) = v.getD s 0 := by
  rw [dot_comm]
  unfold unitF
  rw [dot_range, sumR_unit, if_pos hs]
theorem clm_unit {s n : Nat} (hs : s < n) : clm ((List.range n).map (unitF n)) s = unitF n s := by
  unfold clm
  rw [List.map_map]
  refine ext_gd (by rw [List.length_map, List.length_range, unitF_len]) fun j hj => ?_
  rw [List.length_map, List.length_range] at hj
  rw [gd (by rw [List.length_map, List.length_range]; exact hj), List.getElem_map, List.getElem_range]
  show (unitF n j).getD s 0 = _
  rw [unit_get hs, unit_get hj]
  by_cases h : s = j
  · rw [if_pos h, if_pos h.symm]
  · rw [if_neg h, if_neg fun e => h e.symm]
theorem bk_unit {n : Nat} {v : List Rat} (hv : v.length = n) : bk v ((List.range n).map (unitF n)) n = v := by
  refine ext_gd (by rw [bk_len, hv]) fun j hj => ?_
  rw [bk_len] at hj
  rw [bk_gd hj, clm_unit hj, dot_unit hj hv]
/-! ### sums of rows, one by one -/
def mixL : List (List Rat × Rat) → List Rat → List Rat
  | [], acc => acc
  | p :: q, acc => mixL q (if p.2 = 0 then acc else (acc.zip (p.1.map fun y => y * p.2)).map fun z => z.1 + z.2)
theorem mix_len {w : Nat} : ∀ {q : List (List Rat × Rat)} {acc : List Rat}, (∀ p ∈ q, p.1.length = w) → acc.length = w → (mixL q acc).length = w
  | [], _, _, h => h
  | p :: q, acc, hq, h => by
    show (mixL q _).length = w
    refine mix_len (fun x hx => hq x (List.mem_cons_of_mem _ hx)) ?_
    split
    · exact h
    · rw [List.length_map, List.length_zip, List.length_map, h, hq p List.mem_cons_self, Nat.min_self]
theorem mix_gd {w j : Nat} (hj : j < w) : ∀ {q : List (List Rat × Rat)} {acc : List Rat}, (∀ p ∈ q, p.1.length = w) → acc.length = w →
    (mixL q acc).getD j 0 = acc.getD j 0 + dotF (q.map (·.2)) (q.map fun p => p.1.getD j 0)
  | [], acc, _, h => by show acc.getD j 0 = acc.getD j 0 + 0; grind
  | p :: q, acc, hq, h => by
    have hp := hq p List.mem_cons_self
    rw [List.map_cons, List.map_cons, dot_cons]
    show (mixL q _).getD j 0 = _
    rw [mix_gd hj (fun x hx => hq x (List.mem_cons_of_mem _ hx)) (by
      split
      · exact h
      · rw [List.length_map, List.length_zip, List.length_map, h, hp, Nat.min_self])]
    by_cases hz : p.2 = 0
    · rw [if_pos hz, hz]; grind
    · rw [if_neg hz, zip_gd (by omega) (by rw [List.length_map]; omega)]
      have e : (p.1.map fun y => y * p.2).getD j 0 = p.1.getD j 0 * p.2 := by
        rw [gd (by rw [List.length_map]; omega), List.getElem_map, gd (by omega)]
      show acc.getD j 0 + (p.1.map fun y => y * p.2).getD j 0 + _ = _
      rw [e]; grind
theorem mix_bk {w : Nat} {rows : List (List Rat)} {nums : List Rat} (hw : ∀ r ∈ rows, r.length = w) (hl : rows.length = nums.length) : mixL (rows.zip nums) (List.replicate w 0) = bk nums rows w := by
  have hq : ∀ p ∈ rows.zip nums, p.1.length = w := fun p hp => hw _ (List.of_mem_zip hp).1
  refine ext_gd (by rw [mix_len hq List.length_replicate, bk_len]) fun j hj => ?_
  rw [mix_len hq List.length_replicate] at hj
  rw [mix_gd hj hq List.length_replicate, bk_gd hj, gd (by rw [List.length_replicate]; exact hj), List.getElem_replicate]
  have e1 : (rows.zip nums).map (·.2) = nums := List.map_snd_zip (by omega)
  have e2 : (rows.zip nums).map (fun p => p.1.getD j 0) = clm rows j := by
    have : (rows.zip nums).map (·.1) = rows := List.map_fst_zip (by omega)
    unfold clm
    rw [← this, List.map_map, this]
    rfl
  rw [e1, e2]
  show 0 + _ = _
  grind
/-! ## states of unit rows -/
theorem go_len {t : Tri} {st : List Rat} {x : Rat} (h : t.lines.length = t.side.length) : (goF t st x).length = t.side.length := by
  unfold goF; rw [List.length_map, List.length_zip, List.length_map, List.length_map, h, Nat.min_self]
theorem go_gd {t : Tri} {st : List Rat} {x : Rat} {j : Nat} (h : t.lines.length = t.side.length) (hj : j < t.side.length) : (goF t st x).getD j 0 = dotF (t.lines.getD j []) st + t.side.getD j 0 * x := by
  unfold goF
  rw [zip_gd (by rw [List.length_map]; omega) (by rw [List.length_map]; omega), gd (by rw [List.length_map]; omega), gd (by rw [List.length_map]; omega), List.getElem_map, List.getElem_map, gd (by omega), gd hj]
theorem go_zero {t : Tri} {n : Nat} (h : t.lines.length = t.side.length) : goF t (List.replicate n 0) 0 = List.replicate t.side.length 0 := by
  refine ext_gd (by rw [go_len h, List.length_replicate]) fun j hj => ?_
  rw [go_len h] at hj
  rw [go_gd h hj, dot_rep', gd (l := List.replicate _ _) (by rw [List.length_replicate]; exact hj), List.getElem_replicate]; grind
theorem go_one {t : Tri} {n : Nat} (h : t.lines.length = t.side.length) : goF t (List.replicate n 0) 1 = t.side := by
  refine ext_gd (go_len h) fun j hj => ?_
  rw [go_len h] at hj
  rw [go_gd h hj, dot_rep']; grind
theorem go_none {t : Tri} {st : List Rat} (h : t.lines.length = t.side.length) : goF t st 0 = t.lines.map fun r => dotF r st := by
  refine ext_gd (by rw [go_len h, List.length_map, h]) fun j hj => ?_
  rw [go_len h] at hj
  have hj' : j < t.lines.length := by omega
  rw [go_gd h hj, gd (l := t.lines.map _) (by rw [List.length_map]; exact hj'), List.getElem_map, gd hj']; grind
theorem st_zero {c : List Tri} {l : List Rat} (hs : Sh c) : ∀ j : Nat, j ≤ c.length → (∀ k < j, l.getD k 0 = 0) → ∃ n, stN c l j = List.replicate n 0
  | 0, _, _ => ⟨0, rfl⟩
  | j + 1, hj, h => by
    obtain ⟨n, e⟩ := st_zero hs j (by omega) fun k hk => h k (by omega)
    refine ⟨(cat c j).side.length, ?_⟩
    show goF (cat c j) (stN c l j) (l.getD j 0) = _
    rw [e, h j (by omega), go_zero (hs _ (cat_mem (by omega))).1]
/-- the state of a unit row is the column that its place sends -/
theorem st_unit {c : List Tri} {n i : Nat} (hs : Sh c) (hi : i < n) : ∀ m : Nat, i + 1 + m ≤ n → n ≤ c.length → stN c (unitF n i) (i + 1 + m) = ledN c i m
  | 0, hm, hn => by
    obtain ⟨k, e⟩ := st_zero (l := unitF n i) hs i (by omega) fun k hk => by rw [unit_get (by omega), if_neg (by omega)]
    show goF (cat c i) (stN c (unitF n i) i) ((unitF n i).getD i 0) = _
    rw [e, unit_get hi, if_pos rfl, go_one (hs _ (cat_mem (by omega))).1]
    rfl
  | m + 1, hm, hn => by
    show goF (cat c (i + 1 + m)) (stN c (unitF n i) (i + 1 + m)) ((unitF n i).getD (i + 1 + m) 0) = _
    rw [st_unit hs hi m (by omega) hn, unit_get (by omega), if_neg (by omega), go_none (hs _ (cat_mem (by omega))).1]
    rfl
/-- what comes behind a row -/
def stZ : List (Tri × Rat) → List Rat → List Rat
  | [], st => st
  | p :: q, st => stZ q (goF p.1 st p.2)
theorem stz_from {c : List Tri} {l : List Rat} (hl : l.length ≤ c.length) : ∀ (m k : Nat), k + m = l.length → stZ ((c.drop k).zip (l.drop k)) (stN c l k) = stN c l l.length
  | 0, k, h => by
    rw [List.drop_of_length_le (l := l) (by omega), List.zip_nil_right]
    show stN c l k = _
    rw [show k = l.length by omega]
  | m + 1, k, h => by
    have hk : k < c.length := by omega
    have hk2 : k < l.length := by omega
    have ec : c[k] = cat c k := by unfold cat; rw [List.getD_eq_getElem?_getD, List.getElem?_eq_getElem hk]; rfl
    have el : l[k] = l.getD k 0 := by rw [List.getD_eq_getElem?_getD, List.getElem?_eq_getElem hk2]; rfl
    rw [List.drop_eq_getElem_cons hk, List.drop_eq_getElem_cons hk2, List.zip_cons_cons]
    show stZ _ (goF c[k] (stN c l k) l[k]) = _
    rw [ec, el]
    exact stz_from hl m (k + 1) (by omega)
theorem stz_unit {c : List Tri} {n i : Nat} (hs : Sh c) (hi : i < n) (hn : n ≤ c.length) : stZ (c.zip (unitF n i)) [] = ledN c i (n - (i + 1)) := by
  have := stz_from (c := c) (l := unitF n i) (by rw [unitF_len]; exact hn) n 0 (by rw [unitF_len]; omega)
  rw [List.drop_zero, List.drop_zero, unitF_len] at this
  rw [show stZ (c.zip (unitF n i)) [] = stN c (unitF n i) n from this]
  have h2 := st_unit (n := n) hs hi (n - (i + 1)) (by omega) hn
  rwa [show i + 1 + (n - (i + 1)) = n by omega] at h2
theorem led_len {c : List Tri} {i : Nat} (hs : Sh c) : ∀ m : Nat, i + m < c.length → (ledN c i m).length = (cat c (i + m)).side.length
  | 0, h => rfl
  | m + 1, h => by
    show ((cat c (i + 1 + m)).lines.map _).length = _
    rw [List.length_map, (hs _ (cat_mem (by omega))).1, show i + 1 + m = i + (m + 1) by omega]
theorem fits_chain : ∀ {c : List Tri} {n i : Nat}, Fits c n → i + 1 < c.length → (cat c (i + 1)).out.length = (cat c i).side.length
  | [], _, _, _, h => by simp at h
  | [t], _, i, _, h => by simp at h
  | t :: u :: c, n, 0, hf, h => hf.2.1.1
  | t :: u :: c, n, i + 1, hf, h => fits_chain (c := u :: c) hf.2 (by simpa using h)
/-! ## the tables at a cut, plain -/
def szN (c : List Tri) (a : Nat) : Nat := (cat c (a - 1)).side.length
def cmgT (c : List Tri) (a : Nat) : List (List Rat) := flipF ((List.range a).map fun i => ledN c i (a - (i + 1))) (szN c a)
/-- the chains of tables from a cut on -/
def hereN (c : List Tri) (a : Nat) : Nat → List (List Rat)
  | 0 => (List.range (szN c a)).map (unitF (szN c a))
  | n + 1 => (cat c (a + n)).lines.map fun r => bk r (hereN c a n) (szN c a)
def goT (c : List Tri) (a : Nat) : List (List Rat) := (List.range (c.length - a)).map fun n => bk (cat c (a + n)).out (hereN c a n) (szN c a)
/-- a row led back to a cut -/
def offN (c : List Tri) (a : Nat) : Nat → List Rat → List Rat
  | 0, v => v
  | n + 1, v => offN c a n (bk v (cat c (a + n)).lines (cat c (a + n)).out.length)
theorem here_wid {c : List Tri} {a : Nat} : ∀ n, ∀ r ∈ hereN c a n, r.length = szN c a
  | 0, r, hr => by obtain ⟨i, _, rfl⟩ := List.mem_map.mp hr; exact unitF_len
  | n + 1, r, hr => by obtain ⟨i, _, rfl⟩ := List.mem_map.mp hr; exact bk_len
theorem here_len {c : List Tri} {a : Nat} (hf : Fits c 0) (ha : 0 < a) : ∀ n, a + n < c.length → (hereN c a n).length = (cat c (a + n)).out.length
  | 0, h => by
    have := fits_chain (i := a - 1) hf (by omega)
    rw [show a - 1 + 1 = a by omega] at this
    show ((List.range (szN c a)).map _).length = _
    rw [List.length_map, List.length_range, Nat.add_zero, this]
    rfl
  | n + 1, h => by
    show ((cat c (a + n)).lines.map _).length = _
    have := fits_chain (i := a + n) hf (by omega)
    rw [List.length_map, (fits_sh hf _ (cat_mem (by omega))).1, ← this]
    rfl
theorem here_off {c : List Tri} {a : Nat} (hf : Fits c 0) (ha : 0 < a) : ∀ n, a + n < c.length → ∀ v, v.length = (cat c (a + n)).out.length → bk v (hereN c a n) (szN c a) = offN c a n v
  | 0, h, v, hv => by
    have := fits_chain (i := a - 1) hf (by omega)
    rw [show a - 1 + 1 = a by omega] at this
    exact bk_unit (by rw [hv, Nat.add_zero, this]; rfl)
  | n + 1, h, v, hv => by
    show bk v ((cat c (a + n)).lines.map fun r => bk r (hereN c a n) (szN c a)) (szN c a) = offN c a n (bk v (cat c (a + n)).lines (cat c (a + n)).out.length)
    rw [bk_assoc (fits_sh hf _ (cat_mem (by omega))).2]
    exact here_off hf ha n (by omega) _ bk_len
/-- what goes from a cut, times what comes to it, is what is carried -/
theorem off_led {c : List Tri} {a j : Nat} (hs : Sh c) (hj : j < a) : ∀ n, a + n < c.length → ∀ v, dotF (offN c a n v) (ledN c j (a - (j + 1))) = dotF v (ledN c j (a + n - (j + 1)))
  | 0, h, v => rfl
  | n + 1, h, v => by
    show dotF (offN c a n (bk v (cat c (a + n)).lines (cat c (a + n)).out.length)) _ = _
    rw [off_led hs hj n (by omega), dot_bk (hs _ (cat_mem (by omega))).2]
    have e : a + (n + 1) - (j + 1) = (a + n - (j + 1)) + 1 := by omega
    rw [e]
    show _ = dotF v ((cat c (j + 1 + (a + n - (j + 1)))).lines.map fun r => dotF r (ledN c j (a + n - (j + 1))))
    rw [show j + 1 + (a + n - (j + 1)) = a + n by omega]
theorem clm_flip {m : List (List Rat)} {n j : Nat} (hj : j < m.length) (h : ∀ r ∈ m, r.length = n) : clm (flipF m n) j = m.getD j [] := by
  unfold clm flipF
  rw [List.map_map, gd hj]
  refine ext_gd (by rw [List.length_map, List.length_range, h _ (List.getElem_mem hj)]) fun k hk => ?_
  rw [List.length_map, List.length_range] at hk
  rw [gd (by rw [List.length_map, List.length_range]; exact hk), List.getElem_map, List.getElem_range]
  show (m.map fun r => r.getD k 0).getD j 0 = _
  rw [gd (by rw [List.length_map]; exact hj), List.getElem_map]
theorem both_ok {c : List Tri} {a : Nat} (hf : Fits c 0) (ha : 0 < a) (hac : a < c.length) : (goT c a).map (fun line => bk line (cmgT c a) a) = ((belF c).drop a).map fun line => line.take a := by
  have hs := fits_sh hf
  have hb : (belF c).drop a = (List.range (c.length - a)).map fun n => belRow c (a + n) := by
    refine List.ext_getElem (by unfold belF; rw [List.length_drop, List.length_map, List.length_range, List.length_map, List.length_range]) fun k h1 h2 => ?_
    have e0 : (belF c).drop a = ((List.range c.length).map (belRow c)).drop a := rfl
    simp only [e0, List.getElem_drop, List.getElem_map, List.getElem_range]
  rw [hb]
  unfold goT
  rw [List.map_map, List.map_map]
  refine List.map_congr_left fun n hn => ?_
  have hn' : a + n < c.length := by have := List.mem_range.mp hn; omega
  show bk (bk (cat c (a + n)).out (hereN c a n) (szN c a)) (cmgT c a) a = (belRow c (a + n)).take a
  rw [here_off hf ha n hn' _ rfl]
  refine ext_gd (by rw [bk_len, List.length_take, bel_len (by omega)]; omega) fun j hj => ?_
  rw [bk_len] at hj
  have hc : clm (cmgT c a) j = ledN c j (a - (j + 1)) := by
    unfold cmgT
    rw [clm_flip (by rw [List.length_map, List.length_range]; exact hj) (fun r hr => by
      obtain ⟨i, hi, rfl⟩ := List.mem_map.mp hr
      have hi' := List.mem_range.mp hi
      rw [led_len hs _ (by omega), show i + (a - (i + 1)) = a - 1 by omega]
      rfl), gd (by rw [List.length_map, List.length_range]; exact hj), List.getElem_map, List.getElem_range]
  rw [bk_gd hj, hc, off_led hs hj n hn']
  have h2 := bel_get (c := c) (i := a + n) (s := j) (by omega)
  rw [if_pos (by omega)] at h2
  rw [← h2, gd (by rw [bel_len (by omega)]; omega), gd (by rw [List.length_take, bel_len (by omega)]; omega), List.getElem_take]
end Rf
end

section
set_option maxRecDepth 100000
set_option maxHeartbeats 4000000
set_option autoImplicit false
namespace Rf
open PySem PySem.Spec PyProof.Rows L2
/-! ## the program's tables at a cut -/
theorem noughts_ok {k n : Nat} {S : Sto} (hn : n ≤ 1000) : R (k + 1) 55 [.int (n : Int)] S = some (row (List.replicate n 0), S) := by
  refine R_eq ((R_wp T_noughts rfl).mpr ?_)
  simp_arith only [F.noughts, fin_wp, G_0]
  exact ⟨⟨by omega, by omega, by omega, by omega⟩, by rw [Int.toNat_natCast, flat_one, row_rep]⟩
theorem beq_fr {a b : Rat} : D.beq (fr a) (fr b) = decide (a = b) := by
  by_cases h : a = b
  · subst h; rw [D.beq_refl, decide_eq_true rfl]
  · rw [decide_eq_false h]
    cases e : D.beq (fr a) (fr b) with
    | false => rfl
    | true =>
      have := D.beq_eq _ _ e
      unfold fr at this
      injection this with t
      injection t with t1 t2
      injection t2 with t2 _
      injection t1 with t1
      injection t2 with t2
      exact absurd (Rat.ext t1 (by omega)) h
theorem nt_fr {k : Nat} {r : Rat} : nt (k + 2) (fr r) = true := rfl
theorem mixed_ok {L k w e b f c : Nat} [Gd L] {rows : List (List Rat)} {nums : List Rat} {S : Sto} (hw : ∀ r ∈ rows, r.length = w) (hw2 : w ≤ 1000) (hr : ∀ r ∈ rows, ∀ x ∈ r, Lz L e b x) (hn : ∀ x ∈ nums, Lz L f c x)
    (hl : rows.length = nums.length) (hl2 : rows.length ≤ 1000) (hb : b + c + rows.length ≤ 4000) (he : 11 * (e + f) + 1 ≤ 4000) : R (k + 5) 56 [mat rows, row nums, .int (w : Int)] S = some (row (bk nums rows w), S) := by
  refine R_eq ((R_wp T_mixed rfl).mpr ?_)
  have ez : wp (zipWk S (mat rows) (row nums)) = wp (some (Wk.mk ((rows.zip nums).map fun p => D.tup [row p.1, fr p.2]) [])) := by
    funext Q
    refine propext ?_
    rw [wp_some]
    exact vz_mr
  have n0 : ∀ S, R (k + 4) 55 [.int (w : Int)] S = some (row (List.replicate w 0), S) := fun S => noughts_ok (k := k + 3) hw2
  simp_arith only [F.mixed, fin_wp, n0, ez]
  refine wf_inv (fun r σ S' => S' = S ∧ ∃ (q : List (List Rat × Rat)) (acc : List Rat) (o1 o2 : Option D), r = q.map (fun p => D.tup [row p.1, fr p.2]) ∧ σ = [some (mat rows), some (row nums), some (.int (w : Int)), some (row acc), o1, o2] ∧
      (∀ p ∈ q, p.1.length = w ∧ (∀ x ∈ p.1, Lz L e b x) ∧ Lz L f c p.2) ∧ acc.length = w ∧ (∃ i, (∀ x ∈ acc, Lz L (e + f) (b + c + i) x) ∧ i + q.length ≤ rows.length) ∧ mixL q acc = bk nums rows w)
    ⟨rfl, rows.zip nums, List.replicate w 0, none, none, rfl, rfl, fun p hp => ⟨hw _ (List.of_mem_zip hp).1, hr _ (List.of_mem_zip hp).1, hn _ (List.of_mem_zip hp).2⟩, List.length_replicate,
      ⟨0, fun x hx => by rw [(List.mem_replicate.mp hx).2]; exact lt_zero, by rw [List.length_zip]; omega⟩, mix_bk hw hl⟩ ?_ ?_
  · rintro x r σ S' ⟨rfl, q, acc, o1, o2, e1, rfl, hq, ha, ⟨i, hi, hil⟩, hm⟩
    cases q with
    | nil => cases e1
    | cons p q =>
      cases e1
      obtain ⟨p1, p2, p3⟩ := hq p List.mem_cons_self
      rw [List.length_cons] at hil
      have hq' := fun z hz => hq z (List.mem_cons_of_mem p hz)
      by_cases hz : p.2 = 0
      · simp_arith only [G_0, vc_neN nt_fr nt_fr, beq_fr, hz, decide_true, still_nil]
        refine ⟨trivial, trivial, q, acc, _, _, rfl, rfl, hq', ha, ⟨i + 1, fun x hx => (hi x hx).le (by omega), by omega⟩, ?_⟩
        rw [← hm]
        show mixL q acc = mixL q (if p.2 = 0 then acc else _)
        rw [if_pos hz]
      · have b1 : ∀ x ∈ p.1, Bt 4000 x := fun x hx => (p2 x hx).bt (by omega) (by omega)
        have b2 : Bt 4000 p.2 := p3.bt (by omega) (by omega)
        have b3 : ∀ x ∈ acc, Bt 4000 x := fun x hx => (hi x hx).bt (by omega) (by omega)
        have l4 : ∀ x ∈ p.1.map fun y => y * p.2, Lz L (e + f) (b + c) x := fun x hx => by
          obtain ⟨y, hy, rfl⟩ := List.mem_map.mp hx
          exact (p2 y hy).mul p3
        have b4 : ∀ x ∈ p.1.map fun y => y * p.2, Bt 4000 x := fun x hx => (l4 x hx).bt (by omega) (by omega)
        have c1 := fun S => row_scaled_ok (k := k) (S := S) b1 b2 (by omega)
        have c2 := fun S => row_plus_ok (k := k) (S := S) b3 b4 (by omega)
        simp_arith only [G_0, vc_neN nt_fr nt_fr, beq_fr, hz, decide_false, c1, c2, still_nil]
        refine ⟨trivial, trivial, q, _, _, _, rfl, rfl, hq', ?_, ⟨i + 1, fun x hx => ?_, by omega⟩, ?_⟩
        · rw [List.length_map, List.length_zip, List.length_map, ha, p1, Nat.min_self]
        · obtain ⟨z, hz2, rfl⟩ := List.mem_map.mp hx
          exact (hi _ (List.of_mem_zip hz2).1).add ((l4 _ (List.of_mem_zip hz2).2).le (by omega))
        · rw [← hm]
          show _ = mixL q (if p.2 = 0 then acc else _)
          rw [if_neg hz]
  · rintro σ S' ⟨rfl, q, acc, o1, o2, e1, rfl, hq, ha, hi, hm⟩
    cases q with
    | cons p q => cases e1
    | nil =>
      have hm' : acc = bk nums rows w := hm
      simp_arith only [fin_wp, hm']
theorem multiplied_ok {L k w e b f c : Nat} [Gd L] {one two : List (List Rat)} {S : Sto} (hw : ∀ r ∈ two, r.length = w) (hw2 : w ≤ 1000) (hr : ∀ r ∈ two, ∀ x ∈ r, Lz L e b x) (hn : ∀ r ∈ one, two.length = r.length ∧ ∀ x ∈ r, Lz L f c x)
    (hl2 : two.length ≤ 1000) (hl1 : one.length ≤ 1000) (hb : b + c + two.length ≤ 4000) (he : 11 * (e + f) + 1 ≤ 4000) : R (k + 6) 57 [mat one, mat two, .int (w : Int)] S = some (mat (one.map fun r => bk r two w), S) := by
  refine R_eq ((R_wp T_multiplied rfl).mpr ?_)
  have hl : one.length ≤ many := by rw [many_val]; omega
  simp_arith only [F.multiplied, fin_wp]
  rw [show (mat one) = .tup (one.map row) from rfl]
  simp_arith only [List.length_map, hl, true_and]
  refine wc_mapL row (fun r => row (bk r two w)) still_nil (fun r hrm => ?_) ?_
  · have g := fun S => mixed_ok (L := L) (k := k) (e := e) (b := b) (f := f) (c := c) (S := S) (nums := r) hw hw2 hr (hn r hrm).2 (hn r hrm).1 hl2 hb he
    simp_arith only [g]
  · simp_arith only [fin_wp, mat, List.map_map]
    rfl
theorem vl_init {S : Sto} {xs : List D} {Q : D → Prop} : wp (slD S (.tup xs) none (some (-1))) Q ↔ Q (.tup (xs.take (xs.length - 1))) := by
  have e : cutD xs none (some (-1)) = xs.take (xs.length - 1) := by
    unfold cutD
    have h1 : HT.sIx xs.length xs.length (some (-1)) = xs.length - 1 := by
      show (if (-1 : Int) < 0 then ((-1 : Int) + (xs.length : Int)).toNat else min (-1 : Int).toNat xs.length) = xs.length - 1
      rw [if_pos (by omega)]; omega
    rw [HT.sIx_none, h1, List.drop_zero, Nat.sub_zero]
  show wp (some (D.tup (cutD xs none (some (-1))))) Q ↔ _
  rw [wp_some, e]
theorem vp_lenR' {S : Sto} {l : List Rat} {Q : D → Prop} : wp (prD S .len [row l]) Q ↔ Q (.int (l.length : Int)) := vp_lenR
theorem size_at {c : List Tri} {a : Nat} (ha : 0 < a) (hac : a < c.length) : ((c.take (c.length - 1)).map fun t => D.int (t.side.length : Int))[a - 1]? = some (.int (szN c a : Int)) := by
  rw [List.getElem?_map, List.getElem?_take, if_pos (by omega), List.getElem?_eq_getElem (by omega)]
  unfold szN cat
  rw [List.getD_eq_getElem?_getD, List.getElem?_eq_getElem (by omega)]
  rfl
theorem nat_pred {a : Nat} (ha : 0 < a) : (a : Int) - 1 = ((a - 1 : Nat) : Int) := by omega
/-- the chains' sizes -/
def MtB (L t : Nat) (m : List (List Rat)) : Prop := ∀ r ∈ m, ∀ x ∈ r, Lz L (t + 1) (sb t) x
theorem clm_st {L t j : Nat} {m : List (List Rat)} (h : MtB L t m) (hl : m.length ≤ 6) (hw : ∀ r ∈ m, j < r.length) : StB L t (clm m j) := ⟨fun x hx => by
    obtain ⟨r, hr, rfl⟩ := List.mem_map.mp hx
    rw [gd (hw r hr)]
    exact h r hr _ (List.getElem_mem _), by unfold clm; rw [List.length_map]; exact hl⟩
theorem here_b {L : Nat} {c : List Tri} {a : Nat} (h : CarD L c) (ha : 0 < a) : ∀ n, a + n < c.length → MtB L n (hereN c a n)
  | 0, _, r, hr, x, hx => by
    have hgd := h.gd
    obtain ⟨i, _, rfl⟩ := List.mem_map.mp hr
    exact (dr_unit (L := L) x hx).lt.le (by unfold sb; omega)
  | n + 1, hn, r, hr, x, hx => by
    have hgd := h.gd
    obtain ⟨l, hl, rfl⟩ := List.mem_map.mp hr
    obtain ⟨j, hj, rfl⟩ := List.mem_map.mp hx
    have hj' := List.mem_range.mp hj
    have hc := h.n6
    have d := h.dr _ (cat_mem (c := c) (i := a + n) (by omega))
    have hlen := here_len h.fits ha n (by omega)
    have l1 := d.l1
    have := (dots_of (t := n) (by omega) (d.lines l hl) (d.l4 l hl) (clm_st (here_b h ha n (by omega)) (by omega) fun r hr => by rw [here_wid n r hr]; exact hj')).2
    exact this.le (by unfold sb; omega)
theorem sz6 {L : Nat} {c : List Tri} {a : Nat} (h : CarD L c) (ha : 0 < a) (hac : a < c.length) : szN c a ≤ 6 := (h.dr _ (cat_mem (c := c) (i := a - 1) (by omega))).l3
end Rf
end

section
set_option maxRecDepth 100000
set_option maxHeartbeats 4000000
set_option autoImplicit false
namespace Rf
open PySem PySem.Spec PyProof.Rows L2
theorem pick_10 (a b : D) : pick [1, 0] [a, b] = [b, a] := rfl
theorem vp_lenC {S : Sto} {c : List Tri} {Q : D → Prop} : wp (prD S .len [car c]) Q ↔ Q (.int (c.length : Int)) := by
  show wp (some (D.int ((c.map Tri.d).length : Int))) Q ↔ _
  rw [wp_some, List.length_map]
theorem vw_mat {S : Sto} {m : List (List Rat)} {Q : Wk → Prop} : wp (seqWk S (mat m)) Q ↔ Q ⟨m.map row, []⟩ := vw_tup
theorem bt_zero {b : Nat} : Bt (b + 1) 0 := ⟨by simpa using two_pow_pos' (b + 1), by
  show 1 < 2 ^ (b + 1)
  have := two_pow_pos' b
  rw [Nat.pow_succ]; omega⟩
theorem nt_row {k : Nat} {l : List Rat} : nt (k + 3) (row l) = true := by
  show (l.map fr).all (nt (k + 2)) = true
  rw [List.all_eq_true]
  intro x hx
  obtain ⟨r, _, rfl⟩ := List.mem_map.mp hx
  rfl
theorem nt_mat {k : Nat} {m : List (List Rat)} : nt (k + 4) (mat m) = true := by
  show (m.map row).all (nt (k + 3)) = true
  rw [List.all_eq_true]
  intro x hx
  obtain ⟨r, _, rfl⟩ := List.mem_map.mp hx
  exact nt_row
theorem vl_fromM {S : Sto} {m : List (List Rat)} {k : Nat} {Q : D → Prop} : wp (slD S (mat m) (some (k : Int)) none) Q ↔ Q (mat (m.drop k)) := by
  unfold mat
  rw [vl_from, List.map_drop]
theorem vl_toR {S : Sto} {l : List Rat} {k : Nat} {Q : D → Prop} : wp (slD S (row l) none (some (k : Int))) Q ↔ Q (row (l.take k)) := by
  unfold row
  rw [vl_to, List.map_take]
theorem chain_sz {L : Nat} {c : List Tri} {a : Nat} (h : CarD L c) (ha : 0 < a) (hac : a < c.length) : (cat c a).out.length = szN c a := by
  have := fits_chain (i := a - 1) h.fits (by omega)
  rw [show a - 1 + 1 = a by omega] at this
  exact this
/-! ## the law's own tables at a cut -/
theorem vr_rr {i n : Nat} {Q : Wk → Prop} (h : i ≤ n) : wp (rrngWk (i : Int) (n : Int)) Q ↔ (i ≤ 1000000 ∧ n ≤ 1000000) ∧ Q ⟨(List.range (n - i)).map fun k => .int ((n - 1 - k : Nat) : Int), []⟩ := by
  unfold rrngWk rgOk
  have e1 : (n : Int) - (i : Int) = ((n - i : Nat) : Int) := by omega
  have e2 : (List.range (n - i)).map (fun k : Nat => D.int ((i : Int) + ((n - i : Nat) : Int) - 1 + (k : Int) * (-1))) = (List.range (n - i)).map fun k : Nat => D.int ((n - 1 - k : Nat) : Int) := by
    refine List.map_congr_left fun k hk => ?_
    have := List.mem_range.mp hk
    congr 1
    omega
  rw [e1, Int.toNat_natCast, e2]
  by_cases hk : i ≤ 1000000 ∧ n ≤ 1000000
  · rw [if_pos (by rw [decide_eq_true_eq]; omega), wp_some]
    exact ⟨fun q => ⟨hk, q⟩, fun q => q.2⟩
  · rw [if_neg (by rw [decide_eq_true_eq]; omega), wp_none]
    exact ⟨fun q => q.elim, fun q => hk q.1⟩
theorem stB_bk {L t : Nat} [Gd L] {v : List Rat} {p : Tri} (ht : t ≤ 8) (hv : StB L t v) (hp : p.dr L) (hw : ∀ r ∈ p.lines, r.length = p.out.length) : StB L (t + 1) (bk v p.lines p.out.length) := ⟨fun x hx => by
    obtain ⟨j, hj, rfl⟩ := List.mem_map.mp hx
    have hj' := List.mem_range.mp hj
    rw [dot_comm]
    refine (dots_of ht (l := clm p.lines j) (fun y hy => ?_) (by unfold clm; rw [List.length_map]; exact hp.l2) hv).2.le (by unfold sb; omega)
    obtain ⟨r, hr, rfl⟩ := List.mem_map.mp hy
    have hlt : j < r.length := by rw [hw r hr]; exact hj'
    rw [gd hlt]
    exact hp.lines r hr _ (List.getElem_mem hlt), by rw [bk_len]; exact hp.l1⟩
theorem dotB_bk {L t j : Nat} [Gd L] {v : List Rat} {p : Tri} (ht : t ≤ 5) (hv : StB L t v) (hp : p.dr L) (hj : ∀ r ∈ p.lines, j < r.length) : DotB (sb t) 21 (v.zip (clm p.lines j)) := by
  have hz : (v.zip (clm p.lines j)).length ≤ 6 := by rw [List.length_zip]; have := hv.2; omega
  refine ⟨fun q hq => ⟨hv.bt _ (List.of_mem_zip hq).1, ?_⟩, ?_, by omega⟩
  · have h2 := (List.of_mem_zip hq).2
    obtain ⟨r, hr, e⟩ := List.mem_map.mp h2
    rw [← e, gd (hj r hr)]
    exact (hp.lines r hr _ (List.getElem_mem _)).bt
  · have : (sb t + 21) * (v.zip (clm p.lines j)).length ≤ (sb t + 21) * 6 := Nat.mul_le_mul_left _ hz
    unfold sb at this ⊢
    omega
theorem vp_lenC' {S : Sto} {c : List Tri} {Q : D → Prop} : wp (prD S .len [.tup (c.map Tri.d)]) Q ↔ Q (.int (c.length : Int)) := vp_lenC
theorem ch_side {b : Nat} : ∀ {c : List Tri} {a z : Nat}, Ch b c a z → ∀ t ∈ c, t.side.length ≤ b
  | [], _, _, _ => fun t ht => by cases ht
  | t :: c, a, z, ⟨m, h1, h2, h3⟩ => fun u hu => by
    rcases List.mem_cons.mp hu with rfl | hu
    · rw [h1.2.2.2]; exact h2
    · exact ch_side h3 u hu
theorem Bt.up {b b' : Nat} {r : Rat} (h : Bt b r) (hb : b ≤ b') : Bt b' r := ⟨lt_pow h.1 hb, lt_pow h.2 hb⟩
theorem go_row {L : Nat} {c : List Tri} {a : Nat} (h : CarD L c) (ha : 0 < a) (hac : a < c.length) : ∀ r ∈ goT c a, r.length = szN c a ∧ ∀ x ∈ r, Bt (40 * (c.length - a) + 78) x := fun r hr => by
  have hgd := h.gd
  obtain ⟨n, hn, rfl⟩ := List.mem_map.mp hr
  have hn' := List.mem_range.mp hn
  have hlt : a + n < c.length := by omega
  have hc := h.n6
  have d := h.dr _ (cat_mem hlt)
  refine ⟨bk_len, fun x hx => ?_⟩
  obtain ⟨j, hj, rfl⟩ := List.mem_map.mp hx
  have hj' := List.mem_range.mp hj
  have hlen := here_len h.fits ha n hlt
  have l1 := d.l1
  have := (dots_of (t := n) (by omega) d.out d.l1 (clm_st (here_b h ha n hlt) (by omega) fun r hr => by rw [here_wid n r hr]; exact hj')).2
  exact this.bt (by unfold sb; omega) (by omega)
theorem clm_cmg {c : List Tri} {a j : Nat} (hs : Sh c) (hac : a < c.length) (hj : j < a) : clm (cmgT c a) j = ledN c j (a - (j + 1)) := by
  unfold cmgT
  rw [clm_flip (by rw [List.length_map, List.length_range]; exact hj) (fun r hr => by
    obtain ⟨i, hi, rfl⟩ := List.mem_map.mp hr
    have hi' := List.mem_range.mp hi
    rw [led_len hs _ (by omega), show i + (a - (i + 1)) = a - 1 by omega]
    rfl), gd (by rw [List.length_map, List.length_range]; exact hj), List.getElem_map, List.getElem_range]
theorem cmg_wid {c : List Tri} {a : Nat} : ∀ r ∈ cmgT c a, r.length = a := fun r hr => by
  obtain ⟨j, _, rfl⟩ := List.mem_map.mp hr
  rw [List.length_map, List.length_map, List.length_range]
theorem cmg_len {c : List Tri} {a : Nat} : (cmgT c a).length = szN c a := by unfold cmgT flipF; rw [List.length_map, List.length_range]
theorem go_lenT {c : List Tri} {a : Nat} : (goT c a).length = c.length - a := by unfold goT; rw [List.length_map, List.length_range]
theorem vr_1n {n : Nat} {Q : Wk → Prop} : wp (rngWk 1 (n : Int)) Q ↔ n ≤ 1000000 ∧ Q ⟨(List.range (n - 1)).map fun k => .int ((1 + k : Nat) : Int), []⟩ := by
  have := vr_nn (i := 1) (n := n) (Q := Q)
  rw [show ((1 : Nat) : Int) = 1 from rfl] at this
  rw [this]
  exact ⟨fun q => ⟨q.1.2, q.2⟩, fun q => ⟨⟨by omega, q.1⟩, q.2⟩⟩
end Rf
end

section
set_option maxRecDepth 100000
set_option maxHeartbeats 4000000
set_option autoImplicit false
namespace Rf
/-! ## sums -/
theorem sumR_add {f g : Nat → Rat} : ∀ n, sumR n (fun j => f j + g j) = sumR n f + sumR n g
  | 0 => by show (0 : Rat) = 0 + 0; grind
  | n + 1 => by rw [sumR_succ, sumR_succ, sumR_succ, sumR_add n]; grind
theorem sumR_mul {c : Rat} {f : Nat → Rat} : ∀ n, sumR n (fun j => c * f j) = c * sumR n f
  | 0 => by show (0 : Rat) = c * 0; grind
  | n + 1 => by rw [sumR_succ, sumR_succ, sumR_mul n]; grind
theorem sumR_mulr {c : Rat} {f : Nat → Rat} (n : Nat) : sumR n (fun j => f j * c) = sumR n f * c := by
  rw [sumR_congr (g := fun j => c * f j) fun j _ => by grind, sumR_mul]; grind
theorem sumR_zero {f : Nat → Rat} : ∀ n, (∀ j, j < n → f j = 0) → sumR n f = 0
  | 0, _ => rfl
  | n + 1, h => by rw [sumR_succ, sumR_zero n fun j hj => h j (by omega), h n (by omega)]; grind
theorem sumR_swap {f : Nat → Nat → Rat} {n : Nat} : ∀ m, sumR m (fun i => sumR n (fun j => f i j)) = sumR n (fun j => sumR m (fun i => f i j))
  | 0 => (sumR_zero n fun j _ => rfl).symm
  | m + 1 => by
    rw [sumR_succ, sumR_swap m, ← sumR_add]
    rfl
theorem sumR_pt {f : Nat → Rat} {s : Nat} : ∀ {n : Nat}, s < n → (∀ j, j < n → j ≠ s → f j = 0) → sumR n f = f s
  | 0, h, _ => by omega
  | n + 1, h, hz => by
    rw [sumR_succ]
    by_cases e : s = n
    · subst e
      rw [sumR_zero s fun j hj => hz j (by omega) (by omega)]; grind
    · rw [sumR_pt (by omega) fun j hj hn => hz j (by omega) hn, hz n (by omega) fun z => e z.symm]; grind
theorem sumR_sub {f g : Nat → Rat} (n : Nat) : sumR n (fun j => f j - g j) = sumR n f - sumR n g := by
  have h1 := sumR_add (f := f) (g := fun j => (-1) * g j) n
  rw [sumR_mul] at h1
  rw [sumR_congr (g := fun j => f j + (-1) * g j) fun j _ => by grind, h1]; grind
theorem sumR_put {m x : Nat → Rat} {p : Nat} {v : Rat} : ∀ {n : Nat}, p < n → sumR n (fun j => m j * (if j = p then v else x j)) = sumR n (fun j => m j * x j) + m p * (v - x p) := fun {n} hp => by
  have h1 : sumR n (fun j => m j * (if j = p then v else x j)) = sumR n (fun j => m j * x j + (if j = p then m p * (v - x p) else 0)) := sumR_congr fun j _ => by
    by_cases e : j = p
    · subst e; rw [if_pos rfl, if_pos rfl]; grind
    · rw [if_neg e, if_neg e]; grind
  rw [h1, sumR_add, sumR_pt (f := fun j => if j = p then m p * (v - x p) else 0) hp fun j _ hj => if_neg hj, if_pos rfl]
def skip (k0 k : Nat) : Nat := if k < k0 then k else k + 1
theorem sumR_skip {f : Nat → Rat} {k0 : Nat} : ∀ {n : Nat}, k0 ≤ n → sumR (n + 1) f = f k0 + sumR n fun k => f (skip k0 k)
  | 0, h => by
    have : k0 = 0 := by omega
    subst this
    show (0 : Rat) + f 0 = f 0 + 0; grind
  | n + 1, h => by
    by_cases e : k0 = n + 1
    · subst e
      rw [sumR_succ, sumR_congr (g := fun k => f (skip (n + 1) k)) fun j hj => by unfold skip; rw [if_pos hj]]; grind
    · rw [sumR_succ, sumR_skip (k0 := k0) (n := n) (by omega), sumR_succ (i := n)]
      have : skip k0 n = n + 1 := by unfold skip; rw [if_neg (by omega)]
      rw [this]; grind
/-! ## tables as functions: what they bring to noughts -/
abbrev Mx := Nat → Nat → Rat
def Ker (n w : Nat) (m : Mx) (x : Nat → Rat) : Prop := ∀ i, i < n → sumR w (fun j => m i j * x j) = 0
/-- the column s is a sum of multiples of those ahead of it -/
def Fre (n w : Nat) (m : Mx) (s : Nat) : Prop := ∃ x, Ker n w m x ∧ x s ≠ 0 ∧ ∀ j, s < j → x j = 0
theorem fre_congr {n n' w : Nat} {m m' : Mx} {s : Nat} (h : ∀ x, Ker n w m x ↔ Ker n' w m' x) : Fre n w m s ↔ Fre n' w m' s :=
  ⟨fun ⟨x, a, b⟩ => ⟨x, (h x).mp a, b⟩, fun ⟨x, a, b⟩ => ⟨x, (h x).mpr a, b⟩⟩
noncomputable def isHd (n w : Nat) (m : Mx) (s : Nat) : Bool := @decide (¬ Fre n w m s) (Classical.propDecidable _)
theorem isHd_t {n w : Nat} {m : Mx} {s : Nat} (h : ¬ Fre n w m s) : isHd n w m s = true := @decide_eq_true _ (Classical.propDecidable _) h
theorem isHd_f {n w : Nat} {m : Mx} {s : Nat} (h : Fre n w m s) : isHd n w m s = false := @decide_eq_false _ (Classical.propDecidable _) fun z => z h
theorem isHd_iff {n w : Nat} {m : Mx} {s : Nat} : isHd n w m s = true ↔ ¬ Fre n w m s := ⟨fun h f => (by rw [isHd_f f] at h; cases h), isHd_t⟩
/-- the heads: the columns that are no such sums -/
noncomputable def hdsN (n w : Nat) (m : Mx) (s : Nat) : List Nat := (List.range s).filter (isHd n w m)
noncomputable def hds (n w : Nat) (m : Mx) : List Nat := hdsN n w m w
theorem hds_congr {n n' w : Nat} {m m' : Mx} (h : ∀ x, Ker n w m x ↔ Ker n' w m' x) : hds n w m = hds n' w m' := by
  unfold hds hdsN
  refine List.filter_congr fun s _ => ?_
  by_cases f : Fre n w m s
  · rw [isHd_f f, isHd_f ((fre_congr h).mp f)]
  · rw [isHd_t f, isHd_t fun g => f ((fre_congr h).mpr g)]
theorem hdsN_succ {n w s : Nat} {m : Mx} : hdsN n w m (s + 1) = hdsN n w m s ++ if isHd n w m s = true then [s] else [] := by
  unfold hdsN
  rw [List.range_succ, List.filter_append, List.filter_cons]
  rfl
/-! ## stairs -/
structure Ech (n s : Nat) (R : Mx) (f : List Nat) : Prop where
  len : f.length ≤ n
  lt : ∀ i, i < f.length → f.getD i 0 < s
  piv : ∀ i, i < f.length → R i (f.getD i 0) ≠ 0 ∧ ∀ j, j < f.getD i 0 → R i j = 0
  mono : ∀ i j, i < j → j < f.length → f.getD i 0 < f.getD j 0
  zero : ∀ i, f.length ≤ i → i < n → ∀ j, j < s → R i j = 0
theorem ech_nil {n : Nat} {R : Mx} : Ech n 0 R [] := ⟨Nat.zero_le _, fun i h => (by cases h), fun i h => (by cases h), fun i j _ h => (by cases h), fun i _ _ j h => (by omega)⟩
theorem ech_up {n s : Nat} {R : Mx} {f : List Nat} (E : Ech n s R f) (h : ∀ i, f.length ≤ i → i < n → R i s = 0) : Ech n (s + 1) R f :=
  ⟨E.len, fun i hi => Nat.lt_succ_of_lt (E.lt i hi), E.piv, E.mono, fun i h1 h2 j hj => by
    by_cases e : j = s
    · subst e; exact h i h1 h2
    · exact E.zero i h1 h2 j (by omega)⟩
theorem ech_free {n w s : Nat} {R : Mx} {f : List Nat} (E : Ech n s R f) (hs : s < w) (hz : ∀ i, f.length ≤ i → i < n → R i s = 0) : Fre n w R s := by
  have key : ∀ k, k ≤ f.length → ∃ x : Nat → Rat, (∀ i, f.length - k ≤ i → i < n → sumR w (fun j => R i j * x j) = 0) ∧ x s = 1 ∧ ∀ j, s < j → x j = 0 := by
    intro k
    induction k with
    | zero =>
      intro _
      refine ⟨fun j => if j = s then 1 else 0, fun i hi hin => ?_, if_pos rfl, fun j hj => if_neg (by omega)⟩
      show sumR w (fun j => R i j * (if j = s then 1 else 0)) = 0
      rw [sumR_pt (f := fun j => R i j * (if j = s then 1 else 0)) hs fun j _ hj => by
        show R i j * (if j = s then 1 else 0) = 0
        rw [if_neg hj]; grind]
      show R i s * (if s = s then 1 else 0) = 0
      rw [if_pos rfl, hz i (by omega) hin]; grind
    | succ k ih =>
      intro hk
      obtain ⟨x, h1, h2, h3⟩ := ih (by omega)
      have hi0 : f.length - (k + 1) < f.length := by omega
      generalize he : f.length - (k + 1) = i0 at *
      have hp := E.lt i0 hi0
      obtain ⟨p1, p2⟩ := E.piv i0 hi0
      refine ⟨fun j => if j = f.getD i0 0 then x (f.getD i0 0) - sumR w (fun j => R i0 j * x j) / R i0 (f.getD i0 0) else x j, fun i hi hin => ?_, ?_, fun j hj => ?_⟩
      rotate_left
      · show (if s = f.getD i0 0 then _ else x s) = 1
        rw [if_neg (by omega)]; exact h2
      · show (if j = f.getD i0 0 then _ else x j) = 0
        rw [if_neg (by omega)]; exact h3 j hj
      show sumR w (fun j => R i j * (if j = f.getD i0 0 then x (f.getD i0 0) - sumR w (fun j => R i0 j * x j) / R i0 (f.getD i0 0) else x j)) = 0
      rw [sumR_put (m := R i) (x := x) (by omega)]
      by_cases e : i = i0
      · subst e
        generalize R i (f.getD i 0) = a at *
        generalize sumR w (fun j => R i j * x j) = z
        generalize x (f.getD i 0) = y
        grind
      · have hz0 : R i (f.getD i0 0) = 0 := by
          by_cases hil : i < f.length
          · exact (E.piv i hil).2 _ (E.mono i0 i (by omega) hil)
          · exact E.zero i (by omega) hin _ hp
        rw [h1 i (by omega) hin, hz0]; grind
  obtain ⟨x, h1, h2, h3⟩ := key f.length (Nat.le_refl _)
  exact ⟨x, fun i hi => h1 i (by omega) hi, by rw [h2]; grind, h3⟩
theorem ech_head {n w s r : Nat} {R : Mx} {f : List Nat} (E : Ech n s R f) (hs : s < w) (hr : f.length ≤ r) (hrn : r < n) (hp : R r s ≠ 0) : ¬ Fre n w R s := fun ⟨x, hk, hx, h0⟩ => by
  have h := hk r hrn
  rw [sumR_pt hs fun j _ hj => by
    by_cases e : j < s
    · rw [E.zero r hr hrn j e]; grind
    · rw [h0 j (by omega)]; grind] at h
  grind
/-- one step of the stairs: a row is brought to its place, multiples of it are taken from others -/
theorem ech_step {n w s t : Nat} {R R' : Mx} {f : List Nat} {c b : Nat → Rat} (E : Ech n s R f) (hs : s < w) (ht : f.length ≤ t) (htn : t < n) (hp : R t s ≠ 0)
    (hc : ∀ i, i < n → c i ≠ 0) (hR : ∀ i, i < n → ∀ j, j < w → R' i j = c i * (if i = f.length then R t j else if i = t then R f.length j else R i j) - (if i = f.length then 0 else b i) * R t j)
    (hz : ∀ i, f.length < i → i < n → R' i s = 0) : Ech n (s + 1) R' (f ++ [s]) ∧ ∀ x, Ker n w R' x ↔ Ker n w R x := by
  have hg : ∀ i, i < f.length → (f ++ [s]).getD i 0 = f.getD i 0 := fun i hi => by
    rw [List.getD_eq_getElem?_getD, List.getElem?_append_left hi, List.getD_eq_getElem?_getD]
  have hl : (f ++ [s]).getD f.length 0 = s := by
    rw [List.getD_eq_getElem?_getD, List.getElem?_append_right (Nat.le_refl _), Nat.sub_self]; rfl
  have hlen : (f ++ [s]).length = f.length + 1 := by rw [List.length_append]; rfl
  refine ⟨⟨by omega, fun i hi => ?_, fun i hi => ?_, fun i j hij hj => ?_, fun i h1 h2 j hj => ?_⟩, fun x => ?_⟩
  · by_cases e : i = f.length
    · subst e; rw [hl]; omega
    · rw [hg i (by omega)]; have := E.lt i (by omega); omega
  · by_cases e : i = f.length
    · subst e
      rw [hl]
      refine ⟨?_, fun j hj => ?_⟩
      · rw [hR _ (by omega) s hs, if_pos rfl, if_pos rfl]
        have := hc f.length (by omega)
        grind
      · rw [hR _ (by omega) j (by omega), if_pos rfl, if_pos rfl, E.zero t ht htn j hj]; grind
    · have hi' : i < f.length := by omega
      have hlt := E.lt i hi'
      obtain ⟨p1, p2⟩ := E.piv i hi'
      have ez : ∀ j, j < s → R t j = 0 := fun j hj => E.zero t ht htn j hj
      rw [hg i hi']
      refine ⟨?_, fun j hj => ?_⟩
      · rw [hR i (by omega) _ (by omega), if_neg e, if_neg (by omega), if_neg e, ez _ hlt]
        have := hc i (by omega)
        grind
      · rw [hR i (by omega) j (by omega), if_neg e, if_neg (by omega), if_neg e, ez _ (by omega), p2 j hj]; grind
  · by_cases e : j = f.length
    · subst e; rw [hl, hg i hij]; exact E.lt i hij
    · rw [hg j (by omega), hg i (by omega)]; exact E.mono i j hij (by omega)
  · rw [hlen] at h1
    by_cases e : j = s
    · subst e; exact hz i (by omega) h2
    · have hj' : j < s := by omega
      have e1 : ¬ i = f.length := by omega
      rw [hR i h2 j (by omega)]
      simp only [if_neg e1]
      rw [E.zero t ht htn j hj']
      by_cases e2 : i = t
      · rw [if_pos e2, E.zero f.length (Nat.le_refl _) (by omega) j hj']; grind
      · rw [if_neg e2, E.zero i (by omega) h2 j hj']; grind
  · have row : ∀ i, i < n → sumR w (fun j => R' i j * x j) = c i * sumR w (fun j => (if i = f.length then R t j else if i = t then R f.length j else R i j) * x j) - (if i = f.length then 0 else b i) * sumR w (fun j => R t j * x j) := fun i hi => by
      rw [← sumR_mul, ← sumR_mul, ← sumR_sub]
      refine sumR_congr fun j hj => ?_
      rw [hR i hi j hj]; grind
    have rw0 := row f.length (by omega)
    rw [if_pos rfl] at rw0
    simp only [if_pos] at rw0
    constructor
    · intro h i hi
      have hlead : sumR w (fun j => R t j * x j) = 0 := by
        have h0 := h f.length (by omega)
        rw [rw0] at h0
        have := hc f.length (by omega)
        grind
      by_cases e : i = t
      · rw [e]; exact hlead
      · -- the row i of R stands at i, or at t if i is the place
        by_cases e2 : i = f.length
        · have h0 := h t htn
          rw [row t htn, if_neg (by omega), hlead] at h0
          have e3 : ¬ t = f.length := fun z => e (by omega)
          simp only [if_neg e3, if_pos] at h0
          rw [e2]
          have := hc t htn
          grind
        · have h0 := h i hi
          rw [row i hi, if_neg e2, hlead] at h0
          simp only [if_neg e2, if_neg e] at h0
          have := hc i hi
          grind
    · intro h i hi
      rw [row i hi, h t htn]
      by_cases e2 : i = f.length
      · simp only [if_pos e2]
        rw [h t htn]; grind
      · simp only [if_neg e2]
        by_cases e : i = t
        · simp only [if_pos e]
          rw [h f.length (by omega)]; grind
        · simp only [if_neg e]
          rw [h i hi]; grind
/-! ## more unknowns than equations -/
theorem hom : ∀ (r p : Nat), r < p → ∀ M : Mx, ∃ y : Nat → Rat, (∃ k, k < p ∧ y k ≠ 0) ∧ ∀ q, q < r → sumR p (fun k => M q k * y k) = 0
  | 0, p, hp, M => ⟨fun _ => 1, ⟨0, hp, by grind⟩, fun q hq => by omega⟩
  | r + 1, 0, hp, M => by omega
  | r + 1, p + 1, hp, M => by
    by_cases hz : ∀ k, k < p + 1 → M r k = 0
    · obtain ⟨y, hy, h⟩ := hom r (p + 1) (by omega) M
      refine ⟨y, hy, fun q hq => ?_⟩
      by_cases e : q = r
      · subst e
        exact sumR_zero _ fun k hk => by rw [hz k hk]; grind
      · exact h q (by omega)
    · have : ∃ k0, k0 < p + 1 ∧ M r k0 ≠ 0 := by
        refine Classical.byContradiction fun hn => hz fun k hk => Classical.byContradiction fun h0 => hn ⟨k, hk, h0⟩
      obtain ⟨k0, hk0, hm⟩ := this
      obtain ⟨y, ⟨k, hk, hy⟩, h⟩ := hom r p (by omega) fun q k => M q (skip k0 k) - M q k0 * M r (skip k0 k) / M r k0
      have sk : ∀ k, skip k0 k ≠ k0 := fun k => by unfold skip; split <;> omega
      have back : ∀ k, (if skip k0 k < k0 then skip k0 k else skip k0 k - 1) = k := fun k => by
        unfold skip
        by_cases e : k < k0
        · rw [if_pos e, if_pos e]
        · rw [if_neg e, if_neg (by omega)]; omega
      generalize hv : -(sumR p fun k => M r (skip k0 k) * y k) / M r k0 = v
      have hsum : ∀ q, sumR (p + 1) (fun j => M q j * (if j = k0 then v else y (if j < k0 then j else j - 1))) = M q k0 * v + sumR p fun k => M q (skip k0 k) * y k := fun q => by
        rw [sumR_skip (k0 := k0) (by omega), if_pos rfl]
        congr 1
        refine sumR_congr fun k _ => ?_
        rw [if_neg (sk k), back]
      refine ⟨fun j => if j = k0 then v else y (if j < k0 then j else j - 1), ⟨skip k0 k, by unfold skip; split <;> omega, ?_⟩, fun q hq => ?_⟩
      · show (if skip k0 k = k0 then v else y (if skip k0 k < k0 then skip k0 k else skip k0 k - 1)) ≠ 0
        rw [if_neg (sk k), back]; exact hy
      rw [hsum]
      by_cases e : q = r
      · subst e
        rw [← hv]
        generalize sumR p (fun k => M q (skip k0 k) * y k) = z
        grind
      · have hq' := h q (by omega)
        have e2 : sumR p (fun k => (M q (skip k0 k) - M q k0 * M r (skip k0 k) / M r k0) * y k) = sumR p (fun k => M q (skip k0 k) * y k) - M q k0 / M r k0 * sumR p (fun k => M r (skip k0 k) * y k) := by
          rw [← sumR_mul, ← sumR_sub]
          exact sumR_congr fun k _ => by grind
        rw [e2] at hq'
        rw [← hv]
        generalize sumR p (fun k => M q (skip k0 k) * y k) = z at *
        generalize sumR p (fun k => M r (skip k0 k) * y k) = z2 at *
        grind
/-! ## ranks -/
/-- a product of tables with r numbers between -/
def Fac (n w r : Nat) (m : Mx) : Prop := ∃ A B : Mx, ∀ i, i < n → ∀ j, j < w → m i j = sumR r fun k => A i k * B k j
theorem hdsN_mem {n w s j : Nat} {m : Mx} : j ∈ hdsN n w m s ↔ j < s ∧ ¬ Fre n w m j := by
  unfold hdsN; rw [List.mem_filter, List.mem_range, isHd_iff]
theorem hds_mem {n w j : Nat} {m : Mx} : j ∈ hds n w m ↔ j < w ∧ ¬ Fre n w m j := hdsN_mem
theorem getD_mem {l : List Nat} {k : Nat} (h : k < l.length) : l.getD k 0 ∈ l := by
  rw [List.getD_eq_getElem?_getD, List.getElem?_eq_getElem h]; exact List.getElem_mem h
theorem mem_getD {l : List Nat} {x : Nat} (h : x ∈ l) : ∃ k, k < l.length ∧ l.getD k 0 = x := by
  obtain ⟨k, hk, e⟩ := List.getElem_of_mem h
  exact ⟨k, hk, by rw [List.getD_eq_getElem?_getD, List.getElem?_eq_getElem hk]; exact e⟩
theorem hds_mono {n w : Nat} {m : Mx} {i j : Nat} (hij : i < j) (hj : j < (hds n w m).length) : (hds n w m).getD i 0 < (hds n w m).getD j 0 := by
  have hp : (hds n w m).Pairwise (· < ·) := by
    unfold hds hdsN
    exact List.Pairwise.filter _ List.pairwise_lt_range
  have := List.pairwise_iff_getElem.mp hp i j (by omega) hj hij
  rw [List.getD_eq_getElem?_getD, List.getElem?_eq_getElem (show i < (hds n w m).length by omega), List.getD_eq_getElem?_getD, List.getElem?_eq_getElem hj]
  exact this
/-- each column is a sum of multiples of the heads -/
theorem col_heads {n w : Nat} {m : Mx} : ∀ j, j < w → ∃ c : Nat → Rat, ∀ i, i < n → m i j = sumR (hds n w m).length fun k => m i ((hds n w m).getD k 0) * c k := by
  intro j
  induction j using Nat.strongRecOn with
  | ind j ih =>
    intro hj
    by_cases hf : Fre n w m j
    · obtain ⟨x, hk, hx, h0⟩ := hf
      have ih' : ∀ t, ∃ c : Nat → Rat, t < j → ∀ i, i < n → m i t = sumR (hds n w m).length fun k => m i ((hds n w m).getD k 0) * c k := fun t => by
        by_cases ht : t < j
        · obtain ⟨c, hc⟩ := ih t ht (by omega)
          exact ⟨c, fun _ => hc⟩
        · exact ⟨fun _ => 0, fun z => absurd z ht⟩
      let C : Nat → Nat → Rat := fun t => (ih' t).choose
      have hC : ∀ t, t < j → ∀ i, i < n → m i t = sumR (hds n w m).length fun k => m i ((hds n w m).getD k 0) * C t k := fun t => (ih' t).choose_spec
      refine ⟨fun k => -(sumR j fun t => C t k * x t) / x j, fun i hi => ?_⟩
      have h1 := hk i hi
      have h2 : sumR w (fun t => m i t * x t) = sumR j (fun t => m i t * x t) + m i j * x j := by
        have aux : ∀ d, sumR (j + 1 + d) (fun t => m i t * x t) = sumR j (fun t => m i t * x t) + m i j * x j := by
          intro d
          induction d with
          | zero => rfl
          | succ d ih2 =>
            rw [← Nat.add_assoc, sumR_succ, ih2, h0 (j + 1 + d) (by omega)]; grind
        have := aux (w - (j + 1))
        rwa [show j + 1 + (w - (j + 1)) = w by omega] at this
      rw [h2] at h1
      have h3 : sumR j (fun t => m i t * x t) = sumR (hds n w m).length fun k => m i ((hds n w m).getD k 0) * sumR j fun t => C t k * x t := by
        rw [sumR_congr (g := fun t => sumR (hds n w m).length fun k => m i ((hds n w m).getD k 0) * C t k * x t) fun t ht => by
          rw [hC t ht i hi, ← sumR_mulr], sumR_swap]
        refine sumR_congr fun k _ => ?_
        rw [← sumR_mul]
        exact sumR_congr fun t _ => by grind
      have h4 : sumR (hds n w m).length (fun k => m i ((hds n w m).getD k 0) * (-(sumR j fun t => C t k * x t) / x j)) = -(1 / x j) * sumR (hds n w m).length fun k => m i ((hds n w m).getD k 0) * sumR j fun t => C t k * x t := by
        rw [← sumR_mul]
        exact sumR_congr fun k _ => by grind
      rw [h4, ← h3]
      generalize sumR j (fun t => m i t * x t) = z at *
      grind
    · obtain ⟨k, hk, e⟩ := mem_getD (hds_mem.mpr ⟨hj, hf⟩)
      refine ⟨fun q => if q = k then 1 else 0, fun i hi => ?_⟩
      rw [sumR_pt (f := fun q => m i ((hds n w m).getD q 0) * (if q = k then 1 else 0)) hk fun q _ hq => by
        show m i ((hds n w m).getD q 0) * (if q = k then 1 else 0) = 0
        rw [if_neg hq]; grind]
      show m i j = m i ((hds n w m).getD k 0) * (if k = k then 1 else 0)
      rw [if_pos rfl, e]; grind
theorem fac_heads {n w : Nat} {m : Mx} : Fac n w (hds n w m).length m := by
  have h : ∀ j, ∃ c : Nat → Rat, j < w → ∀ i, i < n → m i j = sumR (hds n w m).length fun k => m i ((hds n w m).getD k 0) * c k := fun j => by
    by_cases hj : j < w
    · obtain ⟨c, hc⟩ := col_heads j hj
      exact ⟨c, fun _ => hc⟩
    · exact ⟨fun _ => 0, fun z => absurd z hj⟩
  exact ⟨fun i k => m i ((hds n w m).getD k 0), fun k j => (h j).choose k, fun i hi j hj => (h j).choose_spec hj i hi⟩
/-- the heads are free -/
theorem heads_free {n w : Nat} {m : Mx} {y : Nat → Rat} (h : ∀ i, i < n → sumR (hds n w m).length (fun k => m i ((hds n w m).getD k 0) * y k) = 0) : ∀ k, k < (hds n w m).length → y k = 0 := by
  refine Classical.byContradiction fun hn => ?_
  have hex : ∃ k, k < (hds n w m).length ∧ y k ≠ 0 := Classical.byContradiction fun z => hn fun k hk => Classical.byContradiction fun h0 => z ⟨k, hk, h0⟩
  -- the greatest one
  have top : ∃ k, k < (hds n w m).length ∧ y k ≠ 0 ∧ ∀ q, k < q → q < (hds n w m).length → y q = 0 := by
    have : ∀ d, (∃ k, k < (hds n w m).length ∧ y k ≠ 0 ∧ (hds n w m).length ≤ k + d) → ∃ k, k < (hds n w m).length ∧ y k ≠ 0 ∧ ∀ q, k < q → q < (hds n w m).length → y q = 0 := by
      intro d
      induction d with
      | zero => rintro ⟨k, h1, _, h3⟩; omega
      | succ d ih =>
        rintro ⟨k, h1, h2, h3⟩
        by_cases hq : ∃ q, k < q ∧ q < (hds n w m).length ∧ y q ≠ 0
        · obtain ⟨q, q1, q2, q3⟩ := hq
          exact ih ⟨q, q2, q3, by omega⟩
        · exact ⟨k, h1, h2, fun q q1 q2 => Classical.byContradiction fun q3 => hq ⟨q, q1, q2, q3⟩⟩
    obtain ⟨k, h1, h2⟩ := hex
    exact this (hds n w m).length ⟨k, h1, h2, by omega⟩
  obtain ⟨k, hk, hy, h0⟩ := top
  refine (hds_mem.mp (getD_mem hk)).2 ⟨fun j => sumR (hds n w m).length fun q => if (hds n w m).getD q 0 = j then y q else 0, fun i hi => ?_, ?_, fun j hj => ?_⟩
  · refine Eq.trans ?_ (h i hi)
    show sumR w (fun j => m i j * sumR (hds n w m).length fun q => if (hds n w m).getD q 0 = j then y q else 0) = _
    rw [sumR_congr (g := fun j => sumR (hds n w m).length fun q => m i j * (if (hds n w m).getD q 0 = j then y q else 0)) fun j _ => by rw [sumR_mul], sumR_swap]
    refine sumR_congr fun q hq => ?_
    have hw := (hds_mem.mp (getD_mem hq)).1
    rw [sumR_pt (f := fun j => m i j * (if (hds n w m).getD q 0 = j then y q else 0)) hw fun j _ hj => by
      show m i j * (if (hds n w m).getD q 0 = j then y q else 0) = 0
      rw [if_neg fun z => hj z.symm]; grind]
    show m i ((hds n w m).getD q 0) * (if (hds n w m).getD q 0 = (hds n w m).getD q 0 then y q else 0) = _
    rw [if_pos rfl]
  · show (sumR (hds n w m).length fun q => if (hds n w m).getD q 0 = (hds n w m).getD k 0 then y q else 0) ≠ 0
    rw [sumR_pt (f := fun q => if (hds n w m).getD q 0 = (hds n w m).getD k 0 then y q else 0) hk fun q hq hqk => ?_]
    · show (if (hds n w m).getD k 0 = (hds n w m).getD k 0 then y k else 0) ≠ 0
      rw [if_pos rfl]; exact hy
    · refine if_neg fun z => hqk ?_
      rcases Nat.lt_or_ge q k with c | c
      · have := hds_mono c hk; omega
      · rcases Nat.lt_or_eq_of_le c with c | c
        · have := hds_mono c hq; omega
        · exact c.symm
  · refine sumR_zero _ fun q hq => ?_
    by_cases e : (hds n w m).getD q 0 = j
    · rw [if_pos e]
      refine h0 q ?_ hq
      rcases Nat.lt_or_ge k q with c | c
      · exact c
      · rcases Nat.lt_or_eq_of_le c with c | c
        · have := hds_mono c hk; omega
        · subst c; omega
    · exact if_neg e
theorem fac_le {n w r : Nat} {m : Mx} (h : Fac n w r m) : (hds n w m).length ≤ r := by
  refine Classical.byContradiction fun hn => ?_
  obtain ⟨A, B, hAB⟩ := h
  obtain ⟨y, ⟨k, hk, hy⟩, h0⟩ := hom r (hds n w m).length (by omega) fun q k => B q ((hds n w m).getD k 0)
  refine hy (heads_free (m := m) (y := y) (fun i hi => ?_) k hk)
  rw [sumR_congr (g := fun k => sumR r fun q => A i q * (B q ((hds n w m).getD k 0) * y k)) fun k hk => by
    rw [hAB i hi _ (hds_mem.mp (getD_mem hk)).1, ← sumR_mulr]
    exact sumR_congr fun q _ => by grind, sumR_swap]
  refine sumR_zero _ fun q hq => ?_
  rw [sumR_mul, h0 q hq]; grind
end Rf
end

section
set_option maxRecDepth 100000
set_option maxHeartbeats 4000000
set_option autoImplicit false
namespace Rf
/-! ## ranks of products -/
theorem ker_scale {n w : Nat} {m m' : Mx} (h : ∀ i, i < n → ∃ c : Rat, c ≠ 0 ∧ ∀ j, j < w → m' i j = c * m i j) (x : Nat → Rat) : Ker n w m' x ↔ Ker n w m x := by
  have e : ∀ i, i < n → ∃ c : Rat, c ≠ 0 ∧ sumR w (fun j => m' i j * x j) = c * sumR w fun j => m i j * x j := fun i hi => by
    obtain ⟨c, hc, hj⟩ := h i hi
    refine ⟨c, hc, ?_⟩
    rw [← sumR_mul]
    exact sumR_congr fun j hj' => by rw [hj j hj']; grind
  constructor
  · intro k i hi
    obtain ⟨c, hc, hs⟩ := e i hi
    have := k i hi
    rw [hs] at this
    grind
  · intro k i hi
    obtain ⟨c, hc, hs⟩ := e i hi
    rw [hs, k i hi]; grind
theorem hds_le {n w : Nat} {m : Mx} : (hds n w m).length ≤ w := by
  have := List.length_filter_le (isHd n w m) (List.range w)
  rw [List.length_range] at this
  exact this
/-- all columns are heads: nothing but noughts is brought to noughts -/
theorem full_inj {n s : Nat} {a : Mx} (h : (hds n s a).length = s) {y : Nat → Rat} (hy : Ker n s a y) : ∀ k, k < s → y k = 0 := by
  have e : hds n s a = List.range s := by
    unfold hds hdsN at h ⊢
    refine List.filter_eq_self.mpr ?_
    refine List.length_filter_eq_length_iff.mp ?_
    rw [h, List.length_range]
  have g : ∀ k, k < s → (List.range s).getD k 0 = k := fun k hk => by
    rw [List.getD_eq_getElem?_getD, List.getElem?_range hk]; rfl
  have := heads_free (n := n) (w := s) (m := a) (y := y) fun i hi => by
    rw [h, e, ← hy i hi]
    exact sumR_congr fun k hk => by rw [g k hk]
  intro k hk
  exact this k (by rw [h]; exact hk)
theorem fac_rows {n w : Nat} {m : Mx} : Fac n w n m := ⟨fun i k => if k = i then 1 else 0, m, fun i hi j _ => by
  show m i j = sumR n fun k => (if k = i then 1 else 0) * m k j
  rw [sumR_pt (f := fun k => (if k = i then 1 else 0) * m k j) hi fun k _ hk => by
    show (if k = i then 1 else 0) * m k j = 0
    rw [if_neg hk]; grind]
  show m i j = (if i = i then 1 else 0) * m i j
  rw [if_pos rfl]; grind⟩
theorem fac_mul_r {n w s r : Nat} {m a b : Mx} (h : ∀ i, i < n → ∀ j, j < w → m i j = sumR s fun k => a i k * b k j) (hb : Fac s w r b) : Fac n w r m := by
  obtain ⟨A, B, hAB⟩ := hb
  refine ⟨fun i q => sumR s fun k => a i k * A k q, B, fun i hi j hj => ?_⟩
  rw [h i hi j hj, sumR_congr (g := fun k => sumR r fun q => a i k * (A k q * B q j)) fun k hk => by rw [hAB k hk j hj, sumR_mul], sumR_swap]
  refine sumR_congr fun q _ => ?_
  rw [← sumR_mulr]
  exact sumR_congr fun k _ => by grind
theorem fac_mul_l {n w s r : Nat} {m a b : Mx} (h : ∀ i, i < n → ∀ j, j < w → m i j = sumR s fun k => a i k * b k j) (ha : Fac n s r a) : Fac n w r m := by
  obtain ⟨A, B, hAB⟩ := ha
  refine ⟨A, fun q j => sumR s fun k => B q k * b k j, fun i hi j hj => ?_⟩
  rw [h i hi j hj, sumR_congr (g := fun k => sumR r fun q => A i q * (B q k * b k j)) fun k hk => by
    rw [hAB i hi k hk, ← sumR_mulr]
    exact sumR_congr fun q _ => by grind, sumR_swap]
  exact sumR_congr fun q _ => by rw [sumR_mul]
theorem rank_prod {n w s : Nat} {m a b : Mx} (h : ∀ i, i < n → ∀ j, j < w → m i j = sumR s fun k => a i k * b k j) :
    (hds n w m).length = s ↔ (hds s w b).length = s ∧ (hds n s a).length = s := by
  constructor
  · intro e
    have h1 := fac_le (fac_mul_r h (fac_heads (n := s) (w := w) (m := b)))
    have h2 := fac_le (fac_mul_l h (fac_heads (n := n) (w := s) (m := a)))
    have h3 : (hds s w b).length ≤ s := fac_le fac_rows
    have h4 : (hds n s a).length ≤ s := hds_le
    omega
  · rintro ⟨e1, e2⟩
    have hrow : ∀ (x : Nat → Rat) i, i < n → sumR w (fun j => m i j * x j) = sumR s fun k => a i k * sumR w fun j => b k j * x j := fun x i hi => by
      rw [sumR_congr (g := fun j => sumR s fun k => a i k * (b k j * x j)) fun j hj => by
        rw [h i hi j hj, ← sumR_mulr]
        exact sumR_congr fun k _ => by grind, sumR_swap]
      exact sumR_congr fun k _ => by rw [sumR_mul]
    have : hds n w m = hds s w b := hds_congr fun x => by
      constructor
      · intro k
        refine full_inj e2 (y := fun k => sumR w fun j => b k j * x j) (fun i hi => ?_)
        rw [← hrow x i hi]
        exact k i hi
      · intro k i hi
        rw [hrow x i hi]
        exact sumR_zero _ fun q hq => by rw [k q hq]; grind
    rw [this]
    exact e1
/-! ## the law's stairs tell the heads -/
def mxI (rows : List (List Int)) : Mx := fun i j => (((rows.getD i []).getD j 0 : Int) : Rat)
def mxR (rows : List (List Rat)) : Mx := fun i j => (rows.getD i []).getD j 0
theorem set_gd {α : Type} {l : List α} {a i : Nat} {x d : α} : (l.set a x).getD i d = if i = a ∧ a < l.length then x else l.getD i d := by
  rw [List.getD_eq_getElem?_getD, List.getElem?_set]
  by_cases e : a = i
  · subst e
    by_cases h : a < l.length
    · rw [if_pos rfl, if_pos h, if_pos ⟨rfl, h⟩]; rfl
    · rw [if_pos rfl, if_neg h, if_neg fun z => h z.2, List.getD_eq_getElem?_getD, List.getElem?_eq_none (by omega)]
  · rw [if_neg e, if_neg fun z => e z.1.symm, List.getD_eq_getElem?_getD]
theorem swap_gd {rows : List (List Int)} {i j k : Nat} (hi : i < rows.length) (hj : j < rows.length) : (swapF rows i j).getD k [] = if k = i then rows.getD j [] else if k = j then rows.getD i [] else rows.getD k [] := by
  unfold swapF
  rw [set_gd, set_gd, List.length_set]
  by_cases e1 : k = j
  · subst e1
    rw [if_pos ⟨rfl, hj⟩]
    by_cases e2 : k = i
    · subst e2; rw [if_pos rfl]
    · rw [if_neg e2, if_pos rfl]
  · rw [if_neg fun z => e1 z.1]
    by_cases e2 : k = i
    · rw [if_pos ⟨e2, hi⟩, if_pos e2]
    · rw [if_neg fun z => e2 z.1, if_neg e2, if_neg e1]
theorem elimAt_gd {lead : List Int} {s a i : Nat} {rows : List (List Int)} : (elimAt lead s rows a).getD i [] = if i = a ∧ (rows.getD i []).getD s 0 ≠ 0 then subF (rows.getD i []) lead (lead.getD s 0) ((rows.getD i []).getD s 0) else rows.getD i [] := by
  unfold elimAt
  by_cases h : (rows.getD a []).getD s 0 ≠ 0
  · rw [if_pos h, set_gd]
    have ha : a < rows.length := by
      refine Classical.byContradiction fun z => h ?_
      rw [List.getD_eq_getElem?_getD (l := rows), List.getElem?_eq_none (by omega)]
      rfl
    by_cases e : i = a
    · subst e
      rw [if_pos ⟨rfl, ha⟩, if_pos ⟨rfl, h⟩]
    · rw [if_neg fun z => e z.1, if_neg fun z => e z.1]
  · rw [if_neg h]
    by_cases e : i = a
    · subst e; rw [if_neg fun z => h z.2]
    · rw [if_neg fun z => e z.1]
theorem elim_gd {lead : List Int} {s i : Nat} : ∀ {ats : List Nat} {rows : List (List Int)}, ats.Nodup → (elimF lead s rows ats).getD i [] = if i ∈ ats ∧ (rows.getD i []).getD s 0 ≠ 0 then subF (rows.getD i []) lead (lead.getD s 0) ((rows.getD i []).getD s 0) else rows.getD i []
  | [], rows, _ => by rw [if_neg fun z => by cases z.1]; rfl
  | a :: ats, rows, h => by
    have h' := List.nodup_cons.mp h
    show (elimF lead s (elimAt lead s rows a) ats).getD i [] = _
    rw [elim_gd h'.2]
    by_cases e : i = a
    · subst e
      rw [if_neg fun z => h'.1 z.1, elimAt_gd]
      by_cases c : (rows.getD i []).getD s 0 ≠ 0
      · rw [if_pos ⟨rfl, c⟩, if_pos ⟨List.mem_cons_self, c⟩]
      · rw [if_neg fun z => c z.2, if_neg fun z => c z.2]
    · have hA : (elimAt lead s rows a).getD i [] = rows.getD i [] := by rw [elimAt_gd, if_neg fun z => e z.1]
      rw [hA]
      by_cases c : i ∈ ats ∧ (rows.getD i []).getD s 0 ≠ 0
      · rw [if_pos c, if_pos ⟨List.mem_cons_of_mem _ c.1, c.2⟩]
      · rw [if_neg c, if_neg fun z => c ⟨by
          rcases List.mem_cons.mp z.1 with q | q
          · exact absurd q e
          · exact q, z.2⟩]
theorem sub_gd {x y : List Int} {p b : Int} {j : Nat} (h1 : j < x.length) (h2 : j < y.length) : (subF x y p b).getD j 0 = x.getD j 0 * p - y.getD j 0 * b := by
  unfold subF
  rw [List.getD_eq_getElem?_getD, List.getElem?_eq_getElem (by rw [List.length_map, List.length_zip]; omega), List.getElem_map, List.getElem_zip, List.getD_eq_getElem?_getD (l := x), List.getElem?_eq_getElem h1, List.getD_eq_getElem?_getD (l := y), List.getElem?_eq_getElem h2]
  rfl
theorem len_elimF {lead : List Int} {s : Nat} : ∀ {ats : List Nat} {rows : List (List Int)}, (elimF lead s rows ats).length = rows.length
  | [], _ => rfl
  | a :: ats, rows => by
    show (elimF lead s (elimAt lead s rows a) ats).length = _
    rw [len_elimF, len_elimAt]
def Wid (w : Nat) (rows : List (List Int)) : Prop := ∀ i, i < rows.length → (rows.getD i []).length = w
theorem heads_inv {w : Nat} {rows0 : List (List Int)} (hw : Wid w rows0) : ∀ s, s ≤ w → ∀ st, st = (List.range s).foldl colF (rows0, []) →
    st.1.length = rows0.length ∧ Wid w st.1 ∧ Ech rows0.length s (mxI st.1) st.2 ∧ (∀ x, Ker rows0.length w (mxI st.1) x ↔ Ker rows0.length w (mxI rows0) x) ∧ st.2 = hdsN rows0.length w (mxI rows0) s
  | 0, _, st, e => by subst e; exact ⟨rfl, hw, ech_nil, fun x => Iff.rfl, rfl⟩
  | s + 1, hs, st, e => by
    rw [List.range_succ, List.foldl_append] at e
    obtain ⟨h1, h2, h3, h4, h5⟩ := heads_inv hw s (by omega) _ rfl
    generalize (List.range s).foldl colF (rows0, []) = q at *
    obtain ⟨rows, found⟩ := q
    have e' : st = colF (rows, found) s := e
    subst e'
    have h1 : rows.length = rows0.length := h1
    have hl := h3.len
    have hl : found.length ≤ rows0.length := hl
    cases ht : topsF rows s found.length with
    | nil =>
      have ec : colF (rows, found) s = (rows, found) := by
        unfold colF
        show (match topsF rows s found.length with | [] => _ | t :: _ => _) = _
        rw [ht]
      have hz : ∀ i, found.length ≤ i → i < rows0.length → mxI rows i s = 0 := fun i hi hin => by
        have hm : i - found.length ∉ topsF rows s found.length := by rw [ht]; exact List.not_mem_nil
        unfold topsF at hm
        have : (rows.getD i []).getD s 0 = 0 := Classical.byContradiction fun z => hm (List.mem_filter.mpr ⟨List.mem_range.mpr (by omega), by
          rw [decide_eq_true_eq, show found.length + (i - found.length) = i by omega]; exact z⟩)
        show (((rows.getD i []).getD s 0 : Int) : Rat) = 0
        rw [this]; rfl
      rw [ec]
      refine ⟨h1, h2, ech_up h3 hz, h4, ?_⟩
      rw [hdsN_succ, ← h5, isHd_f ((fre_congr h4).mp (ech_free h3 (by omega) hz))]
      simp
    | cons t ts =>
      have hm : t ∈ topsF rows s found.length := by rw [ht]; exact List.mem_cons_self
      unfold topsF at hm
      obtain ⟨m1, m2⟩ := List.mem_filter.mp hm
      have m1 := List.mem_range.mp m1
      rw [decide_eq_true_eq] at m2
      have ec : colF (rows, found) s = (elimF ((swapF rows found.length (found.length + t)).getD found.length []) s (swapF rows found.length (found.length + t)) ((List.range (rows.length - (found.length + 1))).map (found.length + 1 + ·)), found ++ [s]) := by
        unfold colF
        show (match topsF rows s found.length with | [] => _ | t :: _ => _) = _
        rw [ht]
      have hd1 : found.length < rows.length := by omega
      have hd2 : found.length + t < rows.length := by omega
      generalize hT : found.length + t = T at *
      have hlead : (swapF rows found.length T).getD found.length [] = rows.getD T [] := by rw [swap_gd hd1 hd2, if_pos rfl]
      rw [ec, hlead]
      have hnd : ((List.range (rows.length - (found.length + 1))).map (found.length + 1 + ·)).Nodup := by
        refine List.pairwise_map.mpr (List.Pairwise.imp (fun {a b} (h : a < b) => ?_) List.pairwise_lt_range)
        omega
      have hmem : ∀ i, i ∈ (List.range (rows.length - (found.length + 1))).map (found.length + 1 + ·) ↔ found.length < i ∧ i < rows.length := fun i => by
        rw [List.mem_map]
        constructor
        · rintro ⟨k, hk, rfl⟩
          have := List.mem_range.mp hk
          omega
        · rintro ⟨a1, a2⟩
          exact ⟨i - (found.length + 1), List.mem_range.mpr (by omega), by omega⟩
      have hsw : ∀ i, (swapF rows found.length T).getD i [] = if i = found.length then rows.getD T [] else if i = T then rows.getD found.length [] else rows.getD i [] := fun i => swap_gd hd1 hd2
      have hwT : (rows.getD T []).length = w := h2 T hd2
      have hwsw : ∀ i, i < rows.length → ((swapF rows found.length T).getD i []).length = w := fun i hi => by
        rw [hsw]
        by_cases a1 : i = found.length
        · rw [if_pos a1]; exact hwT
        · rw [if_neg a1]
          by_cases a2 : i = T
          · rw [if_pos a2]; exact h2 _ hd1
          · rw [if_neg a2]; exact h2 _ hi
      have hlen : (elimF (rows.getD T []) s (swapF rows found.length T) ((List.range (rows.length - (found.length + 1))).map (found.length + 1 + ·))).length = rows.length := by rw [len_elimF, swap_len]
      generalize hR : elimF (rows.getD T []) s (swapF rows found.length T) ((List.range (rows.length - (found.length + 1))).map (found.length + 1 + ·)) = rows' at *
      have hget : ∀ i, rows'.getD i [] = if (found.length < i ∧ i < rows.length) ∧ ((swapF rows found.length T).getD i []).getD s 0 ≠ 0 then subF ((swapF rows found.length T).getD i []) (rows.getD T []) ((rows.getD T []).getD s 0) (((swapF rows found.length T).getD i []).getD s 0) else (swapF rows found.length T).getD i [] := fun i => by
        rw [← hR, elim_gd hnd]
        simp only [hmem]
      have hwid : Wid w rows' := fun i hi => by
        rw [hlen] at hi
        rw [hget]
        split
        · unfold subF
          rw [List.length_map, List.length_zip, hwsw i hi, hwT, Nat.min_self]
        · exact hwsw i hi
      have hval : ∀ i, i < rows.length → ∀ j, j < w → (rows'.getD i []).getD j 0 = if (found.length < i) ∧ ((swapF rows found.length T).getD i []).getD s 0 ≠ 0 then ((swapF rows found.length T).getD i []).getD j 0 * (rows.getD T []).getD s 0 - (rows.getD T []).getD j 0 * ((swapF rows found.length T).getD i []).getD s 0 else ((swapF rows found.length T).getD i []).getD j 0 := fun i hi j hj => by
        rw [hget]
        by_cases c : found.length < i ∧ ((swapF rows found.length T).getD i []).getD s 0 ≠ 0
        · rw [if_pos ⟨⟨c.1, hi⟩, c.2⟩, if_pos c, sub_gd (by rw [hwsw i hi]; exact hj) (by rw [hwT]; exact hj)]
        · rw [if_neg fun z => c ⟨z.1.1, z.2⟩, if_neg c]
      have hpr : mxI rows T s ≠ 0 := by
        show (((rows.getD T []).getD s 0 : Int) : Rat) ≠ 0
        intro z
        exact m2 (by exact_mod_cast z)
      have hswm : ∀ i j, ((((swapF rows found.length T).getD i []).getD j 0 : Int) : Rat) = if i = found.length then mxI rows T j else if i = T then mxI rows found.length j else mxI rows i j := fun i j => by
        rw [hsw]
        by_cases a1 : i = found.length
        · rw [if_pos a1, if_pos a1]; rfl
        · rw [if_neg a1, if_neg a1]
          by_cases a2 : i = T
          · rw [if_pos a2, if_pos a2]; rfl
          · rw [if_neg a2, if_neg a2]; rfl
      have hstep := ech_step (n := rows0.length) (w := w) (s := s) (t := T) (R := mxI rows) (R' := mxI rows') (f := found)
        (c := fun i => if found.length < i ∧ ((swapF rows found.length T).getD i []).getD s 0 ≠ 0 then mxI rows T s else 1)
        (b := fun i => if found.length < i ∧ ((swapF rows found.length T).getD i []).getD s 0 ≠ 0 then ((((swapF rows found.length T).getD i []).getD s 0 : Int) : Rat) else 0)
        h3 (by omega) (by omega) (by omega) hpr (fun i _ => by
          split
          · exact hpr
          · grind) (fun i hi j hj => by
          show (((rows'.getD i []).getD j 0 : Int) : Rat) = _
          rw [hval i (by omega) j hj, ← hswm i j]
          by_cases a1 : i = found.length
          · subst a1
            rw [if_neg fun z => by omega, if_neg fun z => by omega, if_pos rfl]; grind
          · rw [if_neg a1]
            by_cases c : found.length < i ∧ ((swapF rows found.length T).getD i []).getD s 0 ≠ 0
            · rw [if_pos c, if_pos c, if_pos c, Rat.intCast_sub, Rat.intCast_mul, Rat.intCast_mul]
              show _ = mxI rows T s * _ - _ * mxI rows T j
              show _ * mxI rows T s - mxI rows T j * _ = _
              grind
            · rw [if_neg c, if_neg c, if_neg c]; grind) (fun i a1 a2 => by
          show (((rows'.getD i []).getD s 0 : Int) : Rat) = 0
          rw [hval i (by omega) s (by omega)]
          by_cases c : found.length < i ∧ ((swapF rows found.length T).getD i []).getD s 0 ≠ 0
          · rw [if_pos c, Rat.intCast_sub, Rat.intCast_mul, Rat.intCast_mul]; grind
          · rw [if_neg c]
            have : ((swapF rows found.length T).getD i []).getD s 0 = 0 := Classical.byContradiction fun z => c ⟨a1, z⟩
            rw [this]; rfl)
      refine ⟨by rw [hlen]; exact h1, hwid, hstep.1, fun x => (hstep.2 x).trans (h4 x), ?_⟩
      show found ++ [s] = _
      rw [hdsN_succ, ← h5, isHd_t fun z => ech_head h3 (show s < w by omega) (show found.length ≤ T by omega) (show T < rows0.length by omega) hpr ((fre_congr h4).mpr z)]
      rfl
theorem heads_hds {w : Nat} {rows : List (List Int)} (hw : Wid w rows) : headsF rows w = hds rows.length w (mxI rows) := (heads_inv hw w (Nat.le_refl _) _ rfl).2.2.2.2
theorem whole_gd {l : List Rat} {j : Nat} (hj : j < l.length) : (((wholeF l).getD j 0 : Int) : Rat) = (comF l 1 : Rat) * l.getD j 0 := by
  unfold wholeF
  rw [List.getD_eq_getElem?_getD, List.getElem?_map, List.getElem?_eq_getElem hj, List.getD_eq_getElem?_getD, List.getElem?_eq_getElem hj]
  show ((l[j].num * ((comF l 1 / l[j].den : Nat) : Int) : Int) : Rat) = _ * l[j]
  obtain ⟨c, hc⟩ := (comF_dvd l 1).2 l[j] (List.getElem_mem hj)
  rw [hc, Nat.mul_div_cancel_left _ l[j].den_pos, Rat.intCast_mul, Rat.natCast_mul]
  have h1 : (l[j].num : Rat) = l[j] * (l[j].den : Rat) := by
    have h := Rat.mkRat_self l[j]
    rw [Rat.mkRat_eq_div] at h
    have : (l[j].den : Rat) ≠ 0 := by exact_mod_cast l[j].den_nz
    grind
  rw [h1]
  show l[j] * (l[j].den : Rat) * ((c : Nat) : Int) = _
  have h2 : (((c : Nat) : Int) : Rat) = (c : Rat) := rfl
  rw [h2]; grind
/-- the rank of lines of a width -/
noncomputable def rankL (m : List (List Rat)) (w : Nat) : Nat := (hds m.length w (mxR m)).length
theorem law_rank {m : List (List Rat)} {w : Nat} (hw : ∀ l ∈ m, l.length = w) : (headsF (m.map wholeF) (widthF m)).length = rankL m w := by
  cases hm : m with
  | nil =>
    unfold rankL hds hdsN
    show (headsF [] 0).length = _
    rw [show (List.range w).filter (isHd ([] : List (List Rat)).length w (mxR [])) = [] from List.filter_eq_nil_iff.mpr fun s _ h => isHd_iff.mp h ⟨fun j => if j = s then 1 else 0, fun i hi => (by cases hi), by show (if s = s then (1 : Rat) else 0) ≠ 0; rw [if_pos rfl]; grind, fun j hj => by show (if j = s then (1 : Rat) else 0) = 0; rw [if_neg (by omega)]⟩]
    rfl
  | cons l0 m0 =>
    have hwf : widthF (l0 :: m0) = w := by rw [hm] at hw; exact hw l0 List.mem_cons_self
    rw [hwf, ← hm]
    have hwid : Wid w (m.map wholeF) := fun i hi => by
      rw [List.length_map] at hi
      rw [List.getD_eq_getElem?_getD, List.getElem?_map, List.getElem?_eq_getElem hi]
      show (wholeF m[i]).length = w
      unfold wholeF
      rw [List.length_map]
      exact hw _ (List.getElem_mem hi)
    rw [heads_hds hwid, List.length_map]
    unfold rankL
    congr 1
    refine hds_congr fun x => ker_scale (fun i hi => ⟨(comF m[i] 1 : Rat), ?_, fun j hj => ?_⟩) x
    · have := comF_pos m[i] 1 (by omega)
      intro z
      exact this (by exact_mod_cast z)
    · have hli := hw _ (List.getElem_mem hi)
      show ((((m.map wholeF).getD i []).getD j 0 : Int) : Rat) = _ * (m.getD i []).getD j 0
      rw [List.getD_eq_getElem?_getD (l := m.map wholeF), List.getElem?_map, List.getElem?_eq_getElem hi, List.getD_eq_getElem?_getD (l := m), List.getElem?_eq_getElem hi]
      exact whole_gd (by rw [hli]; exact hj)
end Rf
end

section
set_option maxRecDepth 100000
set_option maxHeartbeats 4000000
set_option autoImplicit false
namespace Rf
open PySem PySem.Spec PyProof.Rows L2
/-! ## fractions less and over one another -/
theorem bt_log {b : Nat} {r : Rat} (h : Bt b r) (hb : b ≤ 8999) : r.num.natAbs.log2 < 9000 ∧ r.den.log2 < 9000 :=
  ⟨log2_lt (lt_pow h.1 (by omega)) (by omega), log2_lt (lt_pow h.2 (by omega)) (by omega)⟩
theorem times_b {k i j : Nat} {a b : Rat} {S : Sto} (ha : Bt i a) (hb : Bt j b) (hij : i + j ≤ 8999) : R (k + 3) 7 [fr a, fr b] S = some (fr (a * b), S) := by
  refine R_eq ((R_wp T_times rfl).mpr ?_)
  obtain ⟨e1, e2⟩ := bt_log ha (by omega)
  obtain ⟨e3, e4⟩ := bt_log hb (by omega)
  have h0 : a.den * b.den ≠ 0 := Nat.mul_ne_zero a.den_nz b.den_nz
  have hl : (a.den * b.den).log2 < 9000 := log2_lt (lt_pow (mul_lt ha.2 hb.2) (by omega)) (by omega)
  have ec : ((a.den : Int) * (b.den : Int)) = ((a.den * b.den : Nat) : Int) := by simp
  simp_arith only [F.times, fr, fin_wp, Int.natAbs_natCast]
  refine ⟨by omega, by omega, ?_⟩
  rw [ec, ratio_ok h0 hl, wp_some]
  exact fin_wp.mpr (by rw [Rat.mul_def]; rfl)
theorem ratio_neg {k : Nat} {top : Int} {low : Nat} {S : Sto} (h0 : low ≠ 0) (hb : low.log2 < 9000) : R (k + 2) 5 [.int top, .int (-(low : Int))] S = some (fr (Rat.normalize (-top) low h0), S) := by
  refine R_eq ((R_wp T_ratio rfl).mpr ?_)
  have hp : ¬ (0 : Int) < -(low : Int) := by omega
  have hg := gcd_facts (top := top) h0 hb
  have hg2 : -((top.natAbs.gcd low : Nat) : Int) ≠ 0 ∧ (-((top.natAbs.gcd low : Nat) : Int)).natAbs.log2 < 9000 := ⟨by have := hg.1; omega, by rw [Int.natAbs_neg]; exact hg.2⟩
  have d1 : ((top.natAbs.gcd low : Nat) : Int) ∣ top := by
    have := Int.natCast_dvd_natCast.mpr (Nat.gcd_dvd_left top.natAbs low)
    exact Int.dvd_natAbs.mp this
  have d2 : ((top.natAbs.gcd low : Nat) : Int) ∣ (low : Int) := Int.natCast_dvd_natCast.mpr (Nat.gcd_dvd_right _ _)
  have f1 : top.fdiv (-((top.natAbs.gcd low : Nat) : Int)) = (-top).fdiv ((top.natAbs.gcd low : Nat) : Int) := by
    rw [Int.fdiv_eq_ediv_of_dvd (Int.neg_dvd.mpr d1), Int.fdiv_eq_ediv_of_dvd (Int.dvd_neg.mpr d1), Int.ediv_neg, Int.neg_ediv_of_dvd d1]
  have f2 : (-(low : Int)).fdiv (-((top.natAbs.gcd low : Nat) : Int)) = (low : Int).fdiv ((top.natAbs.gcd low : Nat) : Int) := by
    rw [Int.fdiv_eq_ediv_of_dvd (Int.neg_dvd.mpr (Int.dvd_neg.mpr d2)), Int.fdiv_eq_ediv_of_dvd d2, Int.ediv_neg, Int.neg_ediv_of_dvd d2, Int.neg_neg]
  simp_arith only [F.ratio, fin_wp, divisor_ok, hp, decide_false, Int.natAbs_neg, Int.natAbs_natCast, f1, f2]
  have hfn := fr_norm (top := -top) h0
  rw [Int.natAbs_neg] at hfn
  have hg3 := hg2.2
  rw [Int.natAbs_neg, Int.natAbs_natCast] at hg3
  exact ⟨⟨hg2.1, hg3⟩, ⟨hg2.1, hg3⟩, by rw [hfn]⟩
theorem row_scaled_b {k i j : Nat} {a : List Rat} {x : Rat} {S : Sto} (h1 : ∀ x ∈ a, Bt i x) (h2 : Bt j x) (hij : i + j ≤ 8999) (h4 : a.length ≤ 1000) : R (k + 4) 14 [row a, fr x] S = some (row (a.map fun y => y * x), S) := by
  refine R_eq ((R_wp T_row_scaled rfl).mpr ?_)
  have hl : a.length ≤ many := by rw [many_val]; omega
  simp_arith only [F.row_scaled, row, fin_wp, List.length_map, hl, true_and]
  refine wc_mapL fr (fun y => fr (y * x)) still_nil (fun y hy => ?_) ?_
  · simp_arith only [wp_some]
    rw [times_b (h1 _ hy) h2 hij]
    simp_arith only [wp_some]
  · simp_arith only [fin_wp, List.map_map]
    rfl
/-! ## rows over one denominator -/
def FB (b : Nat) (r : List Rat) : Prop := ∃ (d : Int) (z : List Int), d ≠ 0 ∧ d.natAbs < 2 ^ b ∧ r = z.map (fun t : Int => (t : Rat) / (d : Rat)) ∧ ∀ t ∈ z, t.natAbs < 2 ^ b
theorem cast_ne {d : Int} (h : d ≠ 0) : (d : Rat) ≠ 0 := fun z => h (by exact_mod_cast z)
theorem frac_bt {b : Nat} {t d : Int} (hd : d ≠ 0) (ht : t.natAbs < 2 ^ b) (hd2 : d.natAbs < 2 ^ b) : Bt b ((t : Rat) / (d : Rat)) := by
  have pos : ∀ (t : Int) (n : Nat), n ≠ 0 → t.natAbs < 2 ^ b → n < 2 ^ b → Bt b ((t : Rat) / (n : Rat)) := fun t n hn h1 h2 => by
    rw [← Rat.mkRat_eq_div]
    refine ⟨?_, ?_⟩
    · rw [Rat.num_mkRat, if_neg hn]
      exact Nat.lt_of_le_of_lt (Int.natAbs_ediv_le_natAbs _ _) h1
    · rw [Rat.den_mkRat, if_neg hn]
      exact Nat.lt_of_le_of_lt (Nat.div_le_self _ _) h2
  by_cases hs : 0 < d
  · have e : (d : Rat) = (d.natAbs : Rat) := by
      have : d = ((d.natAbs : Nat) : Int) := by omega
      rw [this]
      rfl
    rw [e]
    exact pos t d.natAbs (by omega) ht hd2
  · have e : (t : Rat) / (d : Rat) = ((-t : Int) : Rat) / (d.natAbs : Rat) := by
      have : ((d.natAbs : Nat) : Rat) = -(d : Rat) := by
        have h1 : d = -((d.natAbs : Nat) : Int) := by omega
        have h2 : (d : Rat) = ((-((d.natAbs : Nat) : Int) : Int) : Rat) := by rw [← h1]
        rw [h2, Rat.intCast_neg]
        have h3 : (((d.natAbs : Nat) : Int) : Rat) = ((d.natAbs : Nat) : Rat) := rfl
        rw [h3]; grind
      rw [this, Rat.intCast_neg]
      have := cast_ne hd
      grind
    rw [e]
    exact pos (-t) d.natAbs (by omega) (by rw [Int.natAbs_neg]; exact ht) hd2
theorem FB.bt {b : Nat} {r : List Rat} (h : FB b r) : ∀ x ∈ r, Bt b x := fun x hx => by
  obtain ⟨d, z, h1, h2, rfl, h3⟩ := h
  obtain ⟨t, ht, rfl⟩ := List.mem_map.mp hx
  exact frac_bt h1 (h3 t ht) h2
theorem FB.up {b c : Nat} {r : List Rat} (h : FB b r) (hc : b ≤ c) : FB c r := by
  obtain ⟨d, z, h1, h2, h3, h4⟩ := h
  exact ⟨d, z, h1, lt_pow h2 hc, h3, fun t ht => lt_pow (h4 t ht) hc⟩
theorem lz_fb {L e b : Nat} [Gd L] : ∀ {r : List Rat}, (∀ x ∈ r, Lz L e b x) → FB (max b (11 * e + 1)) r := fun {r} h => by
  have : ∃ z : List Int, r = z.map (fun t : Int => (t : Rat) / ((((L ^ e : Nat) : Int)) : Rat)) ∧ ∀ t ∈ z, t.natAbs < 2 ^ (max b (11 * e + 1)) := by
    induction r with
    | nil => exact ⟨[], rfl, fun t ht => by cases ht⟩
    | cons x r ih =>
      obtain ⟨z, e1, e2⟩ := ih fun y hy => h y (List.mem_cons_of_mem _ hy)
      obtain ⟨n, n1, n2⟩ := h x List.mem_cons_self
      refine ⟨n :: z, ?_, fun t ht => ?_⟩
      · rw [List.map_cons, ← e1, n2, Rat.mkRat_eq_div]
        rfl
      · rcases List.mem_cons.mp ht with rfl | ht
        · exact lt_pow n1 (Nat.le_max_left _ _)
        · exact e2 t ht
  obtain ⟨z, e1, e2⟩ := this
  exact ⟨((L ^ e : Nat) : Int), z, by have := LLe_pos (L := L) e; omega, by rw [Int.natAbs_natCast]; exact lt_pow (LLe_lt e) (Nat.le_max_right _ _), e1, e2⟩
/-! ## the program's stairs, plain -/
def leadF (r : List Rat) (s : Nat) : List Rat := r.map fun y => y * (1 / r.getD s 0)
def redF (ld r : List Rat) (s : Nat) : List Rat := if r.getD s 0 ≠ 0 then (r.zip (ld.map fun y => y * r.getD s 0)).map fun p => p.1 - p.2 else r
def swapR (rows : List (List Rat)) (i j : Nat) : List (List Rat) := (rows.set i (rows.getD j [])).set j (rows.getD i [])
def topsR (rows : List (List Rat)) (spot done : Nat) : List Nat := (List.range (rows.length - done)).filter fun k => decide ((rows.getD (done + k) []).getD spot 0 ≠ 0)
def colS (st : List (List Rat) × List Nat) (s : Nat) : List (List Rat) × List Nat := match topsR st.1 s st.2.length with
  | [] => st
  | t :: _ => (((swapR st.1 st.2.length (st.2.length + t)).map fun r => redF (leadF ((swapR st.1 st.2.length (st.2.length + t)).getD st.2.length []) s) r s).set st.2.length (leadF ((swapR st.1 st.2.length (st.2.length + t)).getD st.2.length []) s), st.2 ++ [s])
def stairsF (rows : List (List Rat)) (w : Nat) : List (List Rat) × List Nat := (List.range w).foldl colS (rows, [])
theorem swapR_gd {rows : List (List Rat)} {i j k : Nat} (hi : i < rows.length) (hj : j < rows.length) : (swapR rows i j).getD k [] = if k = i then rows.getD j [] else if k = j then rows.getD i [] else rows.getD k [] := by
  unfold swapR
  rw [set_gd, set_gd, List.length_set]
  by_cases e1 : k = j
  · subst e1
    rw [if_pos ⟨rfl, hj⟩]
    by_cases e2 : k = i
    · subst e2; rw [if_pos rfl]
    · rw [if_neg e2, if_pos rfl]
  · rw [if_neg fun z => e1 z.1]
    by_cases e2 : k = i
    · rw [if_pos ⟨e2, hi⟩, if_pos e2]
    · rw [if_neg fun z => e2 z.1, if_neg e2, if_neg e1]
theorem swapR_len {i j : Nat} {rows : List (List Rat)} : (swapR rows i j).length = rows.length := by
  unfold swapR; rw [List.length_set, List.length_set]
theorem map_gd {f : List Rat → List Rat} {rows : List (List Rat)} {i : Nat} (hi : i < rows.length) : (rows.map f).getD i [] = f (rows.getD i []) := by
  rw [List.getD_eq_getElem?_getD, List.getElem?_map, List.getElem?_eq_getElem hi, List.getD_eq_getElem?_getD, List.getElem?_eq_getElem hi]; rfl
theorem lead_gd {r : List Rat} {s j : Nat} (hj : j < r.length) : (leadF r s).getD j 0 = r.getD j 0 * (1 / r.getD s 0) := by
  unfold leadF
  rw [gd (by rw [List.length_map]; exact hj), List.getElem_map, gd hj]
theorem red_gd {ld r : List Rat} {s j : Nat} (hj : j < r.length) (hl : ld.length = r.length) : (redF ld r s).getD j 0 = r.getD j 0 - ld.getD j 0 * r.getD s 0 := by
  unfold redF
  by_cases h : r.getD s 0 ≠ 0
  · rw [if_pos h, zip_gd hj (by rw [List.length_map]; omega)]
    have : (ld.map fun y => y * r.getD s 0).getD j 0 = ld.getD j 0 * r.getD s 0 := by
      rw [gd (l := ld.map _) (by rw [List.length_map]; omega), List.getElem_map, gd (l := ld) (by omega)]
    show r.getD j 0 - (ld.map fun y => y * r.getD s 0).getD j 0 = _
    rw [this]
  · have h0 : r.getD s 0 = 0 := Classical.byContradiction h
    rw [if_neg h, h0]; grind
theorem red_len {ld r : List Rat} {s : Nat} (hl : ld.length = r.length) : (redF ld r s).length = r.length := by
  unfold redF; split
  · rw [List.length_map, List.length_zip, List.length_map]; omega
  · rfl
def WidR (w : Nat) (rows : List (List Rat)) : Prop := ∀ i, i < rows.length → (rows.getD i []).length = w
theorem widR_of {w : Nat} {rows : List (List Rat)} (h : ∀ l ∈ rows, l.length = w) : WidR w rows := fun i hi => by
  rw [gd hi]; exact h _ (List.getElem_mem hi)
structure StI (w s : Nat) (rows0 : List (List Rat)) (st : List (List Rat) × List Nat) : Prop where
  len : st.1.length = rows0.length
  wid : WidR w st.1
  ech : Ech rows0.length s (mxR st.1) st.2
  ker : ∀ x, Ker rows0.length w (mxR st.1) x ↔ Ker rows0.length w (mxR rows0) x
  hd : st.2 = hdsN rows0.length w (mxR rows0) s
  red : ∀ i, i < rows0.length → ∀ k, k < st.2.length → mxR st.1 i (st.2.getD k 0) = if i = k then 1 else 0
theorem stairs_step {w s : Nat} {rows0 : List (List Rat)} {st : List (List Rat) × List Nat} (hs : s < w) (I : StI w s rows0 st) : StI w (s + 1) rows0 (colS st s) := by
  obtain ⟨h1, h2, h3, h4, h5, h6⟩ := I
  obtain ⟨rows, found⟩ := st
  have h1 : rows.length = rows0.length := h1
  have hl : found.length ≤ rows0.length := h3.len
  cases ht : topsR rows s found.length with
  | nil =>
    have ec : colS (rows, found) s = (rows, found) := by
      unfold colS
      show (match topsR rows s found.length with | [] => _ | t :: _ => _) = _
      rw [ht]
    have hz : ∀ i, found.length ≤ i → i < rows0.length → mxR rows i s = 0 := fun i hi hin => by
      have hm : i - found.length ∉ topsR rows s found.length := by rw [ht]; exact List.not_mem_nil
      unfold topsR at hm
      exact Classical.byContradiction fun z => hm (List.mem_filter.mpr ⟨List.mem_range.mpr (by omega), by
        rw [decide_eq_true_eq, show found.length + (i - found.length) = i by omega]; exact z⟩)
    rw [ec]
    refine ⟨h1, h2, ech_up h3 hz, h4, ?_, h6⟩
    show found = _
    rw [hdsN_succ, ← h5, isHd_f ((fre_congr h4).mp (ech_free h3 hs hz))]
    simp
  | cons t ts =>
    have hm : t ∈ topsR rows s found.length := by rw [ht]; exact List.mem_cons_self
    unfold topsR at hm
    obtain ⟨m1, m2⟩ := List.mem_filter.mp hm
    have m1 := List.mem_range.mp m1
    rw [decide_eq_true_eq] at m2
    have ec : colS (rows, found) s = (((swapR rows found.length (found.length + t)).map fun r => redF (leadF ((swapR rows found.length (found.length + t)).getD found.length []) s) r s).set found.length (leadF ((swapR rows found.length (found.length + t)).getD found.length []) s), found ++ [s]) := by
      unfold colS
      show (match topsR rows s found.length with | [] => _ | t :: _ => _) = _
      rw [ht]
    have hd1 : found.length < rows.length := by omega
    have hd2 : found.length + t < rows.length := by omega
    generalize hT : found.length + t = T at *
    have hlead : (swapR rows found.length T).getD found.length [] = rows.getD T [] := by rw [swapR_gd hd1 hd2, if_pos rfl]
    rw [ec, hlead]
    have hwT : (rows.getD T []).length = w := h2 T hd2
    have hsw : ∀ i, (swapR rows found.length T).getD i [] = if i = found.length then rows.getD T [] else if i = T then rows.getD found.length [] else rows.getD i [] := fun i => swapR_gd hd1 hd2
    have hwsw : ∀ i, i < rows.length → ((swapR rows found.length T).getD i []).length = w := fun i hi => by
      rw [hsw]
      by_cases a1 : i = found.length
      · rw [if_pos a1]; exact hwT
      · rw [if_neg a1]
        by_cases a2 : i = T
        · rw [if_pos a2]; exact h2 _ hd1
        · rw [if_neg a2]; exact h2 _ hi
    have hll : (leadF (rows.getD T []) s).length = w := by unfold leadF; rw [List.length_map]; exact hwT
    generalize hR : ((swapR rows found.length T).map fun r => redF (leadF (rows.getD T []) s) r s).set found.length (leadF (rows.getD T []) s) = rows'
    have hlen : rows'.length = rows.length := by rw [← hR, List.length_set, List.length_map, swapR_len]
    have hget : ∀ i, i < rows.length → rows'.getD i [] = if i = found.length then leadF (rows.getD T []) s else redF (leadF (rows.getD T []) s) ((swapR rows found.length T).getD i []) s := fun i hi => by
      rw [← hR, set_gd, List.length_map, swapR_len]
      by_cases a1 : i = found.length
      · rw [if_pos ⟨a1, hd1⟩, if_pos a1]
      · rw [if_neg fun z => a1 z.1, if_neg a1, map_gd (by rw [swapR_len]; exact hi)]
    have hwid : WidR w rows' := fun i hi => by
      rw [hlen] at hi
      rw [hget i hi]
      split
      · exact hll
      · rw [red_len (by rw [hll, hwsw i hi]), hwsw i hi]
    have hpr : mxR rows T s ≠ 0 := m2
    have hswm : ∀ i j, ((swapR rows found.length T).getD i []).getD j 0 = if i = found.length then mxR rows T j else if i = T then mxR rows found.length j else mxR rows i j := fun i j => by
      rw [hsw]
      by_cases a1 : i = found.length
      · rw [if_pos a1, if_pos a1]; rfl
      · rw [if_neg a1, if_neg a1]
        by_cases a2 : i = T
        · rw [if_pos a2, if_pos a2]; rfl
        · rw [if_neg a2, if_neg a2]; rfl
    have hval : ∀ i, i < rows.length → ∀ j, j < w → mxR rows' i j = if i = found.length then mxR rows T j / mxR rows T s else ((swapR rows found.length T).getD i []).getD j 0 - ((swapR rows found.length T).getD i []).getD s 0 / mxR rows T s * mxR rows T j := fun i hi j hj => by
      show (rows'.getD i []).getD j 0 = _
      rw [hget i hi]
      have e0 : (leadF (rows.getD T []) s).getD j 0 = mxR rows T j * (1 / mxR rows T s) := lead_gd (by rw [hwT]; exact hj)
      by_cases a1 : i = found.length
      · rw [if_pos a1, if_pos a1, e0]; grind
      · rw [if_neg a1, if_neg a1, red_gd (by rw [hwsw i hi]; exact hj) (by rw [hll, hwsw i hi]), e0]; grind
    have hstep := ech_step (n := rows0.length) (w := w) (s := s) (t := T) (R := mxR rows) (R' := mxR rows') (f := found)
      (c := fun i => if i = found.length then 1 / mxR rows T s else 1) (b := fun i => ((swapR rows found.length T).getD i []).getD s 0 / mxR rows T s)
      h3 hs (by omega) (by omega) hpr (fun i _ => by
        split
        · grind
        · grind) (fun i hi j hj => by
        rw [hval i (by omega) j hj, ← hswm i j]
        by_cases a1 : i = found.length
        · rw [if_pos a1, if_pos a1, if_pos a1, hswm, if_pos a1]; grind
        · rw [if_neg a1, if_neg a1, if_neg a1]; grind) (fun i a1 a2 => by
        rw [hval i (by omega) s hs, if_neg (by omega)]; grind)
    refine ⟨by rw [hlen]; exact h1, hwid, hstep.1, fun x => (hstep.2 x).trans (h4 x), ?_, fun i hi k hk => ?_⟩
    · show found ++ [s] = _
      rw [hdsN_succ, ← h5, isHd_t fun z => ech_head h3 hs (show found.length ≤ T by omega) (show T < rows0.length by omega) hpr ((fre_congr h4).mpr z)]
      rfl
    · show mxR rows' i ((found ++ [s]).getD k 0) = _
      have hk : k < (found ++ [s]).length := hk
      rw [List.length_append, List.length_singleton] at hk
      by_cases a1 : k = found.length
      · subst a1
        have : (found ++ [s]).getD found.length 0 = s := by
          rw [List.getD_eq_getElem?_getD, List.getElem?_append_right (Nat.le_refl _), Nat.sub_self]; rfl
        rw [this, hval i (by omega) s hs]
        by_cases a2 : i = found.length
        · rw [if_pos a2, if_pos a2]; grind
        · rw [if_neg a2, if_neg a2]; grind
      · have hk2 : k < found.length := by omega
        have : (found ++ [s]).getD k 0 = found.getD k 0 := by
          rw [List.getD_eq_getElem?_getD, List.getElem?_append_left hk2, List.getD_eq_getElem?_getD]
        rw [this]
        have hlt : found.getD k 0 < s := h3.lt k hk2
        have hTz : mxR rows T (found.getD k 0) = 0 := h3.zero T (by show found.length ≤ T; omega) (by omega) _ hlt
        rw [hval i (by omega) _ (by omega), hTz, hswm, hTz]
        have r1 := h6 found.length (by omega) k hk2
        have r1 : mxR rows found.length (found.getD k 0) = if found.length = k then 1 else 0 := r1
        rw [if_neg (by omega)] at r1
        have r2 : ∀ i, i < rows0.length → mxR rows i (found.getD k 0) = if i = k then 1 else 0 := fun i hi => h6 i hi k hk2
        by_cases a2 : i = found.length
        · rw [if_pos a2, if_neg (by omega)]; grind
        · rw [if_neg a2, if_neg a2]
          by_cases a3 : i = T
          · rw [if_pos a3, r1, if_neg (by omega)]; grind
          · rw [if_neg a3, r2 i hi]; grind
theorem stairs_inv {w : Nat} {rows0 : List (List Rat)} (hw : WidR w rows0) : ∀ s, s ≤ w → StI w s rows0 ((List.range s).foldl colS (rows0, []))
  | 0, _ => ⟨rfl, hw, ech_nil, fun x => Iff.rfl, rfl, fun i _ k hk => by cases hk⟩
  | s + 1, hs => by
    rw [List.range_succ, List.foldl_append]
    exact stairs_step (by omega) (stairs_inv hw s (by omega))
theorem hdsN_len {n w s : Nat} {m : Mx} : (hdsN n w m s).length ≤ s := by
  have := List.length_filter_le (isHd n w m) (List.range s)
  rw [List.length_range] at this
  exact this
/-! ### how big they become -/
def bq (b q : Nat) : Nat := (b + 1) * 2 ^ q - 1
theorem bq_succ {b q : Nat} : bq b (q + 1) = 2 * bq b q + 1 := by
  unfold bq
  have h := two_pow_pos' q
  have h2 : 0 < (b + 1) * 2 ^ q := Nat.mul_pos (by omega) h
  rw [Nat.pow_succ, ← Nat.mul_assoc]; omega
theorem getD_map {z : List Int} {d : Int} {s : Nat} : (z.map fun t : Int => (t : Rat) / (d : Rat)).getD s 0 = ((z.getD s 0 : Int) : Rat) / (d : Rat) := by
  rw [List.getD_eq_getElem?_getD, List.getElem?_map, List.getD_eq_getElem?_getD]
  cases z[s]? with
  | none =>
    show (0 : Rat) = ((0 : Int) : Rat) / (d : Rat)
    have : ((0 : Int) : Rat) = 0 := rfl
    rw [this]; grind
  | some x => rfl
theorem fb_lead {b s : Nat} {r : List Rat} (h : FB b r) (hz : r.getD s 0 ≠ 0) : FB b (leadF r s) := by
  obtain ⟨d, z, h1, h2, rfl, h3⟩ := h
  rw [getD_map] at hz
  have hzs : z.getD s 0 ≠ 0 := fun e => hz (by
    rw [e]
    have : ((0 : Int) : Rat) = 0 := rfl
    rw [this]; grind)
  refine ⟨z.getD s 0, z, hzs, getB h3, ?_, h3⟩
  unfold leadF
  rw [getD_map, List.map_map]
  refine List.map_congr_left fun t _ => ?_
  show (t : Rat) / (d : Rat) * (1 / (((z.getD s 0 : Int) : Rat) / (d : Rat))) = _
  have := cast_ne h1
  have := cast_ne hzs
  grind
theorem fb_red {b s : Nat} {q r : List Rat} (hq : FB b q) (h : FB b r) (hz : q.getD s 0 ≠ 0) : FB (2 * b + 1) (redF (leadF q s) r s) := by
  unfold redF
  split
  · obtain ⟨d, z, h1, h2, rfl, h3⟩ := hq
    obtain ⟨d', z', h1', h2', rfl, h3'⟩ := h
    rw [getD_map] at hz
    have hzs : z.getD s 0 ≠ 0 := fun e => hz (by
      rw [e]
      have : ((0 : Int) : Rat) = 0 := rfl
      rw [this]; grind)
    refine ⟨d' * z.getD s 0, (z'.zip z).map fun p => p.1 * z.getD s 0 - p.2 * z'.getD s 0, Int.mul_ne_zero h1' hzs, lt_pow (mul_bits h2' (getB h3)) (by omega), ?_, fun t ht => ?_⟩
    · unfold leadF
      rw [getD_map, getD_map, List.map_map, List.map_map, List.map_map, List.zip_map, List.map_map]
      refine List.map_congr_left fun p _ => ?_
      show (p.1 : Rat) / (d' : Rat) - (p.2 : Rat) / (d : Rat) * (1 / (((z.getD s 0 : Int) : Rat) / (d : Rat))) * (((z'.getD s 0 : Int) : Rat) / (d' : Rat)) = ((p.1 * z.getD s 0 - p.2 * z'.getD s 0 : Int) : Rat) / ((d' * z.getD s 0 : Int) : Rat)
      rw [Rat.intCast_sub, Rat.intCast_mul, Rat.intCast_mul, Rat.intCast_mul]
      have := cast_ne h1
      have := cast_ne h1'
      have := cast_ne hzs
      grind
    · obtain ⟨p, hp, rfl⟩ := List.mem_map.mp ht
      have m1 := mul_bits (h3' _ (List.of_mem_zip hp).1) (getB (j := s) h3)
      have m2 := mul_bits (h3 _ (List.of_mem_zip hp).2) (getB (j := s) h3')
      have m3 := sum_bits m1 (show (-(p.2 * z'.getD s 0)).natAbs < 2 ^ (b + b) by rw [Int.natAbs_neg]; exact m2)
      rw [Int.sub_eq_add_neg]
      exact lt_pow m3 (by omega)
  · exact h.up (by omega)
end Rf
end

section
set_option maxRecDepth 100000
set_option maxHeartbeats 4000000
set_option autoImplicit false
namespace Rf
open PySem PySem.Spec PyProof.Rows L2
/-! ## the program's stairs, walked -/
theorem vi_row {S : Sto} {r : List Rat} {n : Nat} {Q : D → Prop} : wp (idxD S (row r) (.int (n : Int))) Q ↔ wp (r[n]?) fun x => Q (fr x) := by
  unfold row
  rw [vi_nat, List.getElem?_map, wp_map]
theorem rowsGetR {rows : List (List Rat)} {j : Nat} (h : j < rows.length) : (rows.map row)[j]? = some (row (rows.getD j [])) := by
  rw [List.getElem?_map, List.getElem?_eq_getElem h, gd h]; rfl
theorem rGetR {r : List Rat} {j : Nat} (h : j < r.length) : r[j]? = some (r.getD j 0) := by
  rw [List.getElem?_eq_getElem h, gd h]
theorem vp_tupR {S : Sto} {r : List Rat} {Q : D → Prop} : wp (prD S .tup [row r]) Q ↔ Q (row r) := wp_some
theorem vz_rr {S : Sto} {a b : List Rat} {Q : Wk → Prop} : wp (zipWk S (row a) (row b)) Q ↔ Q ⟨(a.zip b).map fun p => .tup [fr p.1, fr p.2], []⟩ := by
  unfold row
  rw [vz_tup, zip_pairs]
theorem fb_one {b : Nat} : Bt (b + 1) 1 := ⟨by
  show 1 < 2 ^ (b + 1)
  have := two_pow_pos' b
  rw [Nat.pow_succ]; omega, by
  show 1 < 2 ^ (b + 1)
  have := two_pow_pos' b
  rw [Nat.pow_succ]; omega⟩
theorem bt_inv {b : Nat} {x : Rat} (h : Bt b x) (hx : x ≠ 0) : Bt b (1 / x) := by
  have hn : x.num ≠ 0 := fun z => hx (Rat.num_eq_zero.mp z)
  have e : (1 : Rat) / x = ((x.den : Int) : Rat) / (x.num : Rat) := by
    have h1 := Rat.mkRat_self x
    rw [Rat.mkRat_eq_div] at h1
    have h2 : (x.den : Rat) ≠ 0 := by exact_mod_cast x.den_nz
    have h3 := cast_ne hn
    have h4 : ((x.den : Int) : Rat) = (x.den : Rat) := rfl
    rw [h4]
    have h5 : (x.num : Rat) = x * (x.den : Rat) := by grind
    rw [h5]
    grind
  rw [e]
  exact frac_bt hn (by rw [Int.natAbs_natCast]; exact h.2) h.1
/-- a store in which rows stand at p and the steps at q, all of S before them -/
structure Hold (S : Sto) (p q : Nat) (rows found : List D) (S' : Sto) : Prop where
  rp : S'[p]? = some rows
  rq : S'[q]? = some found
  tk : S'.take S.length = S
  lp : S.length ≤ p
  lq : S.length ≤ q
  ne : p ≠ q
theorem Hold.setp {S S' : Sto} {p q : Nat} {rows found x : List D} (h : Hold S p q rows found S') : Hold S p q x found (S'.set p x) := by
  have hp : p < S'.length := (List.getElem?_eq_some_iff.mp h.rp).1
  exact ⟨List.getElem?_set_self hp, by rw [List.getElem?_set_ne h.ne]; exact h.rq, by rw [List.take_set_of_le h.lp]; exact h.tk, h.lp, h.lq, h.ne⟩
theorem Hold.setq {S S' : Sto} {p q : Nat} {rows found x : List D} (h : Hold S p q rows found S') : Hold S p q rows x (S'.set q x) := by
  have hq : q < S'.length := (List.getElem?_eq_some_iff.mp h.rq).1
  exact ⟨by rw [List.getElem?_set_ne h.ne.symm]; exact h.rp, List.getElem?_set_self hq, by rw [List.take_set_of_le h.lq]; exact h.tk, h.lp, h.lq, h.ne⟩
theorem Hold.new {S S' : Sto} {p q : Nat} {rows found x : List D} (h : Hold S p q rows found S') : Hold S S'.length q x found (S' ++ [x]) := by
  have hq : q < S'.length := (List.getElem?_eq_some_iff.mp h.rq).1
  have hp : p < S'.length := (List.getElem?_eq_some_iff.mp h.rp).1
  have hl : S.length ≤ S'.length := by have := h.lp; omega
  exact ⟨get_last, by rw [List.getElem?_append_left hq]; exact h.rq, by rw [List.take_append_of_le_length hl]; exact h.tk, hl, h.lq, by omega⟩
theorem fin_pair {S S' : Sto} {p q : Nat} {rows found : List D} (h : Hold S p q rows found S') (hp : Pur S) (h1 : ∀ x ∈ rows, pdp 18 x = true) (h2 : ∀ x ∈ found, pdp 18 x = true) :
    fin false S.length (.tup [.loc p, .loc q]) S' = some (.tup [.lst rows, .lst found], S) := by
  have hpl : p < S'.length := (List.getElem?_eq_some_iff.mp h.rp).1
  have e : frz S' S.length 20 (.tup [.loc p, .loc q]) = some (.tup [.lst rows, .lst found]) := by
    have f1 : frz S' S.length 19 (.loc p) = some (.lst rows) := by
      rw [frz, if_neg (by have := h.lp; omega), h.rp, Option.bind_some, mapO_id fun x hx => frz_pdp (h1 x hx)]
      rfl
    have f2 : frz S' S.length 19 (.loc q) = some (.lst found) := by
      rw [frz, if_neg (by have := h.lq; omega), h.rq, Option.bind_some, mapO_id fun x hx => frz_pdp (h2 x hx)]
      rfl
    show (mapO (frz S' S.length 19) [.loc p, .loc q]).map D.tup = _
    simp only [mapO, f1, f2]
    rfl
  unfold fin
  rw [Bool.false_or, if_neg (by simp; have := h.lp; omega), e]
  dsimp only
  rw [h.tk, mapO_id fun ys hy => mapO_id fun x hxx => frz_pdp (hp ys hy x hxx)]
theorem foldl_colS {q : List Nat} {s : Nat} {st : List (List Rat) × List Nat} : (s :: q).foldl colS st = q.foldl colS (colS st s) := rfl
theorem fb_bq {b w : Nat} {m : List (List Rat)} (hw : WidR w m) (hb : ∀ l ∈ m, FB b l) : ∀ s, s ≤ w → ∀ l ∈ ((List.range s).foldl colS (m, [])).1, FB (bq b ((List.range s).foldl colS (m, [])).2.length) l
  | 0, _ => fun l hl => (hb l hl).up (by unfold bq; simp)
  | s + 1, hs => by
    have ih := fb_bq hw hb s (by omega)
    have I := stairs_inv hw s (by omega)
    rw [List.range_succ, List.foldl_append]
    show ∀ l ∈ (colS _ s).1, FB (bq b (colS _ s).2.length) l
    generalize (List.range s).foldl colS (m, []) = st at *
    obtain ⟨rows, found⟩ := st
    have ih : ∀ l ∈ rows, FB (bq b found.length) l := ih
    cases ht : topsR rows s found.length with
    | nil =>
      have ec : colS (rows, found) s = (rows, found) := by
        unfold colS
        show (match topsR rows s found.length with | [] => _ | t :: _ => _) = _
        rw [ht]
      rw [ec]; exact ih
    | cons t ts =>
      have htm : t ∈ topsR rows s found.length := by rw [ht]; exact List.mem_cons_self
      unfold topsR at htm
      obtain ⟨m1, m2⟩ := List.mem_filter.mp htm
      have m1 := List.mem_range.mp m1
      rw [decide_eq_true_eq] at m2
      have ec : colS (rows, found) s = (((swapR rows found.length (found.length + t)).map fun r => redF (leadF ((swapR rows found.length (found.length + t)).getD found.length []) s) r s).set found.length (leadF ((swapR rows found.length (found.length + t)).getD found.length []) s), found ++ [s]) := by
        unfold colS
        show (match topsR rows s found.length with | [] => _ | t :: _ => _) = _
        rw [ht]
      have ht1 : found.length + t < rows.length := by omega
      have hd1 : found.length < rows.length := by omega
      generalize hT : found.length + t = T at *
      have hlead : (swapR rows found.length T).getD found.length [] = rows.getD T [] := by rw [swapR_gd hd1 ht1, if_pos rfl]
      rw [hlead] at ec
      have hTmem : rows.getD T [] ∈ rows := by rw [gd ht1]; exact List.getElem_mem ht1
      have hsmem : ∀ l ∈ swapR rows found.length T, l ∈ rows := fun l hl => by
        obtain ⟨i, hi, e⟩ := List.getElem_of_mem hl
        rw [swapR_len] at hi
        have : l = (swapR rows found.length T).getD i [] := by rw [gd (by rw [swapR_len]; exact hi)]; exact e.symm
        rw [this, swapR_gd hd1 ht1]
        split
        · exact hTmem
        · split
          · rw [gd hd1]; exact List.getElem_mem hd1
          · rw [gd hi]; exact List.getElem_mem hi
      intro l hl
      rw [ec] at hl ⊢
      show FB (bq b (found ++ [s]).length) l
      rw [List.length_append, List.length_singleton, bq_succ]
      rcases List.mem_or_eq_of_mem_set hl with hl | hl
      · obtain ⟨r, hr, rfl⟩ := List.mem_map.mp hl
        exact fb_red (ih _ hTmem) (ih _ (hsmem r hr)) m2
      · rw [hl]; exact (fb_lead (ih _ hTmem) m2).up (by omega)
theorem rank_stairs {w : Nat} {m : List (List Rat)} (hw : ∀ l ∈ m, l.length = w) : (stairsF m w).2.length = rankL m w := by
  have := (stairs_inv (widR_of hw) w (Nat.le_refl _)).hd
  unfold rankL hds
  unfold stairsF
  rw [this]
end Rf
end

section
set_option maxRecDepth 100000
set_option maxHeartbeats 4000000
set_option autoImplicit false
namespace Rf
open PySem PySem.Spec PyProof.Rows L2
/-! ## parts of tables and their ranks -/
def natsT (l : List Nat) : D := .tup (nats l)
def partF (m : List (List Rat)) (rs cs : List Nat) : List (List Rat) := rs.map fun i => cs.map fun j => (m.getD i []).getD j 0
theorem vw_natsT {S : Sto} {l : List Nat} {Q : Wk → Prop} : wp (seqWk S (natsT l)) Q ↔ Q ⟨l.map fun n : Nat => D.int (n : Int), []⟩ := vw_tup
theorem vp_lenN {S : Sto} {l : List Nat} {Q : D → Prop} : wp (prD S .len [natsT l]) Q ↔ Q (.int (l.length : Int)) := by
  show wp (some (D.int ((nats l).length : Int))) Q ↔ _
  rw [wp_some]; unfold nats; rw [List.length_map]
theorem vp_lenMt {S : Sto} {m : List (List Rat)} {Q : D → Prop} : wp (prD S .len [mat m]) Q ↔ Q (.int (m.length : Int)) := by
  show wp (some (D.int ((m.map row).length : Int))) Q ↔ _
  rw [wp_some, List.length_map]
theorem vi_mat {S : Sto} {m : List (List Rat)} {n : Nat} (h : n < m.length) {Q : D → Prop} : wp (idxD S (mat m) (.int (n : Int))) Q ↔ Q (row (m.getD n [])) := by
  unfold mat
  rw [vi_nat, rowsGetR h, wp_some]
theorem part_ok {k : Nat} {m : List (List Rat)} {rs cs : List Nat} {S : Sto} (h : ∀ i ∈ rs, i < m.length ∧ ∀ j ∈ cs, j < (m.getD i []).length) (hr : rs.length ≤ 1000) (hc : cs.length ≤ 1000) :
    R (k + 1) 80 [mat m, natsT rs, natsT cs] S = some (mat (partF m rs cs), S) := by
  refine R_eq ((R_wp T_part_by rfl).mpr ?_)
  have h1 : rs.length ≤ many := by rw [many_val]; omega
  have h2 : cs.length ≤ many := by rw [many_val]; omega
  simp_arith only [F.part_by, fin_wp, vw_natsT, List.length_map, h1, true_and]
  refine wc_mapL (fun n : Nat => D.int (n : Int)) (fun i => row (cs.map fun j => (m.getD i []).getD j 0)) still_nil (fun i hi => ?_) ?_
  · obtain ⟨hi1, hi2⟩ := h i hi
    simp_arith only [vw_natsT, List.length_map, h2, true_and]
    refine wc_mapL (fun n : Nat => D.int (n : Int)) (fun j => fr ((m.getD i []).getD j 0)) still_nil (fun j hj => ?_) ?_
    · simp_arith only [vi_mat hi1, vi_row, rGetR (hi2 j hj)]
    · simp_arith only [row, List.map_map]
      rfl
  · simp_arith only [fin_wp, mat, partF, List.map_map]
    rfl
/-- the part below a cut, on the left of it -/
def lowP (m : List (List Rat)) (a : Nat) : List (List Rat) := (m.drop a).map fun r => r.take a
theorem take_eq {r : List Rat} {a : Nat} (h : a ≤ r.length) : (List.range a).map (fun j => r.getD j 0) = r.take a := by
  refine List.ext_getElem (by rw [List.length_map, List.length_range, List.length_take]; omega) fun j h1 h2 => ?_
  rw [List.length_map, List.length_range] at h1
  rw [List.getElem_map, List.getElem_range, gd (by omega), List.getElem_take]
theorem part_low {m : List (List Rat)} {a : Nat} (h : ∀ r ∈ m, a ≤ r.length) : partF m ((List.range (m.length - a)).map (a + ·)) (List.range a) = lowP m a := by
  unfold partF lowP
  rw [List.map_map]
  refine List.ext_getElem (by rw [List.length_map, List.length_range, List.length_map, List.length_drop]) fun i h1 h2 => ?_
  rw [List.length_map, List.length_range] at h1
  have hi : a + i < m.length := by omega
  rw [List.getElem_map, List.getElem_range, List.getElem_map, List.getElem_drop]
  show (List.range a).map (fun j => (m.getD (a + i) []).getD j 0) = _
  rw [gd hi]
  exact take_eq (h _ (List.getElem_mem hi))
theorem rgD_nat {i n : Nat} : rgD (i : Int) (n : Int) = nats ((List.range (n - i)).map (i + ·)) := by
  unfold rgD nats
  rw [show ((n : Int) - (i : Int)).toNat = n - i by omega, List.map_map]
  refine List.map_congr_left fun k _ => ?_
  show D.int ((i : Int) + (k : Int)) = D.int ((i + k : Nat) : Int)
  congr 1
theorem rgD_zero {n : Nat} : rgD 0 (n : Int) = nats (List.range n) := by
  have := rgD_nat (i := 0) (n := n)
  rw [show ((0 : Nat) : Int) = 0 from rfl] at this
  rw [this, Nat.sub_zero]
  congr 1
  rw [show (fun x => 0 + x) = (id : Nat → Nat) from funext fun x => Nat.zero_add x, List.map_id]
theorem rgOk_nat {i n : Nat} (h1 : i ≤ 1000000) (h2 : n ≤ 1000000) : rgOk (i : Int) (n : Int) = true := by
  unfold rgOk
  rw [decide_eq_true_eq]; omega
theorem FB.take {b a : Nat} {r : List Rat} (h : FB b r) : FB b (r.take a) := by
  obtain ⟨d, z, h1, h2, rfl, h3⟩ := h
  exact ⟨d, z.take a, h1, h2, by rw [List.map_take], fun t ht => h3 t (List.mem_of_mem_take ht)⟩
/-- a square table of up to six rows whose numbers are small enough for stairs of up to three -/
structure Sq6 (b n : Nat) (m : List (List Rat)) : Prop where
  len : m.length = n
  wid : ∀ r ∈ m, r.length = n
  n1 : 1 ≤ n
  n6 : n ≤ 6
  fb : ∀ r ∈ m, FB b r
  bits : b ≤ 700
theorem low_wid {m : List (List Rat)} {n a : Nat} (hw : ∀ r ∈ m, r.length = n) (ha : a ≤ n) : ∀ l ∈ lowP m a, l.length = a := fun l hl => by
  obtain ⟨r, hr, rfl⟩ := List.mem_map.mp hl
  rw [List.length_take, hw r (List.mem_of_mem_drop hr)]; omega
theorem low_len {m : List (List Rat)} {a : Nat} : (lowP m a).length = m.length - a := by unfold lowP; rw [List.length_map, List.length_drop]
structure Sh6 (n : Nat) (m : List (List Rat)) : Prop where
  len : m.length = n
  wid : ∀ r ∈ m, r.length = n
  n1 : 1 ≤ n
  n6 : n ≤ 6
structure LwB (n : Nat) (m : List (List Rat)) : Prop extends Sh6 n m where
  low : ∀ a, 1 ≤ a → a < n → ∃ b, (∀ l ∈ lowP m a, FB b l) ∧ ∀ q, q < n - a → q < a → 3 * bq b q ≤ 8990
theorem Sq6.lw {b n : Nat} {m : List (List Rat)} (h : Sq6 b n m) : LwB n m := ⟨⟨h.len, h.wid, h.n1, h.n6⟩, fun a ha han => ⟨b, fun l hl2 => by
  obtain ⟨r, hr, rfl⟩ := List.mem_map.mp hl2
  exact (h.fb r (List.mem_of_mem_drop hr)).take, fun q h1 h2 => by
  have hn6 := h.n6
  have hb := h.bits
  have hq : q ≤ 2 := by omega
  unfold bq
  have : 2 ^ q ≤ 4 := by
    match q, hq with
    | 0, _ | 1, _ | 2, _ => decide
  have := Nat.mul_le_mul_left (b + 1) this
  omega⟩⟩
noncomputable def lowsF (m : List (List Rat)) : List Nat := (List.range (m.length - 1)).map fun k => rankL (lowP m (1 + k)) (1 + k)
/-! ## square tables, checked -/
/-! ## the law's own corner ranks -/
theorem vl_fromM' {S : Sto} {m : List (List Rat)} {k : Nat} {Q : D → Prop} : wp (slD S (mat m) (some (k : Int)) none) Q ↔ Q (mat (m.drop k)) := vl_fromM
theorem beq_nats : ∀ {a b : List Nat}, D.beqs (nats a) (nats b) = decide (a = b)
  | [], [] => rfl
  | [], _ :: _ => rfl
  | _ :: _, [] => rfl
  | x :: a, y :: b => by
    show (D.beq (.int (x : Int)) (.int (y : Int)) && D.beqs (nats a) (nats b)) = _
    rw [beq_nats]
    show (decide ((x : Int) = (y : Int)) && decide (a = b)) = decide (x :: a = y :: b)
    by_cases h1 : x = y
    · by_cases h2 : a = b
      · subst h1 h2; simp
      · simp [h1, h2]
    · have : ¬ (x : Int) = (y : Int) := by omega
      simp [h1, this]
theorem beq_natsT {a b : List Nat} : D.beq (natsT a) (natsT b) = decide (a = b) := by
  show D.beqs (nats a) (nats b) = _
  exact beq_nats
theorem nt_natsT {k : Nat} {l : List Nat} : nt (k + 2) (natsT l) = true := by
  show (nats l).all (nt (k + 1)) = true
  rw [List.all_eq_true]
  intro x hx
  obtain ⟨n, _, rfl⟩ := List.mem_map.mp hx
  rfl
theorem sm_natsT {k : Nat} {l : List Nat} (h : l.length ≤ 1000) : sm (k + 2) (natsT l) = true := by
  show (decide ((nats l).length ≤ 1000) && (nats l).all (sm (k + 1))) = true
  have : (nats l).length = l.length := by unfold nats; rw [List.length_map]
  rw [this, decide_eq_true h, Bool.true_and, List.all_eq_true]
  intro x hx
  obtain ⟨n, _, rfl⟩ := List.mem_map.mp hx
  rfl
/-- products of lines as sums -/
theorem dot_sum {n : Nat} {a b : List Rat} (ha : a.length = n) : dotF a b = sumR n fun k => a.getD k 0 * b.getD k 0 := by
  have e : a = (List.range n).map fun k => a.getD k 0 := by
    refine List.ext_getElem (by rw [List.length_map, List.length_range, ha]) fun i h1 h2 => ?_
    rw [List.getElem_map, List.getElem_range, gd h1]
  have h := dot_range (f := fun k => a.getD k 0) (l := b) n
  rw [← e] at h
  exact h
end Rf
end

section
set_option maxRecDepth 100000
set_option maxHeartbeats 4000000
set_option autoImplicit false
namespace Rf
open PySem PySem.Spec PyProof.Rows L2
/-! ## least or not -/
theorem bel_lz {L : Nat} {c : List Tri} (h : CarD L c) : ∀ r ∈ belF c, ∀ x ∈ r, Lz L 6 290 x := fun r hr x hx => by
  have hgd := h.gd
  obtain ⟨i, hi, rfl⟩ := List.mem_map.mp hr
  have hi' := List.mem_range.mp hi
  have hc := h.n6
  rcases List.mem_append.mp hx with hx | hx
  · obtain ⟨j, hj, rfl⟩ := List.mem_map.mp hx
    have hj' := List.mem_range.mp hj
    have d := h.dr _ (cat_mem hi')
    have := (dots_of (t := i - (j + 1)) (by omega) d.out d.l1 (led_st hc h.dr (i := j) (i - (j + 1)) (by omega))).2
    have h2 := this.ups (4 - (i - (j + 1)))
    rw [show i - (j + 1) + 2 + (4 - (i - (j + 1))) = 6 by omega] at h2
    exact h2.le (by unfold sb; omega)
  · rw [(List.mem_replicate.mp hx).2]; exact lt_zero
theorem bel_sq {L : Nat} {c : List Tri} (h : CarD L c) : Sq6 290 c.length (belF c) := by
  have hgd := h.gd
  refine ⟨by unfold belF; rw [List.length_map, List.length_range], fun r hr => ?_, h.n1, h.n6, fun r hr => lz_fb (L := L) (e := 6) (b := 290) (bel_lz h r hr), by omega⟩
  obtain ⟨i, hi, rfl⟩ := List.mem_map.mp hr
  exact bel_len (by have := List.mem_range.mp hi; omega)
noncomputable def sizesN (c : List Tri) : List Nat := (c.take (c.length - 1)).map fun t => t.side.length
theorem sizes_eq {c : List Tri} : sizesN c = (List.range (c.length - 1)).map fun k => szN c (1 + k) := by
  unfold sizesN
  refine List.ext_getElem (by rw [List.length_map, List.length_take, List.length_map, List.length_range]; omega) fun i h1 h2 => ?_
  rw [List.length_map, List.length_range] at h2
  rw [List.getElem_map, List.getElem_map, List.getElem_range, List.getElem_take]
  unfold szN cat
  rw [show 1 + i - 1 = i by omega, List.getD_eq_getElem?_getD, List.getElem?_eq_getElem (by omega)]
  rfl
theorem sizesT {c : List Tri} : D.tup ((c.take (c.length - 1)).map fun t => .int (t.side.length : Int)) = natsT (sizesN c) := by
  unfold natsT nats sizesN
  rw [List.map_map]
  rfl
noncomputable def leastB (c : List Tri) : Bool := decide (sizesN c = lowsF (belF c))
/-- the rows that come and the columns that go are free -/
noncomputable def freeB (c : List Tri) (a : Nat) : Bool := decide (rankL (cmgT c a) a = szN c a) && decide (rankL (goT c a) (szN c a) = szN c a)
/-- at a cut: both are free exactly if the part below it has the size for its rank -/
theorem free_low {L a : Nat} {c : List Tri} (h : CarD L c) (ha : 0 < a) (hac : a < c.length) : freeB c a = decide (rankL (lowP (belF c) a) a = szN c a) := by
  have hs := fits_sh h.fits
  have hb := both_ok h.fits ha hac
  have hlow : lowP (belF c) a = (goT c a).map fun line => bk line (cmgT c a) a := hb.symm
  have hlen : (lowP (belF c) a).length = c.length - a := by rw [hlow, List.length_map, go_lenT]
  have hp : (hds (c.length - a) a (mxR (lowP (belF c) a))).length = szN c a ↔ (hds (szN c a) a (mxR (cmgT c a))).length = szN c a ∧ (hds (c.length - a) (szN c a) (mxR (goT c a))).length = szN c a := by
    refine rank_prod fun i hi j hj => ?_
    have hig : i < (goT c a).length := by rw [go_lenT]; exact hi
    show ((lowP (belF c) a).getD i []).getD j 0 = _
    rw [hlow, map_gd hig, bk_gd hj, dot_sum (n := szN c a) (by rw [gd hig]; exact (go_row h ha hac _ (List.getElem_mem hig)).1)]
    refine sumR_congr fun k hk => ?_
    show _ = mxR (goT c a) i k * mxR (cmgT c a) k j
    congr 1
    unfold clm
    rw [gd (by rw [List.length_map, cmg_len]; exact hk), List.getElem_map, ← gd (d := []) (by rw [cmg_len]; exact hk)]
    rfl
  unfold freeB rankL
  rw [hlen, cmg_len, go_lenT]
  by_cases e : (hds (c.length - a) a (mxR (lowP (belF c) a))).length = szN c a
  · obtain ⟨e1, e2⟩ := hp.mp e
    rw [decide_eq_true e, decide_eq_true e1, decide_eq_true e2]; rfl
  · rw [decide_eq_false e]
    by_cases e1 : (hds (szN c a) a (mxR (cmgT c a))).length = szN c a
    · rw [decide_eq_true e1, decide_eq_false fun e2 => e (hp.mpr ⟨e1, e2⟩)]; rfl
    · rw [decide_eq_false e1]; rfl
theorem all_free {L : Nat} {c : List Tri} (h : CarD L c) : ((List.range (c.length - 1)).map fun k => freeB c (1 + k)).all id = leastB c := by
  have e : (List.range (c.length - 1)).map (fun k => freeB c (1 + k)) = (List.range (c.length - 1)).map fun k => decide (rankL (lowP (belF c) (1 + k)) (1 + k) = szN c (1 + k)) :=
    List.map_congr_left fun k hk => free_low h (by omega) (by have := List.mem_range.mp hk; omega)
  rw [e]
  unfold leastB
  rw [sizes_eq]
  unfold lowsF
  rw [show (belF c).length = c.length from (bel_sq h).len]
  by_cases q : ∀ k, k < c.length - 1 → rankL (lowP (belF c) (1 + k)) (1 + k) = szN c (1 + k)
  · rw [decide_eq_true (List.map_congr_left fun k hk => (q k (List.mem_range.mp hk)).symm), List.all_eq_true]
    intro b hb
    obtain ⟨k, hk, rfl⟩ := List.mem_map.mp hb
    exact decide_eq_true (q k (List.mem_range.mp hk))
  · rw [decide_eq_false fun z => q fun k hk => ?_]
    · cases hb : ((List.range (c.length - 1)).map fun k => decide (rankL (lowP (belF c) (1 + k)) (1 + k) = szN c (1 + k))).all id with
      | false => rfl
      | true =>
        exfalso
        refine q fun k hk => ?_
        have := List.all_eq_true.mp hb _ (List.mem_map_of_mem (List.mem_range.mpr hk))
        exact of_decide_eq_true this
    · have := List.map_inj_left.mp z k (List.mem_range.mpr hk)
      exact this.symm
theorem pick_q0 (a : D) : pick [0] [a] = [a] := rfl
end Rf
end

section
set_option maxRecDepth 100000
set_option maxHeartbeats 4000000
set_option autoImplicit false
namespace Rf
open PySem PySem.Spec PyProof.Rows L2
/-! ## tables of the law's own -/
def Gz (L e b : Nat) (m : List (List Rat)) : Prop := ∀ r ∈ m, ∀ x ∈ r, Lz L e b x
theorem Gz.le {L e b c : Nat} {m : List (List Rat)} (h : Gz L e b m) (hc : b ≤ c) : Gz L e c m := fun r hr x hx => (h r hr x hx).le hc
theorem Gz.ups {L e b : Nat} [Gd L] {m : List (List Rat)} (h : Gz L e b m) (k : Nat) : Gz L (e + k) (b + 11 * k) m := fun r hr x hx => (h r hr x hx).ups k
theorem dr_gz {L : Nat} [Gd L] {m : List (List Rat)} (h : ∀ r ∈ m, ∀ x ∈ r, Dr L x) : Gz L 1 32 m := fun r hr x hx => (h r hr x hx).lt
theorem vz_mm {S : Sto} {a b : List (List Rat)} {Q : Wk → Prop} : wp (zipWk S (mat a) (mat b)) Q ↔ Q ⟨(a.zip b).map fun p => .tup [row p.1, row p.2], []⟩ := by
  unfold mat
  rw [vz_tup, zip_pairs]
theorem lflip_ok {k w : Nat} {m : List (List Rat)} {S : Sto} (h0 : 0 < m.length) (hw : ∀ r ∈ m, r.length = w) (hw2 : w ≤ 1000) (hl : m.length ≤ 1000) : R (k + 1) 108 [mat m] S = some (mat (flipF m w), S) := by
  refine R_eq ((R_wp T__law_flip rfl).mpr ?_)
  have e0 : ∀ (S : Sto) (Q : D → Prop), wp (idxD S (mat m) (.int 0)) Q ↔ Q (row (m.getD 0 [])) := fun S Q => vi_mat (n := 0) h0
  have hw0 : (m.getD 0 []).length = w := by rw [gd h0]; exact hw _ (List.getElem_mem h0)
  have h1 : w ≤ 1000000 := by omega
  have h2 : w ≤ many := by rw [many_val]; omega
  have h3 : m.length ≤ many := by rw [many_val]; omega
  simp_arith only [F._law_flip, fin_wp, e0, vp_lenR, hw0, h1, h2, List.length_map, List.length_range, true_and]
  refine wc_mapL (fun i : Nat => D.int (i : Int)) (fun j => row (m.map fun r => r.getD j 0)) still_nil (fun j hj => ?_) ?_
  · have hj' := List.mem_range.mp hj
    simp_arith only [vw_mat, h3, List.length_map, true_and]
    refine wc_mapL row (fun r => fr (r.getD j 0)) still_nil (fun r hr => ?_) ?_
    · have hlt : j < r.length := by rw [hw r hr]; exact hj'
      simp_arith only [vi_row, rGetR hlt]
    · simp_arith only [row, List.map_map]
      rfl
  · simp_arith only [fin_wp, mat, flipF, List.map_map]
    rfl
def mulF (one two : List (List Rat)) (w : Nat) : List (List Rat) := one.map fun l => bk l two w
theorem mul_len {one two : List (List Rat)} {w : Nat} : (mulF one two w).length = one.length := List.length_map _
theorem mul_wid {one two : List (List Rat)} {w : Nat} : ∀ r ∈ mulF one two w, r.length = w := fun r hr => by
  obtain ⟨l, _, rfl⟩ := List.mem_map.mp hr
  exact bk_len
theorem lmul_g {k w : Nat} {one two : List (List Rat)} {S : Sto} (h0 : 0 < two.length) (hw : ∀ r ∈ two, r.length = w) (hw2 : w ≤ 1000) (hl : two.length ≤ 1000) (hl1 : one.length ≤ 1000) (h : ∀ l ∈ one, ∀ j < w, ∀ S, R (k + 2) 32 [row l, row (clm two j)] S = some (fr (dotF l (clm two j)), S)) :
    R (k + 3) 109 [mat one, mat two] S = some (mat (mulF one two w), S) := by
  refine R_eq ((R_wp T__law_mul rfl).mpr ?_)
  have c1 := fun S => lflip_ok (k := k + 1) (S := S) h0 hw hw2 hl
  have h3 : one.length ≤ many := by rw [many_val]; omega
  have h4 : (flipF two w).length ≤ many := by unfold flipF; rw [List.length_map, List.length_range, many_val]; omega
  simp_arith only [F._law_mul, fin_wp, c1, vw_mat, h3, List.length_map, true_and]
  refine wc_mapL row (fun l => row (bk l two w)) still_nil (fun l hlm => ?_) ?_
  · simp_arith only [vw_mat, h4, List.length_map, true_and]
    refine wc_mapL row (fun s => fr (dotF l s)) still_nil (fun s hs => ?_) ?_
    · obtain ⟨j, hj, rfl⟩ := List.mem_map.mp hs
      have g := h l hlm j (List.mem_range.mp hj)
      unfold clm at g
      simp_arith only [g]
    · have e : (flipF two w).map (fun s => fr (dotF l s)) = (bk l two w).map fr := by
        unfold flipF bk clm
        rw [List.map_map, List.map_map]
        rfl
      rw [e]
      simp_arith only [row]
  · simp_arith only [fin_wp, mat, mulF, List.map_map]
    rfl
theorem lmul_ok {k w b1 b2 : Nat} {one two : List (List Rat)} {S : Sto} (h0 : 0 < two.length) (hw : ∀ r ∈ two, r.length = w) (hw2 : w ≤ 1000) (hl : two.length ≤ 1000) (hl1 : one.length ≤ 1000) (h : ∀ l ∈ one, ∀ j < w, DotB b1 b2 (l.zip (clm two j))) :
    R (k + 3) 109 [mat one, mat two] S = some (mat (mulF one two w), S) := lmul_g h0 hw hw2 hl hl1 fun l hl2 j hj S => ldot_ok (h l hl2 j hj)
theorem clm_gz {L e b j : Nat} {m : List (List Rat)} (h : Gz L e b m) (hj : ∀ r ∈ m, j < r.length) : ∀ x ∈ clm m j, Lz L e b x := fun x hx => by
  obtain ⟨r, hr, rfl⟩ := List.mem_map.mp hx
  rw [gd (hj r hr)]
  exact h r hr _ (List.getElem_mem _)
theorem gz_mul {L e b f c w : Nat} [Gd L] {one two : List (List Rat)} (h1 : Gz L e b one) (h2 : Gz L f c two) (hw : ∀ r ∈ two, r.length = w) (hl : ∀ r ∈ one, r.length ≤ 6) (hb : b + c ≤ 1000) (he : e + f ≤ 100) : Gz L (e + f) (b + c + 6) (mulF one two w) := fun r hr x hx => by
  obtain ⟨l, hlm, rfl⟩ := List.mem_map.mp hr
  obtain ⟨j, hj, rfl⟩ := List.mem_map.mp hx
  have hj' := List.mem_range.mp hj
  have := hl l hlm
  exact (dot_lt (h1 l hlm) (clm_gz h2 fun r hr => by rw [hw r hr]; exact hj') (by omega) (by omega) (by omega)).2.le (by omega)
theorem dotB_gz {L e b f c w j : Nat} [Gd L] {one two : List (List Rat)} {l : List Rat} (h1 : Gz L e b one) (h2 : Gz L f c two) (hlm : l ∈ one) (hw : ∀ r ∈ two, r.length = w) (hl : l.length ≤ 6) (hj : j < w) (hb : b ≤ 600) (hc : c ≤ 600) (he : e ≤ 50) (hf : f ≤ 50) : DotB 600 600 (l.zip (clm two j)) := by
  have hz : (l.zip (clm two j)).length ≤ 6 := by rw [List.length_zip]; omega
  refine ⟨fun p hp => ⟨(h1 l hlm _ (List.of_mem_zip hp).1).bt hb (by omega), (clm_gz h2 (fun r hr => by rw [hw r hr]; exact hj) _ (List.of_mem_zip hp).2).bt hc (by omega)⟩, ?_, by omega⟩
  have : (600 + 600) * (l.zip (clm two j)).length ≤ (600 + 600) * 6 := Nat.mul_le_mul_left _ hz
  omega
/-- products of tables of up to six rows and columns -/
theorem lmul_gz {k L e b f c w v : Nat} [Gd L] {one two : List (List Rat)} {S : Sto} (h1 : Gz L e b one) (h2 : Gz L f c two) (h0 : 0 < two.length) (hw : ∀ r ∈ two, r.length = w) (hv : ∀ r ∈ one, r.length = v) (hw6 : w ≤ 6) (hv6 : v ≤ 6) (hl : two.length ≤ 6) (hl1 : one.length ≤ 6)
    (hb : b ≤ 600) (hc : c ≤ 600) (he : e ≤ 50) (hf : f ≤ 50) : R (k + 3) 109 [mat one, mat two] S = some (mat (mulF one two w), S) :=
  lmul_ok h0 hw (by omega) (by omega) (by omega) fun l hlm j hj => dotB_gz h1 h2 hlm hw (by rw [hv l hlm]; exact hv6) hj hb hc he hf
def sumT (one two : List (List Rat)) : List (List Rat) := (one.zip two).map fun p => (p.1.zip p.2).map fun q => q.1 + q.2
/-! ## tables drawn -/
theorem dr_one {L : Nat} : Dr L 1 := ⟨Nat.one_dvd _, by decide, by decide⟩
theorem pick_t {k n t L : Nat} {S : Sto} {w xs : List D} {Q : D × Sto → Prop} (hs : S[n]? = some w) (hw : Well (t + 1) L w) (hm : 0 < xs.length) (hm2 : xs.length < 1000)
    (h : ∀ (x : D) (w' : List D), x ∈ xs → Well t L w' → Q (x, S.set n w')) : wp (R (k + 2) 28 [.loc n, .tup xs] S) Q := by
  rw [R_wp T__law_pick rfl]
  simp_arith only [F._law_pick]
  refine draw_ok hs hw hm (by omega) fun v w' hv hw' => ?_
  simp_arith only [wp_some]
  rw [List.getElem?_eq_getElem hv]
  simp_arith only [wp_some]
  rw [fin_same false (by simp), wp_some]
  exact h _ _ (List.getElem_mem hv) hw'
theorem many_ok {k n t L : Nat} {S : Sto} {w : List D} {Q : D × Sto → Prop} (hs : S[n]? = some w) (hw : Well (t + 1) L w) (h : ∀ (m : Nat) (w' : List D), 1 ≤ m → m ≤ 5 → Well t L w' → Q (.int (m : Int), S.set n w')) : wp (R (k + 2) 111 [.loc n] S) Q := by
  rw [R_wp T__law_many rfl]
  simp_arith only [F._law_many]
  refine draw_ok (m := 12) hs hw (by omega) (by omega) fun v w1 hv hw1 => ?_
  simp_arith only [wp_some]
  have ex : ∃ m : Nat, 1 ≤ m ∧ m ≤ 5 ∧ [D.int 2, D.int 3, D.int 3, D.int 2, D.int 4, D.int 1, D.int 3, D.int 2, D.int 5, D.int 3, D.int 4, D.int 2][v]? = some (.int (m : Int)) := by
    match v, hv with
    | 0, _ => exact ⟨2, by omega, by omega, rfl⟩
    | 1, _ => exact ⟨3, by omega, by omega, rfl⟩
    | 2, _ => exact ⟨3, by omega, by omega, rfl⟩
    | 3, _ => exact ⟨2, by omega, by omega, rfl⟩
    | 4, _ => exact ⟨4, by omega, by omega, rfl⟩
    | 5, _ => exact ⟨1, by omega, by omega, rfl⟩
    | 6, _ => exact ⟨3, by omega, by omega, rfl⟩
    | 7, _ => exact ⟨2, by omega, by omega, rfl⟩
    | 8, _ => exact ⟨5, by omega, by omega, rfl⟩
    | 9, _ => exact ⟨3, by omega, by omega, rfl⟩
    | 10, _ => exact ⟨4, by omega, by omega, rfl⟩
    | 11, _ => exact ⟨2, by omega, by omega, rfl⟩
  obtain ⟨m, h1, h2, e⟩ := ex
  simp_arith only [e]
  exact fin_s.mpr (h m w1 h1 h2 hw1)
theorem noughtsT {w : Nat} : D.tup (List.replicate w (D.tup [.int 0, .int 1])) = row (List.replicate w 0) := by
  rw [fr_zero, row_rep]
theorem vo_mat {S : Sto} {a b : List (List Rat)} {Q : D → Prop} : wp (opD S .add (mat a) (.tup (b.map row))) Q ↔ a.length + b.length ≤ many ∧ Q (mat (a ++ b)) := by
  unfold mat
  rw [vo_cat, List.length_map, List.length_map, List.map_append]
theorem any_ok {k n t tall wide L : Nat} {S : Sto} {w : List D} {Q : D × Sto → Prop} (hp : Pur S) (hs : S[n]? = some w) (hw : Well (t + 500) L w) (ht1 : 1 ≤ tall) (ht : tall ≤ 6) (hw1 : 1 ≤ wide) (hw6 : wide ≤ 6)
    (h : ∀ (m : List (List Rat)) (w' : List D) (L' : Nat), L ∣ L' → m.length = tall → (∀ r ∈ m, r.length = wide) → Gz L' 2 80 m → Well t L' w' → Q (mat m, S.set n w')) : wp (R (k + 6) 110 [.loc n, .int (tall : Int), .int (wide : Int)] S) Q := by
  have hn : n < S.length := (List.getElem?_eq_some_iff.mp hs).1
  have hg : ∀ x : List D, (S.set n x)[n]? = some x := fun x => List.getElem?_set_self hn
  have htw : tall * wide ≤ 36 := Nat.mul_le_mul ht hw6
  rw [R_wp T__law_any rfl]
  simp_arith only [F._law_any]
  refine draw_ok (m := 6) (k := k + 4) (t := t + 499) hs hw (by omega) (by omega) fun v w1 hv hw1' => ?_
  simp_arith only [wp_some]
  by_cases h3 : v < 3
  · have d1 : decide ((v : Int) < 3) = true := by rw [decide_eq_true_eq]; omega
    simp_arith only [d1, if_true]
    refine lines_ok (k := k + 1) (t := t) (pur_set hp hw1') (hg _) (hw1'.less (by rw [Nat.mul_assoc, Nat.mul_comm wide]; omega)) (by omega) (by omega) fun l w2 L2 hL2 hl hd hw2 => ?_
    simp only [List.set_set]
    have hgd := hw2.gd
    have := (dr_gz fun r hr => (hd r hr).2).ups 1
    exact fin_s.mpr (h l w2 L2 hL2 hl (fun r hr => (hd r hr).1) (this.le (by omega)) hw2)
  · have d1 : decide ((v : Int) < 3) = false := by rw [decide_eq_false_iff_not]; omega
    simp_arith only [d1, Bool.false_eq_true, if_false]
    have hmx : ∃ u : Nat, 1 ≤ u ∧ u ≤ 5 ∧ (if (if (wide : Int) < (tall : Int) then (wide : Int) else (tall : Int)) - 1 > 1 then (if (wide : Int) < (tall : Int) then (wide : Int) else (tall : Int)) - 1 else 1) = (u : Int) := by
      by_cases c : (wide : Int) < (tall : Int)
      · rw [if_pos c]
        by_cases c2 : (wide : Int) - 1 > 1
        · exact ⟨wide - 1, by omega, by omega, by rw [if_pos c2]; omega⟩
        · exact ⟨1, by omega, by omega, by rw [if_neg c2]; rfl⟩
      · rw [if_neg c]
        by_cases c2 : (tall : Int) - 1 > 1
        · exact ⟨tall - 1, by omega, by omega, by rw [if_pos c2]; omega⟩
        · exact ⟨1, by omega, by omega, by rw [if_neg c2]; rfl⟩
    obtain ⟨u, u1, u2, eu⟩ := hmx
    simp only [eu]
    refine draw_ok (m := u) (k := k + 4) (t := t + 498) (hg _) hw1' (by omega) (by omega) fun f w2 hf hw2 => ?_
    have ef : (1 : Int) + (f : Int) = ((1 + f : Nat) : Int) := by omega
    simp_arith only [List.set_set, ef]
    by_cases h5 : v < 5
    · have d2 : decide ((v : Int) < 5) = true := by rw [decide_eq_true_eq]; omega
      have b1 : (1 + f) * tall ≤ 36 := Nat.mul_le_mul (show 1 + f ≤ 6 by omega) ht
      have b2 : wide * (1 + f) ≤ 36 := Nat.mul_le_mul hw6 (show 1 + f ≤ 6 by omega)
      simp_arith only [d2, if_true]
      refine lines_ok (k := k + 1) (t := t + 200) (pur_set hp hw2) (hg _) (hw2.less (by rw [Nat.mul_assoc]; omega)) (by omega) (by omega) fun l1 w3 L3 hL3 hl1 hd1 hw3 => ?_
      simp_arith only [List.set_set]
      refine lines_ok (k := k + 1) (t := t) (pur_set hp hw3) (hg _) (hw3.less (by rw [Nat.mul_assoc]; omega)) (by omega) (by omega) fun l2 w4 L4 hL4 hl2 hd2 hw4 => ?_
      have hgd := hw4.gd
      have z1 : Gz L4 1 32 l1 := dr_gz fun r hr => drs (hd1 r hr).2 hL4
      have z2 : Gz L4 1 32 l2 := dr_gz fun r hr => (hd2 r hr).2
      have g := fun S => lmul_gz (k := k + 2) (S := S) z1 z2 (by omega) (fun r hr => (hd2 r hr).1) (fun r hr => (hd1 r hr).1) hw6 (by omega) (by omega) (by omega) (by omega) (by omega) (by omega) (by omega)
      simp_arith only [List.set_set, g]
      exact fin_s.mpr (h _ w4 L4 (Nat.dvd_trans hL3 hL4) (by rw [mul_len, hl1]) mul_wid ((gz_mul z1 z2 (fun r hr => (hd2 r hr).1) (fun r hr => by rw [(hd1 r hr).1]; omega) (by omega) (by omega)).le (by omega)) hw4)
    · have d2 : decide ((v : Int) < 5) = false := by rw [decide_eq_false_iff_not]; omega
      simp_arith only [d2, Bool.false_eq_true, if_false]
      refine lines_ok (m := 2) (k := k + 1) (t := t + 100) (pur_set hp hw2) (hg _) (hw2.less (by omega)) (by omega) (by omega) fun l1 w3 L3 hL3 hl1 hd1 hw3 => ?_
      have hsome : D.tup [row (List.replicate wide 0)] = .tup ([List.replicate wide 0].map row) := rfl
      have h1 : tall ≤ 1000000 := by omega
      have h2 : l1.length + [List.replicate wide (0 : Rat)].length ≤ many := by rw [many_val]; simp only [List.length_cons, List.length_nil]; omega
      simp_arith only [List.set_set, Int.toNat_natCast, flat_one, fr_zero, row_rep, hsome]
      simp only [vo_mat, h2, true_and, h1]
      refine ⟨by omega, ?_⟩
      have hgd := hw3.gd
      have hall : ∀ r ∈ l1 ++ [List.replicate wide (0 : Rat)], r.length = wide ∧ ∀ x ∈ r, Lz L3 2 80 x := fun r hr => by
        rcases List.mem_append.mp hr with hr | hr
        · exact ⟨(hd1 r hr).1, fun x hx => (((hd1 r hr).2 x hx).lt.ups 1).le (by omega)⟩
        · rw [List.mem_singleton.mp hr]
          exact ⟨List.length_replicate, fun x hx => by rw [(List.mem_replicate.mp hx).2]; exact lt_zero⟩
      have hslen : 0 < (l1 ++ [List.replicate wide (0 : Rat)]).length ∧ (l1 ++ [List.replicate wide (0 : Rat)]).length ≤ 3 := by rw [List.length_append]; simp only [List.length_cons, List.length_nil]; omega
      generalize l1 ++ [List.replicate wide (0 : Rat)] = sm' at hall hslen
      refine wf_inv (fun r σ S' => ∃ (q : List Nat) (acc : List (List Rat)) (w' : List D) (o5 : Option D), S' = S.set n w' ++ [acc.map row] ∧ r = q.map (fun i : Nat => D.int (i : Int)) ∧ σ = [some (.loc n), some (.int (tall : Int)), some (.int (wide : Int)), some (.int (v : Int)), some (.int ((1 + f : Nat) : Int)), o5, some (mat sm'), some (.loc S.length)] ∧
          Well (t + q.length) L3 w' ∧ acc.length + q.length = tall ∧ ∀ r ∈ acc, r ∈ sm') ⟨List.range tall, [], w3, none, by simp, rfl, by simp, hw3.less (by rw [List.length_range]; omega), by simp, by simp⟩ ?_ ?_
      · rintro x r σ S' ⟨q, acc, w', o5, rfl, e1, rfl, hw', hl, ha⟩
        cases q with
        | nil => cases e1
        | cons i q =>
          cases e1
          rw [List.length_cons] at hl hw'
          simp_arith only [still_nil]
          refine pick_t (k := k + 3) (t := t + q.length) (xs := sm'.map row) (lg_n hn) (hw'.less (by omega)) (by rw [List.length_map]; omega) (by rw [List.length_map]; omega) fun y w4 hy hw4 => ?_
          obtain ⟨r, hr, rfl⟩ := List.mem_map.mp hy
          simp_arith only [ls_n hn, lg_l, ls_l, List.length_map, many_val]
          exact ⟨by omega, trivial, q, acc ++ [r], w4, _, by rw [List.map_append]; rfl, rfl, rfl, hw4, by rw [List.length_append]; simp only [List.length_cons, List.length_nil]; omega, fun z hz => by
            rcases List.mem_append.mp hz with hz | hz
            · exact ha z hz
            · rw [List.mem_singleton.mp hz]; exact hr⟩
      · rintro σ S' ⟨q, acc, w', o5, rfl, e1, rfl, hw', hl, ha⟩
        cases q with
        | cons i q => cases e1
        | nil =>
          simp_arith only [lg_l]
          exact (fin_set hp hw' (pdp_mat (k := 16) (l := acc))).mpr (h acc w' L3 hL3 (by simpa using hl) (fun r hr => (hall r (ha r hr)).1) (fun r hr => (hall r (ha r hr)).2) (hw'.less (by omega)))
end Rf
end

section
set_option maxRecDepth 100000
set_option maxHeartbeats 4000000
set_option autoImplicit false
namespace Rf
open PySem PySem.Spec PyProof.Rows L2
/-- two tables whose product the law's stairs are -/
structure StP (L n : Nat) (lo hi : List (List Rat)) : Prop where
  l1 : lo.length = n
  l2 : hi.length = n
  w1 : ∀ r ∈ lo, r.length = n
  w2 : ∀ r ∈ hi, r.length = n
  d1 : ∀ r ∈ lo, ∀ x ∈ r, Dr L x
  d2 : ∀ r ∈ hi, ∀ x ∈ r, Dr L x
  lo1 : ∀ i, i < n → mxR lo i i = 1
  lo0 : ∀ i j, i < n → i < j → mxR lo i j = 0
  hi1 : ∀ i, i < n → mxR hi i i ≠ 0
  hi0 : ∀ i j, i < n → j < i → mxR hi i j = 0
theorem app_gd {a b : List Rat} {j : Nat} : (a ++ b).getD j 0 = if j < a.length then a.getD j 0 else b.getD (j - a.length) 0 := by
  by_cases h : j < a.length
  · rw [if_pos h, List.getD_eq_getElem?_getD, List.getElem?_append_left h, List.getD_eq_getElem?_getD]
  · rw [if_neg h, List.getD_eq_getElem?_getD, List.getElem?_append_right (by omega), List.getD_eq_getElem?_getD]
theorem rep_gd {k j : Nat} : (List.replicate k (0 : Rat)).getD j 0 = 0 := by
  rw [List.getD_eq_getElem?_getD, List.getElem?_replicate]; split <;> rfl
theorem snoc_gd {m : List (List Rat)} {r : List Rat} {i : Nat} (h : i ≤ m.length) : (m ++ [r]).getD i [] = if i = m.length then r else m.getD i [] := by
  by_cases e : i = m.length
  · subst e
    rw [if_pos rfl, List.getD_eq_getElem?_getD, List.getElem?_append_right (Nat.le_refl _), Nat.sub_self]; rfl
  · rw [if_neg e, List.getD_eq_getElem?_getD, List.getElem?_append_left (by omega), List.getD_eq_getElem?_getD]
theorem vo_rr {S : Sto} {a b : List Rat} {Q : D → Prop} : wp (opD S .add (row a) (row b)) Q ↔ a.length + b.length ≤ many ∧ Q (row (a ++ b)) := by
  unfold row
  rw [vo_cat, List.length_map, List.length_map, List.map_append]
theorem row1 {x : Rat} : D.tup [fr x] = row [x] := rfl
theorem stp_gz {L n : Nat} [Gd L] {lo hi : List (List Rat)} (P : StP L n lo hi) (hn : n ≤ 6) : Gz L 2 70 (mulF lo hi n) :=
  (gz_mul (dr_gz P.d1) (dr_gz P.d2) P.w2 (fun r hr => by rw [P.w1 r hr]; exact hn) (by omega) (by omega)).le (by omega)
end Rf
end

section
set_option maxRecDepth 100000
set_option maxHeartbeats 4000000
set_option autoImplicit false
namespace Rf
open PySem PySem.Spec PyProof.Rows L2
theorem CarG.up {L L' b : Nat} {c : List Tri} (h : CarG L b c) (hL : L ∣ L') (hg : Gd L') : CarG L' b c :=
  ⟨h.1, fun t ht => (h.2.1 t ht).up hL, h.2.2.1, h.2.2.2.1, hg⟩
theorem least_car {L m : Nat} {c : List Tri} {ns : List Nat} (hgd : Gd L) (hc : c.length = m) (hsp : Spans c (ns ++ [0])) (hns : ns.length = m) (hhd : ns.head? = some 0) (hb : ∀ a ∈ ns, a ≤ 3) (hd : ∀ p ∈ c, p.dr L) (hm : 1 ≤ m) (hm6 : m ≤ 6) : CarG L 3 c := by
  cases ns with
  | nil => cases hhd
  | cons a ns =>
    cases hhd
    exact carG_wide hgd hsp hc (by simpa using hns) (fun x hx => hb x (List.mem_cons_of_mem _ hx)) hd hm hm6
theorem fin_many {t L : Nat} {d : D} {S : Sto} {n : Nat} {w : List D} {X : Sto} {Q : D × Sto → Prop} (hp : Pur S) (hw : Well t L w) (hd : pdp 20 d = true) : wp (fin false S.length d (S.set n w ++ X)) Q ↔ Q (d, S.set n w) := by
  rw [fin_pur (S0 := S.set n w) List.length_set (pur_set hp hw) hd (by
    have e : S.length = (S.set n w).length := List.length_set.symm
    rw [e, List.take_left']
    rfl), wp_some]
theorem bel_lz6 {L b : Nat} {c : List Tri} (h : CarG L b c) (hb : b ≤ 6) : Gz L 6 290 (belF c) := fun r hr x hx => by
  have h := h.d hb
  have hgd := h.gd
  obtain ⟨i, hi, rfl⟩ := List.mem_map.mp hr
  have hi' := List.mem_range.mp hi
  have hc := h.n6
  rcases List.mem_append.mp hx with hx | hx
  · obtain ⟨j, hj, rfl⟩ := List.mem_map.mp hx
    have hj' := List.mem_range.mp hj
    have d := h.dr _ (cat_mem hi')
    have := (dots_of (t := i - (j + 1)) (by omega) d.out d.l1 (led_st hc h.dr (i := j) (i - (j + 1)) (by omega))).2
    have h2 := this.ups (4 - (i - (j + 1)))
    rw [show i - (j + 1) + 2 + (4 - (i - (j + 1))) = 6 by omega] at h2
    exact h2.le (by unfold sb; omega)
  · rw [(List.mem_replicate.mp hx).2]; exact lt_zero
theorem bel_lz5 {L b : Nat} {c : List Tri} (h : CarG L b c) (hb : b ≤ 6) (h5 : c.length ≤ 5) : Gz L 5 199 (belF c) := fun r hr x hx => by
  have h := h.d hb
  have hgd := h.gd
  obtain ⟨i, hi, rfl⟩ := List.mem_map.mp hr
  have hi' := List.mem_range.mp hi
  have hc := h.n6
  rcases List.mem_append.mp hx with hx | hx
  · obtain ⟨j, hj, rfl⟩ := List.mem_map.mp hx
    have hj' := List.mem_range.mp hj
    have d := h.dr _ (cat_mem hi')
    have := (dots_of (t := i - (j + 1)) (by omega) d.out d.l1 (led_st hc h.dr (i := j) (i - (j + 1)) (by omega))).2
    have h2 := this.ups (3 - (i - (j + 1)))
    rw [show i - (j + 1) + 2 + (3 - (i - (j + 1))) = 5 by omega] at h2
    exact h2.le (by unfold sb; omega)
  · rw [(List.mem_replicate.mp hx).2]; exact lt_zero
theorem bel_lenT {c : List Tri} : (belF c).length = c.length := by unfold belF; rw [List.length_map, List.length_range]
theorem bel_wid {c : List Tri} : ∀ r ∈ belF c, r.length = c.length := fun r hr => by
  obtain ⟨i, hi, rfl⟩ := List.mem_map.mp hr
  exact bel_len (by have := List.mem_range.mp hi; omega)
theorem flip_len {m : List (List Rat)} {w : Nat} : (flipF m w).length = w := by unfold flipF; rw [List.length_map, List.length_range]
theorem flip_wid {m : List (List Rat)} {w : Nat} : ∀ r ∈ flipF m w, r.length = m.length := fun r hr => by
  obtain ⟨j, _, rfl⟩ := List.mem_map.mp hr
  rw [List.length_map]
theorem gz_flip {L e b w : Nat} {m : List (List Rat)} (h : Gz L e b m) (hw : ∀ r ∈ m, r.length = w) : Gz L e b (flipF m w) := fun r hr x hx => by
  obtain ⟨j, hj, rfl⟩ := List.mem_map.mp hr
  have hj' := List.mem_range.mp hj
  exact clm_gz h (fun r hr => by rw [hw r hr]; exact hj') x hx
theorem gz_sum {L e b : Nat} [Gd L] {one two : List (List Rat)} (h1 : Gz L e b one) (h2 : Gz L e b two) : Gz L e (b + 1) (sumT one two) := fun r hr x hx => by
  obtain ⟨p, hp, rfl⟩ := List.mem_map.mp hr
  obtain ⟨q, hq, rfl⟩ := List.mem_map.mp hx
  exact (h1 _ (List.of_mem_zip hp).1 _ (List.of_mem_zip hq).1).add (h2 _ (List.of_mem_zip hp).2 _ (List.of_mem_zip hq).2)
theorem sum_len {one two : List (List Rat)} (h : one.length = two.length) : (sumT one two).length = one.length := by unfold sumT; rw [List.length_map, List.length_zip]; omega
theorem sum_wid {w : Nat} {one two : List (List Rat)} (h1 : ∀ r ∈ one, r.length = w) (h2 : ∀ r ∈ two, r.length = w) : ∀ r ∈ sumT one two, r.length = w := fun r hr => by
  obtain ⟨p, hp, rfl⟩ := List.mem_map.mp hr
  rw [List.length_map, List.length_zip, h1 _ (List.of_mem_zip hp).1, h2 _ (List.of_mem_zip hp).2, Nat.min_self]
end Rf
end

section
set_option maxRecDepth 100000
set_option maxHeartbeats 4000000
set_option autoImplicit false
namespace Rf
open PySem PySem.Spec PyProof.Rows L2
/-! ## ranks turned over -/
theorem fac_T {n w r : Nat} {M M' : Mx} (h : ∀ i, i < n → ∀ j, j < w → M' j i = M i j) (hf : Fac n w r M) : Fac w n r M' := by
  obtain ⟨A, B, e⟩ := hf
  exact ⟨fun j k => B k j, fun k i => A i k, fun j hj i hi => by
    rw [h i hi j hj, e i hi j hj]
    exact sumR_congr fun k _ => by grind⟩
theorem rank_T {n w : Nat} {M M' : Mx} (h : ∀ i, i < n → ∀ j, j < w → M' j i = M i j) : (hds w n M').length = (hds n w M).length :=
  Nat.le_antisymm (fac_le (fac_T h fac_heads)) (fac_le (fac_T (M := M') (M' := M) (fun j hj i hi => (h i hi j hj).symm) fac_heads))
theorem flip_gd {m : List (List Rat)} {w i j : Nat} (hi : i < w) (hj : j < m.length) : mxR (flipF m w) i j = mxR m j i := by
  show ((flipF m w).getD i []).getD j 0 = (m.getD j []).getD i 0
  have e : (flipF m w).getD i [] = m.map fun r => r.getD i 0 := by
    unfold flipF
    rw [gd (by rw [List.length_map, List.length_range]; exact hi), List.getElem_map, List.getElem_range]
  rw [e, gd (l := m.map _) (by rw [List.length_map]; exact hj), List.getElem_map, gd hj]
/-- the part above a cut, on the right of it -/
def highP (m : List (List Rat)) (a : Nat) : List (List Rat) := (m.take a).map fun r => r.drop a
theorem low_gd {m : List (List Rat)} {a i j : Nat} (hi : i < m.length - a) (hj : j < a) (hw : ∀ r ∈ m, a ≤ r.length) : mxR (lowP m a) i j = mxR m (a + i) j := by
  show ((lowP m a).getD i []).getD j 0 = (m.getD (a + i) []).getD j 0
  have h1 : a + i < m.length := by omega
  have h2 := hw _ (List.getElem_mem h1)
  have e : (lowP m a).getD i [] = m[a + i].take a := by
    unfold lowP
    rw [gd (by rw [List.length_map, List.length_drop]; exact hi), List.getElem_map, List.getElem_drop]
  rw [e, gd (l := m) h1, gd (by rw [List.length_take]; omega), List.getElem_take, gd (by omega)]
theorem high_gd {m : List (List Rat)} {n a i j : Nat} (hi : i < a) (ha : a ≤ m.length) (hj : j < n - a) (hw : ∀ r ∈ m, r.length = n) : mxR (highP m a) i j = mxR m i (a + j) := by
  show ((highP m a).getD i []).getD j 0 = (m.getD i []).getD (a + j) 0
  have h1 : i < m.length := by omega
  have h2 := hw _ (List.getElem_mem h1)
  have e : (highP m a).getD i [] = m[i].drop a := by
    unfold highP
    rw [gd (by rw [List.length_map, List.length_take]; omega), List.getElem_map, List.getElem_take]
  rw [e, gd (l := m) h1, gd (by rw [List.length_drop]; omega), List.getElem_drop, gd (by omega)]
theorem high_len {m : List (List Rat)} {a : Nat} (h : a ≤ m.length) : (highP m a).length = a := by unfold highP; rw [List.length_map, List.length_take]; omega
theorem high_wid {m : List (List Rat)} {n a : Nat} (hw : ∀ r ∈ m, r.length = n) : ∀ l ∈ highP m a, l.length = n - a := fun l hl => by
  obtain ⟨r, hr, rfl⟩ := List.mem_map.mp hl
  rw [List.length_drop, hw r (List.mem_of_mem_take hr)]
theorem low_high {m : List (List Rat)} {n a : Nat} (hl : m.length = n) (hw : ∀ r ∈ m, r.length = n) (ha : a ≤ n) : rankL (lowP (flipF m n) a) a = rankL (highP m a) (n - a) := by
  unfold rankL
  rw [low_len, flip_len, high_len (by omega)]
  refine rank_T fun i hi j hj => ?_
  rw [low_gd (by rw [flip_len]; exact hj) hi (fun r hr => by rw [flip_wid r hr]; omega), flip_gd (by omega) (by omega), high_gd hi (by omega) hj hw]
theorem flip_flip {m : List (List Rat)} {n : Nat} (hl : m.length = n) (hw : ∀ r ∈ m, r.length = n) : flipF (flipF m n) n = m := by
  refine List.ext_getElem (by rw [flip_len, hl]) fun i h1 h2 => ?_
  refine ext_gd (by rw [flip_wid _ (List.getElem_mem h1), flip_len, hw _ (List.getElem_mem h2)]) fun j hj => ?_
  rw [flip_wid _ (List.getElem_mem h1), flip_len] at hj
  rw [← gd (d := []) h1, ← gd (d := []) h2]
  show mxR (flipF (flipF m n) n) i j = mxR m i j
  rw [flip_gd (by omega) (by rw [flip_len]; exact hj), flip_gd hj (by omega)]
noncomputable def highsF (m : List (List Rat)) : List Nat := (List.range (m.length - 1)).map fun k => rankL (highP m (1 + k)) (m.length - (1 + k))
theorem lows_flip {m : List (List Rat)} {n : Nat} (hl : m.length = n) (hw : ∀ r ∈ m, r.length = n) : lowsF (flipF m n) = highsF m := by
  unfold lowsF highsF
  rw [flip_len, hl]
  exact List.map_congr_left fun k hk => low_high hl hw (by have := List.mem_range.mp hk; omega)
theorem highs_flip {m : List (List Rat)} {n : Nat} (hl : m.length = n) (hw : ∀ r ∈ m, r.length = n) : lowsF m = highsF (flipF m n) := by
  have := lows_flip (m := flipF m n) (n := n) flip_len (fun r hr => by rw [flip_wid r hr, hl])
  rw [flip_flip hl hw] at this
  exact this
/-! ## the program's -/
theorem sq_gz {L n b : Nat} {m : List (List Rat)} (hgd : Gd L) (hl : m.length = n) (hw : ∀ r ∈ m, r.length = n) (h1 : 1 ≤ n) (h6 : n ≤ 6) (hz : Gz L 6 b m) (hb : b ≤ 600 := by omega) : Sq6 (max b (11 * 6 + 1)) n m :=
  ⟨hl, hw, h1, h6, fun r hr => lz_fb (L := L) (e := 6) (b := b) (hz r hr), by omega⟩
theorem flippedT_ok {k n : Nat} {m : List (List Rat)} {S : Sto} (hn : n ≤ 1000) (hm : m.length ≤ 1000) (hr : ∀ r ∈ m, n ≤ r.length) : R (k + 1) 16 [mat m, .int (n : Int)] S = some (mat (flipF m n), S) := by
  refine R_eq ((R_wp T_flipped rfl).mpr ?_)
  have h1 : n ≤ 1000000 := by omega
  have h2 : n ≤ many := by rw [many_val]; omega
  have h3 : m.length ≤ many := by rw [many_val]; omega
  simp_arith only [F.flipped, fin_wp, List.length_map, List.length_range, h1, h2, true_and]
  refine wc_mapL (fun i : Nat => D.int (i : Int)) (fun j => row (m.map fun r => r.getD j 0)) still_nil (fun j hj => ?_) ?_
  · have hj' := List.mem_range.mp hj
    simp_arith only [vw_mat, h3, List.length_map, true_and]
    refine wc_mapL row (fun r => fr (r.getD j 0)) still_nil (fun r hrm => ?_) ?_
    · have hlt : j < r.length := by have := hr r hrm; omega
      simp_arith only [vi_row, rGetR hlt]
    · simp_arith only [row, List.map_map]
      rfl
  · simp_arith only [fin_wp, mat]
    unfold flipF
    rw [List.map_map]
    rfl
theorem tabled_ok {k w : Nat} {m : List (List Rat)} {S : Sto} (h1 : 1 ≤ m.length) (h6 : m.length ≤ 6) (hw : ∀ r ∈ m, r.length = w) (w1 : 1 ≤ w) (w6 : w ≤ 6) : R (k + 6) 78 [mat m] S = some (.bl true, S) := by
  have h0w : (m.getD 0 []).length = w := by rw [gd h1]; exact hw _ (List.getElem_mem h1)
  have b1 : (decide ((1 : Int) ≤ (m.length : Int)) && decide ((m.length : Int) ≤ 6)) = true := by
    rw [Bool.and_eq_true, decide_eq_true_eq, decide_eq_true_eq]; omega
  have b2 : (decide ((1 : Int) ≤ (w : Int)) && decide ((w : Int) ≤ 6)) = true := by
    rw [Bool.and_eq_true, decide_eq_true_eq, decide_eq_true_eq]; omega
  have e0 : ∀ (S : Sto) (Q : D → Prop), wp (idxD S (mat m) (.int 0)) Q ↔ Q (row (m.getD 0 [])) := fun S Q => vi_mat (n := 0) h1
  have it : isiD (mat m) .tuple = true := rfl
  have it2 : isiD (row (m.getD 0 [])) .tuple = true := rfl
  have ar : ∀ S, R (k + 5) 11 [mat m, .int (m.length : Int), .int (w : Int)] S = some (.bl true, S) := fun S => by
    rw [are_rows_ok (k := k) (w := w) (by omega) hw (by omega), decide_eq_true rfl]
  refine R_eq ((R_wp T_is_tabled rfl).mpr ?_)
  simp_arith only [F.is_tabled, fin_wp, it, vp_lenMt, G_2, is_between_ok (k := k + 3), b1, e0, it2]
  simp_arith only [fin_wp, it, vp_lenMt, G_2, is_between_ok (k := k + 3), b2, e0, vp_lenR, h0w, ar]
theorem check_table_ok {k w : Nat} {m : List (List Rat)} {S : Sto} (h1 : 1 ≤ m.length) (h6 : m.length ≤ 6) (hw : ∀ r ∈ m, r.length = w) (w1 : 1 ≤ w) (w6 : w ≤ 6) : R (k + 7) 99 [mat m] S = some (.non, S) := by
  refine R_eq ((R_wp T_check_table rfl).mpr ?_)
  simp_arith only [F.check_table, fin_wp, tabled_ok (k := k) h1 h6 hw w1 w6]
theorem turned_ok {k w : Nat} {m : List (List Rat)} {S : Sto} (h1 : 1 ≤ m.length) (h6 : m.length ≤ 6) (hw : ∀ r ∈ m, r.length = w) (w1 : 1 ≤ w) (w6 : w ≤ 6) : R (k + 8) 124 [mat m] S = some (mat (flipF m w), S) := by
  have h0w : (m.getD 0 []).length = w := by rw [gd h1]; exact hw _ (List.getElem_mem h1)
  have e0 : ∀ (S : Sto) (Q : D → Prop), wp (idxD S (mat m) (.int 0)) Q ↔ Q (row (m.getD 0 [])) := fun S Q => vi_mat (n := 0) h1
  refine R_eq ((R_wp T_turned_over rfl).mpr ?_)
  have c1 := fun S => flippedT_ok (k := k + 6) (n := w) (m := m) (S := S) (by omega) (by omega) (fun r hr => by rw [hw r hr]; exact Nat.le_refl _)
  simp_arith only [F.turned_over, fin_wp, check_table_ok (k := k) h1 h6 hw w1 w6, e0, vp_lenR, h0w, c1]
theorem vl_t1 {S : Sto} {xs : List D} {Q : D → Prop} : wp (slD S (.tup xs) (some 1) none) Q ↔ Q (.tup (xs.drop 1)) := vl_from (k := 1)
/-- a lot of indexes below n -/
def Lot (n : Nat) (l : List Nat) : Prop := (∀ i ∈ l, i < n) ∧ ∀ p ∈ l.zip (l.drop 1), p.1 < p.2
theorem lotted_ok {k n : Nat} {l : List Nat} {S : Sto} (h : Lot n l) (hl : l.length ≤ 1000) : R (k + 3) 96 [natsT l, .int (n : Int)] S = some (.bl true, S) := by
  refine R_eq ((R_wp T_is_lotted rfl).mpr ?_)
  have it : isiD (natsT l) .tuple = true := rfl
  have hlm : l.length ≤ many := by rw [many_val]; omega
  have hzm : (l.zip (l.drop 1)).length ≤ many := by rw [List.length_zip, many_val]; omega
  simp_arith only [F.is_lotted, it, vw_natsT, List.length_map, hlm, true_and]
  refine wc_mapL (fun n : Nat => D.int (n : Int)) (fun _ => .bl true) still_nil (fun i hi => ?_) ?_
  · have hi' := h.1 i hi
    have e : (decide ((0 : Int) ≤ (i : Int)) && decide ((i : Int) ≤ (n : Int) - 1)) = true := by
      rw [Bool.and_eq_true, decide_eq_true_eq, decide_eq_true_eq]; omega
    simp_arith only [is_between_ok (k := k), e]
  · have em : l.map (fun _ => D.bl true) = (l.map fun _ => true).map D.bl := by rw [List.map_map]; rfl
    have ea : (l.map fun _ => true).all id = true := by
      rw [List.all_eq_true]; intro b hb; obtain ⟨_, _, rfl⟩ := List.mem_map.mp hb; rfl
    rw [em]
    have hd1 : (nats l).drop 1 = nats (l.drop 1) := by unfold nats; rw [List.map_drop]
    have hnt : natsT l = .tup (nats l) := rfl
    simp_arith only [hnt, ea, vl_t1, hd1, zip_nats, List.length_map, hzm, true_and]
    refine wc_mapL (fun p : Nat × Nat => D.tup [.int (p.1 : Int), .int (p.2 : Int)]) (fun _ => .bl true) still_nil (fun p hp => ?_) ?_
    · have e : decide ((p.1 : Int) < (p.2 : Int)) = true := by rw [decide_eq_true_eq]; have := h.2 p hp; omega
      simp_arith only [e]
    · have em : (l.zip (l.drop 1)).map (fun _ => D.bl true) = ((l.zip (l.drop 1)).map fun _ => true).map D.bl := by rw [List.map_map]; rfl
      have ea : ((l.zip (l.drop 1)).map fun _ => true).all id = true := by
        rw [List.all_eq_true]; intro b hb; obtain ⟨_, _, rfl⟩ := List.mem_map.mp hb; rfl
      rw [em]
      simp_arith only [fin_wp, ea]
theorem check_lot_ok {k n : Nat} {l : List Nat} {S : Sto} (h : Lot n l) (hl : l.length ≤ 1000) : R (k + 4) 100 [.int (n : Int), natsT l] S = some (.non, S) := by
  refine R_eq ((R_wp T_check_lot rfl).mpr ?_)
  simp_arith only [F.check_lot, fin_wp, lotted_ok (k := k) h hl]
theorem check_lots_ok {k w : Nat} {m : List (List Rat)} {rs cs : List Nat} {S : Sto} (h1 : 1 ≤ m.length) (hw : ∀ r ∈ m, r.length = w) (hr : Lot m.length rs) (hc : Lot w cs) (hl1 : rs.length ≤ 1000) (hl2 : cs.length ≤ 1000) : R (k + 5) 101 [mat m, natsT rs, natsT cs] S = some (.non, S) := by
  have h0w : (m.getD 0 []).length = w := by rw [gd h1]; exact hw _ (List.getElem_mem h1)
  have e0 : ∀ (S : Sto) (Q : D → Prop), wp (idxD S (mat m) (.int 0)) Q ↔ Q (row (m.getD 0 [])) := fun S Q => vi_mat (n := 0) h1
  refine R_eq ((R_wp T_check_lots rfl).mpr ?_)
  simp_arith only [F.check_lots, fin_wp, vp_lenMt, e0, vp_lenR, h0w, check_lot_ok (k := k) hr hl1, check_lot_ok (k := k) hc hl2]
theorem lot_len {n : Nat} : ∀ {l : List Nat}, Lot n l → l.length ≤ n := fun {l} h => by
  have mono : ∀ k, (hk : k + 1 < l.length) → l[k]'(by omega) < l[k + 1] := fun k hk => by
    have hz : k < (l.zip (l.drop 1)).length := by rw [List.length_zip, List.length_drop]; omega
    have := h.2 _ (List.getElem_mem hz)
    rw [List.getElem_zip, List.getElem_drop] at this
    simpa [Nat.add_comm] using this
  have ge : ∀ k, (hk : k < l.length) → k ≤ l[k] := fun k => by
    induction k with
    | zero => intro _; exact Nat.zero_le _
    | succ k ih => intro hk; have := mono k hk; have := ih (by omega); omega
  refine Classical.byContradiction fun hn => ?_
  have h0 : 0 < l.length := by omega
  have := ge (l.length - 1) (by omega)
  have := h.1 _ (List.getElem_mem (show l.length - 1 < l.length by omega))
  omega
theorem part_len {m : List (List Rat)} {rs cs : List Nat} : (partF m rs cs).length = rs.length := List.length_map _
theorem part_wid {m : List (List Rat)} {rs cs : List Nat} : ∀ r ∈ partF m rs cs, r.length = cs.length := fun r hr => by
  obtain ⟨i, _, rfl⟩ := List.mem_map.mp hr
  exact List.length_map _
theorem gz_part {L e b w : Nat} {m : List (List Rat)} {rs cs : List Nat} (h : Gz L e b m) (hr : Lot m.length rs) (hw : ∀ r ∈ m, r.length = w) (hc : Lot w cs) : Gz L e b (partF m rs cs) := fun r hrm x hx => by
  obtain ⟨i, hi, rfl⟩ := List.mem_map.mp hrm
  obtain ⟨j, hj, rfl⟩ := List.mem_map.mp hx
  have hi' := hr.1 i hi
  have hj' := hc.1 j hj
  rw [gd hi']
  have hjl : j < m[i].length := by rw [hw _ (List.getElem_mem hi')]; exact hj'
  rw [gd hjl]
  exact h _ (List.getElem_mem hi') _ (List.getElem_mem hjl)
/-! ## the law's high ranks -/
theorem vl_toM {S : Sto} {m : List (List Rat)} {k : Nat} {Q : D → Prop} : wp (slD S (mat m) none (some (k : Int))) Q ↔ Q (mat (m.take k)) := by
  unfold mat
  rw [vl_to, List.map_take]
theorem vl_fromR {S : Sto} {l : List Rat} {k : Nat} {Q : D → Prop} : wp (slD S (row l) (some (k : Int)) none) Q ↔ Q (row (l.drop k)) := by
  unfold row
  rw [vl_from, List.map_drop]
end Rf
end

section
set_option maxRecDepth 100000
set_option maxHeartbeats 4000000
set_option autoImplicit false
namespace Rf
open PySem PySem.Spec PyProof.Rows L2
theorem pick_0 (a : D) : pick [0] [a] = [a] := rfl
theorem lot_range {n a : Nat} (h : a ≤ n) : Lot n (List.range a) := ⟨fun i hi => by have := List.mem_range.mp hi; omega, fun p hp => by
  obtain ⟨k, hk, e⟩ := List.getElem_of_mem hp
  rw [List.length_zip, List.length_drop, List.length_range] at hk
  rw [List.getElem_zip, List.getElem_drop, List.getElem_range, List.getElem_range] at e
  rw [← e]
  show k < 1 + k
  omega⟩
theorem lot_from {n a : Nat} : Lot n ((List.range (n - a)).map (a + ·)) := ⟨fun i hi => by
  obtain ⟨q, hq, rfl⟩ := List.mem_map.mp hi
  have := List.mem_range.mp hq
  omega, fun p hp => by
  obtain ⟨k, hk, e⟩ := List.getElem_of_mem hp
  rw [List.length_zip, List.length_drop, List.length_map, List.length_range] at hk
  rw [List.getElem_zip, List.getElem_drop, List.getElem_map, List.getElem_map, List.getElem_range, List.getElem_range] at e
  rw [← e]
  show a + k < a + (1 + k)
  omega⟩
theorem part_high {m : List (List Rat)} {n a : Nat} (hl : m.length = n) (hw : ∀ r ∈ m, r.length = n) (ha : a ≤ n) : partF m (List.range a) ((List.range (n - a)).map (a + ·)) = highP m a := by
  refine List.ext_getElem (by rw [part_len, List.length_range, high_len (by omega)]) fun i h1 h2 => ?_
  rw [part_len, List.length_range] at h1
  have h3 : i < m.length := by omega
  simp only [partF, highP, List.getElem_map, List.getElem_range, List.getElem_take, gd h3, List.map_map]
  refine List.ext_getElem (by rw [List.length_map, List.length_range, List.length_drop, hw _ (List.getElem_mem h3)]) fun j a1 a2 => ?_
  rw [List.length_map, List.length_range] at a1
  rw [List.getElem_map, List.getElem_range, List.getElem_drop]
  show m[i].getD (a + j) 0 = _
  rw [gd (by rw [hw _ (List.getElem_mem h3)]; omega)]
theorem vi_natsT {S : Sto} {l : List Nat} {n : Nat} (h : n < l.length) {Q : D → Prop} : wp (idxD S (natsT l) (.int (n : Int))) Q ↔ Q (.int (l.getD n 0 : Nat)) := by
  unfold natsT nats
  rw [vi_nat, List.getElem?_map, List.getElem?_eq_getElem h, Option.map_some, wp_some, gd h]
theorem bits3 {q : Nat} (hq : q ≤ 2) : 3 * bq (max 300 (11 * 6 + 1)) q ≤ 8990 := by
  match q, hq with
  | 0, _ | 1, _ | 2, _ => decide
end Rf
end

section
set_option maxRecDepth 100000
set_option maxHeartbeats 4000000
set_option autoImplicit false
namespace Rf
open PySem PySem.Spec PyProof.Rows L2
/-! ## a column times a row more: ranks -/
theorem fac_more {n w r : Nat} {M M' : Mx} {u v : Nat → Rat} (h : ∀ i, i < n → ∀ j, j < w → M' i j = M i j + u i * v j) (hf : Fac n w r M) : Fac n w (r + 1) M' := by
  obtain ⟨A, B, e⟩ := hf
  refine ⟨fun i k => if k = r then u i else A i k, fun k j => if k = r then v j else B k j, fun i hi j hj => ?_⟩
  rw [h i hi j hj, e i hi j hj, sumR_succ]
  simp only [if_true]
  congr 1
  exact sumR_congr fun k hk => by rw [if_neg (by omega), if_neg (by omega)]
theorem rank_more {n w : Nat} {M M' : Mx} {u v : Nat → Rat} (h : ∀ i, i < n → ∀ j, j < w → M' i j = M i j + u i * v j) : (hds n w M').length ≤ (hds n w M).length + 1 ∧ (hds n w M).length ≤ (hds n w M').length + 1 :=
  ⟨fac_le (fac_more h fac_heads), fac_le (fac_more (M := M') (M' := M) (u := fun i => - u i) (v := v) (fun i hi j hj => by rw [h i hi j hj]; grind) fac_heads)⟩
def prodT (side line : List Rat) : List (List Rat) := side.map fun x => line.map fun y => x * y
theorem prod_len {side line : List Rat} : (prodT side line).length = side.length := List.length_map _
theorem prod_wid {side line : List Rat} : ∀ r ∈ prodT side line, r.length = line.length := fun r hr => by
  obtain ⟨x, _, rfl⟩ := List.mem_map.mp hr
  exact List.length_map _
theorem gz_prod {L : Nat} [Gd L] {side line : List Rat} (h1 : ∀ x ∈ side, Dr L x) (h2 : ∀ x ∈ line, Dr L x) : Gz L 2 64 (prodT side line) := fun r hr x hx => by
  obtain ⟨a, ha, rfl⟩ := List.mem_map.mp hr
  obtain ⟨b, hb, rfl⟩ := List.mem_map.mp hx
  exact (h1 a ha).lt.mul (h2 b hb).lt
theorem more_gd {m : List (List Rat)} {side line : List Rat} {n w i j : Nat} (hl : m.length = n) (hw : ∀ r ∈ m, r.length = w) (hs : side.length = n) (hn : line.length = w) (hi : i < n) (hj : j < w) :
    mxR (sumT m (prodT side line)) i j = mxR m i j + side.getD i 0 * line.getD j 0 := by
  have h1 : i < m.length := by omega
  have h2 := hw _ (List.getElem_mem h1)
  have h3 : i < side.length := by omega
  have e : (sumT m (prodT side line)).getD i [] = (m[i].zip (line.map fun y => side[i] * y)).map fun q => q.1 + q.2 := by
    unfold sumT prodT
    rw [gd (l := List.map _ _) (by rw [List.length_map, List.length_zip, List.length_map]; omega)]
    simp only [List.getElem_map, List.getElem_zip]
  show ((sumT m (prodT side line)).getD i []).getD j 0 = (m.getD i []).getD j 0 + side.getD i 0 * line.getD j 0
  rw [e, gd (l := List.map _ _) (by rw [List.length_map, List.length_zip, List.length_map]; omega)]
  simp only [List.getElem_map, List.getElem_zip]
  rw [gd h1, gd (show j < m[i].length by omega), gd h3, gd (by omega)]
theorem lows_more {m : List (List Rat)} {side line : List Rat} {n : Nat} (hl : m.length = n) (hw : ∀ r ∈ m, r.length = n) (hs : side.length = n) (hn : line.length = n) :
    ∀ p ∈ (lowsF (sumT m (prodT side line))).zip (lowsF m), p.1 ≤ p.2 + 1 ∧ p.2 ≤ p.1 + 1 := fun p hp => by
  have hsl : (sumT m (prodT side line)).length = n := by rw [sum_len (by rw [prod_len]; omega)]; exact hl
  have hsw : ∀ r ∈ sumT m (prodT side line), r.length = n := sum_wid hw (fun r hr => by rw [prod_wid r hr]; exact hn)
  obtain ⟨k, hk, e⟩ := List.getElem_of_mem hp
  have hk' : k < n - 1 := by
    rw [List.length_zip] at hk
    unfold lowsF at hk
    rw [List.length_map, List.length_range, List.length_map, List.length_range, hsl, hl] at hk
    omega
  rw [List.getElem_zip] at e
  subst e
  unfold lowsF
  simp only [List.getElem_map, List.getElem_range]
  unfold rankL
  rw [low_len, low_len, hsl, hl]
  refine rank_more (u := fun i => side.getD (1 + k + i) 0) (v := fun j => line.getD j 0) fun i hi j hj => ?_
  rw [low_gd (by rw [hsl]; exact hi) hj (fun r hr => by rw [hsw r hr]; omega), low_gd (by rw [hl]; exact hi) hj (fun r hr => by rw [hw r hr]; omega), more_gd hl hw hs hn (by omega) (by omega)]
theorem highs_more {m : List (List Rat)} {side line : List Rat} {n : Nat} (hl : m.length = n) (hw : ∀ r ∈ m, r.length = n) (hs : side.length = n) (hn : line.length = n) :
    ∀ p ∈ (highsF (sumT m (prodT side line))).zip (highsF m), p.1 ≤ p.2 + 1 ∧ p.2 ≤ p.1 + 1 := fun p hp => by
  have hsl : (sumT m (prodT side line)).length = n := by rw [sum_len (by rw [prod_len]; omega)]; exact hl
  have hsw : ∀ r ∈ sumT m (prodT side line), r.length = n := sum_wid hw (fun r hr => by rw [prod_wid r hr]; exact hn)
  obtain ⟨k, hk, e⟩ := List.getElem_of_mem hp
  have hk' : k < n - 1 := by
    rw [List.length_zip] at hk
    unfold highsF at hk
    rw [List.length_map, List.length_range, List.length_map, List.length_range, hsl, hl] at hk
    omega
  rw [List.getElem_zip] at e
  subst e
  unfold highsF
  simp only [List.getElem_map, List.getElem_range]
  unfold rankL
  rw [high_len (by omega), high_len (by omega), hsl, hl]
  refine rank_more (u := fun i => side.getD i 0) (v := fun j => line.getD (1 + k + j) 0) fun i hi j hj => ?_
  rw [high_gd hi (by omega) hj hsw, high_gd hi (by omega) hj hw, more_gd hl hw hs hn (by omega) (by omega)]
theorem Lz.upL {L L' e b : Nat} {r : Rat} (hg : Gd L) (hg' : Gd L') (hL : L ∣ L') (h : Lz L e b r) : Lz L' e (b + 7 * e) r := by
  obtain ⟨n, h1, rfl⟩ := h
  obtain ⟨c, rfl⟩ := hL
  have hc : c ≤ 2 ^ 7 := by
    obtain ⟨d, d1, _, hd⟩ := hg.out
    obtain ⟨d', _, d2, hd'⟩ := hg'.out
    have : c ≤ d * c := Nat.le_mul_of_pos_left c d1
    rw [hd, Nat.mul_assoc] at hd'
    omega
  have hce : c ^ e ≤ 2 ^ (7 * e) := by
    rw [Nat.pow_mul]
    exact Nat.pow_le_pow_left hc e
  refine ⟨n * ((c ^ e : Nat) : Int), ?_, ?_⟩
  · rw [Int.natAbs_mul, Int.natAbs_natCast, Nat.pow_add]
    exact Nat.mul_lt_mul_of_lt_of_le h1 hce (two_pow_pos' _)
  · rw [Rat.mkRat_eq_iff (LLe_pos e) (LLe_pos e), Nat.mul_pow]
    simp only [Int.natCast_mul, Int.mul_assoc, Int.mul_comm, Int.mul_left_comm]
theorem gz_upL {L L' e b : Nat} {m : List (List Rat)} (hg : Gd L) (hg' : Gd L') (hL : L ∣ L') (h : Gz L e b m) : Gz L' e (b + 7 * e) m := fun r hr x hx => (h r hr x hx).upL hg hg' hL
/-! ## walks -/
theorem vz_ml {S : Sto} {a b : List (List Rat)} {Q : Wk → Prop} : wp (zipWk S (mat a) (.lst (b.map row))) Q ↔ Q ⟨(a.zip b).map fun p => .tup [row p.1, row p.2], []⟩ := by
  unfold mat
  rw [vz_tl, zip_pairs]
end Rf
end

section
set_option maxRecDepth 100000
set_option maxHeartbeats 4000000
set_option autoImplicit false
namespace Rf
open PySem PySem.Spec PyProof.Rows L2
theorem lisnum_ok {k : Nat} {r : Rat} {S : Sto} (hb : Bt 8000 r) : R (k + 2) 114 [fr r] S = some (.bl true, S) := by
  refine R_eq ((R_wp T__law_is_number rfl).mpr ?_)
  have h2 : (0 : Int) < (r.den : Int) := by have := r.den_pos; omega
  have c1 := fun S => lean_ok (k := k) (S := S) (top := r.num) (low := r.den) r.den_nz hb.2 hb.1 (by omega) (by omega)
  have e1 : Rat.normalize r.num r.den r.den_nz = r := Rat.normalize_self r
  simp only [e1] at c1
  have e2 : ∀ (S : Sto) (Q : Bool → Prop), wp (cmpD S .eq (fr r) (.tup [.int r.num, .int (r.den : Int)])) Q ↔ Q true := fun S Q => by
    rw [show D.tup [.int r.num, .int (r.den : Int)] = fr r from rfl, vc_eqN nt_fr nt_fr, D.beq_refl]
  have a2 : (2 : Nat) ≤ many := by rw [many_val]; omega
  simp_arith only [F._law_is_number, fr, fin_wp]
  simp_arith only [show decide (((0 + 1 + 1 : Nat) : Int) = 2) = true from rfl, a2, true_and]
  refine wc_map (fun _ => .bl true) still_nil (fun x hx => ?_) ?_
  · simp only [List.mem_cons, List.not_mem_nil, or_false] at hx
    rcases hx with rfl | rfl
    · simp_arith only [lwhole_ok]
    · simp_arith only [lwhole_ok]
  · have va : ∀ (S : Sto) (Q : D → Prop), wp (prD S .all [.lst [D.bl true, D.bl true]]) Q ↔ Q (.bl true) := fun S Q => vp_all (bs := [true, true])
    simp_arith only [fin_wp, va, decide_eq_true h2, c1, e2]
theorem lisline_ok {k n : Nat} {l : List Rat} {S : Sto} (hb : ∀ x ∈ l, Bt 8000 x) (hl : l.length = n) (hn : n ≤ 1000) : R (k + 3) 115 [row l, .int (n : Int)] S = some (.bl true, S) := by
  refine R_eq ((R_wp T__law_is_line rfl).mpr ?_)
  have hm : l.length ≤ many := by rw [many_val]; omega
  have e : decide ((l.length : Int) = (n : Int)) = true := by simp [hl]
  simp_arith only [F._law_is_line, row, fin_wp, List.length_map, e, still_nil, hm, true_and]
  refine wc_mapL fr (fun _ => .bl true) still_nil (fun x hx => ?_) ?_
  · have g := fun S => lisnum_ok (k := k) (S := S) (hb x hx)
    simp_arith only [g]
  · have em : l.map (fun _ => D.bl true) = (l.map fun _ => true).map D.bl := by rw [List.map_map]; rfl
    have ea : (l.map fun _ => true).all id = true := by
      rw [List.all_eq_true]; intro b hb; obtain ⟨_, _, rfl⟩ := List.mem_map.mp hb; rfl
    rw [em]
    simp_arith only [fin_wp, ea]
theorem lisgrid_ok {k n w : Nat} {m : List (List Rat)} {S : Sto} (hb : ∀ r ∈ m, r.length = w ∧ ∀ x ∈ r, Bt 8000 x) (hl : m.length = n) (hn : n ≤ 1000) (hw : w ≤ 1000) : R (k + 4) 116 [mat m, .int (n : Int), .int (w : Int)] S = some (.bl true, S) := by
  refine R_eq ((R_wp T__law_is_grid rfl).mpr ?_)
  have hm : m.length ≤ many := by rw [many_val]; omega
  have e : decide ((m.length : Int) = (n : Int)) = true := by simp [hl]
  simp_arith only [F._law_is_grid, mat, fin_wp, List.length_map, e, still_nil, hm, true_and]
  refine wc_mapL row (fun _ => .bl true) still_nil (fun x hx => ?_) ?_
  · have g := fun S => lisline_ok (k := k) (S := S) (n := w) (hb x hx).2 (hb x hx).1 hw
    simp_arith only [g]
  · have em : m.map (fun _ => D.bl true) = (m.map fun _ => true).map D.bl := by rw [List.map_map]; rfl
    have ea : (m.map fun _ => true).all id = true := by
      rw [List.all_eq_true]; intro b hb; obtain ⟨_, _, rfl⟩ := List.mem_map.mp hb; rfl
    rw [em]
    simp_arith only [fin_wp, ea]
end Rf
end

section
set_option maxRecDepth 100000
set_option maxHeartbeats 4000000
set_option autoImplicit false
namespace Rf
open PySem PySem.Spec PyProof.Rows L2
/-! ## lots, as rows that go up -/
theorem pw_zip {l : List Nat} (h : l.Pairwise (· < ·)) : ∀ p ∈ l.zip (l.drop 1), p.1 < p.2 := fun p hp => by
  obtain ⟨k, hk, e⟩ := List.getElem_of_mem hp
  rw [List.length_zip, List.length_drop] at hk
  rw [List.getElem_zip, List.getElem_drop] at e
  rw [← e]
  exact List.pairwise_iff_getElem.mp h k (1 + k) (by omega) (by omega) (by omega)
theorem zip_pw : ∀ {l : List Nat}, (∀ p ∈ l.zip (l.drop 1), p.1 < p.2) → l.Pairwise (· < ·)
  | [], _ => List.Pairwise.nil
  | [a], _ => List.pairwise_singleton _ _
  | a :: b :: l, h => by
    have ih := zip_pw (l := b :: l) fun p hp => h p (by
      show p ∈ (a, b) :: (b :: l).zip l
      exact List.mem_cons_of_mem _ hp)
    have hab : a < b := h (a, b) (by
      show (a, b) ∈ (a, b) :: (b :: l).zip l
      exact List.mem_cons_self)
    refine List.pairwise_cons.mpr ⟨fun x hx => ?_, ih⟩
    rcases List.mem_cons.mp hx with rfl | hx
    · exact hab
    · exact Nat.lt_trans hab ((List.pairwise_cons.mp ih).1 x hx)
theorem Lot.pw {n : Nat} {l : List Nat} (h : Lot n l) : l.Pairwise (· < ·) := zip_pw h.2
theorem lot_of {n : Nat} {l : List Nat} (h1 : ∀ i ∈ l, i < n) (h2 : l.Pairwise (· < ·)) : Lot n l := ⟨h1, pw_zip h2⟩
theorem lot_hds {n w : Nat} {m : Mx} : Lot w (hds n w m) := lot_of (fun i hi => (hds_mem.mp hi).1) (by
  unfold hds hdsN
  exact List.Pairwise.filter _ List.pairwise_lt_range)
/-- the elements of a lot at the places of another one -/
def subL (rs hs : List Nat) : List Nat := hs.map fun i => rs.getD i 0
theorem lot_sub {n : Nat} {rs hs : List Nat} (h1 : Lot n rs) (h2 : Lot rs.length hs) : Lot n (subL rs hs) := by
  refine lot_of (fun i hi => ?_) ?_
  · obtain ⟨k, hk, rfl⟩ := List.mem_map.mp hi
    exact h1.1 _ (getD_mem (h2.1 k hk))
  · unfold subL
    refine List.pairwise_map.mpr ?_
    refine List.Pairwise.imp_of_mem (fun {a b} ha hb hab => ?_) h2.pw
    have la := h2.1 a ha
    have lb := h2.1 b hb
    rw [gd la, gd lb]
    exact List.pairwise_iff_getElem.mp h1.pw a b la lb hab
theorem sub_mem {rs hs : List Nat} (h2 : ∀ i ∈ hs, i < rs.length) : ∀ i ∈ subL rs hs, i ∈ rs := fun i hi => by
  obtain ⟨k, hk, rfl⟩ := List.mem_map.mp hi
  exact getD_mem (h2 k hk)
/-! ## heads alone are free -/
theorem heads_sub {n w : Nat} {m : Mx} : (hds n (hds n w m).length fun i k => m i ((hds n w m).getD k 0)).length = (hds n w m).length := by
  have e : hds n (hds n w m).length (fun i k => m i ((hds n w m).getD k 0)) = List.range (hds n w m).length := by
    unfold hds hdsN
    refine List.filter_eq_self.mpr fun s hs => isHd_t ?_
    rintro ⟨x, hk, hx, _⟩
    exact hx (heads_free (m := m) (y := x) hk s (List.mem_range.mp hs))
  rw [e, List.length_range]
theorem hds_ext {n w : Nat} {m m' : Mx} (h : ∀ i, i < n → ∀ j, j < w → m' i j = m i j) : hds n w m' = hds n w m :=
  hds_congr fun x => ker_scale (fun i hi => ⟨1, by grind, fun j hj => by rw [h i hi j hj]; grind⟩) x
/-! ## two tables with the table as their product -/
def colsF (m : List (List Rat)) (f : List Nat) : List (List Rat) := m.map fun r => f.map fun j => r.getD j 0
theorem pair_sum {w : Nat} {m : List (List Rat)} (hw : ∀ l ∈ m, l.length = w) {i j : Nat} (hi : i < m.length) (hj : j < w) :
    mxR m i j = sumR (stairsF m w).2.length fun k => mxR m i ((stairsF m w).2.getD k 0) * mxR (stairsF m w).1 k j := by
  have I := stairs_inv (widR_of hw) w (Nat.le_refl _)
  have hst : (List.range w).foldl colS (m, []) = stairsF m w := rfl
  rw [hst] at I
  generalize stairsF m w = st at I
  obtain ⟨rows, f⟩ := st
  have hlen : f.length ≤ m.length := I.ech.len
  have hflt : ∀ k, k < f.length → f.getD k 0 < w := fun k hk => I.ech.lt k hk
  have hred : ∀ i, i < m.length → ∀ k, k < f.length → mxR rows i (f.getD k 0) = if i = k then 1 else 0 := I.red
  have hzero : ∀ i, f.length ≤ i → i < m.length → ∀ j, j < w → mxR rows i j = 0 := I.ech.zero
  have hmono : ∀ a b, a < b → b < f.length → f.getD a 0 < f.getD b 0 := I.ech.mono
  show mxR m i j = sumR f.length fun k => mxR m i (f.getD k 0) * mxR rows k j
  -- what the rows bring to noughts
  have inner : ∀ (g : Nat → Rat), sumR w (fun t => g t * sumR f.length fun k => if f.getD k 0 = t then mxR rows k j else 0) = sumR f.length fun k => g (f.getD k 0) * mxR rows k j := fun g => by
    rw [sumR_congr (g := fun t => sumR f.length fun k => g t * (if f.getD k 0 = t then mxR rows k j else 0)) fun t _ => by rw [sumR_mul], sumR_swap]
    refine sumR_congr fun k hk => ?_
    rw [sumR_pt (f := fun t => g t * (if f.getD k 0 = t then mxR rows k j else 0)) (hflt k hk) fun t _ ht => by
      show g t * (if f.getD k 0 = t then mxR rows k j else 0) = 0
      rw [if_neg fun z => ht z.symm]; grind]
    show g (f.getD k 0) * (if f.getD k 0 = f.getD k 0 then mxR rows k j else 0) = _
    rw [if_pos rfl]
  have total : ∀ (g : Nat → Rat), sumR w (fun t => g t * ((if t = j then 1 else 0) - sumR f.length fun k => if f.getD k 0 = t then mxR rows k j else 0)) = g j - sumR f.length fun k => g (f.getD k 0) * mxR rows k j := fun g => by
    rw [sumR_congr (g := fun t => g t * (if t = j then 1 else 0) - g t * sumR f.length fun k => if f.getD k 0 = t then mxR rows k j else 0) fun t _ => by grind, sumR_sub, inner]
    congr 1
    rw [sumR_pt (f := fun t => g t * (if t = j then 1 else 0)) hj fun t _ ht => by
      show g t * (if t = j then 1 else 0) = 0
      rw [if_neg ht]; grind]
    show g j * (if j = j then 1 else 0) = g j
    rw [if_pos rfl]; grind
  have hk : Ker m.length w (mxR rows) fun t => (if t = j then 1 else 0) - sumR f.length fun k => if f.getD k 0 = t then mxR rows k j else 0 := fun q hq => by
    rw [total]
    by_cases e : q < f.length
    · rw [sumR_pt (f := fun k => mxR rows q (f.getD k 0) * mxR rows k j) e fun k hk hne => by
        show mxR rows q (f.getD k 0) * mxR rows k j = 0
        rw [hred q hq k hk, if_neg fun z => hne z.symm]; grind]
      show mxR rows q j - mxR rows q (f.getD q 0) * mxR rows q j = 0
      rw [hred q hq q e, if_pos rfl]; grind
    · rw [hzero q (by omega) hq j hj, sumR_zero _ fun k hk => by rw [hred q hq k hk, if_neg (by omega)]; grind]
      grind
  have h2 := (I.ker _).mp hk i hi
  rw [total] at h2
  grind
theorem pair_mul {w : Nat} {m : List (List Rat)} (hw : ∀ l ∈ m, l.length = w) : mulF (colsF m (stairsF m w).2) ((stairsF m w).1.take (stairsF m w).2.length) w = m := by
  have I := stairs_inv (widR_of hw) w (Nat.le_refl _)
  have hst : (List.range w).foldl colS (m, []) = stairsF m w := rfl
  rw [hst] at I
  have hlen : (stairsF m w).2.length ≤ m.length := I.ech.len
  have hl1 : (stairsF m w).1.length = m.length := I.len
  refine List.ext_getElem (by rw [mul_len]; unfold colsF; rw [List.length_map]) fun i h1 h2 => ?_
  refine ext_gd (by rw [mul_wid _ (List.getElem_mem h1), hw _ (List.getElem_mem h2)]) fun j hj => ?_
  rw [mul_wid _ (List.getElem_mem h1)] at hj
  have e1 : (mulF (colsF m (stairsF m w).2) ((stairsF m w).1.take (stairsF m w).2.length) w)[i] = bk ((stairsF m w).2.map fun j => m[i].getD j 0) ((stairsF m w).1.take (stairsF m w).2.length) w := by
    simp only [mulF, colsF, List.getElem_map]
  rw [e1, bk_gd hj, dot_sum (n := (stairsF m w).2.length) (List.length_map _), ← gd (d := []) h2]
  have hps := pair_sum hw h2 hj
  show _ = mxR m i j
  rw [hps]
  refine sumR_congr fun k hk => ?_
  congr 1
  · rw [gd (by rw [List.length_map]; exact hk), List.getElem_map, gd (l := (stairsF m w).2) hk]
    rfl
  · unfold clm
    rw [gd (by rw [List.length_map, List.length_take]; omega), List.getElem_map, List.getElem_take]
    show _ = ((stairsF m w).1.getD k []).getD j 0
    rw [gd (show k < (stairsF m w).1.length by omega)]
/-! ## a regular part -/
noncomputable def rowH (P : List (List Rat)) (w : Nat) : List Nat := (stairsF (flipF P w) P.length).2
def rowsP (P : List (List Rat)) (hs : List Nat) : List (List Rat) := hs.map fun i => P.getD i []
theorem core_ok {w : Nat} {P : List (List Rat)} (hw : ∀ l ∈ P, l.length = w) :
    (stairsF (flipF P w) P.length).2.length = rankL P w ∧ (stairsF (rowsP P (stairsF (flipF P w) P.length).2) w).2.length = rankL P w ∧
    Lot P.length (stairsF (flipF P w) P.length).2 ∧ Lot w (stairsF (rowsP P (stairsF (flipF P w) P.length).2) w).2 ∧
    rankL (partF P (stairsF (flipF P w) P.length).2 (stairsF (rowsP P (stairsF (flipF P w) P.length).2) w).2) (stairsF (rowsP P (stairsF (flipF P w) P.length).2) w).2.length = rankL P w := by
  have fw : ∀ r ∈ flipF P w, r.length = P.length := flip_wid
  have e1 : (stairsF (flipF P w) P.length).2 = hds w P.length (mxR (flipF P w)) := by
    have := (stairs_inv (widR_of fw) P.length (Nat.le_refl _)).hd
    rw [flip_len] at this
    exact this
  have r1 : (hds w P.length (mxR (flipF P w))).length = rankL P w := by
    unfold rankL
    exact rank_T fun i hi j hj => flip_gd hj hi
  have l1 : Lot P.length (hds w P.length (mxR (flipF P w))) := lot_hds
  rw [e1]
  generalize hH : hds w P.length (mxR (flipF P w)) = H at *
  have wP : ∀ l ∈ rowsP P H, l.length = w := fun l hl => by
    obtain ⟨i, hi, rfl⟩ := List.mem_map.mp hl
    rw [gd (l1.1 i hi)]; exact hw _ (List.getElem_mem _)
  have lP : (rowsP P H).length = H.length := List.length_map _
  have gP : ∀ i, i < H.length → ∀ j, mxR (rowsP P H) i j = mxR P (H.getD i 0) j := fun i hi j => by
    show ((rowsP P H).getD i []).getD j 0 = _
    unfold rowsP
    rw [gd (l := H.map _) (by rw [List.length_map]; exact hi), List.getElem_map, gd (l := H) hi]
    rfl
  have e2 : (stairsF (rowsP P H) w).2 = hds H.length w (mxR (rowsP P H)) := by
    have := (stairs_inv (widR_of wP) w (Nat.le_refl _)).hd
    rw [lP] at this
    exact this
  have r2 : (hds H.length w (mxR (rowsP P H))).length = H.length := by
    have hs := heads_sub (n := w) (w := P.length) (m := mxR (flipF P w))
    rw [hH] at hs
    rw [← rank_T (n := H.length) (w := w) (M := mxR (rowsP P H)) (M' := fun i k => mxR (flipF P w) i (H.getD k 0)) fun i hi j hj => by
      show mxR (flipF P w) j (H.getD i 0) = _
      rw [flip_gd hj (l1.1 _ (getD_mem hi)), gP i hi]]
    exact hs
  have l2 : Lot w (hds H.length w (mxR (rowsP P H))) := lot_hds
  rw [e2]
  have hs2 := heads_sub (n := H.length) (w := w) (m := mxR (rowsP P H))
  generalize hds H.length w (mxR (rowsP P H)) = C at *
  refine ⟨r1, by rw [r2, r1], l1, l2, ?_⟩
  have hx : hds H.length C.length (mxR (partF P H C)) = hds H.length C.length fun i k => mxR (rowsP P H) i (C.getD k 0) := hds_ext fun i hi j hj => by
    show ((partF P H C).getD i []).getD j 0 = mxR (rowsP P H) i (C.getD j 0)
    rw [gP i hi]
    have er : (partF P H C).getD i [] = C.map fun j => (P.getD (H.getD i 0) []).getD j 0 := by
      unfold partF
      rw [gd (l := H.map _) (by rw [List.length_map]; exact hi), List.getElem_map, gd (l := H) hi]
    rw [er, gd (l := C.map _) (by rw [List.length_map]; exact hj), List.getElem_map, gd (l := C) hj]
    rfl
  have h3 : rankL (partF P H C) C.length = C.length := by
    unfold rankL
    rw [part_len, hx]
    exact hs2
  rw [h3, r2, r1]
end Rf
end

section
set_option maxRecDepth 100000
set_option maxHeartbeats 4000000
set_option autoImplicit false
namespace Rf
open PySem PySem.Spec PyProof.Rows L2
/-! ## how big the stairs are -/
theorem colS_fb {b s v : Nat} {st : List (List Rat) × List Nat} (h : ∀ l ∈ st.1, FB (bq b st.2.length) l) : ∀ l ∈ (colS st s).1, FB (bq b (colS st s).2.length) l := by
  obtain ⟨rows, found⟩ := st
  have h : ∀ l ∈ rows, FB (bq b found.length) l := h
  cases ht : topsR rows s found.length with
  | nil =>
    have ec : colS (rows, found) s = (rows, found) := by
      unfold colS
      show (match topsR rows s found.length with | [] => _ | t :: _ => _) = _
      rw [ht]
    rw [ec]; exact h
  | cons t ts =>
    have hm : t ∈ topsR rows s found.length := by rw [ht]; exact List.mem_cons_self
    unfold topsR at hm
    obtain ⟨m1, m2⟩ := List.mem_filter.mp hm
    have m1 := List.mem_range.mp m1
    rw [decide_eq_true_eq] at m2
    have ec : colS (rows, found) s = (((swapR rows found.length (found.length + t)).map fun r => redF (leadF ((swapR rows found.length (found.length + t)).getD found.length []) s) r s).set found.length (leadF ((swapR rows found.length (found.length + t)).getD found.length []) s), found ++ [s]) := by
      unfold colS
      show (match topsR rows s found.length with | [] => _ | t :: _ => _) = _
      rw [ht]
    have hd1 : found.length < rows.length := by omega
    have hd2 : found.length + t < rows.length := by omega
    generalize hT : found.length + t = T at *
    have hlead : (swapR rows found.length T).getD found.length [] = rows.getD T [] := by rw [swapR_gd hd1 hd2, if_pos rfl]
    rw [hlead] at ec
    have hTmem : rows.getD T [] ∈ rows := by rw [gd hd2]; exact List.getElem_mem hd2
    have hsmem : ∀ l ∈ swapR rows found.length T, l ∈ rows := fun l hl => by
      obtain ⟨i, hi, e⟩ := List.getElem_of_mem hl
      rw [swapR_len] at hi
      have : l = (swapR rows found.length T).getD i [] := by rw [gd (by rw [swapR_len]; exact hi)]; exact e.symm
      rw [this, swapR_gd hd1 hd2]
      split
      · exact hTmem
      · split
        · rw [gd hd1]; exact List.getElem_mem hd1
        · rw [gd hi]; exact List.getElem_mem hi
    rw [ec]
    intro l hl
    show FB (bq b (found ++ [s]).length) l
    rw [List.length_append, List.length_singleton, bq_succ]
    rcases List.mem_or_eq_of_mem_set hl with hl | hl
    · obtain ⟨r, hr, rfl⟩ := List.mem_map.mp hl
      exact fb_red (h _ hTmem) (h _ (hsmem r hr)) m2
    · rw [hl]; exact (fb_lead (h _ hTmem) m2).up (by omega)
theorem stairs_fb {b w : Nat} {m : List (List Rat)} (h : ∀ l ∈ m, FB b l) : ∀ l ∈ (stairsF m w).1, FB (bq b (stairsF m w).2.length) l := by
  have : ∀ s, ∀ l ∈ ((List.range s).foldl colS (m, [])).1, FB (bq b ((List.range s).foldl colS (m, [])).2.length) l := by
    intro s
    induction s with
    | zero => intro l hl; exact (h l hl).up (by unfold bq; simp)
    | succ s ih => rw [List.range_succ, List.foldl_append]; exact colS_fb (v := 0) ih
  exact this w
/-- the stairs of up to five columns: what is told of the pair is small enough to be multiplied -/
theorem pair_bt {b w : Nat} {m : List (List Rat)} (hw : ∀ l ∈ m, l.length = w) (h5 : w ≤ 5) (h : ∀ l ∈ m, FB b l) : ∀ r ∈ (stairsF m w).1.take (stairsF m w).2.length, r.length = w ∧ ∀ x ∈ r, Bt (bq b 4) x := fun r hr => by
  have I := stairs_inv (widR_of hw) w (Nat.le_refl _)
  have hst : (List.range w).foldl colS (m, []) = stairsF m w := rfl
  rw [hst] at I
  have hfb := stairs_fb (w := w) h
  generalize stairsF m w = st at *
  obtain ⟨rows, f⟩ := st
  have hf5 : f.length ≤ w := by have : f = hdsN m.length w (mxR m) w := I.hd; rw [this]; exact hdsN_len
  have hrm : r ∈ rows := List.mem_of_mem_take hr
  obtain ⟨i, hi, e⟩ := List.getElem_of_mem hr
  have hi : i < (rows.take f.length).length := hi
  rw [List.length_take] at hi
  have hir : i < rows.length := by omega
  have hif : i < f.length := by omega
  have er : rows.getD i [] = r := by
    rw [gd hir]
    have e : (rows.take f.length)[i]'(by rw [List.length_take]; omega) = r := e
    rw [List.getElem_take] at e
    exact e
  have hrl : r.length = w := by rw [← er]; exact I.wid i hir
  refine ⟨hrl, fun x hx => ?_⟩
  by_cases h4 : f.length ≤ 4
  · refine ((hfb r hrm).up ?_).bt x hx
    show bq b f.length ≤ bq b 4
    unfold bq
    have := Nat.mul_le_mul_left (b + 1) (pow_le' h4)
    omega
  · -- all columns are heads: the rows are those of the table 1
    have hf : f.length = w := by omega
    obtain ⟨j, hj, ej⟩ := List.getElem_of_mem hx
    have hfr : f = List.range w := by
      have hd : f = hdsN m.length w (mxR m) w := I.hd
      rw [hd] at hf ⊢
      unfold hdsN at hf ⊢
      refine List.filter_eq_self.mpr ?_
      refine List.length_filter_eq_length_iff.mp ?_
      rw [hf, List.length_range]
    have hjw : j < w := by omega
    have hlen : rows.length = m.length := I.len
    have hred := I.red i (by omega) j (by show j < f.length; omega)
    have hred : mxR rows i (f.getD j 0) = if i = j then 1 else 0 := hred
    have efj : f.getD j 0 = j := by rw [hfr, List.getD_eq_getElem?_getD, List.getElem?_range hjw]; rfl
    rw [efj] at hred
    have ex : x = mxR rows i j := by
      show x = (rows.getD i []).getD j 0
      rw [er, gd hj, ej]
    have one : 1 < 2 ^ bq b 4 := by
      have h16 : 1 ≤ bq b 4 := by unfold bq; omega
      have := pow_le' h16
      omega
    rw [ex, hred]
    split
    · exact ⟨one, one⟩
    · exact ⟨two_pow_pos' _, one⟩
/-! ## the law's own looks -/
theorem lpiece_ok {k : Nat} {m : List (List Rat)} {rs cs : List Nat} {S : Sto} (h : ∀ i ∈ rs, i < m.length ∧ ∀ j ∈ cs, j < (m.getD i []).length) (hr : rs.length ≤ 1000) (hc : cs.length ≤ 1000) :
    R (k + 1) 113 [mat m, natsT rs, natsT cs] S = some (mat (partF m rs cs), S) := by
  refine R_eq ((R_wp T__law_piece rfl).mpr ?_)
  have h1 : rs.length ≤ many := by rw [many_val]; omega
  have h2 : cs.length ≤ many := by rw [many_val]; omega
  simp_arith only [F._law_piece, fin_wp, vw_natsT, List.length_map, h1, true_and]
  refine wc_mapL (fun n : Nat => D.int (n : Int)) (fun i => row (cs.map fun j => (m.getD i []).getD j 0)) still_nil (fun i hi => ?_) ?_
  · obtain ⟨hi1, hi2⟩ := h i hi
    simp_arith only [vw_natsT, List.length_map, h2, true_and]
    refine wc_mapL (fun n : Nat => D.int (n : Int)) (fun j => fr ((m.getD i []).getD j 0)) still_nil (fun j hj => ?_) ?_
    · simp_arith only [vi_mat hi1, vi_row, rGetR (hi2 j hj)]
    · simp_arith only [row, List.map_map]
      rfl
  · simp_arith only [fin_wp, mat, partF, List.map_map]
    rfl
theorem lot_snoc {c : Nat} {l : List Nat} (h : Lot c l) : Lot (c + 1) (l ++ [c]) := by
  refine lot_of (fun i hi => ?_) (List.pairwise_append.mpr ⟨h.pw, List.pairwise_singleton _ _, fun a ha b hb => ?_⟩)
  · rcases List.mem_append.mp hi with hi | hi
    · have := h.1 i hi; omega
    · rw [List.mem_singleton.mp hi]; omega
  · rw [List.mem_singleton.mp hb]; exact h.1 a ha
theorem Lot.up {a b : Nat} {l : List Nat} (h : Lot a l) (hab : a ≤ b) : Lot b l := ⟨fun i hi => Nat.lt_of_lt_of_le (h.1 i hi) hab, h.2⟩
theorem llot_ok {k n t m L : Nat} {S : Sto} {w : List D} {Q : D × Sto → Prop} (hp : Pur S) (hs : S[n]? = some w) (hw : Well (t + m) L w) (hm : m ≤ 1000) (h : ∀ (l : List Nat) (w' : List D), Lot m l → Well t L w' → Q (natsT l, S.set n w')) :
    wp (R (k + 3) 112 [.loc n, .int (m : Int)] S) Q := by
  have hn : n < S.length := (List.getElem?_eq_some_iff.mp hs).1
  rw [R_wp T__law_lot rfl]
  have h1 : m ≤ 1000000 := by omega
  simp_arith only [F._law_lot, h1, true_and]
  refine wf_inv (fun r σ S' => ∃ (i : Nat) (acc : List Nat) (w' : List D) (o : Option D), S' = S.set n w' ++ [nats acc] ∧ r = (List.range' i (m - i)).map (fun i : Nat => D.int (i : Int)) ∧ i ≤ m ∧ σ = [some (.loc n), some (.int (m : Int)), some (.loc S.length), o] ∧
      Well (t + (m - i)) L w' ∧ Lot i acc) ⟨0, [], w, none, by rw [set_same hs]; rfl, by rw [List.range_eq_range']; rfl, Nat.zero_le _, rfl, hw, ⟨fun i hi => (by cases hi), fun p hp => (by cases hp)⟩⟩ ?_ ?_
  · rintro x r σ S' ⟨i, acc, w', o, rfl, e1, hi, rfl, hw', hl⟩
    cases hmi : m - i with
    | zero => rw [hmi] at e1; cases e1
    | succ u =>
      rw [hmi, List.range'_succ, List.map_cons] at e1
      cases e1
      rw [hmi] at hw'
      simp_arith only [still_nil]
      refine draw_ok (m := 2) (k := k + 1) (t := t + u) (lg_n hn) (hw'.less (by omega)) (by omega) (by omega) fun v w1 hv hw1 => ?_
      simp_arith only [ls_n hn]
      have hal := lot_len hl
      have hnl : (nats acc).length < many := by unfold nats; rw [List.length_map, many_val]; omega
      by_cases c : (v : Int) = 1
      · simp_arith only [decide_eq_true c, if_true, lg_l, ls_l, hnl, true_and, still_nil]
        exact ⟨i + 1, acc ++ [i], w1, _, by unfold nats; rw [List.map_append]; rfl, by rw [show m - (i + 1) = u by omega], by omega, rfl, hw1.less (by omega), lot_snoc hl⟩
      · simp_arith only [decide_eq_false c, Bool.false_eq_true, if_false, true_and, still_nil]
        exact ⟨i + 1, acc, w1, _, rfl, by rw [show m - (i + 1) = u by omega], by omega, rfl, hw1.less (by omega), hl.up (by omega)⟩
  · rintro σ S' ⟨i, acc, w', o, rfl, e1, hi, rfl, hw', hl⟩
    cases hmi : m - i with
    | succ u => rw [hmi, List.range'_succ, List.map_cons] at e1; cases e1
    | zero =>
      have ei : i = m := by omega
      subst ei
      have pd : pdp 20 (natsT acc) = true := by
        show (nats acc).all (pdp 19) = true
        rw [List.all_eq_true]
        intro x hx
        obtain ⟨q, _, rfl⟩ := List.mem_map.mp hx
        rfl
      simp_arith only [lg_l]
      exact (fin_set hp hw' pd).mpr (h acc w' hl (hw'.less (by omega)))
theorem vc_in {S : Sto} {i : Nat} {l : List Nat} {Q : Bool → Prop} (h : i ∈ l) : wp (cmpD S .inn (.int (i : Int)) (natsT l)) Q ↔ Q true := by
  have e : inD S (.int (i : Int)) (natsT l) = some true := by
    have h1 : (nats l).all flatD = true := by
      rw [List.all_eq_true]; intro x hx; obtain ⟨q, _, rfl⟩ := List.mem_map.mp hx; rfl
    have h2 : (nats l).any (fun y => flatEq y (.int (i : Int))) = true := by
      rw [List.any_eq_true]
      exact ⟨.int (i : Int), List.mem_map_of_mem (f := fun n : Nat => D.int (n : Int)) h, by show ((i : Int) == (i : Int)) = true; exact beq_self_eq_true _⟩
    show (if flatD (.int (i : Int)) && (nats l).all flatD then some ((nats l).any fun y => flatEq y (.int (i : Int))) else none) = _
    rw [h1, h2]
    rfl
  show wp (inD S (.int (i : Int)) (natsT l)) Q ↔ _
  rw [e, wp_some]
end Rf
end

section
set_option maxRecDepth 100000
set_option maxHeartbeats 4000000
set_option autoImplicit false
namespace Rf
open PySem PySem.Spec PyProof.Rows L2
/-! ## how big fractions become: over one common denominator -/
class Ge (L : Nat) : Prop where
  pos : L ≠ 0
  lt : L < 2 ^ 112
def De (L : Nat) (r : Rat) : Prop := r.den ∣ L ∧ r.num.natAbs < 2 ^ 90
theorem EEe_pos {L : Nat} [Ge L] (e : Nat) : L ^ e ≠ 0 := by
  have := Nat.pow_pos (n := e) (Nat.pos_of_ne_zero (Ge.pos (L := L))); omega
theorem EEe_lt {L : Nat} [Ge L] : ∀ e : Nat, L ^ e < 2 ^ (112 * e + 1)
  | 0 => by simp
  | e + 1 => by
    rw [Nat.pow_succ]
    have := Nat.mul_lt_mul'' (EEe_lt (L := L) e) (Ge.lt (L := L))
    rw [← Nat.pow_add] at this
    exact lt_pow this (by omega)
/-- a fraction over L ^ e, its top of b bits -/
def Ez (L e b : Nat) (r : Rat) : Prop := ∃ n : Int, n.natAbs < 2 ^ b ∧ r = mkRat n (L ^ e)
theorem et_zero {L e b : Nat} : Ez L e b 0 := ⟨0, by simpa using two_pow_pos' b, by rw [Rat.zero_mkRat]⟩
theorem Ez.le {L e b c : Nat} {r : Rat} (h : Ez L e b r) (hc : b ≤ c) : Ez L e c r := let ⟨n, h1, h2⟩ := h; ⟨n, lt_pow h1 hc, h2⟩
section
variable {L : Nat} [hL : Ge L]
theorem Ez.up {e b : Nat} {r : Rat} (h : Ez L e b r) : Ez L (e + 1) (b + 112) r := by
  obtain ⟨n, h1, rfl⟩ := h
  refine ⟨n * (L : Int), mul_bits h1 (show ((L : Nat) : Int).natAbs < 2 ^ 112 by rw [Int.natAbs_natCast]; exact Ge.lt), ?_⟩
  rw [Rat.mkRat_eq_iff (EEe_pos e) (EEe_pos (e + 1)), Nat.pow_succ]
  simp only [Int.natCast_mul, Int.mul_assoc, Int.mul_comm, Int.mul_left_comm]
theorem Ez.ups {e b : Nat} {r : Rat} (h : Ez L e b r) : ∀ k : Nat, Ez L (e + k) (b + 112 * k) r
  | 0 => h
  | k + 1 => by
    have := (Ez.ups h k).up
    rw [Nat.mul_succ, ← Nat.add_assoc b]
    exact this
theorem Ez.add {e b : Nat} {r s : Rat} (h : Ez L e b r) (h' : Ez L e b s) : Ez L e (b + 1) (r + s) := by
  obtain ⟨n, h1, rfl⟩ := h
  obtain ⟨m, h2, rfl⟩ := h'
  refine ⟨n + m, ?_, ?_⟩
  · have := sum_bits h1 h2
    rwa [Nat.max_self] at this
  · rw [Rat.mkRat_add_mkRat _ _ (EEe_pos e) (EEe_pos e), Rat.mkRat_eq_iff (Nat.mul_ne_zero (EEe_pos e) (EEe_pos e)) (EEe_pos e)]
    simp only [Int.natCast_mul, Int.add_mul, Int.mul_assoc]
theorem Ez.mul {e b f c : Nat} {r s : Rat} (h : Ez L e b r) (h' : Ez L f c s) : Ez L (e + f) (b + c) (r * s) := by
  obtain ⟨n, h1, rfl⟩ := h
  obtain ⟨m, h2, rfl⟩ := h'
  exact ⟨n * m, mul_bits h1 h2, by rw [Rat.mkRat_mul_mkRat, Nat.pow_add]⟩
theorem Ez.bt {e b c : Nat} {r : Rat} (h : Ez L e b r) (h1 : b ≤ c) (h2 : 112 * e + 1 ≤ c) : Bt c r := by
  obtain ⟨n, h3, rfl⟩ := h
  refine ⟨?_, ?_⟩
  · rw [Rat.num_mkRat, if_neg (EEe_pos e)]
    exact lt_pow (Nat.lt_of_le_of_lt (Int.natAbs_ediv_le_natAbs _ _) h3) h1
  · rw [Rat.den_mkRat, if_neg (EEe_pos e)]
    exact lt_pow (Nat.lt_of_le_of_lt (Nat.div_le_self _ _) (EEe_lt e)) h2
theorem De.lt {r : Rat} (h : De L r) : Ez L 1 202 r := by
  obtain ⟨hd, h2⟩ := h
  obtain ⟨c, hc⟩ := hd
  have hcl : c ≤ L := Nat.le_of_dvd (Nat.pos_of_ne_zero Ge.pos) ⟨r.den, by rw [hc, Nat.mul_comm]⟩
  refine ⟨r.num * (c : Int), mul_bits (i := 90) (j := 112) (by omega) (show ((c : Nat) : Int).natAbs < 2 ^ 112 from Nat.lt_of_le_of_lt hcl Ge.lt), ?_⟩
  have e : r = mkRat r.num r.den := (Rat.mkRat_self r).symm
  rw [e]
  simp only [Rat.mkRat_self]
  rw [show mkRat (r.num * (c : Int)) (L ^ 1) = mkRat r.num r.den from ?_, Rat.mkRat_self]
  rw [Rat.mkRat_eq_iff (EEe_pos 1) r.den_nz, Nat.pow_one]
  have hc' : (L : Int) = (r.den : Int) * (c : Int) := by rw [hc]; simp
  rw [hc', Int.mul_assoc, Int.mul_comm (c : Int)]
end
theorem De.bt {L : Nat} [Ge L] {r : Rat} (h : De L r) : Bt 112 r := ⟨lt_pow h.2 (by omega), Nat.lt_of_le_of_lt (Nat.le_of_dvd (Nat.pos_of_ne_zero Ge.pos) h.1) Ge.lt⟩
/-! ### sums -/
theorem sumsE_lt {L e b : Nat} [Ge L] : ∀ (l : List Rat) (s : Rat) (c : Nat), (∀ x ∈ l, Ez L e b x) → Ez L e c s → b ≤ c → c + l.length ≤ 4000 → 112 * e + 1 ≤ 4000 → Sums 4000 l s ∧ Ez L e (c + l.length) (sumF l s)
  | [], s, c, _, hs, _, _, _ => ⟨trivial, hs⟩
  | x :: l, s, c, hl, hs, hb, hc, he => by
    rw [List.length_cons] at hc ⊢
    have hx := hl x List.mem_cons_self
    have := sumsE_lt l (s + x) (c + 1) (fun y hy => hl y (List.mem_cons_of_mem _ hy)) (hs.add (hx.le hb)) (by omega) (by omega) he
    exact ⟨⟨hs.bt (by omega) he, hx.bt (by omega) he, this.1⟩, by rw [show c + (l.length + 1) = c + 1 + l.length by omega]; exact this.2⟩
theorem dotE_lt {L e b f c : Nat} [Ge L] {x y : List Rat} (hx : ∀ r ∈ x, Ez L e b r) (hy : ∀ r ∈ y, Ez L f c r) (hl : x.length ≤ 100) (h1 : b + c + 101 ≤ 4000) (h2 : 112 * (e + f) + 1 ≤ 4000) : Dots x y ∧ Ez L (e + f) (b + c + x.length) (dotF x y) := by
  have hz : (dotL x y).length ≤ x.length := by unfold dotL; rw [List.length_map, List.length_zip]; omega
  have := sumsE_lt (e := e + f) (b := b + c) (dotL x y) 0 (b + c) (fun r hr => by
    obtain ⟨p, hp, rfl⟩ := List.mem_map.mp hr
    exact (hx _ (List.of_mem_zip hp).1).mul (hy _ (List.of_mem_zip hp).2)) et_zero (Nat.le_refl _) (by omega) h2
  exact ⟨⟨fun r hr => (hx r hr).bt (by omega) (by omega), fun r hr => (hy r hr).bt (by omega) (by omega), this.1, by omega⟩, this.2.le (by omega)⟩
/-! ## carriers whose numbers are drawn ones -/
structure Tri.de (L : Nat) (t : Tri) : Prop where
  out : ∀ x ∈ t.out, De L x
  lines : ∀ l ∈ t.lines, ∀ x ∈ l, De L x
  side : ∀ x ∈ t.side, De L x
  l1 : t.out.length ≤ 6
  l2 : t.lines.length ≤ 6
  l3 : t.side.length ≤ 6
  l4 : ∀ l ∈ t.lines, l.length ≤ 6
/-- bits behind t places -/
def se (t : Nat) : Nat := 210 * (t + 1)
def SeB (L t : Nat) (st : List Rat) : Prop := (∀ x ∈ st, Ez L (t + 1) (se t) x) ∧ st.length ≤ 6
section
variable {L : Nat} [Ge L]
theorem SeB.bt {t : Nat} {st : List Rat} (h : SeB L t st) : ∀ x ∈ st, Bt (se t) x := fun x hx => (h.1 x hx).bt (Nat.le_refl _) (by unfold se; omega)
theorem dotsE_of {t : Nat} {l st : List Rat} (ht : t ≤ 8) (hl : ∀ x ∈ l, De L x) (hl2 : l.length ≤ 6) (hs : SeB L t st) : Dots l st ∧ Ez L (t + 2) (se t + 208) (dotF l st) := by
  have := dotE_lt (fun x hx => (hl x hx).lt) hs.1 (by omega) (by unfold se; omega) (by omega)
  refine ⟨this.1, ?_⟩
  have h2 := this.2.le (show _ ≤ se t + 208 by omega)
  rw [show 1 + (t + 1) = t + 2 by omega] at h2
  exact h2
theorem goE_of {t : Nat} {p : Tri} {st : List Rat} {x : Rat} (ht : t ≤ 8) (hp : p.de L) (hx : De L x) (hs : SeB L t st) : SeB L (t + 1) (goF p st x) ∧ (∀ y ∈ p.lines.map fun l => dotF l st, Bt 4000 y) ∧ ∀ y ∈ p.side.map fun y => y * x, Bt 4000 y := by
  have h1 : ∀ y ∈ p.lines.map fun l => dotF l st, Ez L (t + 2) (se t + 208) y := fun y hy => by
    obtain ⟨l, hl, rfl⟩ := List.mem_map.mp hy
    exact (dotsE_of ht (hp.lines l hl) (hp.l4 l hl) hs).2
  have h2 : ∀ y ∈ p.side.map fun y => y * x, Ez L (t + 2) (se t + 208) y := fun y hy => by
    obtain ⟨z, hz, rfl⟩ := List.mem_map.mp hy
    have := ((hp.side z hz).lt.mul hx.lt).ups t
    rw [show 1 + 1 + t = t + 2 by omega] at this
    exact this.le (by unfold se; omega)
  refine ⟨⟨fun y hy => ?_, ?_⟩, fun y hy => (h1 y hy).bt (by unfold se; omega) (by omega), fun y hy => (h2 y hy).bt (by unfold se; omega) (by omega)⟩
  · unfold goF at hy
    obtain ⟨q, hq, rfl⟩ := List.mem_map.mp hy
    have := (h1 _ (List.of_mem_zip hq).1).add (h2 _ (List.of_mem_zip hq).2)
    exact this.le (by unfold se; omega)
  · unfold goF
    rw [List.length_map, List.length_zip, List.length_map, List.length_map]
    have := hp.l2
    omega
theorem carSE_of : ∀ (q : List (Tri × Rat)) (st : List Rat) (t : Nat), (∀ p ∈ q, p.1.de L ∧ De L p.2) → SeB L t st → t + q.length ≤ 8 → CarS q st
  | [], _, _, _, _, _ => trivial
  | p :: q, st, t, hq, hs, ht => by
    rw [List.length_cons] at ht
    obtain ⟨d1, d2⟩ := hq p List.mem_cons_self
    obtain ⟨g1, g2, g3⟩ := goE_of (by omega) d1 d2 hs
    exact ⟨(dotsE_of (by omega) d1.out d1.l1 hs).1, fun l hl => (dotsE_of (by omega) (d1.lines l hl) (d1.l4 l hl) hs).1, by have := d1.l2; omega, fun y hy => (d1.side y hy).lt.bt (by omega) (by omega), by have := d1.l3; omega, d2.lt.bt (by omega) (by omega), g2, g3,
      carSE_of q _ (t + 1) (fun z hz => hq z (List.mem_cons_of_mem _ hz)) g1 (by omega)⟩
theorem seB_nil {t : Nat} : SeB L t [] := ⟨(fun x hx => by cases hx), Nat.zero_le _⟩
theorem de_unit {n i : Nat} : ∀ x ∈ unitF n i, De L x := fun x hx => by
  obtain ⟨j, _, rfl⟩ := List.mem_map.mp hx
  by_cases h : j = i
  · rw [if_pos h]; exact ⟨Nat.one_dvd _, by decide⟩
  · rw [if_neg h]; exact ⟨Nat.one_dvd _, by decide⟩
end
/-- a drawn carrier -/
structure CarE (L : Nat) (c : List Tri) : Prop where
  gd : Ge L
  fits : Fits c 0
  n1 : 1 ≤ c.length
  n6 : c.length ≤ 6
  de : ∀ t ∈ c, t.de L
theorem CarE.s {L : Nat} {c : List Tri} (h : CarE L c) {l : List Rat} (hl : ∀ x ∈ l, De L x) : CarS (c.zip l) [] :=
  haveI := h.gd
  carSE_of (L := L) _ _ 0 (fun p hp => ⟨h.de _ (List.of_mem_zip hp).1, hl _ (List.of_mem_zip hp).2⟩) seB_nil (by rw [List.length_zip]; have := h.n6; omega)
/-! ## the law's own walk -/
theorem dotBE_of {L t : Nat} [Ge L] {l st : List Rat} (ht : t ≤ 5) (hl : ∀ x ∈ l, De L x) (hl2 : l.length ≤ 6) (hs : SeB L t st) : DotB 112 (se t) (l.zip st) := by
  have hz : (l.zip st).length ≤ 6 := by rw [List.length_zip]; omega
  refine ⟨fun p hp => ⟨(hl _ (List.of_mem_zip hp).1).bt, hs.bt _ (List.of_mem_zip hp).2⟩, ?_, by omega⟩
  have : (112 + se t) * (l.zip st).length ≤ (112 + se t) * 6 := Nat.mul_le_mul_left _ hz
  unfold se at this ⊢
  omega
section
variable {L : Nat} [Ge L]
theorem SeB.side {t : Tri} (h : t.de L) : SeB L 0 t.side := ⟨fun x hx => (h.side x hx).lt.le (by unfold se; omega), h.l3⟩
theorem SeB.next {t : Tri} {n : Nat} {st : List Rat} (hn : n ≤ 8) (h : t.de L) (hs : SeB L n st) : SeB L (n + 1) (t.lines.map fun r => dotF r st) := ⟨fun y hy => by
    obtain ⟨l, hl, rfl⟩ := List.mem_map.mp hy
    exact (dotsE_of hn (h.lines l hl) (h.l4 l hl) hs).2.le (by unfold se; omega), by rw [List.length_map]; exact h.l2⟩
theorem ledE_st {c : List Tri} {i : Nat} (hc : c.length ≤ 6) (hd : ∀ t ∈ c, t.de L) : ∀ n : Nat, i + n < c.length → SeB L n (ledN c i n)
  | 0, h => .side (hd _ (cat_mem (by omega)))
  | n + 1, h => .next (by omega) (hd _ (cat_mem (by omega))) (ledE_st hc hd n (by omega))
end
end Rf
end

section
set_option maxRecDepth 100000
set_option maxHeartbeats 4000000
set_option autoImplicit false
namespace Rf
open PySem PySem.Spec PyProof.Rows L2
/-! ## any value -/
def OkD (E u m : Nat) : Nat → D → Prop
  | 0, d => match d with
    | .int i => i.natAbs < 2 ^ u
    | .tup _ => False
    | _ => True
  | n + 1, d => match d with
    | .int i => i.natAbs < 2 ^ u
    | .tup xs => xs.length ≤ m ∧ (∀ a b : Int, xs = [.int a, .int b] → 0 < b → b.natAbs ∣ E) ∧ ∀ x ∈ xs, OkD E u m n x
    | _ => True
theorem OkD.up {E E' u u' m m' : Nat} (hE : E ∣ E') (hu : u ≤ u') (hm : m ≤ m') : ∀ {n n' : Nat} {d : D}, n ≤ n' → OkD E u m n d → OkD E' u' m' n' d
  | 0, 0, d, _, h => by
    cases d with
    | int i => exact lt_pow h hu
    | tup xs => exact h
    | _ => trivial
  | 0, n' + 1, d, _, h => by
    cases d with
    | int i => exact lt_pow h hu
    | tup xs => exact h.elim
    | _ => trivial
  | n + 1, 0, d, hn, _ => by omega
  | n + 1, n' + 1, d, hn, h => by
    cases d with
    | int i => exact lt_pow h hu
    | tup xs => exact ⟨Nat.le_trans h.1 hm, fun a b e hb => Nat.dvd_trans (h.2.1 a b e hb) hE, fun x hx => (h.2.2 x hx).up hE hu hm (by omega)⟩
    | _ => trivial
/-- a value that the looks can walk -/
def An (d : D) : Prop := ∃ n, OkD 0 300 1000 n d
theorem An.tup {xs : List D} (h : An (.tup xs)) : xs.length ≤ 1000 ∧ ∀ x ∈ xs, An x := by
  obtain ⟨n, h⟩ := h
  cases n with
  | zero => exact h.elim
  | succ n => exact ⟨h.1, fun x hx => ⟨n, h.2.2 x hx⟩⟩
theorem An.int {i : Int} (h : An (.int i)) : i.natAbs < 2 ^ 300 := by
  obtain ⟨n, h⟩ := h
  cases n <;> exact h
theorem OkD.an {E u m n : Nat} {d : D} (h : OkD E u m n d) (hu : u ≤ 300) (hm : m ≤ 1000) : An d := ⟨n, h.up (Nat.dvd_zero _) hu hm (Nat.le_refl _)⟩
theorem An.sub {xs ys : List D} (h : An (.tup xs)) (h1 : ∀ y ∈ ys, y ∈ xs) (h2 : ys.length ≤ xs.length) : An (.tup ys) := by
  obtain ⟨n, h⟩ := h
  cases n with
  | zero => exact h.elim
  | succ n => exact ⟨n + 1, Nat.le_trans h2 h.1, fun _ _ _ _ => Nat.dvd_zero _, fun x hx => h.2.2 x (h1 x hx)⟩
def numB : D → Bool
  | .tup [.int a, .int b] => decide (0 < b) && decide (Nat.gcd a.natAbs b.natAbs = 1)
  | _ => false
theorem numB_iff {xs : List D} (h : numB (.tup xs) = true) : ∃ a b : Int, xs = [.int a, .int b] ∧ 0 < b ∧ Nat.gcd a.natAbs b.natAbs = 1 := by
  unfold numB at h
  split at h
  · rename_i a b e
    cases e
    rw [Bool.and_eq_true, decide_eq_true_eq, decide_eq_true_eq] at h
    exact ⟨a, b, rfl, h.1, h.2⟩
  · cases h
theorem wh_int {d : D} (h : whole d = true) : ∃ i, d = .int i := by
  cases d with
  | int i => exact ⟨i, rfl⟩
  | _ => cases h
theorem wh2 {xs : List D} (h : (decide (xs.length = 2) && xs.all whole) = true) : ∃ a b : Int, xs = [.int a, .int b] := by
  rw [Bool.and_eq_true, decide_eq_true_eq] at h
  obtain ⟨h1, h2⟩ := h
  match xs, h1 with
  | [x, y], _ =>
    rw [List.all_cons, List.all_cons, Bool.and_eq_true, Bool.and_eq_true] at h2
    obtain ⟨a, rfl⟩ := wh_int h2.1
    obtain ⟨b, rfl⟩ := wh_int h2.2.1
    exact ⟨a, b, rfl⟩
theorem numB_no {xs : List D} (h : (decide (xs.length = 2) && xs.all whole) = false) : numB (.tup xs) = false := by
  cases hb : numB (.tup xs) with
  | false => rfl
  | true =>
    obtain ⟨a, b, rfl, _, _⟩ := numB_iff hb
    cases h
theorem isi_eq {d : D} (h : ∀ xs, d ≠ .tup xs) : isiD d .tuple = false := by
  cases d with
  | tup xs => exact (h xs rfl).elim
  | _ => rfl
theorem are_no {k : Nat} {d : D} {i : Int} {S : Sto} (h : isiD d .tuple = false) : R (k + 2) 2 [d, .int i] S = some (.bl false, S) := by
  refine R_eq ((R_wp T_are_wholes rfl).mpr ?_)
  simp_arith only [F.are_wholes, fin_wp, h]
theorem is_ratio_d {k : Nat} {d : D} {S : Sto} (h : An d) : R (k + 3) 4 [d] S = some (.bl (numB d), S) := by
  refine R_eq ((R_wp T_is_ratio rfl).mpr ?_)
  cases hd : isiD d .tuple with
  | false =>
    have h1 := fun S => are_no (k := k) (d := d) (i := 2) (S := S) hd
    have e : numB d = false := by cases d <;> first | rfl | cases hd
    simp_arith only [F.is_ratio, fin_wp, h1, e]
  | true =>
    cases d with
    | tup xs =>
      have hl : xs.length ≤ many := by have := h.tup.1; rw [many_val]; omega
      have h1 : ∀ S, R (k + 2) 2 [.tup xs, .int 2] S = some (.bl (decide (xs.length = 2) && xs.all whole), S) := fun S => are_wholes_ok (k := k) (n := 2) hl
      cases hb : (decide (xs.length = 2) && xs.all whole) with
      | false =>
        simp only [hb] at h1
        simp_arith only [F.is_ratio, fin_wp, h1, numB_no hb]
      | true =>
        simp only [hb] at h1
        obtain ⟨a, b, rfl⟩ := wh2 hb
        have e : numB (.tup [.int a, .int b]) = (decide (0 < b) && decide (Nat.gcd a.natAbs b.natAbs = 1)) := rfl
        have e2 : decide (((Nat.gcd a.natAbs b.natAbs : Nat) : Int) = 1) = decide (Nat.gcd a.natAbs b.natAbs = 1) := by
          rw [decide_eq_decide]; omega
        by_cases hp : 0 < b <;> simp_arith only [F.is_ratio, fin_wp, h1, hp, decide_true, decide_false, divisor_ok, e, e2, Bool.true_and, Bool.false_and]
    | _ => cases hd
def rowB (n : Nat) : D → Bool
  | .tup xs => decide (xs.length = n) && xs.all numB
  | _ => false
def gridB (n w : Nat) : D → Bool
  | .tup xs => decide (xs.length = n) && xs.all (rowB w)
  | _ => false
theorem is_row_d {k n : Nat} {d : D} {S : Sto} (h : An d) : R (k + 4) 10 [d, .int (n : Int)] S = some (.bl (rowB n d), S) := by
  refine R_eq ((R_wp T_is_row rfl).mpr ?_)
  cases hd : isiD d .tuple with
  | false =>
    have e : rowB n d = false := by cases d <;> first | rfl | cases hd
    simp_arith only [F.is_row, fin_wp, hd, e]
  | true =>
    cases d with
    | tup xs =>
      have hl : xs.length ≤ many := by have := h.tup.1; rw [many_val]; omega
      have eb : rowB n (.tup xs) = (decide (xs.length = n) && xs.all numB) := rfl
      rw [eb]
      simp_arith only [F.is_row, fin_wp]
      by_cases h1 : xs.length = n
      · have e : decide ((xs.length : Int) = (n : Int)) = true := by simp [h1]
        simp only [e, if_true, still_nil, hl, true_and]
        refine wc_map (fun x => .bl (numB x)) still_nil (fun x hx => ?_) ?_
        · have c := fun S => is_ratio_d (k := k) (S := S) (h.tup.2 x hx)
          simp_arith only [c]
        · have em : xs.map (fun x => D.bl (numB x)) = (xs.map numB).map D.bl := by rw [List.map_map]; rfl
          rw [em]
          simp_arith only [fin_wp, List.all_map, h1, decide_true, Bool.true_and]
          rfl
      · have e : decide ((xs.length : Int) = (n : Int)) = false := by simp; omega
        simp only [e, if_true, Bool.false_eq_true, if_false, fin_wp, h1, decide_false, Bool.false_and]
    | _ => cases hd
theorem are_rows_d {k n w : Nat} {d : D} {S : Sto} (h : An d) : R (k + 5) 11 [d, .int (n : Int), .int (w : Int)] S = some (.bl (gridB n w d), S) := by
  refine R_eq ((R_wp T_are_rows rfl).mpr ?_)
  cases hd : isiD d .tuple with
  | false =>
    have e : gridB n w d = false := by cases d <;> first | rfl | cases hd
    simp_arith only [F.are_rows, fin_wp, hd, e]
  | true =>
    cases d with
    | tup xs =>
      have hl : xs.length ≤ many := by have := h.tup.1; rw [many_val]; omega
      have eb : gridB n w (.tup xs) = (decide (xs.length = n) && xs.all (rowB w)) := rfl
      rw [eb]
      simp_arith only [F.are_rows, fin_wp]
      by_cases h1 : xs.length = n
      · have e : decide ((xs.length : Int) = (n : Int)) = true := by simp [h1]
        simp only [e, if_true, still_nil, hl, true_and]
        refine wc_map (fun x => .bl (rowB w x)) still_nil (fun x hx => ?_) ?_
        · have c := fun S => is_row_d (k := k) (n := w) (S := S) (h.tup.2 x hx)
          simp_arith only [c]
        · have em : xs.map (fun x => D.bl (rowB w x)) = (xs.map (rowB w)).map D.bl := by rw [List.map_map]; rfl
          rw [em]
          simp_arith only [fin_wp, List.all_map, h1, decide_true, Bool.true_and]
          rfl
      · have e : decide ((xs.length : Int) = (n : Int)) = false := by simp; omega
        simp only [e, if_true, Bool.false_eq_true, if_false, fin_wp, h1, decide_false, Bool.false_and]
    | _ => cases hd
def triB (n : Nat) : D → Bool
  | .tup [a, b, .tup cs] => decide (cs.length ≤ 6) && (rowB n a && (gridB cs.length n b && rowB cs.length (.tup cs)))
  | _ => false
def sideN : D → Nat
  | .tup [_, _, .tup cs] => cs.length
  | _ => 0
theorem triB_iff {n : Nat} {d : D} (h : triB n d = true) : ∃ a b cs, d = .tup [a, b, .tup cs] ∧ cs.length ≤ 6 ∧ rowB n a = true ∧ gridB cs.length n b = true ∧ rowB cs.length (.tup cs) = true ∧ sideN d = cs.length := by
  unfold triB at h
  split at h
  · rename_i a b cs
    rw [Bool.and_eq_true, Bool.and_eq_true, Bool.and_eq_true, decide_eq_true_eq] at h
    exact ⟨a, b, cs, rfl, h.1, h.2.1, h.2.2.1, h.2.2.2, rfl⟩
  · cases h
theorem triB_no {n : Nat} {xs : List D} (h : xs.length ≠ 3) : triB n (.tup xs) = false := by
  cases hb : triB n (.tup xs) with
  | false => rfl
  | true =>
    obtain ⟨a, b, cs, e, _⟩ := triB_iff hb
    cases e
    exact (h rfl).elim
theorem triB_no2 {n : Nat} {a b c : D} (h : isiD c .tuple = false) : triB n (.tup [a, b, c]) = false := by
  cases hb : triB n (.tup [a, b, c]) with
  | false => rfl
  | true =>
    obtain ⟨a', b', cs, e, _⟩ := triB_iff hb
    cases e
    cases h
def chkC : Nat → List D → Bool
  | n, [] => decide (n = 0)
  | n, t :: ts => triB n t && chkC (sideN t) ts
def okC : D → Bool
  | .tup xs => (decide (1 ≤ xs.length) && decide (xs.length ≤ 6)) && chkC 0 xs
  | _ => false
/-- a told fault -/
def Flt (l : List D) : Prop := l = [] ∨ l = [.non] ∨ ∃ i, l = [.int i]
theorem vc_flt {S : Sto} {l : List D} {Q : Bool → Prop} (h : Flt l) : wp (cmpD S .eq (.lst l) (.lst [])) Q ↔ Q l.isEmpty := by
  rcases h with rfl | rfl | ⟨i, rfl⟩
  · rw [vc_eqN rfl rfl]; exact Iff.rfl
  · rw [vc_eqN rfl rfl]; exact Iff.rfl
  · rw [vc_eqN rfl rfl]; exact Iff.rfl
theorem vc_fltN {S : Sto} {l : List D} {Q : Bool → Prop} (h : Flt l) : wp (cmpD S .ne (.lst l) (.lst [])) Q ↔ Q (!l.isEmpty) := by
  rcases h with rfl | rfl | ⟨i, rfl⟩
  · rw [vc_neN rfl rfl]; exact Iff.rfl
  · rw [vc_neN rfl rfl]; exact Iff.rfl
  · rw [vc_neN rfl rfl]; exact Iff.rfl
theorem vp_side {S : Sto} {n : Nat} {t : D} {Q : D → Prop} (h : triB n t = true) : wp (idxD S t (.int 2)) (fun y => wp (prD S .len [y]) Q) ↔ Q (.int (sideN t : Int)) := by
  obtain ⟨a, b, cs, rfl, _, _, _, _, e⟩ := triB_iff h
  rw [vi_t2, e]
  simp_arith only [wp_some]
/-! ## the law's own looks -/
theorem lwhole_d {k : Nat} {d : D} {S : Sto} : R (k + 1) 41 [d] S = some (.bl (whole d), S) := by
  refine R_eq ((R_wp T__law_is_whole rfl).mpr ?_)
  cases d <;> simp_arith only [F._law_is_whole, fin_wp, whole, isiD, Bool.and_true, Bool.and_false, Bool.not_false, Bool.not_true, Bool.true_and, Bool.false_and]
theorem fr_beq {a b : Int} {low : Nat} (h0 : low ≠ 0) (hb : b = (low : Int)) : D.beq (fr (Rat.normalize a low h0)) (.tup [.int a, .int b]) = decide (Nat.gcd a.natAbs b.natAbs = 1) := by
  subst hb
  rw [Int.natAbs_natCast]
  by_cases hg : Nat.gcd a.natAbs low = 1
  · rw [decide_eq_true hg]
    have e : Rat.normalize a low h0 = ⟨a, low, h0, hg⟩ := Rat.normalize_eq_mk' _ _ _ hg
    rw [e]
    exact D.beq_refl _
  · rw [decide_eq_false hg]
    cases hq : D.beq (fr (Rat.normalize a low h0)) (.tup [.int a, .int (low : Int)]) with
    | false => rfl
    | true =>
      have e := D.beq_eq _ _ hq
      unfold fr at e
      injection e with e
      injection e with e1 e2
      injection e2 with e2 _
      injection e1 with e1
      injection e2 with e2
      have r := (Rat.normalize a low h0).reduced
      have e2' : (Rat.normalize a low h0).den = low := by omega
      rw [e1, e2'] at r
      exact (hg r).elim
theorem lisnum_d {k : Nat} {d : D} {S : Sto} (h : An d) : R (k + 2) 114 [d] S = some (.bl (numB d), S) := by
  refine R_eq ((R_wp T__law_is_number rfl).mpr ?_)
  cases hd : isiD d .tuple with
  | false =>
    have e : numB d = false := by cases d <;> first | rfl | cases hd
    simp_arith only [F._law_is_number, fin_wp, hd, e]
  | true =>
    cases d with
    | tup xs =>
      by_cases h2 : xs.length = 2
      · have hl : xs.length ≤ many := by rw [many_val]; omega
        have e2 : decide ((xs.length : Int) = 2) = true := decide_eq_true (by omega)
        simp_arith only [F._law_is_number, fin_wp, e2, hl, true_and]
        refine wc_map (fun x => .bl (whole x)) still_nil (fun x hx => ?_) ?_
        · simp_arith only [lwhole_d]
        · have em : xs.map (fun x => D.bl (whole x)) = (xs.map whole).map D.bl := by rw [List.map_map]; rfl
          rw [em]
          have ea : (xs.map whole).all id = xs.all whole := by rw [List.all_map]; rfl
          cases hw : xs.all whole with
          | false =>
            have eb : numB (.tup xs) = false := numB_no (by rw [hw, Bool.and_false])
            simp_arith only [fin_wp, ea, hw, eb]
          | true =>
            simp_arith only [fin_wp, ea, hw]
            clear em ea e2 hl
            obtain ⟨a, b, rfl⟩ := wh2 (by rw [hw, decide_eq_true h2]; rfl)
            have e : numB (.tup [.int a, .int b]) = (decide (0 < b) && decide (Nat.gcd a.natAbs b.natAbs = 1)) := rfl
            rw [e]
            by_cases hp : 0 < b
            · have ha := (h.tup.2 (.int a) (by simp)).int
              have hb := (h.tup.2 (.int b) (by simp)).int
              have h0 : b.natAbs ≠ 0 := by omega
              have ebn : ((b.natAbs : Nat) : Int) = b := by omega
              have c1 := fun S => lean_ok (k := k) (S := S) (top := a) (low := b.natAbs) h0 hb ha (by omega) (by omega)
              rw [ebn] at c1
              have e3 : ∀ (S : Sto) (Q : Bool → Prop), wp (cmpD S .eq (fr (Rat.normalize a b.natAbs h0)) (.tup [.int a, .int b])) Q ↔ Q (decide (Nat.gcd a.natAbs b.natAbs = 1)) := fun S Q => by
                rw [vc_eqN nt_fr rfl, fr_beq h0 (by omega)]
              simp_arith only [fin_wp, hp, decide_true, Bool.true_and, c1, e3]
            · simp_arith only [fin_wp, hp, decide_false, Bool.false_and]
      · have e2 : decide ((xs.length : Int) = 2) = false := decide_eq_false (by omega)
        have eb : numB (.tup xs) = false := numB_no (by rw [decide_eq_false h2, Bool.false_and])
        simp_arith only [F._law_is_number, fin_wp, e2, eb]
    | _ => cases hd
theorem lisline_d {k n : Nat} {d : D} {S : Sto} (h : An d) : R (k + 3) 115 [d, .int (n : Int)] S = some (.bl (rowB n d), S) := by
  refine R_eq ((R_wp T__law_is_line rfl).mpr ?_)
  cases hd : isiD d .tuple with
  | false =>
    have e : rowB n d = false := by cases d <;> first | rfl | cases hd
    simp_arith only [F._law_is_line, fin_wp, hd, e]
  | true =>
    cases d with
    | tup xs =>
      have hl : xs.length ≤ many := by have := h.tup.1; rw [many_val]; omega
      have eb : rowB n (.tup xs) = (decide (xs.length = n) && xs.all numB) := rfl
      rw [eb]
      simp_arith only [F._law_is_line, fin_wp]
      by_cases h1 : xs.length = n
      · have e : decide ((xs.length : Int) = (n : Int)) = true := by simp [h1]
        simp only [e, if_true, still_nil, hl, true_and]
        refine wc_map (fun x => .bl (numB x)) still_nil (fun x hx => ?_) ?_
        · have c := fun S => lisnum_d (k := k) (S := S) (h.tup.2 x hx)
          simp_arith only [c]
        · have em : xs.map (fun x => D.bl (numB x)) = (xs.map numB).map D.bl := by rw [List.map_map]; rfl
          rw [em]
          simp_arith only [fin_wp, List.all_map, h1, decide_true, Bool.true_and]
          rfl
      · have e : decide ((xs.length : Int) = (n : Int)) = false := by simp; omega
        simp only [e, if_true, Bool.false_eq_true, if_false, fin_wp, h1, decide_false, Bool.false_and]
    | _ => cases hd
theorem lisgrid_d {k n w : Nat} {d : D} {S : Sto} (h : An d) : R (k + 4) 116 [d, .int (n : Int), .int (w : Int)] S = some (.bl (gridB n w d), S) := by
  refine R_eq ((R_wp T__law_is_grid rfl).mpr ?_)
  cases hd : isiD d .tuple with
  | false =>
    have e : gridB n w d = false := by cases d <;> first | rfl | cases hd
    simp_arith only [F._law_is_grid, fin_wp, hd, e]
  | true =>
    cases d with
    | tup xs =>
      have hl : xs.length ≤ many := by have := h.tup.1; rw [many_val]; omega
      have eb : gridB n w (.tup xs) = (decide (xs.length = n) && xs.all (rowB w)) := rfl
      rw [eb]
      simp_arith only [F._law_is_grid, fin_wp]
      by_cases h1 : xs.length = n
      · have e : decide ((xs.length : Int) = (n : Int)) = true := by simp [h1]
        simp only [e, if_true, still_nil, hl, true_and]
        refine wc_map (fun x => .bl (rowB w x)) still_nil (fun x hx => ?_) ?_
        · have c := fun S => lisline_d (k := k) (n := w) (S := S) (h.tup.2 x hx)
          simp_arith only [c]
        · have em : xs.map (fun x => D.bl (rowB w x)) = (xs.map (rowB w)).map D.bl := by rw [List.map_map]; rfl
          rw [em]
          simp_arith only [fin_wp, List.all_map, h1, decide_true, Bool.true_and]
          rfl
      · have e : decide ((xs.length : Int) = (n : Int)) = false := by simp; omega
        simp only [e, if_true, Bool.false_eq_true, if_false, fin_wp, h1, decide_false, Bool.false_and]
    | _ => cases hd
def behD (n : Nat) (d : D) : D := if triB n d = true then .int (sideN d : Int) else .non
/-! ## what passes is a carrier -/
theorem num_fr {E u m n : Nat} {d : D} (h : OkD E u m n d) (hb : numB d = true) (hu : u ≤ 90) : ∃ r, d = fr r ∧ De E r := by
  cases d with
  | tup xs =>
    obtain ⟨a, b, rfl, h1, h2⟩ := numB_iff hb
    cases n with
    | zero => exact h.elim
    | succ n =>
      have ha : OkD E u m n (.int a) := h.2.2 _ (by simp)
      have ha' : a.natAbs < 2 ^ u := by cases n <;> exact ha
      refine ⟨⟨a, b.natAbs, by omega, h2⟩, ?_, h.2.1 a b rfl h1, lt_pow ha' hu⟩
      unfold fr
      dsimp only
      rw [show ((b.natAbs : Nat) : Int) = b by omega]
  | _ => cases hb
theorem all_fr {E u m n : Nat} : ∀ {xs : List D}, (∀ x ∈ xs, OkD E u m n x) → xs.all numB = true → u ≤ 90 → ∃ l : List Rat, xs = l.map fr ∧ ∀ x ∈ l, De E x
  | [], _, _, _ => ⟨[], rfl, fun x hx => by cases hx⟩
  | x :: xs, h, hb, hu => by
    rw [List.all_cons, Bool.and_eq_true] at hb
    obtain ⟨r, rfl, hr⟩ := num_fr (h x List.mem_cons_self) hb.1 hu
    obtain ⟨l, rfl, hl⟩ := all_fr (fun y hy => h y (List.mem_cons_of_mem _ hy)) hb.2 hu
    exact ⟨r :: l, rfl, fun y hy => (List.mem_cons.mp hy).elim (fun e => e ▸ hr) (hl y)⟩
theorem row_of {E u m n w : Nat} {d : D} (h : OkD E u m n d) (hb : rowB w d = true) (hu : u ≤ 90) : ∃ l : List Rat, d = row l ∧ l.length = w ∧ ∀ x ∈ l, De E x := by
  cases d with
  | tup xs =>
    cases n with
    | zero => exact h.elim
    | succ n =>
      have hb' : (decide (xs.length = w) && xs.all numB) = true := hb
      rw [Bool.and_eq_true, decide_eq_true_eq] at hb'
      obtain ⟨l, rfl, hl⟩ := all_fr h.2.2 hb'.2 hu
      exact ⟨l, rfl, by have := hb'.1; rwa [List.length_map] at this, hl⟩
  | _ => cases hb
theorem all_row {E u m n w : Nat} : ∀ {xs : List D}, (∀ x ∈ xs, OkD E u m n x) → xs.all (rowB w) = true → u ≤ 90 → ∃ l : List (List Rat), xs = l.map row ∧ ∀ r ∈ l, r.length = w ∧ ∀ x ∈ r, De E x
  | [], _, _, _ => ⟨[], rfl, fun x hx => by cases hx⟩
  | x :: xs, h, hb, hu => by
    rw [List.all_cons, Bool.and_eq_true] at hb
    obtain ⟨r, rfl, hr⟩ := row_of (h x List.mem_cons_self) hb.1 hu
    obtain ⟨l, rfl, hl⟩ := all_row (fun y hy => h y (List.mem_cons_of_mem _ hy)) hb.2 hu
    exact ⟨r :: l, rfl, fun y hy => (List.mem_cons.mp hy).elim (fun e => e ▸ hr) (hl y)⟩
theorem tri_of {E u m n w : Nat} {d : D} (h : OkD E u m n d) (hb : triB w d = true) (hw : w ≤ 6) (hu : u ≤ 90) : ∃ t : Tri, d = t.d ∧ t.fits w ∧ t.de E ∧ t.side.length = sideN d := by
  obtain ⟨a, b, cs, rfl, h6, h1, h2, h3, es⟩ := triB_iff hb
  cases n with
  | zero => exact h.elim
  | succ n =>
    obtain ⟨l, rfl, l1, l2⟩ := row_of (h.2.2 a (by simp)) h1 hu
    obtain ⟨s, e, s1, s2⟩ := row_of (h.2.2 (.tup cs) (by simp)) h3 hu
    have hg : OkD E u m n b := h.2.2 b (by simp)
    cases b with
    | tup bs =>
      cases n with
      | zero => exact hg.elim
      | succ n =>
        have h2' : (decide (bs.length = cs.length) && bs.all (rowB w)) = true := h2
        rw [Bool.and_eq_true, decide_eq_true_eq] at h2'
        obtain ⟨g, rfl, hgl⟩ := all_row hg.2.2 h2'.2 hu
        have gl : g.length = cs.length := by have := h2'.1; rwa [List.length_map] at this
        refine ⟨⟨l, g, s⟩, by rw [e]; rfl, ⟨l1, by dsimp only; omega, fun r hr => (hgl r hr).1, by dsimp only; omega⟩, ⟨l2, fun r hr => (hgl r hr).2, s2, by dsimp only; omega, by dsimp only; omega, by dsimp only; omega, fun r hr => by have := (hgl r hr).1; omega⟩, by dsimp only; omega⟩
    | _ => cases h2
theorem all_tri {E u m n : Nat} : ∀ {ts : List D} {w : Nat}, (∀ x ∈ ts, OkD E u m n x) → chkC w ts = true → w ≤ 6 → u ≤ 90 → ∃ c : List Tri, ts = c.map Tri.d ∧ Fits c w ∧ ∀ t ∈ c, t.de E
  | [], w, _, hb, _, _ => ⟨[], rfl, of_decide_eq_true (p := w = 0) hb, fun t ht => by cases ht⟩
  | t :: ts, w, h, hb, hw, hu => by
    have hb' : (triB w t && chkC (sideN t) ts) = true := hb
    rw [Bool.and_eq_true] at hb'
    obtain ⟨t, rfl, t1, t2, t3⟩ := tri_of (h _ List.mem_cons_self) hb'.1 hw hu
    have h2 := hb'.2
    rw [← t3] at h2
    obtain ⟨c, rfl, c1, c2⟩ := all_tri (fun x hx => h x (List.mem_cons_of_mem _ hx)) h2 t1.2.2.2 hu
    exact ⟨t :: c, rfl, ⟨t1, c1⟩, fun y hy => (List.mem_cons.mp hy).elim (fun e => e ▸ t2) (c2 y)⟩
theorem car_of {E u m n : Nat} {d : D} (hE : Ge E) (h : OkD E u m n d) (hb : okC d = true) (hu : u ≤ 90) : ∃ c, d = car c ∧ CarE E c := by
  cases d with
  | tup xs =>
    cases n with
    | zero => exact h.elim
    | succ n =>
      have hb' : ((decide (1 ≤ xs.length) && decide (xs.length ≤ 6)) && chkC 0 xs) = true := hb
      rw [Bool.and_eq_true, Bool.and_eq_true, decide_eq_true_eq, decide_eq_true_eq] at hb'
      obtain ⟨c, rfl, c1, c2⟩ := all_tri h.2.2 hb'.2 (by omega) hu
      rw [List.length_map] at hb'
      exact ⟨c, rfl, ⟨hE, c1, hb'.1.1, hb'.1.2, c2⟩⟩
  | _ => cases hb
end Rf
end

section
set_option maxRecDepth 100000
set_option maxHeartbeats 4000000
set_option autoImplicit false
namespace Rf
open PySem PySem.Spec PyProof.Rows L2
/-! ## odd values, bent values -/
def prb (E : Nat) : List D → Bool
  | [.int a, .int b] => !decide (0 < b) || decide (E % b.natAbs = 0)
  | _ => true
def okb (E u m : Nat) : Nat → D → Bool
  | 0, d => match d with
    | .int i => decide (i.natAbs < 2 ^ u)
    | .tup _ => false
    | _ => true
  | n + 1, d => match d with
    | .int i => decide (i.natAbs < 2 ^ u)
    | .tup xs => decide (xs.length ≤ m) && (prb E xs && xs.all (okb E u m n))
    | _ => true
theorem okb_ok {E u m : Nat} : ∀ {n : Nat} {d : D}, okb E u m n d = true → OkD E u m n d
  | 0, d, h => by
    cases d with
    | int i => exact of_decide_eq_true (p := i.natAbs < 2 ^ u) h
    | tup xs => cases h
    | _ => trivial
  | n + 1, d, h => by
    cases d with
    | int i => exact of_decide_eq_true (p := i.natAbs < 2 ^ u) h
    | tup xs =>
      have h' : (decide (xs.length ≤ m) && (prb E xs && xs.all (okb E u m n))) = true := h
      rw [Bool.and_eq_true, Bool.and_eq_true, decide_eq_true_eq, List.all_eq_true] at h'
      refine ⟨h'.1, fun a b e hb => ?_, fun x hx => okb_ok (h'.2.2 x hx)⟩
      subst e
      have h2 : (!decide (0 < b) || decide (E % b.natAbs = 0)) = true := h'.2.1
      rw [decide_eq_true hb, Bool.not_true, Bool.false_or, decide_eq_true_eq] at h2
      exact Nat.dvd_of_mod_eq_zero h2
    | _ => trivial
def oddL : List D := [.non, .bl true, .bl false, .int 0, .int 1, .int (-1), .int 3, .int (10 ^ (25 : Int).toNat), .str "", .str "0", .str "(0, 1)", .tup [], .tup [.int 0], .tup [.int 0, .int 1], .tup [.int 1, .int 1], .tup [.int 2, .int 2], .tup [.int 0, .int 3], .tup [.int 1, .int 0], .tup [.int 3, .int (-2)], .tup [.bl true, .int 1], .tup [.int 0, .bl true], .tup [.int 1, .int 1, .int 1], .tup [.tup []], .tup [.tup [.int 0, .int 1]], .tup [.tup [.tup [.int 0, .int 1]]], .lst [], .lst [.int 0, .int 1], .lst [.tup [.int 0, .int 1]], .dct, .tup [.non, .int 1], .tup [.str "0", .int 1], .tup [.tup [.tup [.int 1, .int 1]], .tup [.tup [.int 1, .int 1]]], .tup [.tup [], .tup [], .tup []]]
theorem odd_all : oddL.all (okb 6 84 3 3) = true := by decide +kernel
theorem odd_mem {x : D} (h : x ∈ oddL) : OkD 6 84 3 3 x := okb_ok (List.all_eq_true.mp odd_all x h)
theorem pickT_ok {k n t L : Nat} {S : Sto} {w xs : List D} {Q : D × Sto → Prop} (hs : S[n]? = some w) (hw : Well (t + 1) L w) (hm : 0 < xs.length) (hm2 : xs.length < 1000)
    (h : ∀ (x : D) (w' : List D), x ∈ xs → Well t L w' → Q (x, S.set n w')) : wp (R (k + 2) 28 [.loc n, .tup xs] S) Q := by
  rw [R_wp T__law_pick rfl]
  simp_arith only [F._law_pick]
  refine draw_ok hs hw hm (by omega) fun v w' hv hw' => ?_
  simp_arith only [wp_some]
  rw [List.getElem?_eq_getElem hv]
  simp_arith only [wp_some]
  rw [fin_same false (by simp), wp_some]
  exact h _ _ (List.getElem_mem hv) hw'
theorem odd_ok {k n t L : Nat} {S : Sto} {w : List D} {Q : D × Sto → Prop} (hs : S[n]? = some w) (hw : Well (t + 1) L w)
    (h : ∀ (x : D) (w' : List D), OkD 6 84 3 3 x → Well t L w' → Q (x, S.set n w')) : wp (R (k + 3) 455 [.loc n] S) Q := by
  rw [R_wp T__law_odd rfl]
  simp_arith only [F._law_odd]
  refine ⟨by decide, ?_⟩
  refine pickT_ok (xs := oddL) hs hw (by decide) (by decide) fun x w' hx hw' => ?_
  simp_arith only [wp_some]
  exact fin_s.mpr (h x w' (odd_mem hx) hw')
/-- at most one new number -/
theorem ok_mem {E u m n b' : Nat} {ys : List D} (h0 : b' ≠ 0) (hb : b' < 2 ^ u) (h : ∀ x ∈ ys, OkD (E * b') u m n x) (hl : ys.length ≤ m) : ∃ b, b ≠ 0 ∧ b < 2 ^ u ∧ OkD (E * b) u m (n + 1) (.tup ys) := by
  by_cases hp : ∃ a b : Int, ys = [.int a, .int b] ∧ 0 < b
  · obtain ⟨a, b, rfl, hb0⟩ := hp
    have h1 : OkD (E * b') u m n (.int a) := h _ (by simp)
    have h2 : OkD (E * b') u m n (.int b) := h _ (by simp)
    have ha' : a.natAbs < 2 ^ u := by cases n <;> exact h1
    have hb' : b.natAbs < 2 ^ u := by cases n <;> exact h2
    refine ⟨b.natAbs, by omega, hb', hl, fun a2 b2 e _ => ?_, fun x hx => ?_⟩
    · cases e
      exact Nat.dvd_mul_left _ _
    · simp only [List.mem_cons, List.not_mem_nil, or_false] at hx
      rcases hx with rfl | rfl
      · cases n <;> exact ha'
      · cases n <;> exact hb'
  · exact ⟨b', h0, hb, hl, fun a b e hb0 => (hp ⟨a, b, e, hb0⟩).elim, h⟩
theorem eqv_nil {ps : List PyData} : PyData.eqv (.tuple ps) (.tuple []) = ps.isEmpty := by
  cases ps <;> rfl
theorem eq_emp {S : Sto} {xs : List D} : eqD S (.tup xs) (.tup []) = some xs.isEmpty := by
  unfold eqD
  cases h : eqD0 S (.tup xs) (.tup []) with
  | none => rfl
  | some r =>
    dsimp only
    unfold eqD0 at h
    simp only [res, Option.bind_some, pyD, pyDs, Option.map_some] at h
    cases e : pyDs xs with
    | none => rw [e] at h; cases h
    | some ps =>
      rw [e] at h
      simp only [Option.map_some, Option.bind_some] at h
      split at h
      · cases h
        rw [eqv_nil]
        cases xs with
        | nil => cases e; rfl
        | cons x xs =>
          simp only [pyDs] at e
          obtain ⟨q, f1, f2⟩ := Option.bind_eq_some_iff.mp e
          obtain ⟨qs, f3, f4⟩ := Option.map_eq_some_iff.mp f2
          subst f4
          rfl
      · cases h
theorem vc_neT {S : Sto} {xs : List D} {Q : Bool → Prop} : wp (cmpD S .ne (.tup xs) (.tup [])) Q ↔ Q (!xs.isEmpty) := by
  show wp ((eqD S (.tup xs) (.tup [])).map fun k => !k) Q ↔ _
  rw [wp_map, eq_emp, wp_some]
theorem vl_last {S : Sto} {xs : List D} {Q : D → Prop} : wp (slD S (.tup xs) (some (-1)) none) Q ↔ Q (.tup (xs.drop (xs.length - 1))) := by
  have e : cutD xs (some (-1)) none = xs.drop (xs.length - 1) := by
    unfold cutD
    have h1 : HT.sIx xs.length 0 (some (-1)) = xs.length - 1 := by
      show (if (-1 : Int) < 0 then ((-1 : Int) + (xs.length : Int)).toNat else min (-1 : Int).toNat xs.length) = xs.length - 1
      rw [if_pos (by omega)]; omega
    rw [HT.sIx_none, h1]
    exact List.take_of_length_le (by rw [List.length_drop]; omega)
  show wp (some (D.tup (cutD xs (some (-1)) none))) Q ↔ _
  rw [wp_some, e]
theorem vl_f1 {S : Sto} {xs : List D} {Q : D → Prop} : wp (slD S (.tup xs) (some 1) none) Q ↔ Q (.tup (xs.drop 1)) := vl_from (k := 1)
theorem vl_u1 {S : Sto} {xs : List D} {Q : D → Prop} : wp (slD S (.tup xs) none (some 1)) Q ↔ Q (.tup (xs.take 1)) := vl_to (k := 1)
theorem voB_add {S : Sto} {b : Bool} {j : Int} {Q : D → Prop} : wp (opD S .add (.bl b) (.int j)) Q ↔ Q (.int (b2i b + j)) := wp_some
theorem voB_sub {S : Sto} {b : Bool} {j : Int} {Q : D → Prop} : wp (opD S .sub (.bl b) (.int j)) Q ↔ Q (.int (b2i b - j)) := wp_some
theorem voB_rsub {S : Sto} {b : Bool} {j : Int} {Q : D → Prop} : wp (opD S .sub (.int j) (.bl b)) Q ↔ Q (.int (j - b2i b)) := wp_some
theorem voB_mul {S : Sto} {b : Bool} {j : Int} {Q : D → Prop} : wp (opD S .mul (.int j) (.bl b)) Q ↔ Q (.int (j * b2i b)) := wp_some
theorem vcB_1 {S : Sto} {b : Bool} {Q : Bool → Prop} : wp (cmpD S .eq (.bl b) (.int 1)) Q ↔ Q b := by
  have e : cmpD S .eq (.bl b) (.int 1) = some b := by cases b <;> rfl
  rw [e, wp_some]
theorem okD_int {E u m n : Nat} {i : Int} (h : i.natAbs < 2 ^ u) : OkD E u m n (.int i) := by cases n <;> exact h
theorem okD_bl {E u m n : Nat} {b : Bool} : OkD E u m n (.bl b) := by cases n <;> trivial
theorem okD_lst {E u m n : Nat} {xs : List D} : OkD E u m n (.lst xs) := by cases n <;> trivial
theorem p2u (u : Nat) : 2 ^ (u + 2) = 4 * 2 ^ u := by rw [Nat.pow_add]; omega
section
variable {k p L E u m n t : Nat} {S : Sto} {w : List D} {Q : D × Sto → Prop}
/-- what a bent value is -/
def Bn (E u m n : Nat) (d : D) : Prop := ∃ b, b ≠ 0 ∧ b < 2 ^ (u + 2) ∧ OkD (E * b) (u + 2) (m + 1) (n + 3) d
theorem bn_one (d : D) (h : OkD E (u + 2) (m + 1) (n + 3) d) : Bn E u m n d := ⟨1, by omega, by have := two_pow_pos' u; rw [p2u]; omega, by rw [Nat.mul_one]; exact h⟩
theorem bn_odd (hu : 82 ≤ u) (hm : 2 ≤ m) {x : D} (h : OkD 6 84 3 3 x) : Bn E u m n x := ⟨6, by omega, Nat.lt_of_lt_of_le (show 6 < 2 ^ 84 by decide) (pow_le' (by omega)), h.up (Nat.dvd_mul_left _ _) (by omega) (by omega) (by omega)⟩
theorem bn_tup {ys xs : List D} (h : ∀ x ∈ xs, OkD E u m n x) (hy : ∀ y ∈ ys, y ∈ xs) (hl : ys.length ≤ m + 1) : Bn E u m (n + 1) (.tup ys) := by
  have := two_pow_pos' u
  obtain ⟨b, b1, b2, b3⟩ := ok_mem (E := E) (u := u + 2) (m := m + 1) (n := n + 3) (b' := 1) (ys := ys) (by omega) (by rw [p2u]; omega) (fun y hyy => (h y (hy y hyy)).up (by rw [Nat.mul_one]; exact Nat.dvd_refl _) (by omega) (by omega) (by omega)) hl
  exact ⟨b, b1, b2, b3⟩
theorem bn_put {xs : List D} {s : Nat} {d : D} (h : ∀ x ∈ xs, OkD E u m n x) (hl : xs.length ≤ m) (hs : s < xs.length) (hd : Bn E u m n d) : Bn E u m (n + 1) (.tup (xs.take s ++ [d] ++ xs.drop (s + 1))) := by
  obtain ⟨b, b1, b2, b3⟩ := hd
  obtain ⟨c, c1, c2, c3⟩ := ok_mem (E := E) (m := m + 1) (n := n + 3) (ys := xs.take s ++ [d] ++ xs.drop (s + 1)) b1 b2 (fun y hy => by
    rcases List.mem_append.mp hy with hy | hy
    · rcases List.mem_append.mp hy with hy | hy
      · exact (h y (List.mem_of_mem_take hy)).up (Nat.dvd_mul_right _ _) (by omega) (by omega) (by omega)
      · rw [List.mem_singleton.mp hy]; exact b3
    · exact (h y (List.mem_of_mem_drop hy)).up (Nat.dvd_mul_right _ _) (by omega) (by omega) (by omega)) (by
    rw [List.length_append, List.length_append, List.length_take, List.length_drop]; simp only [List.length_cons, List.length_nil]; omega)
  exact ⟨c, c1, c2, c3⟩
end
theorem leaf_ok {k p L E u m n t : Nat} {d : D} {S : Sto} {w : List D} {Q : D × Sto → Prop} (hu : 82 ≤ u) (hu2 : u ≤ 1000) (hm : 3 ≤ m) (ht : isiD d .tuple = false) (hd : OkD E u m n d) (hs : S[p]? = some w) (hw : Well (t + 4) L w)
    (h : ∀ (d' : D) (w' : List D), Bn E u m n d' → Well t L w' → Q (d', S.set p w')) : wp (R (k + 4) 456 [.loc p, d] S) Q := by
  have hp : p < S.length := (List.getElem?_eq_some_iff.mp hs).1
  have hg : ∀ x : List D, (S.set p x)[p]? = some x := fun x => List.getElem?_set_self hp
  rw [R_wp T__law_bent_v2 rfl]
  have h2u := p2u u
  have hpos : 2 ^ 82 ≤ 2 ^ u := pow_le' hu
  cases d with
  | tup xs => cases ht
  | int i =>
    have hi : i.natAbs < 2 ^ u := by cases n <;> exact hd
    simp_arith only [F._law_bent_v2]
    refine draw_ok (m := 9) (k := k + 2) (t := t + 3) hs hw (by omega) (by omega) fun v w1 hv hw1 => ?_
    simp_arith only [wp_some]
    by_cases h5 : v < 5
    · have d5 : decide ((v : Int) < 5) = true := decide_eq_true (by omega)
      have lg : (2 : Int).natAbs.log2 + i.natAbs.log2 < 1000000 := by
        have := log2_lt hi (by omega)
        have : (2 : Int).natAbs.log2 = 1 := rfl
        omega
      simp_arith only [d5, lg, true_and]
      match v, h5 with
        | 0, _ => simp_arith only [List.getElem?_cons_zero, List.getElem?_cons_succ]; exact fin_s.mpr (h _ _ (bn_one _ (okD_int (by omega))) (hw1.less (by omega)))
        | 1, _ => simp_arith only [List.getElem?_cons_zero, List.getElem?_cons_succ]; exact fin_s.mpr (h _ _ (bn_one _ (okD_int (by omega))) (hw1.less (by omega)))
        | 2, _ => simp_arith only [List.getElem?_cons_zero, List.getElem?_cons_succ]; exact fin_s.mpr (h _ _ (bn_one _ (okD_int (by omega))) (hw1.less (by omega)))
        | 3, _ => simp_arith only [List.getElem?_cons_zero, List.getElem?_cons_succ]; exact fin_s.mpr (h _ _ (bn_one _ (okD_int (by omega))) (hw1.less (by omega)))
        | 4, _ => simp_arith only [List.getElem?_cons_zero, List.getElem?_cons_succ]; exact fin_s.mpr (h _ _ (bn_one _ okD_bl) (hw1.less (by omega)))
    · have d5 : decide ((v : Int) < 5) = false := decide_eq_false (by omega)
      simp_arith only [d5]
      refine odd_ok (k := k) (t := t + 2) (hg _) hw1 fun x w2 hx hw2 => ?_
      simp_arith only [List.set_set]
      exact fin_s.mpr (h _ _ (bn_odd hu (by omega) hx) (hw2.less (by omega)))
  | bl b =>
    have hb : b2i b = 0 ∨ b2i b = 1 := by
      cases b
      · exact .inl rfl
      · exact .inr rfl
    simp_arith only [F._law_bent_v2]
    refine draw_ok (m := 9) (k := k + 2) (t := t + 3) hs hw (by omega) (by omega) fun v w1 hv hw1 => ?_
    simp_arith only [wp_some]
    by_cases h5 : v < 5
    · have d5 : decide ((v : Int) < 5) = true := decide_eq_true (by omega)
      simp_arith only [d5, voB_add, voB_sub, voB_rsub, voB_mul, vcB_1]
      match v, h5 with
        | 0, _ => simp_arith only [List.getElem?_cons_zero, List.getElem?_cons_succ]; exact fin_s.mpr (h _ _ (bn_one _ (okD_int (by omega))) (hw1.less (by omega)))
        | 1, _ => simp_arith only [List.getElem?_cons_zero, List.getElem?_cons_succ]; exact fin_s.mpr (h _ _ (bn_one _ (okD_int (by omega))) (hw1.less (by omega)))
        | 2, _ => simp_arith only [List.getElem?_cons_zero, List.getElem?_cons_succ]; exact fin_s.mpr (h _ _ (bn_one _ (okD_int (by omega))) (hw1.less (by omega)))
        | 3, _ => simp_arith only [List.getElem?_cons_zero, List.getElem?_cons_succ]; exact fin_s.mpr (h _ _ (bn_one _ (okD_int (by omega))) (hw1.less (by omega)))
        | 4, _ => simp_arith only [List.getElem?_cons_zero, List.getElem?_cons_succ]; exact fin_s.mpr (h _ _ (bn_one _ okD_bl) (hw1.less (by omega)))
    · have d5 : decide ((v : Int) < 5) = false := decide_eq_false (by omega)
      simp_arith only [d5]
      refine odd_ok (k := k) (t := t + 2) (hg _) hw1 fun x w2 hx hw2 => ?_
      simp_arith only [List.set_set]
      exact fin_s.mpr (h _ _ (bn_odd hu (by omega) hx) (hw2.less (by omega)))
  | non =>
    simp_arith only [F._law_bent_v2]
    refine draw_ok (m := 9) (k := k + 2) (t := t + 3) hs hw (by omega) (by omega) fun v w1 hv hw1 => ?_
    simp_arith only [wp_some]
    refine odd_ok (k := k) (t := t + 2) (hg _) hw1 fun x w2 hx hw2 => ?_
    simp_arith only [List.set_set]
    exact fin_s.mpr (h _ _ (bn_odd hu (by omega) hx) (hw2.less (by omega)))
  | str _ =>
    simp_arith only [F._law_bent_v2]
    refine draw_ok (m := 9) (k := k + 2) (t := t + 3) hs hw (by omega) (by omega) fun v w1 hv hw1 => ?_
    simp_arith only [wp_some]
    refine odd_ok (k := k) (t := t + 2) (hg _) hw1 fun x w2 hx hw2 => ?_
    simp_arith only [List.set_set]
    exact fin_s.mpr (h _ _ (bn_odd hu (by omega) hx) (hw2.less (by omega)))
  | lst _ =>
    simp_arith only [F._law_bent_v2]
    refine draw_ok (m := 9) (k := k + 2) (t := t + 3) hs hw (by omega) (by omega) fun v w1 hv hw1 => ?_
    simp_arith only [wp_some]
    refine odd_ok (k := k) (t := t + 2) (hg _) hw1 fun x w2 hx hw2 => ?_
    simp_arith only [List.set_set]
    exact fin_s.mpr (h _ _ (bn_odd hu (by omega) hx) (hw2.less (by omega)))
  | fro _ =>
    simp_arith only [F._law_bent_v2]
    refine draw_ok (m := 9) (k := k + 2) (t := t + 3) hs hw (by omega) (by omega) fun v w1 hv hw1 => ?_
    simp_arith only [wp_some]
    refine odd_ok (k := k) (t := t + 2) (hg _) hw1 fun x w2 hx hw2 => ?_
    simp_arith only [List.set_set]
    exact fin_s.mpr (h _ _ (bn_odd hu (by omega) hx) (hw2.less (by omega)))
  | loc _ =>
    simp_arith only [F._law_bent_v2]
    refine draw_ok (m := 9) (k := k + 2) (t := t + 3) hs hw (by omega) (by omega) fun v w1 hv hw1 => ?_
    simp_arith only [wp_some]
    refine odd_ok (k := k) (t := t + 2) (hg _) hw1 fun x w2 hx hw2 => ?_
    simp_arith only [List.set_set]
    exact fin_s.mpr (h _ _ (bn_odd hu (by omega) hx) (hw2.less (by omega)))
  | dct =>
    simp_arith only [F._law_bent_v2]
    refine draw_ok (m := 9) (k := k + 2) (t := t + 3) hs hw (by omega) (by omega) fun v w1 hv hw1 => ?_
    simp_arith only [wp_some]
    refine odd_ok (k := k) (t := t + 2) (hg _) hw1 fun x w2 hx hw2 => ?_
    simp_arith only [List.set_set]
    exact fin_s.mpr (h _ _ (bn_odd hu (by omega) hx) (hw2.less (by omega)))
theorem bent_ok {k p L E u m : Nat} (hu : 82 ≤ u) (hu2 : u ≤ 1000) (hm : 3 ≤ m) (hm2 : m ≤ 100) : ∀ {n t : Nat} {d : D} {S : Sto} {w : List D} {Q : D × Sto → Prop}, OkD E u m n d → S[p]? = some w → Well (t + 3 * n + 4) L w →
    (∀ (d' : D) (w' : List D), Bn E u m n d' → Well t L w' → Q (d', S.set p w')) → wp (R (k + n + 4) 456 [.loc p, d] S) Q := by
  intro n
  induction n with
  | zero =>
    intro t d S w Q hd hs hw h
    cases ht : isiD d .tuple with
    | false => exact leaf_ok hu hu2 hm ht hd hs hw h
    | true => cases d with
      | tup xs => exact hd.elim
      | _ => cases ht
  | succ n ih =>
    intro t d S w Q hd hs hw h
    cases ht : isiD d .tuple with
    | false => exact leaf_ok (k := k + n + 1) hu hu2 hm ht hd hs (hw.less (by omega)) h
    | true => cases d with
      | tup xs =>
        have hp : p < S.length := (List.getElem?_eq_some_iff.mp hs).1
        have hg : ∀ x : List D, (S.set p x)[p]? = some x := fun x => List.getElem?_set_self hp
        obtain ⟨hl, _, hc⟩ := hd
        rw [R_wp T__law_bent_v2 rfl]
        by_cases hx : xs = []
        · have he : xs.isEmpty = true := by rw [hx]; rfl
          simp_arith only [F._law_bent_v2, vc_neT, he]
          refine draw_ok (m := 9) (k := k + n + 3) (t := t + 2) hs (hw.less (by omega)) (by omega) (by omega) fun v w2 hv hw2 => ?_
          simp_arith only [List.set_set]
          by_cases h6 : v < 6
          · have d6 : decide ((v : Int) < 6) = true := decide_eq_true (by omega)
            simp_arith only [d6, vl_init, vl_last, vl_f1, vl_u1, List.length_take, List.length_drop]
            refine ⟨by rw [many_val]; omega, by rw [many_val]; omega, ?_⟩
            match v, h6 with
            | 0, _ => simp_arith only [List.getElem?_cons_zero, List.getElem?_cons_succ]; exact fin_s.mpr (h _ _ (bn_one _ okD_lst) (hw2.less (by omega)))
            | 1, _ => simp_arith only [List.getElem?_cons_zero, List.getElem?_cons_succ]; exact fin_s.mpr (h _ _ (bn_tup hc (fun y hy => List.mem_of_mem_take hy) (by rw [List.length_take]; omega)) (hw2.less (by omega)))
            | 2, _ => simp_arith only [List.getElem?_cons_zero, List.getElem?_cons_succ]; exact fin_s.mpr (h _ _ (bn_tup hc (fun y hy => (List.mem_append.mp hy).elim id List.mem_of_mem_drop) (by rw [List.length_append, List.length_drop]; omega)) (hw2.less (by omega)))
            | 3, _ => simp_arith only [List.getElem?_cons_zero, List.getElem?_cons_succ]; exact fin_s.mpr (h _ _ (bn_tup hc (fun y hy => List.mem_reverse.mp hy) (by rw [List.length_reverse]; omega)) (hw2.less (by omega)))
            | 4, _ => simp_arith only [List.getElem?_cons_zero, List.getElem?_cons_succ]; exact fin_s.mpr (h _ _ (bn_tup hc (fun y hy => List.mem_of_mem_drop hy) (by rw [List.length_drop]; omega)) (hw2.less (by omega)))
            | 5, _ => simp_arith only [List.getElem?_cons_zero, List.getElem?_cons_succ]; exact fin_s.mpr (h _ _ (bn_tup hc (fun y hy => (List.mem_append.mp hy).elim List.mem_of_mem_take id) (by rw [List.length_append, List.length_take]; omega)) (hw2.less (by omega)))
          · have d6 : decide ((v : Int) < 6) = false := decide_eq_false (by omega)
            simp_arith only [d6]
            refine odd_ok (k := k + n + 1) (t := t + 1) (hg _) hw2 fun x w3 hx hw3 => ?_
            simp_arith only [List.set_set]
            exact fin_s.mpr (h _ _ (bn_odd hu (by omega) hx) (hw3.less (by omega)))
        · have he : xs.isEmpty = false := by
            cases xs with
            | nil => exact (hx rfl).elim
            | cons x xs => rfl
          have h0 : 0 < xs.length := List.length_pos_iff.mpr hx
          simp_arith only [F._law_bent_v2, vc_neT, he]
          refine draw_ok (m := 4) (k := k + n + 3) (t := t + 3 * n + 6) hs hw (by omega) (by omega) fun v1 w1 hv1 hw1 => ?_
          simp_arith only [wp_some]
          by_cases hv0 : 0 < v1
          · have d0 : decide ((0 : Int) < (v1 : Int)) = true := decide_eq_true (by omega)
            simp_arith only [d0]
            refine draw_ok (m := xs.length) (k := k + n + 3) (t := t + 3 * n + 5) (hg _) hw1 (by omega) (by omega) fun s w2 hs2 hw2 => ?_
            have e1 : (s : Int) + 1 = ((s + 1 : Nat) : Int) := by omega
            simp_arith only [List.set_set, vl_to, vl_from, List.getElem?_eq_getElem hs2]
            refine ih (t := t + 1) (hc _ (List.getElem_mem hs2)) (hg _) (hw2.less (by omega)) fun d' w3 hd' hw3 => ?_
            simp_arith only [List.set_set, e1, vl_from, List.length_append, List.length_take, List.length_drop]
            refine ⟨by rw [many_val]; omega, by rw [many_val]; omega, ?_⟩
            exact fin_s.mpr (h _ _ (bn_put hc hl hs2 hd') (hw3.less (by omega)))
          · have d0 : decide ((0 : Int) < (v1 : Int)) = false := decide_eq_false (by omega)
            simp_arith only [d0]
            refine draw_ok (m := 9) (k := k + n + 3) (t := t + 2) (hg _) (hw1.less (by omega)) (by omega) (by omega) fun v w2 hv hw2 => ?_
            simp_arith only [List.set_set]
            by_cases h6 : v < 6
            · have d6 : decide ((v : Int) < 6) = true := decide_eq_true (by omega)
              simp_arith only [d6, vl_init, vl_last, vl_f1, vl_u1, List.length_take, List.length_drop]
              refine ⟨by rw [many_val]; omega, by rw [many_val]; omega, ?_⟩
              match v, h6 with
              | 0, _ => simp_arith only [List.getElem?_cons_zero, List.getElem?_cons_succ]; exact fin_s.mpr (h _ _ (bn_one _ okD_lst) (hw2.less (by omega)))
              | 1, _ => simp_arith only [List.getElem?_cons_zero, List.getElem?_cons_succ]; exact fin_s.mpr (h _ _ (bn_tup hc (fun y hy => List.mem_of_mem_take hy) (by rw [List.length_take]; omega)) (hw2.less (by omega)))
              | 2, _ => simp_arith only [List.getElem?_cons_zero, List.getElem?_cons_succ]; exact fin_s.mpr (h _ _ (bn_tup hc (fun y hy => (List.mem_append.mp hy).elim id List.mem_of_mem_drop) (by rw [List.length_append, List.length_drop]; omega)) (hw2.less (by omega)))
              | 3, _ => simp_arith only [List.getElem?_cons_zero, List.getElem?_cons_succ]; exact fin_s.mpr (h _ _ (bn_tup hc (fun y hy => List.mem_reverse.mp hy) (by rw [List.length_reverse]; omega)) (hw2.less (by omega)))
              | 4, _ => simp_arith only [List.getElem?_cons_zero, List.getElem?_cons_succ]; exact fin_s.mpr (h _ _ (bn_tup hc (fun y hy => List.mem_of_mem_drop hy) (by rw [List.length_drop]; omega)) (hw2.less (by omega)))
              | 5, _ => simp_arith only [List.getElem?_cons_zero, List.getElem?_cons_succ]; exact fin_s.mpr (h _ _ (bn_tup hc (fun y hy => (List.mem_append.mp hy).elim List.mem_of_mem_take id) (by rw [List.length_append, List.length_take]; omega)) (hw2.less (by omega)))
            · have d6 : decide ((v : Int) < 6) = false := decide_eq_false (by omega)
              simp_arith only [d6]
              refine odd_ok (k := k + n + 1) (t := t + 1) (hg _) hw2 fun x w3 hx hw3 => ?_
              simp_arith only [List.set_set]
              exact fin_s.mpr (h _ _ (bn_odd hu (by omega) hx) (hw3.less (by omega)))
      | _ => cases ht
end Rf
end

section
set_option maxRecDepth 100000
set_option maxHeartbeats 4000000
set_option autoImplicit false
namespace Rf
open PySem PySem.Spec PyProof.Rows L2
/-! ## tables of anything -/
def tblB : D → Bool
  | .tup (.tup ys :: xs) => decide (xs.length + 1 ≤ 6) && ((decide (1 ≤ ys.length) && decide (ys.length ≤ 6)) && gridB (xs.length + 1) ys.length (.tup (.tup ys :: xs)))
  | _ => false
theorem is_tabled_d {k : Nat} {d : D} {S : Sto} (h : An d) : R (k + 6) 78 [d] S = some (.bl (tblB d), S) := by
  refine R_eq ((R_wp T_is_tabled rfl).mpr ?_)
  cases hd : isiD d .tuple with
  | false =>
    have e : tblB d = false := by cases d <;> first | rfl | cases hd
    simp_arith only [F.is_tabled, fin_wp, hd, e]
  | true =>
    cases d with
    | tup xs =>
      have i1 : (0 : Int) ≤ 6 := by omega
      cases xs with
      | nil =>
        have b0 : (decide ((1 : Int) ≤ ((0 : Nat) : Int)) && decide (((0 : Nat) : Int) ≤ 6)) = false := by decide
        simp_arith only [F.is_tabled, fin_wp, G_2, is_between_ok, b0]
        rfl
      | cons x xs =>
        by_cases h6 : xs.length + 1 ≤ 6
        · have b1 : (decide ((1 : Int) ≤ ((xs.length + 1 : Nat) : Int)) && decide (((xs.length + 1 : Nat) : Int) ≤ 6)) = true := by
            rw [decide_eq_true (by omega), decide_eq_true (by omega)]; rfl
          cases hx : isiD x .tuple with
          | false =>
            have e : tblB (.tup (x :: xs)) = false := by cases x <;> first | rfl | cases hx
            simp_arith only [F.is_tabled, fin_wp, G_2, is_between_ok, b1, hx, e]
          | true =>
            cases x with
            | tup ys =>
              have e : tblB (.tup (.tup ys :: xs)) = (decide (xs.length + 1 ≤ 6) && ((decide (1 ≤ ys.length) && decide (ys.length ≤ 6)) && gridB (xs.length + 1) ys.length (.tup (.tup ys :: xs)))) := rfl
              have b2 : (decide ((1 : Int) ≤ (ys.length : Int)) && decide ((ys.length : Int) ≤ 6)) = (decide (1 ≤ ys.length) && decide (ys.length ≤ 6)) := by congr 1 <;> rw [decide_eq_decide] <;> omega
              have c := fun S => are_rows_d (k := k) (n := xs.length + 1) (w := ys.length) (S := S) h
              rw [e, decide_eq_true h6, Bool.true_and]
              cases hb : (decide (1 ≤ ys.length) && decide (ys.length ≤ 6)) <;> rw [hb] at b2 <;> simp_arith only [F.is_tabled, fin_wp, G_2, is_between_ok, b1, b2, c, Bool.true_and, Bool.false_and]
            | _ => cases hx
        · have b1 : (decide ((1 : Int) ≤ ((xs.length + 1 : Nat) : Int)) && decide (((xs.length + 1 : Nat) : Int) ≤ 6)) = false := by
            rw [decide_eq_false (p := ((xs.length + 1 : Nat) : Int) ≤ 6) (by omega), Bool.and_false]
          have e : tblB (.tup (x :: xs)) = false := by
            cases x with
            | tup ys =>
              show (decide (xs.length + 1 ≤ 6) && _) = false
              rw [decide_eq_false h6, Bool.false_and]
            | _ => rfl
          simp_arith only [F.is_tabled, fin_wp, G_2, is_between_ok, b1, e]
    | _ => cases hd
theorem is_table_d {k : Nat} {d : D} {S : Sto} (h : An d) : R (k + 7) 486 [d] S = some (.bl (tblB d), S) := by
  refine R_eq ((R_wp T_is_table rfl).mpr ?_)
  have c := fun S => is_tabled_d (k := k) (S := S) h
  simp_arith only [F.is_table, fin_wp, c]
theorem ltab_d {k : Nat} {d : D} {S : Sto} (h : An d) : R (k + 5) 192 [d] S = some (.bl (tblB d), S) := by
  refine R_eq ((R_wp T__law_is_whole_table rfl).mpr ?_)
  cases hd : isiD d .tuple with
  | false =>
    have e : tblB d = false := by cases d <;> first | rfl | cases hd
    simp_arith only [F._law_is_whole_table, fin_wp, hd, e]
  | true =>
    cases d with
    | tup xs =>
      cases xs with
      | nil =>
        have b0 : decide ((0 : Int) < ((0 : Nat) : Int)) = false := by decide
        simp_arith only [F._law_is_whole_table, fin_wp, b0]
        rfl
      | cons x xs =>
        have b0 : decide ((0 : Int) < ((xs.length + 1 : Nat) : Int)) = true := decide_eq_true (by omega)
        by_cases h6 : xs.length + 1 ≤ 6
        · have b1 : decide (((xs.length + 1 : Nat) : Int) < 7) = true := decide_eq_true (by omega)
          cases hx : isiD x .tuple with
          | false =>
            have e : tblB (.tup (x :: xs)) = false := by cases x <;> first | rfl | cases hx
            simp_arith only [F._law_is_whole_table, fin_wp, b0, b1, hx, e]
          | true =>
            cases x with
            | tup ys =>
              have e : tblB (.tup (.tup ys :: xs)) = (decide (xs.length + 1 ≤ 6) && ((decide (1 ≤ ys.length) && decide (ys.length ≤ 6)) && gridB (xs.length + 1) ys.length (.tup (.tup ys :: xs)))) := rfl
              have c := fun S => lisgrid_d (k := k) (n := xs.length + 1) (w := ys.length) (S := S) h
              rw [e, decide_eq_true h6, Bool.true_and]
              by_cases y1 : 1 ≤ ys.length
              · have q1 : decide ((0 : Int) < (ys.length : Int)) = true := decide_eq_true (by omega)
                rw [decide_eq_true y1, Bool.true_and]
                by_cases y6 : ys.length ≤ 6
                · have q2 : decide ((ys.length : Int) < 7) = true := decide_eq_true (by omega)
                  rw [decide_eq_true y6, Bool.true_and]
                  simp_arith only [F._law_is_whole_table, fin_wp, b0, b1, q1, q2, c]
                · have q2 : decide ((ys.length : Int) < 7) = false := decide_eq_false (by omega)
                  rw [decide_eq_false y6, Bool.false_and]
                  simp_arith only [F._law_is_whole_table, fin_wp, b0, b1, q1, q2]
              · have q1 : decide ((0 : Int) < (ys.length : Int)) = false := decide_eq_false (by omega)
                rw [decide_eq_false y1, Bool.false_and, Bool.false_and]
                simp_arith only [F._law_is_whole_table, fin_wp, b0, b1, q1]
            | _ => cases hx
        · have b1 : decide (((xs.length + 1 : Nat) : Int) < 7) = false := decide_eq_false (by omega)
          have e : tblB (.tup (x :: xs)) = false := by
            cases x with
            | tup ys =>
              show (decide (xs.length + 1 ≤ 6) && _) = false
              rw [decide_eq_false h6, Bool.false_and]
            | _ => rfl
          simp_arith only [F._law_is_whole_table, fin_wp, b0, b1, e]
    | _ => cases hd
/-! ### what is shown -/
theorem pyDs_bl : ∀ bs : List Bool, pyDs (bs.map D.bl) = some (bs.map PyData.bool)
  | [] => rfl
  | b :: bs => by rw [List.map_cons, pyDs, pyDs_bl bs]; rfl
theorem sh7 : ∀ a b c d e f g : Bool, shOk (.list ([a, b, c, d, e, f, g].map PyData.bool)) = true := by decide +kernel
theorem vr_bools {S : Sto} {a b c d e f g : Bool} {Q : PyData → Prop} (q : Q (.list ([a, b, c, d, e, f, g].map PyData.bool))) : wp (shS S (.lst ([a, b, c, d, e, f, g].map D.bl))) fun p => shOk p = true ∧ Q p := by
  have z : shS S (.lst ([a, b, c, d, e, f, g].map D.bl)) = some (.list ([a, b, c, d, e, f, g].map PyData.bool)) := by
    show (pyDs ([a, b, c, d, e, f, g].map D.bl)).map PyData.list = _
    rw [pyDs_bl, Option.map_some]
  rw [z, wp_some]
  exact ⟨sh7 a b c d e f g, q⟩
/-! ### the rest -/
theorem okD_lz {L e b m : Nat} [Gd L] {r : Rat} (hm : 2 ≤ m) (h : Lz L e b r) (hb : b ≤ 82) (he : 11 * e + 1 ≤ 82) : OkD 0 82 m 1 (fr r) := by
  have z := h.bt (c := 82) hb he
  refine ⟨hm, fun a b e _ => Nat.dvd_zero _, fun x hx => ?_⟩
  simp only [List.mem_cons, List.not_mem_nil, or_false] at hx
  rcases hx with rfl | rfl
  · exact okD_int z.1
  · exact okD_int (by rw [Int.natAbs_natCast]; exact z.2)
theorem okD_any {m n : Nat} {xs : List D} (hl : xs.length ≤ m) (h : ∀ x ∈ xs, OkD 0 82 m n x) : OkD 0 82 m (n + 1) (.tup xs) := ⟨hl, fun _ _ _ _ => Nat.dvd_zero _, h⟩
theorem okD_gz {L e b : Nat} [Gd L] {m : List (List Rat)} (h : Gz L e b m) (hl : m.length ≤ 7) (hw : ∀ r ∈ m, r.length ≤ 7) (hb : b ≤ 82) (he : 11 * e + 1 ≤ 82) : OkD 0 82 7 3 (mat m) :=
  okD_any (by rw [List.length_map]; exact hl) fun x hx => by
    obtain ⟨r, hr, rfl⟩ := List.mem_map.mp hx
    exact okD_any (by rw [List.length_map]; exact hw r hr) fun y hy => by
      obtain ⟨q, hq, rfl⟩ := List.mem_map.mp hy
      exact okD_lz (by omega) (h r hr q hq) hb he
theorem part2_ok {k n w : Nat} {m : List (List Rat)} {rs cs : List Nat} {S : Sto} (hl : m.length = n) (n1 : 1 ≤ n) (h6 : n ≤ 6) (hw : ∀ r ∈ m, r.length = w) (w1 : 1 ≤ w) (w6 : w ≤ 6) (hr : Lot n rs) (hc : Lot w cs) : R (k + 8) 152 [mat m, natsT rs, natsT cs] S = some (mat (partF m rs cs), S) := by
  have l1 := lot_len hr
  have l2 := lot_len hc
  have hr' : Lot m.length rs := by rw [hl]; exact hr
  refine R_eq ((R_wp T_part rfl).mpr ?_)
  simp_arith only [F.part, fin_wp, check_table_ok (k := k) (by omega) (by omega) hw w1 w6, check_lots_ok (k := k + 2) (by omega) hw hr' hc (by omega) (by omega), part_ok (k := k + 6) (m := m) (rs := rs) (cs := cs) (fun i hi => ⟨by rw [hl]; exact hr.1 i hi, fun j hj => by
    rw [gd (by rw [hl]; exact hr.1 i hi), hw _ (List.getElem_mem _)]; exact hc.1 j hj⟩) (by omega) (by omega)]
theorem product2_ok {L k n w v e b f c : Nat} [Gd L] {one two : List (List Rat)} {S : Sto} (h1 : one.length = n) (h2 : two.length = w) (wd1 : ∀ r ∈ one, r.length = w) (wd2 : ∀ r ∈ two, r.length = v) (n1 : 1 ≤ n) (n6 : n ≤ 6) (w1 : 1 ≤ w) (w6 : w ≤ 6) (v1 : 1 ≤ v) (v6 : v ≤ 6)
    (z1 : Gz L f c one) (z2 : Gz L e b two) (hb : b + c + 6 ≤ 4000) (he : 11 * (e + f) + 1 ≤ 4000) : R (k + 8) 177 [mat one, mat two] S = some (mat (mulF one two v), S) := by
  have g1 : (one.getD 0 []).length = w := by rw [gd (show 0 < one.length by omega)]; exact wd1 _ (List.getElem_mem _)
  have g2 : (two.getD 0 []).length = v := by rw [gd (show 0 < two.length by omega)]; exact wd2 _ (List.getElem_mem _)
  have e1 : ∀ (S : Sto) (Q : D → Prop), wp (idxD S (mat one) (.int 0)) Q ↔ Q (row (one.getD 0 [])) := fun S Q => vi_mat (n := 0) (by omega)
  have e2 : ∀ (S : Sto) (Q : D → Prop), wp (idxD S (mat two) (.int 0)) Q ↔ Q (row (two.getD 0 [])) := fun S Q => vi_mat (n := 0) (by omega)
  have c0 := multiplied_ok (k := k + 1) (S := S) (L := L) (e := e) (b := b) (f := f) (c := c) (w := v) (one := one) (two := two) wd2 (by omega) z2 (fun r hr => ⟨by rw [wd1 r hr, h2], z1 r hr⟩) (by omega) (by omega) (by omega) he
  have hne : (decide ((w : Int) = (w : Int))) = true := decide_eq_true rfl
  refine R_eq ((R_wp T_product rfl).mpr ?_)
  simp_arith only [F.product, fin_wp, check_table_ok (k := k) (w := w) (by omega) (by omega) wd1 w1 w6, check_table_ok (k := k) (m := two) (w := v) (by omega) (by omega) wd2 v1 v6, vp_lenMt, e1, e2, vp_lenR, g1, g2, h2, hne, c0]
  rfl
theorem flip_two {m : List (List Rat)} {w : Nat} (hw : ∀ r ∈ m, r.length = w) : flipF (flipF m w) m.length = m := by
  refine List.ext_getElem (by rw [flip_len]) fun i h1 h2 => ?_
  have hr := hw m[i] (List.getElem_mem h2)
  have hi : i < (flipF (flipF m w) m.length).length := h1
  rw [flip_len] at hi
  refine ext_gd (by rw [flip_wid _ (List.getElem_mem h1), flip_len, hr]) fun j hj => ?_
  rw [flip_wid _ (List.getElem_mem h1), flip_len] at hj
  have a1 := flip_gd (m := flipF m w) (w := m.length) (i := i) (j := j) hi (by rw [flip_len]; exact hj)
  have a2 := flip_gd (m := m) (w := w) (i := j) (j := i) hj h2
  have b1 : mxR (flipF (flipF m w) m.length) i j = ((flipF (flipF m w) m.length)[i]).getD j 0 := by
    show ((flipF (flipF m w) m.length).getD i []).getD j 0 = _
    rw [gd h1]
  have b2 : mxR m i j = (m[i]).getD j 0 := by
    show (m.getD i []).getD j 0 = _
    rw [gd h2]
  rw [← b1, ← b2, a1, a2]
theorem right02_ok {k n L : Nat} {S : Sto} {w : List D} {Q : D × Sto → Prop} (hp : Pur S) (hs : S[n]? = some w) (hw : Well 20000 L w) (h : ∀ w' L', Well 0 L' w' → Q (.bl true, S.set n w')) : wp (R (k + 13) 488 [.loc n] S) Q := by
  have hn : n < S.length := (List.getElem?_eq_some_iff.mp hs).1
  have hg : ∀ x : List D, (S.set n x)[n]? = some x := fun x => List.getElem?_set_self hn
  rw [R_wp T__law_right_v34 rfl]
  simp_arith only [F._law_right_v34]
  refine many_ok (k := k + 10) (t := 19999) hs hw fun tl w1 t1 t5 hw1 => ?_
  simp_arith only [List.set_set]
  refine many_ok (k := k + 10) (t := 19998) (hg _) hw1 fun wd w2 d1 d5 hw2 => ?_
  simp_arith only [List.set_set]
  refine any_ok (k := k + 6) (t := 19000) (pur_set hp hw2) (hg _) (hw2.less (by omega)) t1 (by omega) d1 (by omega) fun gr w3 L3 hL3 gl gw gz hw3 => ?_
  simp_arith only [List.set_set]
  refine many_ok (k := k + 10) (t := 18999) (hg _) hw3 fun od w4 o1 o5 hw4 => ?_
  simp_arith only [List.set_set]
  refine any_ok (k := k + 6) (t := 18000) (pur_set hp hw4) (hg _) (hw4.less (by omega)) d1 (by omega) o1 (by omega) fun mo w5 L5 hL5 ml mw mz hw5 => ?_
  simp_arith only [List.set_set]
  refine llot_ok (k := k + 9) (t := 17000) (pur_set hp hw5) (hg _) (hw5.less (by omega)) (by omega) fun lt w6 lt1 hw6 => ?_
  simp_arith only [List.set_set]
  refine llot_ok (k := k + 9) (t := 16000) (pur_set hp hw6) (hg _) (hw6.less (by omega)) (by omega) fun sd w7 sd1 hw7 => ?_
  simp_arith only [List.set_set]
  refine draw_ok (m := 2) (k := k + 11) (t := 15999) (hg _) (hw7.less (by omega)) (by omega) (by omega) fun x1 w8 hx1 hw8 => ?_
  simp_arith only [List.set_set]
  refine draw_ok (m := 3) (k := k + 11) (t := 15998) (hg _) hw8 (by omega) (by omega) fun x2 w9 hx2 hw9 => ?_
  have ex : ∃ v : Nat, v ≤ 7 ∧ [D.int 1, D.int 6, D.int 7][x2]? = some (.int (v : Int)) := by
    match x2, hx2 with
    | 0, _ => exact ⟨1, by omega, rfl⟩
    | 1, _ => exact ⟨6, by omega, rfl⟩
    | 2, _ => exact ⟨7, by omega, rfl⟩
  obtain ⟨v, hv, ev⟩ := ex
  have e6 : (6 : Int) + (x1 : Int) = ((6 + x1 : Nat) : Int) := by omega
  simp_arith only [List.set_set, ev, e6]
  have hvx : 3 * v * (6 + x1) ≤ 3 * 7 * 7 := Nat.mul_le_mul (by omega) (by omega)
  refine lines_ok (k := k + 8) (m := 6 + x1) (v := v) (t := 15000) (pur_set hp hw9) (hg _) (hw9.less (by omega)) (by omega) (by omega) fun fa wa La hLa fl fw hwa => ?_
  have hgd := hwa.gd
  have g3 := hw3.gd
  have g5 := hw5.gd
  have ok1 : OkD 0 82 7 3 (mat gr) := okD_gz gz (by omega) (fun r hr => by rw [gw r hr]; omega) (by omega) (by omega)
  have ok2 : OkD 0 82 7 3 (mat mo) := okD_gz mz (by omega) (fun r hr => by rw [mw r hr]; omega) (by omega) (by omega)
  have ok3 : OkD 0 82 7 3 (mat fa) := okD_gz (dr_gz fun r hr x hx => (fw r hr).2 x hx) (by omega) (fun r hr => by rw [(fw r hr).1]; omega) (by omega) (by omega)
  have ok4 : OkD 0 82 7 4 (.tup [mat gr, mat mo]) := okD_any (by simp) fun x hx => by
    simp only [List.mem_cons, List.not_mem_nil, or_false] at hx
    rcases hx with rfl | rfl
    · exact ok1
    · exact ok2
  simp_arith only [List.set_set]
  refine bent_ok (k := k + 5) (n := 3) (t := 14000) (by omega) (by omega) (by omega) (by omega) ok1 (hg _) (hwa.less (by omega)) fun b1 wb hb1 hwb => ?_
  obtain ⟨q1, q2, q3, q4⟩ := hb1
  rw [Nat.zero_mul] at q4
  simp_arith only [List.set_set]
  refine bent_ok (k := k + 2) (n := 6) (t := 13000) (by omega) (by omega) (by omega) (by omega) q4 (hg _) (hwb.less (by omega)) fun b2 wc hb2 hwc => ?_
  obtain ⟨r1, r2, r3, r4⟩ := hb2
  rw [Nat.zero_mul] at r4
  simp_arith only [List.set_set]
  refine odd_ok (k := k + 9) (t := 12000) (hg _) (hwc.less (by omega)) fun od1 we hod hwe => ?_
  simp_arith only [List.set_set]
  refine bent_ok (k := k + 4) (n := 4) (t := 11000) (by omega) (by omega) (by omega) (by omega) ok4 (hg _) (hwe.less (by omega)) fun b3 wf hb3 hwf => ?_
  obtain ⟨s1, s2, s3, s4⟩ := hb3
  have a1 := ok1.an (by omega) (by omega)
  have a2 := ok2.an (by omega) (by omega)
  have a3 := ok3.an (by omega) (by omega)
  have a4 : An b1 := q4.an (by omega) (by omega)
  have a5 : An b2 := r4.an (by omega) (by omega)
  have a6 : An od1 := hod.an (by omega) (by omega)
  have a7 : An b3 := s4.an (by omega) (by omega)
  have all : ∀ x ∈ [mat gr, mat mo, mat fa, b1, b2, od1, b3], An x := fun x hx => by
    simp only [List.mem_cons, List.not_mem_nil, or_false] at hx
    rcases hx with rfl | rfl | rfl | rfl | rfl | rfl | rfl <;> assumption
  have k7 : [mat gr, mat mo, mat fa, b1, b2, od1, b3].length ≤ many := by rw [many_val]; simp
  have k7' : (0 + 1 + 1 + 1 + 1 + 1 + 1 + 1 : Nat) ≤ many := by rw [many_val]; omega
  simp_arith only [List.set_set, k7', true_and]
  refine wc_map (items := [mat gr, mat mo, mat fa, b1, b2, od1, b3]) (fun x => .bl (tblB x)) still_nil (fun x hx => ?_) ?_
  · have c := is_table_d (k := k + 5) (S := S.set n wf) (all x hx)
    simp_arith only [c]
  have em : [mat gr, mat mo, mat fa, b1, b2, od1, b3].map (fun x => D.bl (tblB x)) = [tblB (mat gr), tblB (mat mo), tblB (mat fa), tblB b1, tblB b2, tblB od1, tblB b3].map D.bl := rfl
  rw [em]
  dsimp only
  refine vr_bools ?_
  simp_arith only [k7', true_and]
  refine wc_map (items := [mat gr, mat mo, mat fa, b1, b2, od1, b3]) (fun x => .bl (tblB x)) still_nil (fun x hx => ?_) ?_
  · have c := ltab_d (k := k + 7) (S := S.set n wf) (all x hx)
    simp_arith only [c]
  rw [em]
  dsimp only
  refine vr_bools ?_
  have hgz : Gz L5 2 94 gr := gz_upL g3 g5 hL5 gz
  have hps : Pur (S.set n wf) := pur_set hp hwf
  have sdl := lot_len sd1
  have ltl := lot_len lt1
  have c1 := part2_ok (k := k + 4) (S := S.set n wf) gl t1 (by omega) gw d1 (by omega) lt1 sd1
  have c2 := product2_ok (k := k + 4) (S := S.set n wf) gl ml gw mw t1 (by omega) d1 (by omega) o1 (by omega) hgz mz (by omega) (by omega)
  have c3 := lpiece_ok (k := k + 11) (S := S.set n wf) (m := gr) (rs := lt) (cs := sd) (fun i hi => ⟨by rw [gl]; exact lt1.1 i hi, fun j hj => by
    rw [gd (by rw [gl]; exact lt1.1 i hi), gw _ (List.getElem_mem _)]; exact sd1.1 j hj⟩) (by omega) (by omega)
  have c4 := lmul_gz (k := k + 9) (S := S.set n wf) hgz mz (by omega) mw gw (by omega) (by omega) (by omega) (by omega) (by omega) (by omega) (by omega) (by omega)
  have c5 := turned_ok (k := k + 4) (S := S.set n wf) (by omega) (by omega) gw d1 (by omega)
  have c6 := turned_ok (k := k + 4) (S := S.set n wf) (m := flipF gr wd) (w := tl) (by rw [flip_len]; omega) (by rw [flip_len]; omega) (fun r hr => by rw [flip_wid r hr, gl]) t1 (by omega)
  have c7 := lflip_ok (k := k + 11) (S := S.set n wf) (by omega) gw (by omega) (by omega)
  have ff : flipF (flipF gr wd) tl = gr := by have z := flip_two gw; rw [gl] at z; exact z
  rw [ff] at c6
  have s1 : sm 5 (.tup [mat (partF gr lt sd), mat (partF gr lt sd), mat (mulF gr mo od)]) = true := by
    have y1 : sm 4 (mat (partF gr lt sd)) = true := sm_mat (k := 0) (by rw [part_len]; omega) fun r hr => by rw [part_wid r hr]; omega
    have y2 : sm 4 (mat (mulF gr mo od)) = true := sm_mat (k := 0) (by rw [mul_len]; omega) fun r hr => by rw [mul_wid r hr]; omega
    show (decide (3 ≤ 1000) && [mat (partF gr lt sd), mat (partF gr lt sd), mat (mulF gr mo od)].all (sm 4)) = true
    simp only [List.all_cons, List.all_nil, y1, y2]
    rfl
  have s2 : sm 5 (.tup [mat (mulF gr mo od), mat (flipF gr wd), mat gr]) = true := by
    have y1 : sm 4 (mat (flipF gr wd)) = true := sm_mat (k := 0) (by rw [flip_len]; omega) fun r hr => by rw [flip_wid r hr]; omega
    have y2 : sm 4 (mat (mulF gr mo od)) = true := sm_mat (k := 0) (by rw [mul_len]; omega) fun r hr => by rw [mul_wid r hr]; omega
    have y3 : sm 4 (mat gr) = true := sm_mat (k := 0) (by omega) fun r hr => by rw [gw r hr]; omega
    show (decide (3 ≤ 1000) && [mat (mulF gr mo od), mat (flipF gr wd), mat gr].all (sm 4)) = true
    simp only [List.all_cons, List.all_nil, y1, y2, y3]
    rfl
  have e1 := same_ok (k := k + 6) (S := S.set n wf) s1
  have e2 := same_ok (k := k + 6) (S := S.set n wf) s2
  have e3 := same_ok (k := k + 10) (j := 1) (d := .bl (tblB (mat fa))) (S := S.set n wf) rfl
  have f1 := is_table_d (k := k + 5) (S := S.set n wf) a3
  have f2 := ltab_d (k := k + 7) (S := S.set n wf) a3
  have rp : ∀ x : D, (List.replicate (Int.toNat 2) [x]).flatten = [x, x] := fun x => rfl
  have k0 : (0 : Int) ≤ 2 ∧ (2 : Int) ≤ 1000 ∧ 0 < 0 + 1 ∧ 0 + 1 ≤ 1000 := by omega
  have k4 : 0 + 1 + 1 + (0 + 1) ≤ many := by rw [many_val]; omega
  simp_arith only [eq_self, decide_true, pick, List.filterMap_cons, List.filterMap_nil, List.append_nil, c1, c2, c3, c4, c5, c6, c7, vo_rep, rp, k0, k4, true_and, e1, e2, e3, f1, f2]
  exact fin_s.mpr (h wf La (hwf.less (by omega)))
theorem law_wp {k : Nat} {ns : List Int} {Q : D × Sto → Prop} (h : ∀ S', Q (.bl true, S')) : wp (R (k + 14) 489 [.fro (ns.map .int)] []) Q := by
  rw [R_wp T_law_v34 rfl]
  have hmin : ∃ N : Nat, N ≤ 3 ∧ (if (if (3 : Int) < (ns.length : Int) then (3 : Int) else (ns.length : Int)) > 2 then (if (3 : Int) < (ns.length : Int) then (3 : Int) else (ns.length : Int)) else 2) = (N : Int) := by
    by_cases c : (3 : Int) < (ns.length : Int)
    · exact ⟨3, by omega, by rw [if_pos c, if_pos (by omega)]; rfl⟩
    · by_cases c2 : (ns.length : Int) > 2
      · exact ⟨ns.length, by omega, by rw [if_neg c, if_pos c2]⟩
      · exact ⟨2, by omega, by rw [if_neg c, if_neg c2]; rfl⟩
  obtain ⟨N, hN, eN⟩ := hmin
  have h1 : N ≤ 1000000 := by omega
  have h2 : N ≤ many := by rw [many_val]; omega
  simp_arith only [F.law_v34, List.length_map, eN, h1, h2, List.length_range, true_and]
  refine wc_inv [] (fun items acc S' => Pur S' ∧ ∃ (q : List Nat) (bs : List Bool), items = q.map (fun i : Nat => D.int (i : Int)) ∧ acc = bs.map .bl ∧ (∀ b ∈ bs, b = true) ∧ ∀ i ∈ q, i ≤ 1000) ⟨(fun xs hx => by cases hx), List.range N, [], rfl, rfl, (fun b hb => by cases hb), fun i hi => by have := List.mem_range.mp hi; omega⟩ ?_ ?_
  · rintro x r acc S' ⟨hp, q, bs, e1, rfl, hb, hq⟩
    cases q with
    | nil => cases e1
    | cons i q =>
      cases e1
      simp_arith only [wp_some]
      refine well_ok (k := k + 12) (hq i List.mem_cons_self) fun w hw => ?_
      have hp2 : Pur (S' ++ [w]) := hp.app hw.pure
      refine right02_ok (k := k) hp2 get_last (hw.less (by omega)) fun w' L' hw' => ?_
      simp only [set_last]
      exact ⟨still_nil, hp.app hw'.pure, q, bs ++ [true], rfl, by rw [List.map_append]; rfl, fun b hb2 => by
        rcases List.mem_append.mp hb2 with hb2 | hb2
        · exact hb b hb2
        · rw [List.mem_singleton.mp hb2], fun j hj => hq j (List.mem_cons_of_mem _ hj)⟩
  · rintro ys S' ⟨hp, q, bs, e1, e2, hb, hq⟩
    rw [List.nil_append] at e2
    subst e2
    have ea : (bs.all id) = true := by rw [List.all_eq_true]; intro b hb2; exact hb b hb2
    simp_arith only [ea]
    have : fin false 0 (.bl true) S' = some (.bl true, []) := fin_pur (S0 := []) rfl (fun xs hx => by cases hx) rfl (by simp)
    rw [this, wp_some]
    exact h _
theorem law_run : ∀ ns : List Int, ns.length ≤ 63 → ∃ S', runF prg.G prg.tab.fns W 40 489 [.fro (ns.map .int)] [] = some (.bl true, S') := fun ns _ => by
  obtain ⟨p, e, hq⟩ := law_wp (k := 26) (ns := ns) (Q := fun p => p.1 = .bl true) fun S' => rfl
  obtain ⟨d, S'⟩ := p
  cases (show d = .bl true from hq)
  exact ⟨S', e⟩
end Rf
end

set_option maxRecDepth 100000
set_option maxHeartbeats 0
open PySem PySem.W PySem.Calls PyProof.Rows
theorem PySem.Challenge.cw_cornerranks_k02_tables_of_anything_holds : PySem.Challenge.rw_cornerranks_k02_tables_of_anything.Holds := by
  w_on; o_law
  refine HandSHeadRun.head_imp (r := OpenLaw.row PySem.Challenge.rw_cornerranks_k02_tables_of_anything) (q := view (OpenLaw.row PySem.Challenge.rw_cornerranks_k02_tables_of_anything).prog [0, 64]) (H := Hd.hk) (ob := Hd.ob) (M := 60000) (loose := Hd.loose) (d := HandSHeadRun.topDef (OpenLaw.row PySem.Challenge.rw_cornerranks_k02_tables_of_anything).prog 64) (kwd := []) Hd.ob_eq
    Hd.run (by kernel_rfl) (by kernel_rfl) (by kernel_rfl) (by rfl) (by first | assumption | decide +kernel) (by decide +kernel) ⟨rfl, rfl, rfl, rfl, rfl, by decide +kernel⟩ ?hw ?hc
  case hw => w_witness2
  case hc =>
    refine Rf.walk_tabG (l := PySem.Challenge.rw_cornerranks_k02_tables_of_anything) (n := 63) (k := 3 * 40) (x := "script") rfl (by decide) (by kernel_rfl) ⟨rfl, by decide, by decide⟩ ?F
    intro w mg fa h Y G hmg0
    obtain ⟨K, KX, c⟩ := Y
    have hmg : mg ("law" : PySem.Str) = some (.ref fa) := by
      have e : (HandSHeadRun.topDef (OpenLaw.row PySem.Challenge.rw_cornerranks_k02_tables_of_anything).prog 64).name = ("law" : PySem.Str) := by kernel_rfl
      rw [← e]
      exact hmg0
    have c' : He.SaysD (Rf.faOf Rf.prg.names Rf.prg.exc) (Rf.fnOf Rf.top Rf.prg.names) K := by
      rw [Rf.names_eq, Rf.exc_eq]
      exact congrArg (fun z : He.AlT => z.1) c.t
    have ce : Rf.exOf Rf.prg.globs Rf.prg.tf K = true := by rw [Rf.tf_eq]; exact c.more
    have pg := Rf.pg_of KX G c' ce (by rw [Rf.tf_eq]; exact c.hd) Rf.told_ok Rf.told_bind Rf.ids_ok Rf.rows_ok
    exact ⟨K, KX, Rf.law_atG KX c (Rf.exOf_ok c.more).2.1 rfl (Rf.law_ofG (P := (PySem.Challenge.rw_cornerranks_k02_tables_of_anything).prog) (w := w) (k := 40) (W := Rf.W) (n := 63) pg (f := 489) (fn := Rf.F.law_v34) (x := "script") Rf.T_law_v34 rfl rfl hmg Rf.law_run)⟩
