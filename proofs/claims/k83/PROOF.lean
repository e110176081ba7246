import PyProof.Rows.All
import Wide.All
import OpenK.AllK
import Wide.FinOn
import HandS.ForMost
import HandS.Deep
import HandS.Strs
import HandS.Wide
import HandS.Gcd
import HandS.IsInst
import HandS.Style
import HandS.Flow
import KE.KSetDisp
import HandS.Defaults
import PySem.Challenge.RW_oddkeep_k83_whole_stakes_are_secured
import HandS.Head0
import HandS.Head1
import HandS.Head2
import HandS.Head3
import HandS.HeadEnd
import HandS.HeadHook1
import HandS.HeadHook2
set_option Elab.async false
set_option linter.all false
set_option maxRecDepth 100000
set_option maxHeartbeats 0
/-! the head: the module's facts -/
namespace Odd
open PySem PySem.Spec PyProof.Rows L2
def top (i : Nat) : Stmt := PySem.Challenge.pw_oddkeep_k83_whole_stakes_are_secured.main.body.getD i (.Pass ⟨0, 0, 0, 0⟩)
def mkD (x : Str) (i : Nat) : He.DefD := ⟨(x, none), x, x, defArgs (top i), defBody (top i), defScope (top i), [], []⟩
def hfn : List He.DefD := [mkD "number" 7,
  mkD "compare" 8,
  mkD "plus" 9,
  mkD "minus" 10,
  mkD "times" 11,
  mkD "divided" 12,
  mkD "targets" 14,
  mkD "copy_of" 15,
  mkD "with_strategy" 16,
  mkD "reached" 17,
  mkD "always_ends" 19,
  mkD "scaled" 21,
  mkD "without" 22,
  mkD "reduced" 23,
  mkD "solution_of" 24,
  mkD "only_solution" 25,
  mkD "branches" 27,
  mkD "all_reached" 28,
  mkD "means" 29,
  mkD "closed_classes" 30,
  mkD "expected" 31,
  mkD "expected_rewards" 32,
  mkD "greatest" 34,
  mkD "least" 35,
  mkD "check_ending" 37,
  mkD "followed" 38,
  mkD "first_strategy" 39,
  mkD "improved_by" 40,
  mkD "answer_to" 41,
  mkD "stakes_paper" 42,
  mkD "stakes" 43,
  mkD "_law_draw" 45,
  mkD "_law_number" 46,
  mkD "_law_plus" 47,
  mkD "_law_times" 48,
  mkD "_law_minus" 49,
  mkD "_law_less" 50,
  mkD "_law_dot" 51,
  mkD "_law_is_number" 52,
  mkD "_law_are_numbers" 53,
  mkD "_law_shares" 54,
  mkD "_law_place" 55,
  mkD "_law_game" 56,
  mkD "_law_targets" 57,
  mkD "_law_step" 58,
  mkD "_law_divided" 59,
  mkD "_law_solved" 60,
  mkD "_law_row" 61,
  mkD "_law_ending_place" 62,
  mkD "_law_ending_game" 63,
  mkD "_law_always_ends" 64,
  mkD "_law_strategy" 65,
  mkD "_law_put_in" 66,
  mkD "_law_expected" 67,
  mkD "_law_dues" 68,
  mkD "_law_is_strategy" 69,
  mkD "_law_are_upper" 70,
  mkD "_law_are_lower" 71,
  mkD "_law_is_paper" 72,
  mkD "law" 73]
def hfa : List He.Fa := [.glo "number",
  .glo "compare",
  .glo "plus",
  .glo "minus",
  .glo "times",
  .glo "divided",
  .glo "targets",
  .glo "copy_of",
  .glo "with_strategy",
  .glo "reached",
  .glo "always_ends",
  .glo "scaled",
  .glo "without",
  .glo "reduced",
  .glo "solution_of",
  .glo "only_solution",
  .glo "branches",
  .glo "all_reached",
  .glo "means",
  .glo "closed_classes",
  .glo "expected",
  .glo "expected_rewards",
  .glo "greatest",
  .glo "least",
  .glo "check_ending",
  .glo "followed",
  .glo "first_strategy",
  .glo "improved_by",
  .glo "answer_to",
  .glo "stakes_paper",
  .glo "stakes",
  .glo "_law_draw",
  .glo "_law_number",
  .glo "_law_plus",
  .glo "_law_times",
  .glo "_law_minus",
  .glo "_law_less",
  .glo "_law_dot",
  .glo "_law_is_number",
  .glo "_law_are_numbers",
  .glo "_law_shares",
  .glo "_law_place",
  .glo "_law_game",
  .glo "_law_targets",
  .glo "_law_step",
  .glo "_law_divided",
  .glo "_law_solved",
  .glo "_law_row",
  .glo "_law_ending_place",
  .glo "_law_ending_game",
  .glo "_law_always_ends",
  .glo "_law_strategy",
  .glo "_law_put_in",
  .glo "_law_expected",
  .glo "_law_dues",
  .glo "_law_is_strategy",
  .glo "_law_are_upper",
  .glo "_law_are_lower",
  .glo "_law_is_paper",
  .glo "law",
  .glo "NOUGHT",
  .glo "ONE",
  .free "int",
  .free "list",
  .free "len",
  .free "any",
  .free "all",
  .free "enumerate",
  .free "zip",
  .free "range",
  .free "sorted",
  .free "abs",
  .free "isinstance",
  .free "sum",
  .free "repr",
  .free "tuple",
  .free "bool"]
def loose0 : List PySem.Str := ["OddsError", "NotEnding", "NOUGHT", "ONE", "number", "compare", "plus", "minus", "times", "divided", "targets", "copy_of", "with_strategy", "reached", "always_ends", "scaled", "without", "reduced", "solution_of", "only_solution"]
def loose1 : List PySem.Str := ["branches", "all_reached", "means", "closed_classes", "expected", "expected_rewards", "greatest", "least", "check_ending", "followed", "first_strategy", "improved_by", "answer_to", "stakes_paper", "stakes", "_law_draw", "_law_number", "_law_plus", "_law_times", "_law_minus"]
def loose2 : List PySem.Str := ["_law_less", "_law_dot", "_law_is_number", "_law_are_numbers", "_law_shares", "_law_place", "_law_game", "_law_targets", "_law_step", "_law_divided", "_law_solved", "_law_row", "_law_ending_place", "_law_ending_game", "_law_always_ends", "_law_strategy", "_law_put_in", "_law_expected", "_law_dues", "_law_is_strategy"]
def loose3 : List PySem.Str := ["_law_are_upper", "_law_are_lower", "_law_is_paper"]
def loose : List PySem.Str := loose0 ++ loose1 ++ loose2 ++ loose3
def exB (K : PySem.W.Frag) : Bool := He.tupB K "NOUGHT" [.int 0, .int 1] && (He.tupB K "ONE" [.int 1, .int 1] && He.eqO (PySem.W.nsIn K mainGlobals "gcd") (some (some (.builtin "math.gcd"))))
def obO (g : Addr → Option Obj) : He.AlD × Bool := (He.obsDG 4 hfa hfn g, exB (He.frG g (He.asD g 4)))
def hkO : PySem.W.Hook where
  α := He.AlD × Bool
  obs := fun s => obO s.heap.get?
  val := fun _ => (He.valD hfn, true)
  says := fun _ h => ∃ K : PySem.W.Frag, K.In h ∧ He.SaysD hfa hfn K ∧ exB K = true
  of := fun _ _ e => ⟨_, He.frG_in, congrArg Prod.fst e, congrArg Prod.snd e⟩
  keeps := fun _ _ _ ⟨K, hK, c⟩ k => ⟨K, PySem.W.Frag.In.keeps hK k, c⟩
abbrev RR : PySem.W.OpenRow := PySem.W.OpenLaw.row PySem.Challenge.rw_oddkeep_k83_whole_stakes_are_secured
def obT (s : PySem.W.SharedT) : He.AlD × Bool := obO (HandSHeadRun.getT s)
theorem obT_eq (s : PySem.W.SharedT) : obT s = hkO.obs s.abs := by
  have e : HandSHeadRun.getT s = s.abs.heap.get? := funext (HandSHeadRun.getT_eq s)
  unfold obT
  rw [e]; rfl
theorem runO (w : World) : HandSHeadRun.RunEqI RR (PySem.W.view RR.prog [0, 73]) hkO obT 4000 loose w := by
  unfold HandSHeadRun.RunEqI
  kernel_rfl
end Odd
set_option Elab.async false
set_option linter.all false
set_option maxRecDepth 100000
set_option maxHeartbeats 4000000
/-! A small logic over plain data: slots that hold data, expressions that give data, statements that carry slots to slots. -/
namespace Odd
open PySem L2
abbrev St := L2.St

/-! ### heaps -/
def Exs (F H : Hp) : Prop := ∀ a o, F a = some o → H a = some o
theorem Exs.refl (F : Hp) : Exs F F := fun _ _ h => h
theorem Exs.trans {F G H : Hp} (a : Exs F G) (b : Exs G H) : Exs F H := fun x o h => b x o (a x o h)
theorem Exs.none {F H : Hp} (e : Exs F H) {a : Addr} (h : H a = .none) : F a = .none := by
  cases q : F a with
  | none => rfl
  | some o => rw [e a o q] at h; cases h
theorem Exs.newR {F H : Hp} (e : Exs F H) {p : Addr} {o : HO} (h : F p = .none) : Exs F (upd H p o) := fun a u q => by
  rw [upd_ne (ne_of_none q h)]; exact e a u q
theorem Exs.new {F : Hp} {p : Addr} {o : HO} (h : F p = .none) : Exs F (upd F p o) := (Exs.refl F).newR h
theorem Exs.both {F H : Hp} (e : Exs F H) {p : Addr} {o : HO} : Exs (upd F p o) (upd H p o) := fun a u q => by
  by_cases hp : a = p
  · subst hp; rw [upd_same] at q ⊢; exact q
  · rw [upd_ne hp] at q ⊢; exact e a u q
theorem Exs.left {F H : Hp} (e : Exs F H) {p : Addr} {o : HO} (h : H p = some o) : Exs (upd F p o) H := fun a u q => by
  by_cases hp : a = p
  · subst hp; rw [upd_same] at q; rw [h]; exact q
  · rw [upd_ne hp] at q; exact e a u q

section
variable {K : PySem.W.Frag} {F H : Hp}
theorem rd_mono (e : Exs F H) {a : Addr} {u : HO} (h : Rd F a u) : Rd H a u := by
  rcases h with h | ⟨o, h⟩
  · exact .inl (e _ _ h)
  · exact .inr ⟨o, e _ _ h⟩
theorem sql_mono (e : Exs F H) {a : Addr} {xs : List V} (h : SqL K F a xs) : SqL K H a xs := by
  rcases h with h | h
  · exact .inl (rd_mono e h)
  · exact .inr h
theorem sqt_mono (e : Exs F H) {a : Addr} {xs : List V} (h : SqT K F a xs) : SqT K H a xs := by
  rcases h with h | h
  · exact .inl (rd_mono e h)
  · exact .inr h
mutual
theorem dp_mono (e : Exs F H) : ∀ {v : V} {d : PyData}, Dp K F v d → Dp K H v d
  | _, _, .non => .non
  | _, _, .bl b => .bl b
  | _, _, .int i => .int i
  | _, _, .str x => .str x
  | _, _, .lst s a => .lst (sql_mono e s) (dpa_mono e a)
  | _, _, .tup s a => .tup (sqt_mono e s) (dpa_mono e a)
theorem dpa_mono (e : Exs F H) : ∀ {vs : List V} {ds : List PyData}, DpAll K F vs ds → DpAll K H vs ds
  | _, _, .nil => .nil
  | _, _, .cons a b => .cons (dp_mono e a) (dpa_mono e b)
end
theorem dp_int {v : V} {i : Int} (h : Dp K F v (.int i)) : v = .int i := by cases h; rfl
theorem dp_bool {v : V} {i : Bool} (h : Dp K F v (.bool i)) : v = .bl i := by cases h; rfl
theorem dp_str {v : V} {i : Str} (h : Dp K F v (.str i)) : v = .str i := by cases h; rfl
theorem dp_none {v : V} (h : Dp K F v .none) : v = .non := by cases h; rfl
theorem dp_list {v : V} {ds : List PyData} (h : Dp K F v (.list ds)) : ∃ a vs, v = .ref a ∧ SqL K F a vs ∧ DpAll K F vs ds := by
  cases h with
  | lst s a => exact ⟨_, _, rfl, s, a⟩
theorem dp_tup {v : V} {ds : List PyData} (h : Dp K F v (.tuple ds)) : ∃ a vs, v = .ref a ∧ SqT K F a vs ∧ DpAll K F vs ds := by
  cases h with
  | tup s a => exact ⟨_, _, rfl, s, a⟩
theorem dpa_len : ∀ {vs : List V} {ds : List PyData}, DpAll K F vs ds → vs.length = ds.length
  | _, _, .nil => rfl
  | _, _, .cons _ b => by rw [List.length_cons, List.length_cons, dpa_len b]
theorem dpa_get : ∀ {vs : List V} {ds : List PyData} {i : Nat} {d : PyData}, DpAll K F vs ds → ds[i]? = some d → ∃ v, vs[i]? = some v ∧ Dp K F v d
  | _, _, _, _, .nil, h => by simp at h
  | _, _, 0, _, .cons a _, h => by simp at h; subst h; exact ⟨_, rfl, a⟩
  | _, _, i + 1, _, .cons _ b, h => by simpa using dpa_get (i := i) b (by simpa using h)
theorem dpa_get' : ∀ {vs : List V} {ds : List PyData} {i : Nat} {v : V}, DpAll K F vs ds → vs[i]? = some v → ∃ d, ds[i]? = some d ∧ Dp K F v d
  | _, _, _, _, .nil, h => by simp at h
  | _, _, 0, _, .cons a _, h => by simp at h; subst h; exact ⟨_, rfl, a⟩
  | _, _, i + 1, _, .cons _ b, h => by simpa using dpa_get' (i := i) b (by simpa using h)
theorem dpa_app : ∀ {vs ws : List V} {ds es : List PyData}, DpAll K F vs ds → DpAll K F ws es → DpAll K F (vs ++ ws) (ds ++ es)
  | _, _, _, _, .nil, h => h
  | _, _, _, _, .cons a b, h => .cons a (dpa_app b h)
theorem dpa_set {w : V} {e : PyData} (he : Dp K F w e) : ∀ {vs : List V} {ds : List PyData} (i : Nat), DpAll K F vs ds → DpAll K F (vs.set i w) (ds.set i e)
  | _, _, _, .nil => .nil
  | _, _, 0, .cons _ b => .cons he b
  | _, _, i + 1, .cons a b => .cons a (dpa_set he i b)
theorem dpa_take : ∀ {vs : List V} {ds : List PyData} (n : Nat), DpAll K F vs ds → DpAll K F (vs.take n) (ds.take n)
  | _, _, 0, _ => .nil
  | _, _, n + 1, .nil => .nil
  | _, _, n + 1, .cons a b => .cons a (dpa_take n b)
theorem dpa_drop : ∀ {vs : List V} {ds : List PyData} (n : Nat), DpAll K F vs ds → DpAll K F (vs.drop n) (ds.drop n)
  | _, _, 0, h => h
  | _, _, n + 1, .nil => .nil
  | _, _, n + 1, .cons _ b => dpa_drop n b
theorem dpa_dropLast {vs : List V} {ds : List PyData} (h : DpAll K F vs ds) : DpAll K F vs.dropLast ds.dropLast := by
  rw [List.dropLast_eq_take, List.dropLast_eq_take, dpa_len h]; exact dpa_take _ h
theorem dpa_ints : ∀ {vs : List V} {ns : List Int}, DpAll K F vs (ns.map PyData.int) → vs = ns.map V.int
  | _, [], .nil => rfl
  | _, n :: ns, .cons a b => by rw [dp_int a, dpa_ints b]; rfl
theorem dpa_of_ints : ∀ (ns : List Int), DpAll K F (ns.map V.int) (ns.map PyData.int)
  | [] => .nil
  | n :: ns => .cons (.int n) (dpa_of_ints ns)
theorem dpa_bools : ∀ {vs : List V} {ns : List Bool}, DpAll K F vs (ns.map PyData.bool) → vs = ns.map V.bl
  | _, [], .nil => rfl
  | _, n :: ns, .cons a b => by rw [dp_bool a, dpa_bools b]; rfl
theorem dpa_cons {vs : List V} {d : PyData} {ds : List PyData} (h : DpAll K F vs (d :: ds)) : ∃ v ws, vs = v :: ws ∧ Dp K F v d ∧ DpAll K F ws ds := by
  cases h with
  | cons a b => exact ⟨_, _, rfl, a, b⟩
theorem dpa_nil {vs : List V} (h : DpAll K F vs []) : vs = [] := by cases h; rfl
end

/-! ### effects: which addresses a call may change, and what holds of them between -/
structure Fx where
  K : PySem.W.Frag
  S : Addr → Prop
  I : Hp → Prop
  st : ∀ H H' : Hp, (∀ b, S b → H' b = H b) → I H → I H'
  ex : ∀ (H : Hp) (b : Addr), I H → S b → H b ≠ none
abbrev Fx.pure (K : PySem.W.Frag) : Fx := ⟨K, fun _ => False, fun _ => True, fun _ _ _ h => h, fun _ _ _ h => h.elim⟩

structure Ok (X : Fx) (F H : Hp) : Prop where
  up : Exs F H
  inv : X.I H
  out : ∀ b, X.S b → F b = none
theorem Ok.noS {X : Fx} {F H : Hp} (o : Ok X F H) {p : Addr} (h : H p = none) : ¬ X.S p := fun s => X.ex H p o.inv s h

structure Step (X : Fx) (F H F' H' : Hp) : Prop where
  up : Exs F F'
  ok : Ok X F' H'
  go : ∀ b o, ¬ X.S b → H b = some o → H' b = some o
  nw : ∀ b, F b = none → H b ≠ none → F' b = none
theorem Step.refl {X : Fx} {F H : Hp} (o : Ok X F H) : Step X F H F H := ⟨Exs.refl F, o, fun _ _ _ h => h, fun _ h _ => h⟩
theorem Step.stay {X : Fx} {F H F' H' : Hp} (s : Step X F H F' H') {b : Addr} (h : H b ≠ none) : H' b ≠ none := by
  by_cases hs : X.S b
  · exact X.ex H' b s.ok.inv hs
  · cases q : H b with
    | none => exact absurd q h
    | some o => rw [s.go b o hs q]; exact fun z => nomatch z
theorem Step.fresh {X : Fx} {F H F' H' : Hp} (s : Step X F H F' H') {b : Addr} (h : H' b = none) : H b = none := by
  cases q : H b with
  | none => rfl
  | some o => exact absurd h (s.stay (by rw [q]; exact fun z => nomatch z))
theorem Step.trans {X : Fx} {F H F1 H1 F2 H2 : Hp} (a : Step X F H F1 H1) (b : Step X F1 H1 F2 H2) : Step X F H F2 H2 :=
  ⟨a.up.trans b.up, b.ok, fun c o n h => b.go c o n (a.go c o n h), fun c h1 h2 => b.nw c (a.nw c h1 h2) (a.stay h2)⟩
/-- a new object, fixed from now on -/
theorem Step.new {X : Fx} {F H : Hp} (o : Ok X F H) {p : Addr} {u : HO} (hp : H p = none) : Step X F H (upd F p u) (upd H p u) where
  up := Exs.new (o.up.none hp)
  ok := ⟨o.up.both, X.st H _ (fun b s => upd_ne fun e => o.noS hp (e ▸ s)) o.inv, fun b s => by
    have : b ≠ p := fun e => o.noS hp (e ▸ s)
    rw [upd_ne this]; exact o.out b s⟩
  go := fun b u n h => by rw [upd_ne (ne_of_none h hp)]; exact h
  nw := fun b h1 h2 => by
    have : b ≠ p := fun e => h2 (e ▸ hp)
    rw [upd_ne this]; exact h1
/-- a new object that may still change -/
theorem Step.newM {X : Fx} {F H : Hp} (o : Ok X F H) {p : Addr} {u : HO} (hp : H p = none) : Step X F H F (upd H p u) where
  up := Exs.refl F
  ok := ⟨o.up.newR (o.up.none hp), (Step.new (u := u) o hp).ok.inv, o.out⟩
  go := (Step.new (u := u) o hp).go
  nw := fun b h1 _ => h1
/-- an object that is there is fixed from now on (it was made behind H0) -/
theorem Step.fix {X : Fx} {F H F' H' : Hp} (s : Step X F H F' H') {p : Addr} {u : HO} (h0 : H p = none) (h : H' p = some u) (hF : F' p = none) (hS : ¬ X.S p) : Step X F H (upd F' p u) H' where
  up := s.up.trans (Exs.new hF)
  ok := ⟨s.ok.up.left h, s.ok.inv, fun b z => by
    have : b ≠ p := fun e => hS (e ▸ z)
    rw [upd_ne this]; exact s.ok.out b z⟩
  go := s.go
  nw := fun b h1 h2 => by
    have : b ≠ p := fun e => h2 (e ▸ h0)
    rw [upd_ne this]; exact s.nw b h1 h2

/-! ### slots -/
inductive SV where
  | no
  | d (x : PyData)
  | raw (v : V)
  | mu (ds : List PyData)
  | bor (ds : List PyData)
  | obj (o : Addr → HO)
  /-- a new tuple of new lists -/
  | mt (dss : List (List PyData))

structure En where
  F0 : Hp
  H0 : Hp

def SlotOk (X : Fx) (E : En) (F H : Hp) : SV → Option (Option V) → Prop
  | .no, _ => True
  | .d x, o => ∃ v, o = some (some v) ∧ Dp X.K F v x
  | .raw w, o => o = some (some w)
  | .mu ds, o => ∃ l vs, o = some (some (.ref l)) ∧ F l = none ∧ E.H0 l = none ∧ ¬ X.S l ∧ H l = some (.lst vs) ∧ DpAll X.K F vs ds
  | .bor ds, o => ∃ l vs, o = some (some (.ref l)) ∧ ¬ X.S l ∧ E.H0 l = some (.lst vs) ∧ DpAll X.K F vs ds
  | .obj u, o => ∃ l, o = some (some (.ref l)) ∧ F l = none ∧ E.H0 l = none ∧ ¬ X.S l ∧ H l = some (u l)
  | .mt _, _ => False
def SV.mine : SV → Bool
  | .mu _ => true
  | .obj _ => true
  | _ => false

structure Sta (X : Fx) (E : En) (F H : Hp) (σ : St) (Γ : List SV) : Prop where
  base : Step X E.F0 E.H0 F H
  len : σ.length = Γ.length
  slot : ∀ (i : Nat) (sv : SV), Γ[i]? = some sv → SlotOk X E F H sv (σ[i]?)
  dst : ∀ (i j : Nat) (l : Addr) (s t : SV), i ≠ j → Γ[i]? = some s → Γ[j]? = some t → s.mine = true → t.mine = true → σ[i]? = some (some (.ref l)) → σ[j]? = some (some (.ref l)) → False

section
variable {X : Fx} {E : En} {F H F' H' : Hp} {σ : St} {Γ : List SV}
theorem Sta.ok (h : Sta X E F H σ Γ) : Ok X F H := h.base.ok
theorem SlotOk.step {sv : SV} {o : Option (Option V)} (b : Step X E.F0 E.H0 F H) (s : Step X F H F' H') (h : SlotOk X E F H sv o) : SlotOk X E F' H' sv o := by
  cases sv with
  | no => trivial
  | d x => obtain ⟨v, e, q⟩ := h; exact ⟨v, e, dp_mono s.up q⟩
  | raw w => exact h
  | mu ds =>
    obtain ⟨l, vs, e, f, h0, n, q, a⟩ := h
    exact ⟨l, vs, e, s.nw l f (by rw [q]; exact fun z => nomatch z), h0, n, s.go _ _ n q, dpa_mono s.up a⟩
  | bor ds => obtain ⟨l, vs, e, n, q, a⟩ := h; exact ⟨l, vs, e, n, q, dpa_mono s.up a⟩
  | obj u =>
    obtain ⟨l, e, f, h0, n, q⟩ := h
    exact ⟨l, e, s.nw l f (by rw [q]; exact fun z => nomatch z), h0, n, s.go _ _ n q⟩
  | mt dss => exact h
theorem Sta.step (h : Sta X E F H σ Γ) (s : Step X F H F' H') : Sta X E F' H' σ Γ :=
  ⟨h.base.trans s, h.len, fun i sv e => (h.slot i sv e).step h.base s, h.dst⟩
inductive MtOk (X : Fx) (F' H' H : Hp) : List Addr → List (List PyData) → Prop
  | nil : MtOk X F' H' H [] []
  | cons {l : Addr} {ls : List Addr} {vs : List V} {ds : List PyData} {dss : List (List PyData)} : H l = none → F' l = none → H' l = some (.lst vs) → DpAll X.K F' vs ds → MtOk X F' H' H ls dss → MtOk X F' H' H (l :: ls) (ds :: dss)
/-- what a value is -/
def ResOk (X : Fx) (F' H' H : Hp) : SV → V → Prop
  | .no, _ => False
  | .d x, v => Dp X.K F' v x
  | .raw w, v => v = w
  | .mu ds, v => ∃ l vs, v = .ref l ∧ H l = none ∧ F' l = none ∧ H' l = some (.lst vs) ∧ DpAll X.K F' vs ds
  | .bor _, _ => False
  | .obj u, v => ∃ l, v = .ref l ∧ H l = none ∧ F' l = none ∧ H' l = some (u l)
  | .mt dss, v => ∃ p ls, v = .ref p ∧ H p = none ∧ F' p = none ∧ H' p = some (.tup (ls.map V.ref)) ∧ ls.Nodup ∧ MtOk X F' H' H ls dss
theorem MtOk.old {X : Fx} {F H H1 H2 : Hp} (k : ∀ b, H1 b = none → H2 b = none) : ∀ {ls : List Addr} {dss : List (List PyData)}, MtOk X F H H1 ls dss → MtOk X F H H2 ls dss
  | _, _, .nil => .nil
  | _, _, .cons a b c d r => .cons (k _ a) b c d (r.old k)
theorem ResOk.old {X : Fx} {F H H1 H2 : Hp} {r : SV} {v : V} (h : ResOk X F H H1 r v) (k : ∀ b, H1 b = none → H2 b = none) : ResOk X F H H2 r v := by
  cases r with
  | d x => exact h
  | raw w => exact h
  | no => exact h.elim
  | bor ds => exact h.elim
  | mu ds => obtain ⟨l, vs, e, h0, q⟩ := h; exact ⟨l, vs, e, k l h0, q⟩
  | obj u => obtain ⟨l, e, h0, q⟩ := h; exact ⟨l, e, k l h0, q⟩
  | mt dss => obtain ⟨p, ls, e, h0, hF, hp, nd, m⟩ := h; exact ⟨p, ls, e, k p h0, hF, hp, nd, m.old k⟩
def ArgOk (X : Fx) (F H : Hp) : SV → V → Prop
  | .d x, v => Dp X.K F v x
  | .raw w, v => v = w
  | .bor ds, v => ∃ l vs, v = .ref l ∧ ¬ X.S l ∧ H l = some (.lst vs) ∧ DpAll X.K F vs ds
  | _, _ => False
theorem ArgOk.step {sv : SV} {v : V} (s : Step X F H F' H') (h : ArgOk X F H sv v) : ArgOk X F' H' sv v := by
  cases sv with
  | d x => exact dp_mono s.up h
  | raw w => exact h
  | bor ds => obtain ⟨l, vs, e, n, q, a⟩ := h; exact ⟨l, vs, e, n, s.go _ _ n q, dpa_mono s.up a⟩
  | no => exact h.elim
  | mu ds => exact h.elim
  | obj u => exact h.elim
  | mt dss => exact h.elim
inductive ArgsOk (X : Fx) (F H : Hp) : List V → List SV → Prop
  | nil : ArgsOk X F H [] []
  | cons {v : V} {vs : List V} {s : SV} {ss : List SV} : ArgOk X F H s v → ArgsOk X F H vs ss → ArgsOk X F H (v :: vs) (s :: ss)
theorem ArgsOk.step (s : Step X F H F' H') : ∀ {vs : List V} {svs : List SV}, ArgsOk X F H vs svs → ArgsOk X F' H' vs svs
  | _, _, .nil => .nil
  | _, _, .cons a b => .cons (a.step s) (b.step s)
theorem ArgsOk.len : ∀ {vs : List V} {svs : List SV}, ArgsOk X F H vs svs → vs.length = svs.length
  | _, _, .nil => rfl
  | _, _, .cons a b => by rw [List.length_cons, List.length_cons, b.len]
end

/-! ### expressions, tests, arguments -/
def EvP (X : Fx) (E : En) (te : TE) (Γ : List SV) (P : SV → Prop) : Prop := ∀ F H σ, Sta X E F H σ Γ → ∀ Q : VK,
  (∀ r v F' H', P r → Step X F H F' H' → ResOk X F' H' H r v → Q v H') → te σ H Q
abbrev EvD (X : Fx) (E : En) (te : TE) (Γ : List SV) (x : PyData) : Prop := EvP X E te Γ fun r => r = .d x
abbrev EvM (X : Fx) (E : En) (te : TE) (Γ : List SV) (ds : List PyData) : Prop := EvP X E te Γ fun r => r = .mu ds
def EvA (X : Fx) (E : En) (ta : TA) (Γ : List SV) (P : List SV → Prop) : Prop := ∀ F H σ, Sta X E F H σ Γ → ∀ Q : List V → Hp → Prop,
  (∀ rs vs F' H', P rs → Step X F H F' H' → ArgsOk X F' H' vs rs → Q vs H') → ta σ H Q
abbrev EvAD (X : Fx) (E : En) (ta : TA) (Γ : List SV) (xs : List SV) : Prop := EvA X E ta Γ fun r => r = xs
def EvT (X : Fx) (E : En) (tt : TT) (Γ : List SV) (P : Bool → Prop) : Prop := ∀ F H σ, Sta X E F H σ Γ → ∀ Q : Bool → Hp → Prop,
  (∀ b F' H', P b → Step X F H F' H' → Q b H') → tt σ H Q
abbrev EvB (X : Fx) (E : En) (tt : TT) (Γ : List SV) (b : Bool) : Prop := EvT X E tt Γ fun r => r = b

/-- what a def promises: from the arguments' data A gives what its value must be -/
def SpR (X : Fx) (A : List SV → (SV → Prop) → Prop) : Sp := fun vs H Q _ => ∃ F svs P, Ok X F H ∧ ArgsOk X F H vs svs ∧ A svs P ∧
  ∀ r v F' H', P r → Step X F H F' H' → ResOk X F' H' H r v → Q v H'

section
variable {X : Fx} {E : En} {Γ : List SV} {te ta tb tc : TE} {tt tu : TT} {P P' Pa Pb : SV → Prop}
theorem EvP.imp (h : EvP X E te Γ P) (k : ∀ r, P r → P' r) : EvP X E te Γ P' := fun F H σ s Q q => h F H σ s Q fun r v F' H' p => q r v F' H' (k r p)
theorem EvP.to {x : PyData} (h : EvD X E te Γ x) (k : P (.d x)) : EvP X E te Γ P := h.imp fun r e => e ▸ k
theorem EvP.is {x y : PyData} (h : EvD X E te Γ x) (k : x = y) : EvD X E te Γ y := k ▸ h
theorem EvT.imp {P P' : Bool → Prop} (h : EvT X E tt Γ P) (k : ∀ r, P r → P' r) : EvT X E tt Γ P' := fun F H σ s Q q => h F H σ s Q fun r F' H' p => q r F' H' (k r p)
theorem EvT.is {a b : Bool} (h : EvB X E tt Γ a) (k : a = b) : EvB X E tt Γ b := k ▸ h
/-- a new list may be fixed -/
theorem EvP.fix (h : EvP X E te Γ P) (k : ∀ ds, P (.mu ds) → P' (.d (.list ds))) (k2 : ∀ r, P r → ∃ ds, r = .mu ds) : EvP X E te Γ P' := fun F H σ s Q q => h F H σ s Q fun r v F' H' p st ro => by
  obtain ⟨ds, rfl⟩ := k2 r p
  obtain ⟨l, vs, rfl, h0, hF, hH, a⟩ := ro
  have nS := s.ok.noS h0
  exact q (.d (.list ds)) _ (upd F' l (.lst vs)) H' (k ds p) (st.fix h0 hH hF nS) (.lst (SqL.of upd_same) (dpa_mono (Exs.new hF) a))
theorem EvM.d {ds : List PyData} (h : EvM X E te Γ ds) : EvD X E te Γ (.list ds) := h.fix (fun ds' e => by cases e; rfl) fun r e => ⟨ds, e⟩

theorem ev_var {i : Nat} {x : PyData} (h : Γ[i]? = some (.d x) := by rfl) : EvD X E (tVar i) Γ x := fun F H σ s Q q => by
  obtain ⟨v, e, dv⟩ := s.slot i _ h
  exact ⟨v, e, q _ v F H rfl (.refl s.ok) dv⟩
theorem ev_raw {i : Nat} {w : V} (h : Γ[i]? = some (.raw w) := by rfl) : EvP X E (tVar i) Γ fun r => r = .raw w := fun F H σ s Q q =>
  ⟨w, s.slot i _ h, q _ w F H rfl (.refl s.ok) rfl⟩
theorem ev_ci {i : Int} : EvD X E (tC (.int i)) Γ (.int i) := fun F H σ s Q q => q _ _ F H rfl (.refl s.ok) (.int i)
theorem ev_cb {b : Bool} : EvD X E (tC (.bl b)) Γ (.bool b) := fun F H σ s Q q => q _ _ F H rfl (.refl s.ok) (.bl b)
theorem ev_cn : EvD X E (tC .non) Γ .none := fun F H σ s Q q => q _ _ F H rfl (.refl s.ok) .non
theorem ev_cs {z : Str} : EvD X E (tC (.str z)) Γ (.str z) := fun F H σ s Q q => q _ _ F H rfl (.refl s.ok) (.str z)
theorem ev_cg {v : V} {x : PyData} (h : ∀ F, Dp X.K F v x) : EvD X E (tC v) Γ x := fun F H σ s Q q => q _ _ F H rfl (.refl s.ok) (h F)
theorem ev_cr {v : V} : EvP X E (tC v) Γ fun r => r = .raw v := fun F H σ s Q q => q _ _ F H rfl (.refl s.ok) rfl

/-! two operands -/
theorem ev_two {r : R2} (ha : EvP X E ta Γ Pa) (hb : EvP X E tb Γ Pb)
    (h : ∀ a b, Pa a → Pb b → ∃ x y, a = .d x ∧ b = .d y ∧ ∀ F H u v, Ok X F H → Dp X.K F u x → Dp X.K F v y → ∀ Q : VK, (∀ r z F' H', P r → Step X F H F' H' → ResOk X F' H' H r z → Q z H') → r u v H Q) : EvP X E (tOp r ta tb) Γ P := fun F H σ s Q q =>
  ha F H σ s _ fun a u F1 H1 pa s1 ra => hb F1 H1 σ (s.step s1) _ fun b v F2 H2 pb s2 rb => by
    obtain ⟨x, y, rfl, rfl, k⟩ := h a b pa pb
    exact k F2 H2 u v s2.ok (dp_mono s2.up ra) rb Q fun r z F' H' p st ro => q r z F' H' p ((s1.trans s2).trans st) (ro.old fun b hb => (s1.trans s2).fresh hb)
/-- an operation that gives a value of no address -/
theorem ev_twoS {r : R2} {x y z : PyData} (ha : EvD X E ta Γ x) (hb : EvD X E tb Γ y)
    (h : ∀ F H u v, Exs F H → Dp X.K F u x → Dp X.K F v y → ∀ Q : VK, (∀ w, Dp X.K F w z → Q w H) → r u v H Q) : EvD X E (tOp r ta tb) Γ z :=
  ev_two ha hb fun a b ea eb => ⟨x, y, ea, eb, fun F H u v o du dv Q q => h F H u v o.up du dv Q fun w dw => q _ w F H rfl (.refl o) dw⟩
theorem ev_int2 {g : Int → Int → V} {f : Int → Int → PyData} {C : Int → Int → Prop} {i j : Int} (hg : ∀ F, Dp X.K F (g i j) (f i j)) (ha : EvD X E ta Γ (.int i)) (hb : EvD X E tb Γ (.int j)) (hc : C i j) : EvD X E (tOp (rI C g) ta tb) Γ (f i j) :=
  ev_twoS ha hb fun F H u v e du dv Q q => ⟨i, j, dp_int du, dp_int dv, hc, q _ (hg F)⟩
theorem ev_int0 {g : Int → Int → V} {f : Int → Int → PyData} {i j : Int} (hg : ∀ F, Dp X.K F (g i j) (f i j)) (ha : EvD X E ta Γ (.int i)) (hb : EvD X E tb Γ (.int j)) : EvD X E (tOp (rI0 g) ta tb) Γ (f i j) :=
  ev_twoS ha hb fun F H u v e du dv Q q => ⟨i, j, dp_int du, dp_int dv, q _ (hg F)⟩
variable {i j : Int}
theorem ev_add (ha : EvD X E ta Γ (.int i)) (hb : EvD X E tb Γ (.int j)) : EvD X E (tOp (rI0 fun i j => .int (i + j)) ta tb) Γ (.int (i + j)) := ev_int0 (f := fun i j => .int (i + j)) (fun F => .int _) ha hb
theorem ev_sub (ha : EvD X E ta Γ (.int i)) (hb : EvD X E tb Γ (.int j)) : EvD X E (tOp (rI0 fun i j => .int (i - j)) ta tb) Γ (.int (i - j)) := ev_int0 (f := fun i j => .int (i - j)) (fun F => .int _) ha hb
theorem ev_mulW (ha : EvD X E ta Γ (.int i)) (hb : EvD X E tb Γ (.int j)) (hc : CMulW i j) : EvD X E (tOp (rI CMulW fun i j => .int (i * j)) ta tb) Γ (.int (i * j)) := ev_int2 (f := fun i j => .int (i * j)) (fun F => .int _) ha hb hc
theorem ev_mul (ha : EvD X E ta Γ (.int i)) (hb : EvD X E tb Γ (.int j)) (hc : CMul i j) : EvD X E (tOp (rI CMul fun i j => .int (i * j)) ta tb) Γ (.int (i * j)) := ev_int2 (f := fun i j => .int (i * j)) (fun F => .int _) ha hb hc
theorem ev_fdivW (ha : EvD X E ta Γ (.int i)) (hb : EvD X E tb Γ (.int j)) (hc : CDivW i j) : EvD X E (tOp (rI CDivW fun i j => .int (i / j)) ta tb) Γ (.int (i / j)) := ev_int2 (f := fun i j => .int (i / j)) (fun F => .int _) ha hb hc
theorem ev_mod (ha : EvD X E ta Γ (.int i)) (hb : EvD X E tb Γ (.int j)) (hc : 0 < j) : EvD X E (tOp (rI (fun _ j => 0 < j) fun i j => .int (i % j)) ta tb) Γ (.int (i % j)) := ev_int2 (C := fun _ j => 0 < j) (f := fun i j => .int (i % j)) (fun F => .int _) ha hb hc
theorem ev_pow (ha : EvD X E ta Γ (.int i)) (hb : EvD X E tb Γ (.int j)) (hc : CPow i j) : EvD X E (tOp (rI CPow fun i j => .int (i ^ j.toNat)) ta tb) Γ (.int (i ^ j.toNat)) := ev_int2 (f := fun i j => .int (i ^ j.toNat)) (fun F => .int _) ha hb hc
theorem ev_lt (ha : EvD X E ta Γ (.int i)) (hb : EvD X E tb Γ (.int j)) : EvD X E (tOp (rI0 fun i j => .bl (decide (i < j))) ta tb) Γ (.bool (decide (i < j))) := ev_int0 (g := fun i j => .bl (decide (i < j))) (f := fun i j => .bool (decide (i < j))) (fun F => .bl _) ha hb
theorem ev_le (ha : EvD X E ta Γ (.int i)) (hb : EvD X E tb Γ (.int j)) : EvD X E (tOp (rI0 fun i j => .bl (decide (i ≤ j))) ta tb) Γ (.bool (decide (i ≤ j))) := ev_int0 (g := fun i j => .bl (decide (i ≤ j))) (f := fun i j => .bool (decide (i ≤ j))) (fun F => .bl _) ha hb
theorem ev_gt (ha : EvD X E ta Γ (.int i)) (hb : EvD X E tb Γ (.int j)) : EvD X E (tOp (rI0 fun i j => .bl (decide (j < i))) ta tb) Γ (.bool (decide (j < i))) := ev_int0 (g := fun i j => .bl (decide (j < i))) (f := fun i j => .bool (decide (j < i))) (fun F => .bl _) ha hb
theorem ev_neg (ha : EvD X E ta Γ (.int i)) : EvD X E (tUn (rU fun i => .int (-i)) ta) Γ (.int (-i)) := fun F H σ s Q q =>
  ha F H σ s _ fun r u F1 H1 e s1 ru => by subst e; exact ⟨i, dp_int ru, q _ _ F1 H1 rfl s1 (.int _)⟩
variable {x y : PyData}
theorem ev_eqD (ha : EvD X E ta Γ x) (hb : EvD X E tb Γ y) (hx : SeqAt.shaped x = true) (hy : SeqAt.shaped y = true) : EvD X E (tOp (rEqD X.K) ta tb) Γ (.bool (PyData.eqv x y)) :=
  ev_twoS ha hb fun F H u v e du dv Q q => ⟨x, y, dp_mono e du, dp_mono e dv, hx, hy, q _ (.bl _)⟩
theorem ev_neD (ha : EvD X E ta Γ x) (hb : EvD X E tb Γ y) (hx : SeqAt.shaped x = true) (hy : SeqAt.shaped y = true) : EvD X E (tOp (rNeD X.K) ta tb) Γ (.bool (!PyData.eqv x y)) :=
  ev_twoS ha hb fun F H u v e du dv Q q => ⟨x, y, dp_mono e du, dp_mono e dv, hx, hy, q _ (.bl _)⟩
theorem ev_isN (ha : EvD X E ta Γ x) : EvD X E (tOp (fun x y H Q => y = .non ∧ Q (.bl (decide (x = .non))) H) ta (tC .non)) Γ (.bool (match x with | .none => true | _ => false)) :=
  ev_twoS ha ev_cn fun F H u v e du dv Q q => ⟨dp_none dv, by
    cases du <;> exact q _ (.bl _)⟩
theorem ev_notN (ha : EvD X E ta Γ x) : EvD X E (tOp (fun x y H Q => y = .non ∧ Q (.bl (!decide (x = .non))) H) ta (tC .non)) Γ (.bool (match x with | .none => false | _ => true)) :=
  ev_twoS ha ev_cn fun F H u v e du dv Q q => ⟨dp_none dv, by
    cases du <;> exact q _ (.bl _)⟩
/-! items -/
theorem at_map {vs : List V} {ds : List PyData} {K : PySem.W.Frag} {F : Hp} (h : DpAll K F vs ds) {k : Int} {z : PyData} (hk : atI ds k = some z) : ∃ v, atI vs k = some v ∧ Dp K F v z := by
  unfold atI at hk ⊢
  rw [dpa_len h]
  cases q : ixN ds.length k with
  | none => rw [q] at hk; cases hk
  | some j => rw [q] at hk; exact dpa_get h hk
theorem ev_ixL {ds : List PyData} {k : Int} {z : PyData} (ha : EvD X E ta Γ (.list ds)) (hb : EvD X E tb Γ (.int k)) (hk : atI ds k = some z) : EvD X E (tOp (rIxL X.K) ta tb) Γ z :=
  ev_twoS ha hb fun F H u v e du dv Q q => by
    obtain ⟨a, vs, rfl, s, al⟩ := dp_list du
    obtain ⟨w, hw, dw⟩ := at_map al hk
    exact ⟨a, vs, k, w, rfl, dp_int dv, sql_mono e s, hw, q w dw⟩
theorem ev_ixT {ds : List PyData} {k : Int} {z : PyData} (ha : EvD X E ta Γ (.tuple ds)) (hb : EvD X E tb Γ (.int k)) (hk : atI ds k = some z) : EvD X E (tOp (rIxT X.K) ta tb) Γ z :=
  ev_twoS ha hb fun F H u v e du dv Q q => by
    obtain ⟨a, vs, rfl, s, al⟩ := dp_tup du
    obtain ⟨w, hw, dw⟩ := at_map al hk
    exact ⟨a, vs, k, w, rfl, dp_int dv, sqt_mono e s, hw, q w dw⟩
/-- an item of a list that is still being made, or that a caller holds -/
theorem ev_ixM {m : Nat} {ds : List PyData} {k : Int} {z : PyData} (h : Γ[m]? = some (.mu ds)) (hb : EvD X E tb Γ (.int k)) (hk : atI ds k = some z) : EvD X E (tOp (rIxL X.K) (tVar m) tb) Γ z := fun F H σ s Q q => by
  obtain ⟨l, vs, e, f, h0, n, hH, al⟩ := s.slot m _ h
  refine ⟨_, e, hb F H σ s _ fun r v F1 H1 e1 s1 rv => ?_⟩
  subst e1
  obtain ⟨w, hw, dw⟩ := at_map (dpa_mono s1.up al) hk
  exact ⟨l, vs, k, w, rfl, dp_int rv, SqL.of (s1.go _ _ n hH), hw, q _ w F1 H1 rfl s1 dw⟩
theorem ev_ixB {m : Nat} {ds : List PyData} {k : Int} {z : PyData} (h : Γ[m]? = some (.bor ds)) (hb : EvD X E tb Γ (.int k)) (hk : atI ds k = some z) : EvD X E (tOp (rIxL X.K) (tVar m) tb) Γ z := fun F H σ s Q q => by
  obtain ⟨l, vs, e, n, hH, al⟩ := s.slot m _ h
  refine ⟨_, e, hb F H σ s _ fun r v F1 H1 e1 s1 rv => ?_⟩
  subst e1
  obtain ⟨w, hw, dw⟩ := at_map (dpa_mono s1.up al) hk
  exact ⟨l, vs, k, w, rfl, dp_int rv, SqL.of (s1.go _ _ n (s.base.go _ _ n hH)), hw, q _ w F1 H1 rfl s1 dw⟩
end
end Odd
set_option Elab.async false
set_option linter.all false
set_option maxRecDepth 100000
set_option maxHeartbeats 4000000
namespace Odd
open PySem L2

section
variable {X : Fx} {E : En} {Γ : List SV} {te ta tb tc : TE} {tt tu : TT} {P P' Pa Pb : SV → Prop} {tl : TA}

/-! ### arguments, displays, calls -/
def SV.plain : SV → Bool
  | .d _ => true
  | .raw _ => true
  | _ => false
theorem ResOk.arg {F H H0 : Hp} {r : SV} {v : V} (h : ResOk X F H H0 r v) (p : r.plain = true) : ArgOk X F H r v := by
  cases r with
  | d x => exact h
  | raw w => exact h
  | no => exact h.elim
  | mu ds => cases p
  | bor ds => cases p
  | obj u => cases p
  | mt dss => cases p
theorem ea_nil : EvAD X E tNil Γ [] := fun F H σ s Q q => q [] [] F H rfl (.refl s.ok) .nil
theorem ea_consP {Pl Ps : List SV → Prop} (ha : EvP X E ta Γ Pa) (hl : EvA X E tl Γ Pl) (k : ∀ r rs, Pa r → Pl rs → r.plain = true ∧ Ps (r :: rs)) : EvA X E (tCons ta tl) Γ Ps := fun F H σ s Q q =>
  ha F H σ s _ fun r v F1 H1 p1 s1 r1 => hl F1 H1 σ (s.step s1) _ fun rs vs F2 H2 p2 s2 r2 => by
    obtain ⟨pl, ps⟩ := k r rs p1 p2
    exact q (r :: rs) (v :: vs) F2 H2 ps (s1.trans s2) (.cons ((r1.arg pl).step s2) r2)
theorem ea_cons {x : PyData} {rs : List SV} (ha : EvD X E ta Γ x) (hl : EvAD X E tl Γ rs) : EvAD X E (tCons ta tl) Γ (.d x :: rs) := ea_consP ha hl fun r ss e1 e2 => by subst e1 e2; exact ⟨rfl, rfl⟩
theorem ea_consR {w : V} {rs : List SV} (ha : EvP X E ta Γ fun r => r = .raw w) (hl : EvAD X E tl Γ rs) : EvAD X E (tCons ta tl) Γ (.raw w :: rs) := ea_consP ha hl fun r ss e1 e2 => by subst e1 e2; exact ⟨rfl, rfl⟩
theorem ea_consM {m : Nat} {ds : List PyData} {rs : List SV} (h : Γ[m]? = some (.mu ds)) (hl : EvAD X E tl Γ rs) : EvAD X E (tCons (tVar m) tl) Γ (.bor ds :: rs) := fun F H σ s Q q => by
  obtain ⟨l, vs, e, f, h0, n, hH, al⟩ := s.slot m _ h
  exact ⟨_, e, hl F H σ s _ fun rs' vs' F1 H1 e1 s1 r1 => by
    subst e1
    exact q _ _ F1 H1 rfl s1 (.cons ⟨l, vs, rfl, n, s1.go _ _ n hH, dpa_mono s1.up al⟩ r1)⟩
theorem ea_consB {m : Nat} {ds : List PyData} {rs : List SV} (h : Γ[m]? = some (.bor ds)) (hl : EvAD X E tl Γ rs) : EvAD X E (tCons (tVar m) tl) Γ (.bor ds :: rs) := fun F H σ s Q q => by
  obtain ⟨l, vs, e, n, hH, al⟩ := s.slot m _ h
  exact ⟨_, e, hl F H σ s _ fun rs' vs' F1 H1 e1 s1 r1 => by
    subst e1
    exact q _ _ F1 H1 rfl s1 (.cons ⟨l, vs, rfl, n, s1.go _ _ n (s.base.go _ _ n hH), dpa_mono s1.up al⟩ r1)⟩
theorem EvA.imp {Pl Ps : List SV → Prop} (h : EvA X E tl Γ Pl) (k : ∀ r, Pl r → Ps r) : EvA X E tl Γ Ps := fun F H σ s Q q => h F H σ s Q fun r vs F' H' p => q r vs F' H' (k r p)
theorem args_d {F H : Hp} : ∀ {xs : List PyData} {vs : List V}, ArgsOk X F H vs (xs.map SV.d) → DpAll X.K F vs xs
  | [], _, .nil => .nil
  | _ :: _, _, .cons a b => .cons a (args_d b)
theorem ev_tupP {Pl : List SV → Prop} (h : EvA X E tl Γ Pl) (k : ∀ rs, Pl rs → ∃ xs, rs = xs.map SV.d ∧ xs.length ≤ 1000 ∧ P (.d (.tuple xs))) : EvP X E (tTup tl) Γ P := fun F H σ s Q q =>
  h F H σ s _ fun rs vs F1 H1 p s1 r1 => by
    obtain ⟨xs, rfl, hl, px⟩ := k rs p
    have a := args_d r1
    refine ⟨by rw [dpa_len a]; exact Nat.le_trans hl (by decide), fun l hn => ?_⟩
    have s2 := Step.new (u := .tup vs) s1.ok hn
    exact q _ _ _ _ px (s1.trans s2) (Dp.tup (SqT.of upd_same) (dpa_mono s2.up a))
theorem ev_tup {xs : List PyData} (h : EvAD X E tl Γ (xs.map SV.d)) (hl : xs.length ≤ 1000 := by first | decide | simp) : EvD X E (tTup tl) Γ (.tuple xs) := ev_tupP h fun rs e => ⟨xs, e, hl, rfl⟩
theorem ev_lstP {Pl : List SV → Prop} (h : EvA X E tl Γ Pl) (k : ∀ rs, Pl rs → ∃ xs, rs = xs.map SV.d ∧ xs.length ≤ 1000 ∧ P (.mu xs)) : EvP X E (tLst tl) Γ P := fun F H σ s Q q =>
  h F H σ s _ fun rs vs F1 H1 p s1 r1 => by
    obtain ⟨xs, rfl, hl, px⟩ := k rs p
    have a := args_d r1
    refine ⟨by rw [dpa_len a]; exact Nat.le_trans hl (by decide), fun l hn => ?_⟩
    have s2 := Step.newM (u := .lst vs) s1.ok hn
    exact q _ _ _ _ px (s1.trans s2) ⟨l, vs, rfl, s1.fresh hn, s1.ok.up.none hn, upd_same, a⟩
theorem ev_lst {xs : List PyData} (h : EvAD X E tl Γ (xs.map SV.d)) (hl : xs.length ≤ 1000 := by first | decide | simp) : EvM X E (tLst tl) Γ xs := ev_lstP h fun rs e => ⟨xs, e, hl, rfl⟩

/-- a call of a def that changes nothing, from a place where addresses may change -/
theorem ok_pure {F H : Hp} (o : Ok X F H) : Ok (.pure X.K) F H := ⟨o.up, trivial, fun _ h => h.elim⟩
theorem step_pure {F H F' H' : Hp} (o : Ok X F H) (s : Step (.pure X.K) F H F' H') : Step X F H F' H' where
  up := s.up
  ok := ⟨s.ok.up, X.st H H' (fun b hb => by
      cases q : H b with
      | none => exact absurd q (X.ex H b o.inv hb)
      | some u => exact s.go b u (fun z => z) q) o.inv, fun b hb => s.nw b (o.out b hb) (X.ex H b o.inv hb)⟩
  go := fun b u _ h => s.go b u (fun z => z) h
  nw := s.nw
def NoBor : List SV → Prop := fun l => True
theorem arg_pure {F H : Hp} {s : SV} {v : V} (h : ArgOk X F H s v) : ArgOk (.pure X.K) F H s v := by
  cases s with
  | d x => exact h
  | raw w => exact h
  | bor ds => obtain ⟨l, vs, e, _, q⟩ := h; exact ⟨l, vs, e, fun z => z, q⟩
  | no => exact h.elim
  | mu ds => exact h.elim
  | obj u => exact h.elim
  | mt dss => exact h.elim
theorem args_pure {F H : Hp} : ∀ {vs : List V} {ss : List SV}, ArgsOk X F H vs ss → ArgsOk (.pure X.K) F H vs ss
  | _, _, .nil => .nil
  | _, _, .cons a b => .cons (arg_pure a) (args_pure b)
theorem mt_pure {F H H0 : Hp} : ∀ {ls : List Addr} {dss : List (List PyData)}, MtOk (.pure X.K) F H H0 ls dss → MtOk X F H H0 ls dss
  | _, _, .nil => .nil
  | _, _, .cons a b c d r => .cons a b c d (mt_pure r)
theorem res_pure {F H H0 : Hp} {r : SV} {v : V} (h : ResOk (.pure X.K) F H H0 r v) : ResOk X F H H0 r v := by
  cases r with
  | mt dss => obtain ⟨p, ls, e, h0, hF, hp, nd, m⟩ := h; exact ⟨p, ls, e, h0, hF, hp, nd, mt_pure m⟩
  | d x => exact h
  | raw w => exact h
  | no => exact h
  | bor ds => exact h
  | mu ds => exact h
  | obj u => exact h
variable {A : List SV → (SV → Prop) → Prop} {Er : XK} {svs : List SV}
theorem ev_callP {Pl : List SV → Prop} (h : EvA X E tl Γ Pl) (k : ∀ rs, Pl rs → A rs P) : EvP X E (tCall (SpR (.pure X.K) A) [] Er tl) Γ P := fun F H σ s Q q =>
  h F H σ s _ fun rs vs F1 H1 p s1 r1 => by
    rw [List.append_nil]
    exact ⟨F1, rs, P, ok_pure s1.ok, args_pure r1, k rs p, fun r v F' H' pr st ro => q r v F' H' pr (s1.trans (step_pure s1.ok st)) ((res_pure ro).old fun b hb => s1.fresh hb)⟩
theorem ev_call (h : EvAD X E tl Γ svs) (k : A svs P) : EvP X E (tCall (SpR (.pure X.K) A) [] Er tl) Γ P := ev_callP h fun rs e => e ▸ k
theorem ev_callSP {Pl : List SV → Prop} (h : EvA X E tl Γ Pl) (k : ∀ rs, Pl rs → A rs P) : EvP X E (tCall (SpR X A) [] Er tl) Γ P := fun F H σ s Q q =>
  h F H σ s _ fun rs vs F1 H1 p s1 r1 => by
    rw [List.append_nil]
    exact ⟨F1, rs, P, s1.ok, r1, k rs p, fun r v F' H' pr st ro => q r v F' H' pr (s1.trans st) (ro.old fun b hb => s1.fresh hb)⟩
theorem ev_callS (h : EvAD X E tl Γ svs) (k : A svs P) : EvP X E (tCall (SpR X A) [] Er tl) Γ P := ev_callSP h fun rs e => e ▸ k

/-! ### built-ins -/
/-- a built-in of a list of data -/
theorem ev_cb1 {r : List V → Hp → VK → Prop} {x : PyData} (h : EvD X E ta Γ x) (k : ∀ F H v, Ok X F H → Dp X.K F v x → ∀ Q : VK, (∀ r z F' H', P r → Step X F H F' H' → ResOk X F' H' H r z → Q z H') → r [v] H Q) : EvP X E (tCB r (tCons ta tNil)) Γ P := fun F H σ s Q q =>
  h F H σ s _ fun r v F1 H1 e s1 rv => by
    subst e
    exact k F1 H1 v s1.ok rv Q fun r z F' H' p st ro => q r z F' H' p (s1.trans st) (ro.old fun b hb => s1.fresh hb)
theorem ev_lenL {ds : List PyData} (h : EvD X E ta Γ (.list ds)) : EvD X E (tCB (fun xs H Q => ∃ p ys, xs = [.ref p] ∧ (SqL X.K H p ys ∨ SqT X.K H p ys) ∧ Q (.int ys.length) H) (tCons ta tNil)) Γ (.int ds.length) :=
  ev_cb1 h fun F H v o dv Q q => by
    obtain ⟨a, vs, rfl, s, al⟩ := dp_list dv
    refine ⟨a, vs, rfl, .inl (sql_mono o.up s), ?_⟩
    rw [dpa_len al]; exact q _ _ F H rfl (.refl o) (.int _)
theorem ev_lenT {ds : List PyData} (h : EvD X E ta Γ (.tuple ds)) : EvD X E (tCB (fun xs H Q => ∃ p ys, xs = [.ref p] ∧ (SqL X.K H p ys ∨ SqT X.K H p ys) ∧ Q (.int ys.length) H) (tCons ta tNil)) Γ (.int ds.length) :=
  ev_cb1 h fun F H v o dv Q q => by
    obtain ⟨a, vs, rfl, s, al⟩ := dp_tup dv
    refine ⟨a, vs, rfl, .inr (sqt_mono o.up s), ?_⟩
    rw [dpa_len al]; exact q _ _ F H rfl (.refl o) (.int _)
theorem ev_lenM {m : Nat} {ds : List PyData} (h : Γ[m]? = some (.mu ds)) : EvD X E (tCB (fun xs H Q => ∃ p ys, xs = [.ref p] ∧ (SqL X.K H p ys ∨ SqT X.K H p ys) ∧ Q (.int ys.length) H) (tCons (tVar m) tNil)) Γ (.int ds.length) := fun F H σ s Q q => by
  obtain ⟨l, vs, e, f, h0, n, hH, al⟩ := s.slot m _ h
  refine ⟨_, e, l, vs, rfl, .inl (SqL.of hH), ?_⟩
  rw [dpa_len al]; exact q _ _ F H rfl (.refl s.ok) (.int _)
theorem ev_listL {ds : List PyData} (h : EvD X E ta Γ (.list ds)) : EvM X E (tCB (fun xs H Q => ∃ p ys, xs = [.ref p] ∧ (SqL X.K H p ys ∨ SqT X.K H p ys) ∧ ∀ l, H l = none → Q (.ref l) (upd H l (.lst ys))) (tCons ta tNil)) Γ ds :=
  ev_cb1 h fun F H v o dv Q q => by
    obtain ⟨a, vs, rfl, s, al⟩ := dp_list dv
    exact ⟨a, vs, rfl, .inl (sql_mono o.up s), fun l hl => q _ _ F _ rfl (.newM o hl) ⟨l, vs, rfl, hl, o.up.none hl, upd_same, al⟩⟩
theorem ev_any {bs : List Bool} (h : EvD X E ta Γ (.list (bs.map .bool))) : EvD X E (tCB (rAny X.K) (tCons ta tNil)) Γ (.bool (bs.any id)) :=
  ev_cb1 h fun F H v o dv Q q => by
    obtain ⟨a, vs, rfl, s, al⟩ := dp_list dv
    rw [dpa_bools al] at s
    exact ⟨a, bs, rfl, sql_mono o.up s, q _ _ F H rfl (.refl o) (.bl _)⟩
theorem ev_all {bs : List Bool} (h : EvD X E ta Γ (.list (bs.map .bool))) : EvD X E (tCB (rAll X.K) (tCons ta tNil)) Γ (.bool (bs.all id)) :=
  ev_cb1 h fun F H v o dv Q q => by
    obtain ⟨a, vs, rfl, s, al⟩ := dp_list dv
    rw [dpa_bools al] at s
    exact ⟨a, bs, rfl, sql_mono o.up s, q _ _ F H rfl (.refl o) (.bl _)⟩
theorem ev_sum {ns : List Int} (h : EvD X E ta Γ (.list (ns.map .int))) : EvD X E (tCB (rSum X.K) (tCons ta tNil)) Γ (.int ns.sum) :=
  ev_cb1 h fun F H v o dv Q q => by
    obtain ⟨a, vs, rfl, s, al⟩ := dp_list dv
    rw [dpa_ints al] at s
    exact ⟨a, ns, rfl, sql_mono o.up s, q _ _ F H rfl (.refl o) (.int _)⟩
theorem ev_abs {i : Int} (h : EvD X E ta Γ (.int i)) : EvD X E (tCB (fun xs H Q => ∃ i, xs = [.int i] ∧ Q (.int (if i < 0 then -i else i)) H) (tCons ta tNil)) Γ (.int (if i < 0 then -i else i)) :=
  ev_cb1 h fun F H v o dv Q q => ⟨i, by rw [dp_int dv], q _ _ F H rfl (.refl o) (.int _)⟩
theorem ev_intI {i : Int} (h : EvD X E ta Γ (.int i)) : EvD X E (tCB (fun xs H Q => (∃ i, xs = [.int i] ∧ Q (.int i) H) ∨ ∃ k, xs = [.bl k] ∧ Q (.int (if k then 1 else 0)) H) (tCons ta tNil)) Γ (.int i) :=
  ev_cb1 h fun F H v o dv Q q => .inl ⟨i, by rw [dp_int dv], q _ _ F H rfl (.refl o) (.int _)⟩
theorem ev_intB {b : Bool} (h : EvD X E ta Γ (.bool b)) : EvD X E (tCB (fun xs H Q => (∃ i, xs = [.int i] ∧ Q (.int i) H) ∨ ∃ k, xs = [.bl k] ∧ Q (.int (if k then 1 else 0)) H) (tCons ta tNil)) Γ (.int (if b then 1 else 0)) :=
  ev_cb1 h fun F H v o dv Q q => .inr ⟨b, by rw [dp_bool dv], q _ _ F H rfl (.refl o) (.int _)⟩
theorem ev_gcd {i j : Int} (ha : EvD X E ta Γ (.int i)) (hb : EvD X E tb Γ (.int j)) : EvD X E (tCB rGcd (tCons ta (tCons tb tNil))) Γ (.int ((Nat.gcd i.natAbs j.natAbs : Nat) : Int)) := fun F H σ s Q q =>
  ha F H σ s _ fun r v F1 H1 e s1 rv => hb F1 H1 σ (s.step s1) _ fun r2 v2 F2 H2 e2 s2 rv2 => by
    subst e e2
    exact ⟨i, j, by rw [dp_int rv, dp_int rv2], q _ _ F2 H2 rfl (s1.trans s2) (.int _)⟩

/-! ### tests -/
theorem et_test {b : Bool} (h : EvD X E te Γ (.bool b)) : EvB X E (tTest te) Γ b := fun F H σ s Q q => h F H σ s _ fun r v F1 H1 e s1 rv => by
  subst e; exact ⟨b, dp_bool rv, q b F1 H1 rfl s1⟩
theorem et_testP {Pb : Bool → Prop} (h : EvP X E te Γ P) (k : ∀ r, P r → ∃ b, r = .d (.bool b) ∧ Pb b) : EvT X E (tTest te) Γ Pb := fun F H σ s Q q => h F H σ s _ fun r v F1 H1 p s1 rv => by
  obtain ⟨b, e, pb⟩ := k r p
  subst e; exact ⟨b, dp_bool rv, q b F1 H1 pb s1⟩
theorem et_B {b : Bool} (h : EvD X E te Γ (.bool b)) : EvB X E (tB te) Γ b := fun F H σ s Q q => h F H σ s _ fun r v F1 H1 e s1 rv => by
  subst e; exact ⟨b, dp_bool rv, q b F1 H1 rfl s1⟩
theorem et_not {b : Bool} (h : EvB X E tt Γ b) : EvB X E (tNot tt) Γ (!b) := fun F H σ s Q q => h F H σ s _ fun r F1 H1 e s1 => by
  subst e; exact q _ F1 H1 rfl s1
theorem et_andP {Pa Pb Pc : Bool → Prop} (ha : EvT X E tt Γ Pa) (hb : Pa true → EvT X E tu Γ Pb) (k : ∀ a b, Pa a → (a = true → Pb b) → (a = false → b = false) → Pc b) : EvT X E (tAnd tt tu) Γ Pc := fun F H σ s Q q => ha F H σ s _ fun r F1 H1 p1 s1 => by
  cases r with
  | true => exact hb p1 F1 H1 σ (s.step s1) _ fun c F2 H2 p2 s2 => q c F2 H2 (k true c p1 (fun _ => p2) (fun e => nomatch e)) (s1.trans s2)
  | false => exact q false F1 H1 (k false false p1 (fun e => nomatch e) fun _ => rfl) s1
theorem et_and {a b : Bool} (ha : EvB X E tt Γ a) (hb : a = true → EvB X E tu Γ b) : EvB X E (tAnd tt tu) Γ (a && b) := fun F H σ s Q q => ha F H σ s _ fun r F1 H1 e s1 => by
  subst e
  cases r with
  | true => exact hb rfl F1 H1 σ (s.step s1) _ fun c F2 H2 e2 s2 => q c F2 H2 e2 (s1.trans s2)
  | false => exact q false F1 H1 rfl s1
theorem et_or {a b : Bool} (ha : EvB X E tt Γ a) (hb : a = false → EvB X E tu Γ b) : EvB X E (tOr tt tu) Γ (a || b) := fun F H σ s Q q => ha F H σ s _ fun r F1 H1 e s1 => by
  subst e
  cases r with
  | true => exact q true F1 H1 rfl s1
  | false => exact hb rfl F1 H1 σ (s.step s1) _ fun c F2 H2 e2 s2 => q c F2 H2 e2 (s1.trans s2)
/-- the truth of a list -/
theorem et_truL {ds : List PyData} (h : EvD X E te Γ (.list ds)) : EvB X E (fun σ H Q => te σ H fun x H' => ∃ k, TruV X.K x H' k ∧ Q k H') Γ (!ds.isEmpty) := fun F H σ s Q q => h F H σ s _ fun r v F1 H1 e s1 rv => by
  subst e
  obtain ⟨a, vs, rfl, sq, al⟩ := dp_list rv
  refine ⟨!ds.isEmpty, .inl ⟨vs, sql_mono s1.ok.up sq, ?_⟩, q _ F1 H1 rfl s1⟩
  cases al <;> rfl
theorem et_truM {m : Nat} {ds : List PyData} (h : Γ[m]? = some (.mu ds)) : EvB X E (fun σ H Q => tVar m σ H fun x H' => ∃ k, TruV X.K x H' k ∧ Q k H') Γ (!ds.isEmpty) := fun F H σ s Q q => by
  obtain ⟨l, vs, e, f, h0, n, hH, al⟩ := s.slot m _ h
  refine ⟨_, e, !ds.isEmpty, .inl ⟨vs, SqL.of hH, ?_⟩, q _ F H rfl (.refl s.ok)⟩
  cases al <;> rfl
theorem et_yes : EvB X E tYes Γ true := fun F H σ s Q q => q true F H rfl (.refl s.ok)
/-! and, or, not as values -/
theorem ev_andV {a b : Bool} (ha : EvD X E ta Γ (.bool a)) (hb : a = true → EvD X E tb Γ (.bool b)) : EvD X E (tAndV ta tb) Γ (.bool (a && b)) := fun F H σ s Q q => ha F H σ s _ fun r v F1 H1 e s1 rv => by
  subst e
  refine ⟨a, dp_bool rv, ?_⟩
  cases a with
  | true => exact hb rfl F1 H1 σ (s.step s1) _ fun r2 v2 F2 H2 e2 s2 ro => q r2 v2 F2 H2 e2 (s1.trans s2) (ro.old fun b hb => s1.fresh hb)
  | false => exact q _ _ F1 H1 rfl s1 (.bl _)
theorem ev_notL {ds : List PyData} (h : EvD X E ta Γ (.list ds)) : EvD X E (tNotT X.K ta) Γ (.bool ds.isEmpty) := fun F H σ s Q q => h F H σ s _ fun r v F1 H1 e s1 rv => by
  subst e
  obtain ⟨a, vs, rfl, sq, al⟩ := dp_list rv
  refine ⟨!ds.isEmpty, .inl ⟨vs, sql_mono s1.ok.up sq, ?_⟩, ?_⟩
  · cases al <;> rfl
  · rw [Bool.not_not]; exact q _ _ F1 H1 rfl s1 (.bl _)
theorem ev_if {b : Bool} (h : EvB X E tt Γ b) (h1 : b = true → EvP X E ta Γ P) (h2 : b = false → EvP X E tb Γ P) : EvP X E (tIf tt ta tb) Γ P := fun F H σ s Q q => h F H σ s _ fun r F1 H1 e s1 => by
  subst e
  cases r with
  | true => exact h1 rfl F1 H1 σ (s.step s1) _ fun r2 v2 F2 H2 e2 s2 ro => q r2 v2 F2 H2 e2 (s1.trans s2) (ro.old fun b hb => s1.fresh hb)
  | false => exact h2 rfl F1 H1 σ (s.step s1) _ fun r2 v2 F2 H2 e2 s2 ro => q r2 v2 F2 H2 e2 (s1.trans s2) (ro.old fun b hb => s1.fresh hb)
/-- 0 <= b < n -/
theorem et_chain {i j k : Int} (ha : EvD X E ta Γ (.int i)) (hb : EvD X E tb Γ (.int j)) (hc : EvD X E tc Γ (.int k)) :
    EvB X E (tTest (tChain (rI0 fun i j => .bl (decide (i ≤ j))) (rI0 fun i j => .bl (decide (i < j))) ta tb tc)) Γ (decide (i ≤ j) && decide (j < k)) := fun F H σ s Q q =>
  ha F H σ s _ fun r v F1 H1 e s1 rv => hb F1 H1 σ (s.step s1) _ fun r2 v2 F2 H2 e2 s2 rv2 => by
    subst e e2
    refine ⟨i, j, dp_int rv, dp_int rv2, _, rfl, ?_⟩
    by_cases h : i ≤ j
    · rw [decide_eq_true h, if_pos rfl]
      refine hc F2 H2 σ (s.step (s1.trans s2)) _ fun r3 v3 F3 H3 e3 s3 rv3 => ?_
      subst e3
      exact ⟨j, k, dp_int rv2, dp_int rv3, _, rfl, q _ F3 H3 (by show _ = _; rw [decide_eq_true h, Bool.true_and]) ((s1.trans s2).trans s3)⟩
    · rw [decide_eq_false h, if_neg Bool.false_ne_true]
      exact ⟨_, rfl, q _ F2 H2 (by show _ = _; rw [decide_eq_false h, Bool.false_and]) (s1.trans s2)⟩

/-! ### membership, slices, joins -/
theorem inV_ints {k : Int} {ns : List Int} : inV (.int k) (ns.map V.int) = decide (k ∈ ns) := by
  induction ns with
  | nil => rfl
  | cons n ns ih =>
    have e : inV (.int k) ((n :: ns).map V.int) = (eqV (.int n) (.int k) || inV (.int k) (ns.map V.int)) := rfl
    rw [e, ih]
    have e2 : eqV (.int n) (.int k) = decide (k = n) := by
      show (n == k) = decide (k = n)
      by_cases h : k = n
      · subst h; simp
      · rw [decide_eq_false h]; exact beq_eq_false_iff_ne.mpr fun z => h z.symm
    rw [e2]
    by_cases h : k = n <;> simp [h]
theorem flat_ints (ns : List Int) : (ns.map V.int).all flatV = true := by
  induction ns with
  | nil => rfl
  | cons n ns ih => rw [List.map_cons, List.all_cons, ih]; rfl
theorem ev_in {k : Int} {ns : List Int} (ha : EvD X E ta Γ (.int k)) (hb : EvD X E tb Γ (.list (ns.map .int))) : EvD X E (tOp (rIn X.K false) ta tb) Γ (.bool (decide (k ∈ ns))) :=
  ev_twoS ha hb fun F H u v e du dv Q q => by
    obtain ⟨a, vs, rfl, s, al⟩ := dp_list dv
    rw [dpa_ints al] at s
    rw [dp_int du]
    refine ⟨a, _, rfl, .inl (sql_mono e s), rfl, flat_ints ns, ?_⟩
    show Q (.bl (inV (.int k) (ns.map V.int))) H
    rw [inV_ints]; exact q _ (.bl _)
theorem ev_notInD {m : Nat} {x : PyData} {ds : List PyData} (ha : EvD X E ta Γ x) (h : Γ[m]? = some (.mu ds)) (hx : SeqAt.shaped x = true) (hd : SeqAt.shaped (.list ds) = true) :
    EvD X E (tOp (rNotInD X.K) ta (tVar m)) Γ (.bool (!ds.any fun z => PyData.eqv z x)) := fun F H σ s Q q => ha F H σ s _ fun r v F1 H1 e s1 rv => by
  subst e
  obtain ⟨l, vs, e2, f, h0, n, hH, al⟩ := (s.step s1).slot m _ h
  exact ⟨_, e2, x, ds, dp_mono s1.ok.up rv, .lst (SqL.of hH) (dpa_mono s1.ok.up al), hx, hd, q _ _ F1 H1 rfl s1 (.bl _)⟩
def cutD (xs : List PyData) (lo hi : Option Int) : List PyData := (xs.drop (HT.sIx xs.length 0 lo)).take (HT.sIx xs.length xs.length hi - HT.sIx xs.length 0 lo)
theorem dpa_cut {K : PySem.W.Frag} {F : Hp} {vs : List V} {ds : List PyData} (h : DpAll K F vs ds) (lo hi : Option Int) : DpAll K F (cutV vs lo hi) (cutD ds lo hi) := by
  unfold cutV cutD
  rw [dpa_len h]; exact dpa_take _ (dpa_drop _ h)
/-- xs[:b] -/
theorem ev_cutTo {ds : List PyData} {j : Int} (ha : EvD X E ta Γ (.list ds)) (hb : EvD X E tb Γ (.int j)) : EvM X E (tSl (rSlL X.K) ta tNoPart (tPart tb)) Γ (cutD ds none (some j)) := fun F H σ s Q q =>
  ha F H σ s _ fun r v F1 H1 e s1 rv => hb F1 H1 σ (s.step s1) _ fun r2 v2 F2 H2 e2 s2 rv2 => by
    subst e e2
    obtain ⟨a, vs, rfl, sq, al⟩ := dp_list (dp_mono s2.up rv)
    exact ⟨j, dp_int rv2, a, vs, rfl, sql_mono s2.ok.up sq, fun p hp => q _ _ F2 _ rfl ((s1.trans s2).trans (.newM s2.ok hp)) ⟨p, _, rfl, (s1.trans s2).fresh hp, s2.ok.up.none hp, upd_same, dpa_cut al _ _⟩⟩
theorem ev_cutFrom {ds : List PyData} {j : Int} (ha : EvD X E ta Γ (.list ds)) (hb : EvD X E tb Γ (.int j)) : EvM X E (tSl (rSlL X.K) ta (tPart tb) tNoPart) Γ (cutD ds (some j) none) := fun F H σ s Q q =>
  ha F H σ s _ fun r v F1 H1 e s1 rv => hb F1 H1 σ (s.step s1) _ fun r2 v2 F2 H2 e2 s2 rv2 => by
    subst e e2
    obtain ⟨a, vs, rfl, sq, al⟩ := dp_list (dp_mono s2.up rv)
    exact ⟨j, dp_int rv2, a, vs, rfl, sql_mono s2.ok.up sq, fun p hp => q _ _ F2 _ rfl ((s1.trans s2).trans (.newM s2.ok hp)) ⟨p, _, rfl, (s1.trans s2).fresh hp, s2.ok.up.none hp, upd_same, dpa_cut al _ _⟩⟩
/-- two new lists joined -/
theorem ev_cat {xs ys : List PyData} (ha : EvM X E ta Γ xs) (hb : EvM X E tb Γ ys) (hl : xs.length + ys.length ≤ 1000) : EvM X E (tOp rCat ta tb) Γ (xs ++ ys) := fun F H σ s Q q =>
  ha F H σ s _ fun r v F1 H1 e s1 rv => hb F1 H1 σ (s.step s1) _ fun r2 v2 F2 H2 e2 s2 rv2 => by
    subst e e2
    obtain ⟨l, vs, rfl, h0, hF, hH, al⟩ := rv
    obtain ⟨l2, vs2, rfl, h02, hF2, hH2, al2⟩ := rv2
    have nS : ¬ X.S l := s.ok.noS h0
    refine ⟨l, l2, vs, vs2, rfl, rfl, s2.go _ _ nS hH, hH2, ?_, fun p hp => ?_⟩
    · rw [dpa_len al, dpa_len al2]; exact Nat.le_trans hl (by decide)
    · exact q _ _ F2 _ rfl ((s1.trans s2).trans (.newM s2.ok hp)) ⟨p, _, rfl, (s1.trans s2).fresh hp, s2.ok.up.none hp, upd_same, dpa_app (dpa_mono s2.up al) al2⟩

/-! ### list.index -/
theorem ev_index {k : Int} {ns : List Int} {j : Nat} (ha : EvD X E ta Γ (.list (ns.map .int))) (hb : EvD X E tb Γ (.int k)) (hj : ns[j]? = some k) (hm : ∀ m, m < j → ns[m]? ≠ some k) : EvD X E (tBM X.K "list" (rIndex X.K) ta (tCons tb tNil)) Γ (.int j) := fun F H σ s Q q =>
  ha F H σ s _ fun r v F1 H1 e s1 rv => by
    subst e
    obtain ⟨a, vs, rfl, sq, al⟩ := dp_list rv
    have al2 := dpa_ints al
    subst al2
    refine ⟨.inl ⟨rfl, _, sql_mono s1.ok.up sq⟩, hb F1 H1 σ (s.step s1) _ fun r2 v2 F2 H2 e2 s2 rv2 => ?_⟩
    subst e2
    rw [dp_int rv2]
    refine ⟨a, ns.map V.int, .int k, j, .int k, rfl, rfl, sql_mono s2.ok.up (sql_mono s2.up sq), rfl, flat_ints ns, by rw [List.getElem?_map, hj]; rfl, ?_, fun m z hmj hz => ?_, q _ _ F2 H2 rfl (s1.trans s2) (.int _)⟩
    · show (k == k) = true; simp
    · rw [List.getElem?_map] at hz
      cases w : ns[m]? with
      | none => rw [w] at hz; cases hz
      | some n =>
        rw [w] at hz
        cases hz
        show (n == k) = false
        exact beq_eq_false_iff_ne.mpr fun z => hm m hmj (by rw [w, z])
theorem ev_indexD {d : PyData} {ds : List PyData} {j : Nat} {z : PyData} (ha : EvD X E ta Γ (.list ds)) (hb : EvD X E tb Γ d) (sl : SeqAt.shaped (.list ds) = true) (sd : SeqAt.shaped d = true) (hz : ds[j]? = some z) (hzj : PyData.eqv z d = true)
    (hno : ∀ (m : Nat) (z' : PyData), m < j → ds[m]? = some z' → PyData.eqv z' d = false) : EvD X E (tBM X.K "list" (rIndexD X.K) ta (tCons tb tNil)) Γ (.int j) := fun F H σ s Q q =>
  ha F H σ s _ fun r v F1 H1 e s1 rv => by
    subst e
    obtain ⟨a, vs, rfl, sq, al⟩ := dp_list rv
    refine ⟨.inl ⟨rfl, _, sql_mono s1.ok.up sq⟩, hb F1 H1 σ (s.step s1) _ fun r2 v2 F2 H2 e2 s2 rv2 => ?_⟩
    subst e2
    exact ⟨a, v2, d, ds, j, z, rfl, rfl, dp_mono s2.ok.up (dp_mono s2.up rv), dp_mono s2.ok.up rv2, sl, sd, hz, hzj, hno, q _ _ F2 H2 rfl (s1.trans s2) (.int _)⟩
end
end Odd
set_option Elab.async false
set_option linter.all false
set_option maxRecDepth 100000
set_option maxHeartbeats 4000000
namespace Odd
open PySem L2

section
variable {X : Fx} {E : En} {Γ Γ' : List SV} {te ta tb tc : TE} {tt tu : TT} {P P' Pa Pb : SV → Prop} {tl : TA}

/-! ### slots are set -/
theorem get_set {α : Type} {l : List α} {i j : Nat} {a b : α} (h : (l.set i a)[j]? = some b) : (i = j ∧ i < l.length ∧ b = a) ∨ (i ≠ j ∧ l[j]? = some b) := by
  by_cases e : i = j
  · subst e
    by_cases hi : i < l.length
    · rw [List.getElem?_set_self hi] at h; exact .inl ⟨rfl, hi, (Option.some.inj h).symm⟩
    · rw [List.getElem?_eq_none (by simpa using hi)] at h; cases h
  · rw [List.getElem?_set_ne e] at h; exact .inr ⟨e, h⟩
/-- a slot takes a value that is no list of its own -/
theorem Sta.set {F H : Hp} {σ : St} (s : Sta X E F H σ Γ) {i : Nat} {x : PyData} {v : V} (h : Dp X.K F v x) : Sta X E F H (σ.set i (some v)) (Γ.set i (.d x)) where
  base := s.base
  len := by rw [List.length_set, List.length_set, s.len]
  slot := fun j sv e => by
    rcases get_set e with ⟨rfl, hi, rfl⟩ | ⟨ne, e⟩
    · exact ⟨v, by rw [List.getElem?_set_self (by rw [s.len]; exact hi)], h⟩
    · rw [List.getElem?_set_ne ne]; exact s.slot j sv e
  dst := fun a b l u w nab ea eb mu mw la lb => by
    rcases get_set ea with ⟨rfl, _, rfl⟩ | ⟨n1, ea⟩
    · cases mu
    rcases get_set eb with ⟨rfl, _, rfl⟩ | ⟨n2, eb⟩
    · cases mw
    rw [List.getElem?_set_ne n1] at la
    rw [List.getElem?_set_ne n2] at lb
    exact s.dst a b l u w nab ea eb mu mw la lb
theorem Sta.setR {F H : Hp} {σ : St} (s : Sta X E F H σ Γ) {i : Nat} {v : V} : Sta X E F H (σ.set i (some v)) (Γ.set i (.raw v)) where
  base := s.base
  len := by rw [List.length_set, List.length_set, s.len]
  slot := fun j sv e => by
    rcases get_set e with ⟨rfl, hi, rfl⟩ | ⟨ne, e⟩
    · show (σ.set i (some v))[i]? = _
      rw [List.getElem?_set_self (by rw [s.len]; exact hi)]
    · rw [List.getElem?_set_ne ne]; exact s.slot j sv e
  dst := fun a b l u w nab ea eb mu mw la lb => by
    rcases get_set ea with ⟨rfl, _, rfl⟩ | ⟨n1, ea⟩
    · cases mu
    rcases get_set eb with ⟨rfl, _, rfl⟩ | ⟨n2, eb⟩
    · cases mw
    rw [List.getElem?_set_ne n1] at la
    rw [List.getElem?_set_ne n2] at lb
    exact s.dst a b l u w nab ea eb mu mw la lb
/-- the address of an own slot is there -/
theorem SlotOk.there {F H : Hp} {sv : SV} {l : Addr} (m : sv.mine = true) (h : SlotOk X E F H sv (some (some (.ref l)))) : H l ≠ none ∧ F l = none ∧ E.H0 l = none ∧ ¬ X.S l := by
  cases sv with
  | mu ds => obtain ⟨l', vs, e, f, h0, n, q, _⟩ := h; cases e; exact ⟨by rw [q]; exact fun z => (nomatch z), f, h0, n⟩
  | obj u => obtain ⟨l', e, f, h0, n, q⟩ := h; cases e; exact ⟨by rw [q]; exact fun z => (nomatch z), f, h0, n⟩
  | no => cases m
  | d x => cases m
  | raw w => cases m
  | bor ds => cases m
  | mt dss => cases m
theorem SlotOk.ref {F H : Hp} {sv : SV} {o : Option (Option V)} (m : sv.mine = true) (h : SlotOk X E F H sv o) : ∃ l, o = some (some (.ref l)) := by
  cases sv with
  | mu ds => obtain ⟨l', vs, e, _⟩ := h; exact ⟨l', e⟩
  | obj u => obtain ⟨l', e, _⟩ := h; exact ⟨l', e⟩
  | no => cases m
  | d x => cases m
  | raw w => cases m
  | bor ds => cases m
  | mt dss => cases m
/-- a slot takes a new object, made behind H1 -/
theorem Sta.setN {F H H1 : Hp} {σ : St} (s : Sta X E F H σ Γ) {i : Nat} {sv : SV} {l : Addr} (hn : ∀ (j : Nat) (t : SV), Γ[j]? = some t → t.mine = true → σ[j]? ≠ some (some (.ref l)))
    (ok : SlotOk X E F H sv (some (some (.ref l)))) : Sta X E F H (σ.set i (some (.ref l))) (Γ.set i sv) where
  base := s.base
  len := by rw [List.length_set, List.length_set, s.len]
  slot := fun j sv e => by
    rcases get_set e with ⟨rfl, hi, rfl⟩ | ⟨ne, e⟩
    · rw [List.getElem?_set_self (by rw [s.len]; exact hi)]; exact ok
    · rw [List.getElem?_set_ne ne]; exact s.slot j sv e
  dst := fun a b k u w nab ea eb mu mw la lb => by
    rcases get_set ea with ⟨rfl, hi, rfl⟩ | ⟨n1, ea⟩
    · rcases get_set eb with ⟨rfl, _, rfl⟩ | ⟨n2, eb⟩
      · exact nab rfl
      rw [List.getElem?_set_self (by rw [s.len]; exact hi)] at la
      rw [List.getElem?_set_ne n2] at lb
      cases la
      exact hn b w eb mw lb
    · rw [List.getElem?_set_ne n1] at la
      rcases get_set eb with ⟨e1, hi, e2⟩ | ⟨n2, eb⟩
      · rw [← e1, List.getElem?_set_self (by rw [s.len]; exact hi)] at lb
        cases lb
        exact hn a u ea mu la
      · rw [List.getElem?_set_ne n2] at lb
        exact s.dst a b k u w nab ea eb mu mw la lb
/-- what a fresh address is to the slots that stood -/
theorem Sta.apart {F H : Hp} {σ : St} (s : Sta X E F H σ Γ) {l : Addr} (h : H l = none) (j : Nat) (t : SV) (e : Γ[j]? = some t) (m : t.mine = true) : σ[j]? ≠ some (some (.ref l)) := fun q => by
  have := s.slot j t e
  rw [q] at this
  exact (this.there m).1 h
/-- the content of an own slot is changed -/
theorem Sta.chg {F H : Hp} {σ : St} (s : Sta X E F H σ Γ) {i : Nat} {sv t : SV} {l : Addr} {u : HO} (hi : Γ[i]? = some sv) (m : sv.mine = true) (hl : σ[i]? = some (some (.ref l))) (mt : t.mine = true)
    (new : SlotOk X E F (upd H l u) t (some (some (.ref l)))) : Sta X E F (upd H l u) σ (Γ.set i t) := by
  have old := s.slot i sv hi
  rw [hl] at old
  obtain ⟨h1, h2, h3, h4⟩ := old.there m
  have st : Step X E.F0 E.H0 F (upd H l u) := ⟨s.base.up, ⟨s.ok.up.newR h2, X.st H _ (fun b hb => upd_ne fun e => h4 (e ▸ hb)) s.ok.inv, s.ok.out⟩, fun b o n e => by
    rw [upd_ne (ne_of_none e h3)]; exact s.base.go b o n e, s.base.nw⟩
  refine ⟨st, by rw [List.length_set]; exact s.len, fun j sv' e => ?_, fun a b k x w nab ea eb mu mw la lb => ?_⟩
  · rcases get_set e with ⟨rfl, _, rfl⟩ | ⟨ne, e⟩
    · rw [hl]; exact new
    · have q := s.slot j sv' e
      cases sv' with
      | no => trivial
      | d x => exact q
      | raw w => exact q
      | mu ds =>
        obtain ⟨l', vs, e', f, h0, n, q', a⟩ := q
        have : l' ≠ l := fun z => s.dst i j l sv _ ne hi e m rfl hl (by rw [e', z])
        exact ⟨l', vs, e', f, h0, n, by rw [upd_ne this]; exact q', a⟩
      | bor ds => exact q
      | obj u' =>
        obtain ⟨l', e', f, h0, n, q'⟩ := q
        have : l' ≠ l := fun z => s.dst i j l sv _ ne hi e m rfl hl (by rw [e', z])
        exact ⟨l', e', f, h0, n, by rw [upd_ne this]; exact q'⟩
      | mt dss => exact q
  · have f : ∀ {a : Nat} {x : SV}, (Γ.set i t)[a]? = some x → x.mine = true → ∃ y, Γ[a]? = some y ∧ y.mine = true := fun {a x} ea mu => by
      rcases get_set ea with ⟨rfl, _, rfl⟩ | ⟨_, ea⟩
      · exact ⟨sv, hi, m⟩
      · exact ⟨x, ea, mu⟩
    obtain ⟨y, ey, my⟩ := f ea mu
    obtain ⟨z, ez, mz⟩ := f eb mw
    exact s.dst a b k y z nab ey ez my mz la lb
/-- an own list is fixed from now on -/
theorem Sta.fix {F H : Hp} {σ : St} (s : Sta X E F H σ Γ) {i : Nat} {ds : List PyData} (hi : Γ[i]? = some (.mu ds)) : ∃ l vs, H l = some (.lst vs) ∧ F l = none ∧ E.H0 l = none ∧ ¬ X.S l ∧ Exs F (upd F l (.lst vs)) ∧ Sta X E (upd F l (.lst vs)) H σ (Γ.set i (.d (.list ds))) := by
  obtain ⟨l, vs, hl, f, h0, n, hH, al⟩ := s.slot i _ hi
  have up : Exs F (upd F l (.lst vs)) := Exs.new f
  refine ⟨l, vs, hH, f, h0, n, up, s.base.fix h0 hH f n, by rw [List.length_set]; exact s.len, fun j sv e => ?_, fun a b k x w nab ea eb mu mw la lb => ?_⟩
  · rcases get_set e with ⟨rfl, _, rfl⟩ | ⟨ne, e⟩
    · exact ⟨.ref l, hl, .lst (SqL.of upd_same) (dpa_mono up al)⟩
    · have q := s.slot j sv e
      cases sv with
      | no => trivial
      | d x => obtain ⟨v, e1, q1⟩ := q; exact ⟨v, e1, dp_mono up q1⟩
      | raw w => exact q
      | mu es =>
        obtain ⟨l', ws, e', f', h0', n', q', a⟩ := q
        have : l' ≠ l := fun z => s.dst i j l _ _ ne hi e rfl rfl hl (by rw [e', z])
        exact ⟨l', ws, e', by rw [upd_ne this]; exact f', h0', n', q', dpa_mono up a⟩
      | bor es => obtain ⟨l', ws, e', n', q', a⟩ := q; exact ⟨l', ws, e', n', q', dpa_mono up a⟩
      | obj u' =>
        obtain ⟨l', e', f', h0', n', q'⟩ := q
        have : l' ≠ l := fun z => s.dst i j l _ _ ne hi e rfl rfl hl (by rw [e', z])
        exact ⟨l', e', by rw [upd_ne this]; exact f', h0', n', q'⟩
      | mt dss => exact q
  · have f : ∀ {a : Nat} {x : SV}, (Γ.set i (.d (.list ds)))[a]? = some x → x.mine = true → Γ[a]? = some x := fun {a x} ea mu => by
      rcases get_set ea with ⟨rfl, _, rfl⟩ | ⟨_, ea⟩
      · cases mu
      · exact ea
    exact s.dst a b k x w nab (f ea mu) (f eb mw) mu mw la lb
/-- slots are forgotten -/
theorem Sta.drop {F H : Hp} {σ : St} (s : Sta X E F H σ Γ) {i : Nat} {o : Option V} : Sta X E F H (σ.set i o) (Γ.set i .no) where
  base := s.base
  len := by rw [List.length_set, List.length_set, s.len]
  slot := fun j sv e => by
    rcases get_set e with ⟨rfl, hi, rfl⟩ | ⟨ne, e⟩
    · trivial
    · rw [List.getElem?_set_ne ne]; exact s.slot j sv e
  dst := fun a b l u w nab ea eb mu mw la lb => by
    rcases get_set ea with ⟨rfl, _, rfl⟩ | ⟨n1, ea⟩
    · cases mu
    rcases get_set eb with ⟨rfl, _, rfl⟩ | ⟨n2, eb⟩
    · cases mw
    rw [List.getElem?_set_ne n1] at la
    rw [List.getElem?_set_ne n2] at lb
    exact s.dst a b l u w nab ea eb mu mw la lb
def wipeG (Γ : List SV) : List Nat → List SV
  | [] => Γ
  | v :: vs => (wipeG Γ vs).set v .no
theorem Sta.wipe {F H : Hp} {σ : St} (s : Sta X E F H σ Γ) : ∀ vs : List Nat, Sta X E F H (L2.wipe σ vs) (wipeG Γ vs)
  | [] => s
  | v :: vs => (Sta.wipe s vs).drop
theorem Sta.weak {F H : Hp} {σ : St} (s : Sta X E F H σ Γ) (hl : Γ'.length = Γ.length) (h : ∀ (i : Nat) (sv : SV), Γ'[i]? = some sv → sv = .no ∨ Γ[i]? = some sv) : Sta X E F H σ Γ' where
  base := s.base
  len := by rw [s.len, hl]
  slot := fun j sv e => by
    rcases h j sv e with rfl | q
    · trivial
    · exact s.slot j sv q
  dst := fun a b l u w nab ea eb mu mw la lb => by
    rcases h a u ea with rfl | qa
    · cases mu
    rcases h b w eb with rfl | qb
    · cases mw
    exact s.dst a b l u w nab qa qb mu mw la lb

/-! ### targets -/
/-- the target takes the datum x: slots js alone change -/
def TgP (X : Fx) (E : En) (g : TG) (x : PyData) (Γ Γ' : List SV) (js : List Nat) : Prop := ∀ F H σ v, Sta X E F H σ Γ → Dp X.K F v x → ∀ Q : St → Hp → Prop,
  (∀ σ', Sta X E F H σ' Γ' → (∀ i, i ∉ js → σ'[i]? = σ[i]?) → σ'.length = σ.length → Q σ' H) → g v σ H Q
theorem tg_name {i : Nat} {x : PyData} : TgP X E (gName i) x Γ (Γ.set i (.d x)) [i] := fun F H σ v s d Q q =>
  q _ (s.set d) (fun j hj => List.getElem?_set_ne (by simpa [eq_comm] using hj)) (by rw [List.length_set])
def TgsP (X : Fx) (E : En) (g : TGs) (xs : List PyData) (Γ Γ' : List SV) (js : List Nat) : Prop := ∀ F H σ vs, Sta X E F H σ Γ → DpAll X.K F vs xs → ∀ Q : St → Hp → Prop,
  (∀ σ', Sta X E F H σ' Γ' → (∀ i, i ∉ js → σ'[i]? = σ[i]?) → σ'.length = σ.length → Q σ' H) → g vs σ H Q
theorem tgs_nil : TgsP X E gNil [] Γ Γ [] := fun F H σ vs s d Q q => ⟨dpa_nil d, q σ s (fun _ _ => rfl) rfl⟩
theorem tgs_cons {g : TG} {gs : TGs} {x : PyData} {xs : List PyData} {Γ1 Γ2 : List SV} {js ks : List Nat} (h : TgP X E g x Γ Γ1 js) (hs : TgsP X E gs xs Γ1 Γ2 ks) : TgsP X E (gCons g gs) (x :: xs) Γ Γ2 (js ++ ks) := fun F H σ vs s d Q q => by
  obtain ⟨v, ws, rfl, a, b⟩ := dpa_cons d
  exact ⟨v, ws, rfl, h F H σ v s a _ fun σ1 s1 k1 l1 => hs F H σ1 ws s1 b _ fun σ2 s2 k2 l2 => q σ2 s2 (fun i hi => by
    rw [List.mem_append, not_or] at hi
    rw [k2 i hi.2, k1 i hi.1]) (by rw [l2, l1])⟩
theorem tg_tup {gs : TGs} {n : Nat} {xs : List PyData} {js : List Nat} (h : TgsP X E gs xs Γ Γ' js) (hn : xs.length = n := by rfl) : TgP X E (gTup X.K n gs) (.tuple xs) Γ Γ' js := fun F H σ v s d Q q => by
  obtain ⟨a, vs, rfl, sq, al⟩ := dp_tup d
  exact ⟨a, vs, rfl, sqt_mono s.ok.up sq, by rw [dpa_len al, hn], h F H σ vs s al Q q⟩
theorem wipe_at (σ : St) : ∀ (vs : List Nat) (i : Nat), (L2.wipe σ vs)[i]? = if i ∈ vs then (σ[i]?).map (fun _ => none) else σ[i]?
  | [], i => by simp [L2.wipe]
  | v :: vs, i => by
    show ((L2.wipe σ vs).set v none)[i]? = _
    by_cases e : v = i
    · subst e
      by_cases hv : v < σ.length
      · rw [List.getElem?_set_self (by rw [L2.wipe_length]; exact hv), if_pos List.mem_cons_self, List.getElem?_eq_getElem hv]; rfl
      · rw [List.getElem?_eq_none (by rw [List.length_set, L2.wipe_length]; omega), List.getElem?_eq_none (by omega)]; simp
    · rw [List.getElem?_set_ne e, wipe_at σ vs i]
      have : (i ∈ v :: vs) ↔ i ∈ vs := by simp [List.mem_cons, Ne.symm e]
      simp only [this]
theorem wipe_eq {σ σ' : St} {vs : List Nat} (h : ∀ i, i ∉ vs → σ'[i]? = (L2.wipe σ vs)[i]?) (hl : σ'.length = (L2.wipe σ vs).length) : L2.wipe σ' vs = L2.wipe σ vs := by
  apply List.ext_getElem?
  intro i
  rw [wipe_at σ' vs i]
  by_cases hi : i ∈ vs
  · rw [if_pos hi, wipe_at σ vs i, if_pos hi]
    rw [L2.wipe_length] at hl
    by_cases hb : i < σ.length
    · rw [List.getElem?_eq_getElem hb, List.getElem?_eq_getElem (by omega)]; rfl
    · rw [List.getElem?_eq_none (by omega), List.getElem?_eq_none (by omega)]
  · rw [if_neg hi]; exact h i hi

/-! ### what is walked -/
def IterOk (X : Fx) (J : It) (F1 : Hp) (ds : List PyData) : Prop := ∀ F2 H2, Exs F1 F2 → Ok X F2 H2 →
  (∀ (i : Nat) x, ds[i]? = some x → J.go i H2 ∧ ∀ v H', J.yld i H2 v H' → ∃ F3, Step X F2 H2 F3 H' ∧ Dp X.K F3 v x) ∧ (∀ i : Nat, ds.length ≤ i → J.stop i H2)
def ItP (X : Fx) (E : En) (wi : TI) (Γ : List SV) (Pd : List PyData → Prop) : Prop := ∀ F H σ, Sta X E F H σ Γ → ∀ R : It → Hp → Prop,
  (∀ ds J F1 H1, Pd ds → Step X F H F1 H1 → IterOk X J F1 ds → R J H1) → wi σ H R
abbrev ItD (X : Fx) (E : En) (wi : TI) (Γ : List SV) (ds : List PyData) : Prop := ItP X E wi Γ fun r => r = ds
theorem io_list {K : PySem.W.Frag} {F : Hp} {a : Addr} {vs : List V} {ds : List PyData} (hK : X.K = K) (s : SqL X.K F a vs) (al : DpAll X.K F vs ds) : IterOk X (Itl K a) F ds := fun F2 H2 e o => by
  subst hK
  have s2 := sql_mono o.up (sql_mono e s)
  refine ⟨fun i x hx => ?_, fun i hi => ⟨vs, s2, by rw [dpa_len al]; exact hi⟩⟩
  obtain ⟨v, hv, dv⟩ := dpa_get al hx
  refine ⟨⟨vs, v, s2, hv⟩, fun w H' y => ?_⟩
  obtain ⟨rfl, y⟩ := y
  have := y vs s2
  rw [hv] at this
  cases this
  exact ⟨F2, .refl o, dp_mono e dv⟩
theorem it_list {ds : List PyData} (h : EvD X E ta Γ (.list ds)) : ItD X E (iList X.K ta) Γ ds := fun F H σ s R q => h F H σ s _ fun r v F1 H1 e s1 rv => by
  subst e
  obtain ⟨a, vs, rfl, sq, al⟩ := dp_list rv
  exact ⟨a, rfl, ⟨vs, sql_mono s1.ok.up sq⟩, q ds _ F1 H1 rfl s1 (io_list rfl sq al)⟩
theorem it_listP {Pd : List PyData → Prop} (h : EvP X E ta Γ P) (k : ∀ r, P r → ∃ ds, r = .d (.list ds) ∧ Pd ds) : ItP X E (iList X.K ta) Γ Pd := fun F H σ s R q => h F H σ s _ fun r v F1 H1 p s1 rv => by
  obtain ⟨ds, rfl, pd⟩ := k r p
  obtain ⟨a, vs, rfl, sq, al⟩ := dp_list rv
  exact ⟨a, rfl, ⟨vs, sql_mono s1.ok.up sq⟩, q ds _ F1 H1 pd s1 (io_list rfl sq al)⟩
def intsD (lo : Int) (n : Nat) : List PyData := (List.range n).map fun (i : Nat) => PyData.int (lo + (i : Int))
theorem ints_get {lo : Int} {n i : Nat} {x : PyData} (h : (intsD lo n)[i]? = some x) : i < n ∧ x = .int (lo + i) := by
  unfold intsD at h
  rw [List.getElem?_map] at h
  by_cases hi : i < n
  · rw [List.getElem?_range hi] at h
    exact ⟨hi, (Option.some.inj h).symm⟩
  · rw [List.getElem?_eq_none (by simpa using hi)] at h; cases h
theorem ints_len {lo : Int} {n : Nat} : (intsD lo n).length = n := by unfold intsD; simp
theorem io_rng {F : Hp} {lo : Int} {n : Nat} : IterOk X (Itr lo n) F (intsD lo n) := fun F2 H2 e o =>
  ⟨fun i x hx => by
    obtain ⟨hi, rfl⟩ := ints_get hx
    exact ⟨hi, fun v H' y => by obtain ⟨rfl, rfl⟩ := y; exact ⟨F2, .refl o, .int _⟩⟩, fun i hi => by rw [ints_len] at hi; exact hi⟩
theorem it_rng1 {n : Nat} (h : EvD X E ta Γ (.int n)) (hn : n ≤ 100000) : ItD X E (iRng1 (tCons ta tNil)) Γ (intsD 0 n) := fun F H σ s R q => h F H σ s _ fun r v F1 H1 e s1 rv => by
  subst e
  refine ⟨n, by rw [dp_int rv], by omega, by omega, ?_⟩
  exact q _ _ F1 H1 rfl s1 (by rw [Int.toNat_natCast]; exact io_rng)
theorem it_rng1P {Pd : List PyData → Prop} (h : EvP X E ta Γ P) (k : ∀ r, P r → ∃ n : Nat, r = .d (.int n) ∧ n ≤ 100000 ∧ Pd (intsD 0 n)) : ItP X E (iRng1 (tCons ta tNil)) Γ Pd := fun F H σ s R q => h F H σ s _ fun r v F1 H1 p s1 rv => by
  obtain ⟨n, rfl, hn, pd⟩ := k r p
  refine ⟨n, by rw [dp_int rv], by omega, by omega, ?_⟩
  exact q _ _ F1 H1 pd s1 (by rw [Int.toNat_natCast]; exact io_rng)
theorem it_rng2 {m n : Nat} (ha : EvD X E ta Γ (.int m)) (hb : EvD X E tb Γ (.int n)) (hm : m ≤ n) (hn : n ≤ 100000) : ItD X E (iRng2 (tCons ta (tCons tb tNil))) Γ (intsD m (n - m)) := fun F H σ s R q =>
  ha F H σ s _ fun r v F1 H1 e s1 rv => hb F1 H1 σ (s.step s1) _ fun r2 v2 F2 H2 e2 s2 rv2 => by
    subst e e2
    refine ⟨m, n, by rw [dp_int rv, dp_int rv2], ⟨by omega, by omega, by omega, by omega⟩, ?_⟩
    have e3 : ((n : Int) - (m : Int)).toNat = n - m := by omega
    exact q _ _ F2 H2 rfl (s1.trans s2) (by rw [e3]; exact io_rng)
def enumD (ds : List PyData) : List PyData := ds.zipIdx.map fun p => .tuple [.int (p.2 : Nat), p.1]
theorem enum_get {ds : List PyData} {i : Nat} {x : PyData} (h : (enumD ds)[i]? = some x) : ∃ y, ds[i]? = some y ∧ x = .tuple [.int (i : Nat), y] := by
  unfold enumD at h
  rw [List.getElem?_map, List.getElem?_zipIdx] at h
  cases q : ds[i]? with
  | none => rw [q] at h; cases h
  | some y => rw [q] at h; simp at h; exact ⟨y, rfl, h.symm⟩
theorem enum_len {ds : List PyData} : (enumD ds).length = ds.length := by unfold enumD; simp
theorem io_enum {F : Hp} {a : Addr} {vs : List V} {ds : List PyData} (s : SqL X.K F a vs) (al : DpAll X.K F vs ds) : IterOk X (Ite X.K a) F (enumD ds) := fun F2 H2 e o => by
  have s2 := sql_mono o.up (sql_mono e s)
  refine ⟨fun i x hx => ?_, fun i hi => ⟨vs, s2, by rw [dpa_len al]; rw [enum_len] at hi; exact hi⟩⟩
  obtain ⟨y, hy, rfl⟩ := enum_get hx
  obtain ⟨v, hv, dv⟩ := dpa_get al hy
  refine ⟨⟨vs, v, s2, hv⟩, fun w H' yl => ?_⟩
  obtain ⟨T, z, rfl, hT, rfl, k⟩ := yl
  have := k vs s2
  rw [hv] at this
  cases this
  have st := Step.new (u := .tup [.int (i : Nat), v]) o hT
  exact ⟨_, st, .tup (SqT.of upd_same) (.cons (.int _) (.cons (dp_mono (e.trans st.up) dv) .nil))⟩
theorem it_enum {ds : List PyData} (h : EvD X E ta Γ (.list ds)) : ItD X E (iEnum X.K (tCons ta tNil)) Γ (enumD ds) := fun F H σ s R q => h F H σ s _ fun r v F1 H1 e s1 rv => by
  subst e
  obtain ⟨a, vs, rfl, sq, al⟩ := dp_list rv
  exact ⟨a, vs, rfl, sql_mono s1.ok.up sq, q _ _ F1 H1 rfl s1 (io_enum sq al)⟩
def zipD (xs ys : List PyData) : List PyData := (xs.zip ys).map fun p => .tuple [p.1, p.2]
theorem zip_get {xs ys : List PyData} {i : Nat} {x : PyData} (h : (zipD xs ys)[i]? = some x) : ∃ y z, xs[i]? = some y ∧ ys[i]? = some z ∧ x = .tuple [y, z] := by
  unfold zipD at h
  rw [List.getElem?_map] at h
  cases q : (xs.zip ys)[i]? with
  | none => rw [q] at h; cases h
  | some p =>
    rw [q] at h
    obtain ⟨y, z⟩ := p
    obtain ⟨h1, h2⟩ := List.getElem?_zip_eq_some.mp q
    exact ⟨y, z, h1, h2, (Option.some.inj h).symm⟩
theorem zip_len {xs ys : List PyData} : (zipD xs ys).length = min xs.length ys.length := by unfold zipD; simp
theorem io_zip {F : Hp} {a b : Addr} {vs ws : List V} {xs ys : List PyData} (s : SqL X.K F a vs) (al : DpAll X.K F vs xs) (t : SqL X.K F b ws) (bl : DpAll X.K F ws ys) : IterOk X (Itz X.K a b) F (zipD xs ys) := fun F2 H2 e o => by
  have s2 := sql_mono o.up (sql_mono e s)
  have t2 := sql_mono o.up (sql_mono e t)
  refine ⟨fun i x hx => ?_, fun i hi => ⟨vs, ws, s2, t2, by rw [dpa_len al, dpa_len bl]; rw [zip_len] at hi; omega⟩⟩
  obtain ⟨y, z, hy, hz, rfl⟩ := zip_get hx
  obtain ⟨v, hv, dv⟩ := dpa_get al hy
  obtain ⟨w, hw, dw⟩ := dpa_get bl hz
  refine ⟨⟨vs, ws, v, w, s2, t2, hv, hw⟩, fun u H' yl => ?_⟩
  obtain ⟨T, v', w', rfl, hT, rfl, k1, k2⟩ := yl
  have e1 := k1 vs s2
  rw [hv] at e1
  cases e1
  have e2 := k2 ws t2
  rw [hw] at e2
  cases e2
  have st := Step.new (u := .tup [v, w]) o hT
  exact ⟨_, st, .tup (SqT.of upd_same) (.cons (dp_mono (e.trans st.up) dv) (.cons (dp_mono (e.trans st.up) dw) .nil))⟩
theorem it_zip {xs ys : List PyData} (ha : EvD X E ta Γ (.list xs)) (hb : EvD X E tb Γ (.list ys)) : ItD X E (iZip X.K (tCons ta (tCons tb tNil))) Γ (zipD xs ys) := fun F H σ s R q =>
  ha F H σ s _ fun r v F1 H1 e s1 rv => hb F1 H1 σ (s.step s1) _ fun r2 v2 F2 H2 e2 s2 rv2 => by
    subst e e2
    obtain ⟨a, vs, rfl, sq, al⟩ := dp_list rv
    obtain ⟨b, ws, rfl, sq2, bl⟩ := dp_list rv2
    exact ⟨a, b, vs, ws, rfl, sql_mono s2.ok.up (sql_mono s2.up sq), sql_mono s2.ok.up sq2, q _ _ F2 H2 rfl (s1.trans s2) (io_zip (sql_mono s2.up sq) (dpa_mono s2.up al) sq2 bl)⟩

/-! ### comprehensions -/
/-- each turn i binds x, then gives the datum y with R i y, or nothing (bs i = false) -/
theorem ev_lcP {wi : TI} {g : TG} {vs : List Nat} {Pd : List PyData → Prop} (hi : ItP X E wi Γ Pd) (hl : ∀ ds, Pd ds → ds.length ≤ 1000)
    (Rs : List PyData → List PyData → Prop)
    (h0 : ∀ ds, Pd ds → Rs [] [])
    (hs : ∀ ds, Pd ds → ∀ (i : Nat) (x : PyData), ds[i]? = some x → ∃ Γ1 js, TgP X E g x (wipeG Γ vs) Γ1 js ∧ (∀ j ∈ js, j ∈ vs) ∧
      ∃ b, EvB X E tt Γ1 b ∧ (b = true → EvP X E te Γ1 fun r => ∃ y, r = .d y ∧ ∀ acc, Rs (ds.take i) acc → Rs (ds.take (i + 1)) (acc ++ [y])) ∧
        (b = false → ∀ acc, Rs (ds.take i) acc → Rs (ds.take (i + 1)) acc))
    (hd : ∀ ds acc, Pd ds → Rs ds acc → acc.length ≤ ds.length → P (.mu acc)) : EvP X E (tLc wi g tt te vs) Γ P := fun F H σ s Q q =>
  hi F H σ s _ fun ds J F1 H1 pd s1 io => fun D hD => by
    have hlen := hl ds pd
    have nS : ¬ X.S D := s1.ok.noS hD
    have hD0 : H D = none := s1.fresh hD
    -- the word between the turns
    refine ⟨fun i m H' => m = ds.length - i ∧ i ≤ ds.length ∧ ∃ F' acc ws, Step X F1 H1 F' H' ∧ F' D = none ∧ H' D = some (.lst ws) ∧ DpAll X.K F' ws acc ∧ acc.length ≤ i ∧ Rs (ds.take i) acc,
      ⟨ds.length, by simp, Nat.zero_le _, F1, [], [], .newM s1.ok hD, s1.ok.up.none hD, upd_same, .nil, Nat.le_refl _, h0 ds pd⟩, ?_⟩
    rintro i m H' ⟨rfl, hi, F', acc, ws, st, hFD, hHD, al, la, rs⟩
    obtain ⟨io1, io2⟩ := io F' H' st.up st.ok
    by_cases hlt : i < ds.length
    · refine .inr ?_
      obtain ⟨go, yl⟩ := io1 i ds[i] (List.getElem?_eq_getElem hlt)
      refine ⟨go, fun H'' => ∃ F' acc ws, Step X F1 H1 F' H'' ∧ F' D = none ∧ H'' D = some (.lst ws) ∧ DpAll X.K F' ws acc ∧ acc.length ≤ i + 1 ∧ Rs (ds.take (i + 1)) acc, fun H'' p => ⟨ds.length - (i + 1), by omega, rfl, hlt, p⟩, fun x H'' y => ?_⟩
      obtain ⟨F3, st3, dx⟩ := yl x H'' y
      obtain ⟨Γ1, js, tg, hjs, b, hb, hy, hn⟩ := hs ds pd i ds[i] (List.getElem?_eq_getElem hlt)
      have sta : Sta X E F3 H'' (L2.wipe σ vs) (wipeG Γ vs) := (s.step ((s1.trans st).trans st3)).wipe vs
      refine tg F3 H'' _ x sta dx _ fun σ2 sta2 k2 l2 => ⟨wipe_eq (fun j hj => k2 j fun z => hj (hjs j z)) l2, ?_⟩
      refine hb F3 H'' σ2 sta2 _ fun b' F4 H4 eb s4 => ?_
      subst eb
      have hHD4 : H4 D = some (.lst ws) := s4.go _ _ nS (st3.go _ _ nS hHD)
      have hFD4 : F4 D = none := s4.nw D (st3.nw D hFD (by rw [hHD]; exact fun z => (nomatch z))) (by rw [st3.go _ _ nS hHD]; exact fun z => (nomatch z))
      cases b' with
      | true =>
        rw [if_pos rfl]
        refine hy rfl F4 H4 σ2 (sta2.step s4) _ fun r v F5 H5 pr s5 ro => ?_
        obtain ⟨yv, rfl, ky⟩ := pr
        have hHD5 : H5 D = some (.lst ws) := s5.go _ _ nS hHD4
        have hFD5 : F5 D = none := s5.nw D hFD4 (by rw [hHD4]; exact fun z => (nomatch z))
        have all5 := ((st.trans st3).trans s4).trans s5
        refine ⟨ws, hHD5, by rw [dpa_len al]; exact Nat.lt_of_le_of_lt la (Nat.lt_of_lt_of_le hlt (Nat.le_trans hlen (by decide))), F5, acc ++ [yv], ws ++ [v], ?_, hFD5, upd_same, dpa_app (dpa_mono ((st3.up.trans s4.up).trans s5.up) al) (.cons ro .nil), by rw [List.length_append]; simp; omega, ky acc rs⟩
        exact ⟨all5.up, ⟨all5.ok.up.newR hFD5, X.st H5 _ (fun b hb => upd_ne fun e => nS (e ▸ hb)) all5.ok.inv, all5.ok.out⟩, fun b o n e => by
          rw [upd_ne (ne_of_none e hD)]; exact all5.go b o n e, all5.nw⟩
      | false =>
        rw [if_neg Bool.false_ne_true]
        exact ⟨F4, acc, ws, (st.trans st3).trans s4, hFD4, hHD4, dpa_mono (st3.up.trans s4.up) al, by omega, hn rfl acc rs⟩
    · have e : i = ds.length := by omega
      refine .inl ⟨io2 i (by omega), ?_⟩
      rw [e, List.take_length] at rs
      exact q _ _ F' H' (hd ds acc pd rs (by omega)) (s1.trans st) ⟨D, ws, rfl, hD0, hFD, hHD, al⟩
/-- deterministic: f gives each item's element, or none -/
theorem ev_lc {wi : TI} {g : TG} {vs : List Nat} {ds : List PyData} (f : PyData → Option PyData) (hi : ItD X E wi Γ ds) (hl : ds.length ≤ 1000)
    (hs : ∀ (i : Nat) (x : PyData), ds[i]? = some x → ∃ Γ1 js, TgP X E g x (wipeG Γ vs) Γ1 js ∧ (∀ j ∈ js, j ∈ vs) ∧
      EvB X E tt Γ1 (f x).isSome ∧ ∀ y, f x = some y → EvD X E te Γ1 y) : EvM X E (tLc wi g tt te vs) Γ (ds.filterMap f) := by
  refine ev_lcP hi (fun ds' e => e ▸ hl) (fun xs ys => ys = xs.filterMap f) (fun _ _ => rfl) (fun ds' e i x hx => ?_) fun ds' acc e ra _ => by subst e ra; rfl
  subst e
  obtain ⟨Γ1, js, tg, hj, hb, hy⟩ := hs i x hx
  have tk : ds'.take (i + 1) = ds'.take i ++ [x] := by rw [List.take_add_one, hx]; rfl
  refine ⟨Γ1, js, tg, hj, _, hb, fun b => ?_, fun b acc ra => ?_⟩
  · cases q : f x with
    | none => rw [q] at b; cases b
    | some y =>
      refine (hy y q).imp fun r e => ⟨y, e, fun acc ra => ?_⟩
      rw [tk, List.filterMap_append, ra]
      simp [q]
  · cases q : f x with
    | some y => rw [q] at b; cases b
    | none => rw [tk, List.filterMap_append, ra]; simp [q]
/-- .. without a test -/
theorem ev_lcm {wi : TI} {g : TG} {vs : List Nat} {ds : List PyData} (f : PyData → PyData) (hi : ItD X E wi Γ ds) (hl : ds.length ≤ 1000)
    (hs : ∀ (i : Nat) (x : PyData), ds[i]? = some x → ∃ Γ1 js, TgP X E g x (wipeG Γ vs) Γ1 js ∧ (∀ j ∈ js, j ∈ vs) ∧ EvD X E te Γ1 (f x)) : EvM X E (tLc wi g tYes te vs) Γ (ds.map f) := by
  have h := ev_lc (tt := tYes) (te := te) (g := g) (vs := vs) (fun x => some (f x)) hi hl fun i x hx => by
    obtain ⟨Γ1, js, tg, hj, hy⟩ := hs i x hx
    exact ⟨Γ1, js, tg, hj, et_yes, fun y e => by cases e; exact hy⟩
  have e : ds.filterMap (fun x => some (f x)) = ds.map f := by rw [← List.filterMap_eq_map]; rfl
  rw [e] at h
  exact h
end
end Odd
set_option Elab.async false
set_option linter.all false
set_option maxRecDepth 100000
set_option maxHeartbeats 4000000
namespace Odd
open PySem L2

/-! ### statements -/
structure GE where
  nx : List SV → Prop
  rt : SV → Prop
  bk : List SV → Prop := fun _ => False
  ct : List SV → Prop := fun _ => False
structure Sim (X : Fx) (E : En) (Fa : Hp) (D : Ends) (G : GE) : Prop where
  nx : ∀ Γ' σ' F' H', G.nx Γ' → Exs Fa F' → Sta X E F' H' σ' Γ' → D.nx σ' H'
  rt : ∀ r v F' H', G.rt r → Exs Fa F' → Step X E.F0 E.H0 F' H' → ResOk X F' H' E.H0 r v → D.rt v H'
  bk : ∀ Γ' σ' F' H', G.bk Γ' → Exs Fa F' → Sta X E F' H' σ' Γ' → D.bk σ' H'
  ct : ∀ Γ' σ' F' H', G.ct Γ' → Exs Fa F' → Sta X E F' H' σ' Γ' → D.ct σ' H'
def SG (X : Fx) (E : En) (t : TS) (Γ : List SV) (G : GE) : Prop := ∀ Fa D, Sim X E Fa D G → ∀ F H σ, Exs Fa F → Sta X E F H σ Γ → t D σ H

section
variable {X : Fx} {E : En} {Γ Γ' : List SV} {te ta tb tc : TE} {tt : TT} {P P' Pa Pb : SV → Prop} {tl : TA} {t u : TS} {G : GE}

theorem sg_seq (h : SG X E t Γ { G with nx := fun Γ' => SG X E u Γ' G }) : SG X E (tSeq t u) Γ G := fun Fa D sm F H σ e s =>
  h Fa { D with nx := u D } ⟨fun Γ' σ' F' H' g e' s' => g Fa D sm F' H' σ' e' s', sm.rt, sm.bk, sm.ct⟩ F H σ e s
theorem sg_next (h : G.nx Γ) : SG X E tNext Γ G := fun Fa D sm F H σ e s => sm.nx Γ σ F H h e s
theorem sg_break (h : G.bk Γ) : SG X E tBreak Γ G := fun Fa D sm F H σ e s => sm.bk Γ σ F H h e s
theorem sg_cont (h : G.ct Γ) : SG X E tCont Γ G := fun Fa D sm F H σ e s => sm.ct Γ σ F H h e s
theorem sg_absurd (h : False) : SG X E t Γ G := h.elim
/-- name = data -/
theorem sg_asgP {i : Nat} (h : EvP X E te Γ P) (k : ∀ r, P r → ∃ x, r = .d x ∧ G.nx (Γ.set i (.d x))) : SG X E (tAsg te (gName i)) Γ G := fun Fa D sm F H σ e s =>
  h F H σ s _ fun r v F1 H1 p s1 ro => by
    obtain ⟨x, rfl, g⟩ := k r p
    exact sm.nx _ _ F1 H1 g (e.trans s1.up) ((s.step s1).set ro)
theorem sg_asg {i : Nat} {x : PyData} (h : EvD X E te Γ x) (k : G.nx (Γ.set i (.d x))) : SG X E (tAsg te (gName i)) Γ G := sg_asgP h fun r e => ⟨x, e, k⟩
/-- name = a new list that will be changed -/
theorem sg_asgM {i : Nat} {ds : List PyData} (h : EvM X E te Γ ds) (k : G.nx (Γ.set i (.mu ds))) : SG X E (tAsg te (gName i)) Γ G := fun Fa D sm F H σ e s =>
  h F H σ s _ fun r v F1 H1 p s1 ro => by
    subst p
    obtain ⟨l, vs, rfl, h0, hF, hH, al⟩ := ro
    have s2 := s.step s1
    refine sm.nx _ _ F1 H1 k (e.trans s1.up) (s2.setN (H1 := H1) (fun j t ej mj q => ?_) ⟨l, vs, rfl, hF, s.base.fresh h0, s.ok.noS h0, hH, al⟩)
    exact s.apart h0 j t ej mj q
theorem sg_asgMP {i : Nat} (h : EvP X E te Γ P) (k : ∀ r, P r → ∃ ds, r = .mu ds ∧ G.nx (Γ.set i (.mu ds))) : SG X E (tAsg te (gName i)) Γ G := fun Fa D sm F H σ e s =>
  h F H σ s _ fun r v F1 H1 p s1 ro => by
    obtain ⟨ds, rfl, k⟩ := k r p
    obtain ⟨l, vs, rfl, h0, hF, hH, al⟩ := ro
    have s2 := s.step s1
    refine sm.nx _ _ F1 H1 k (e.trans s1.up) (s2.setN (H1 := H1) (fun j t ej mj q => ?_) ⟨l, vs, rfl, hF, s.base.fresh h0, s.ok.noS h0, hH, al⟩)
    exact s.apart h0 j t ej mj q
/-- name = a new object -/
theorem sg_asgO {i : Nat} {o : Addr → HO} (h : EvP X E te Γ fun r => r = .obj o) (k : G.nx (Γ.set i (.obj o))) : SG X E (tAsg te (gName i)) Γ G := fun Fa D sm F H σ e s =>
  h F H σ s _ fun r v F1 H1 p s1 ro => by
    subst p
    obtain ⟨l, rfl, h0, hF, hH⟩ := ro
    have s2 := s.step s1
    refine sm.nx _ _ F1 H1 k (e.trans s1.up) (s2.setN (H1 := H1) (fun j t ej mj q => ?_) ⟨l, rfl, hF, s.base.fresh h0, s.ok.noS h0, hH⟩)
    exact s.apart h0 j t ej mj q
/-- a target of any form -/
theorem sg_tg {g : TG} {x : PyData} {js : List Nat} (h : EvD X E te Γ x) (tg : TgP X E g x Γ Γ' js) (k : G.nx Γ') : SG X E (tAsg te g) Γ G := fun Fa D sm F H σ e s =>
  h F H σ s _ fun r v F1 H1 p s1 ro => by
    subst p
    exact tg F1 H1 σ v (s.step s1) ro _ fun σ' s' _ _ => sm.nx _ _ F1 H1 k (e.trans s1.up) s'
theorem sg_tgP {g : TG} (h : EvP X E te Γ P) (k : ∀ r, P r → ∃ x Γ' js, r = .d x ∧ TgP X E g x Γ Γ' js ∧ G.nx Γ') : SG X E (tAsg te g) Γ G := fun Fa D sm F H σ e s =>
  h F H σ s _ fun r v F1 H1 p s1 ro => by
    obtain ⟨x, Γ', js, rfl, tg, k⟩ := k r p
    exact tg F1 H1 σ v (s.step s1) ro _ fun σ' s' _ _ => sm.nx _ _ F1 H1 k (e.trans s1.up) s'
/-- a, b = x, y -/
theorem sg_par {i j : Nat} {x y : PyData} (h : EvAD X E tl Γ [.d x, .d y]) (k : G.nx ((Γ.set i (.d x)).set j (.d y))) : SG X E (tPar i j tl) Γ G := fun Fa D sm F H σ e s =>
  h F H σ s _ fun rs vs F1 H1 p s1 ro => by
    subst p
    cases ro with
    | cons a r =>
      cases r with
      | cons b r =>
        cases r
        exact ⟨_, _, rfl, sm.nx _ _ F1 H1 k (e.trans s1.up) (((s.step s1).set a).set b)⟩
theorem sg_if {Pb : Bool → Prop} (h : EvT X E tt Γ Pb) (h1 : Pb true → SG X E t Γ G) (h2 : Pb false → SG X E u Γ G) : SG X E (tIfS tt t u) Γ G := fun Fa D sm F H σ e s =>
  h F H σ s _ fun b F1 H1 p s1 => by
    cases b with
    | true => exact h1 p Fa D sm F1 H1 σ (e.trans s1.up) (s.step s1)
    | false => exact h2 p Fa D sm F1 H1 σ (e.trans s1.up) (s.step s1)
theorem sg_ifT (h : EvB X E tt Γ true) (h1 : SG X E t Γ G) : SG X E (tIfS tt t u) Γ G := sg_if h (fun _ => h1) fun e => nomatch e
theorem sg_ifF (h : EvB X E tt Γ false) (h1 : SG X E u Γ G) : SG X E (tIfS tt t u) Γ G := sg_if h (fun e => nomatch e) fun _ => h1
/-- return -/
theorem sg_ret (h : EvP X E te Γ P) (k : ∀ r, P r → G.rt r) : SG X E (tRet te) Γ G := fun Fa D sm F H σ e s =>
  h F H σ s _ fun r v F1 H1 p s1 ro => sm.rt r v F1 H1 (k r p) (e.trans s1.up) (s.base.trans s1) (ro.old fun b hb => s.base.fresh hb)
theorem sg_retD {x : PyData} (h : EvD X E te Γ x) (k : G.rt (.d x)) : SG X E (tRet te) Γ G := sg_ret h fun r e => e ▸ k
/-- return of a list of one's own, as it stands -/
theorem sg_retM {m : Nat} {ds : List PyData} (h : Γ[m]? = some (.mu ds)) (k : G.rt (.mu ds)) : SG X E (tRet (tVar m)) Γ G := fun Fa D sm F H σ e s => by
  obtain ⟨l, vs, q, f, h0, n, hH, al⟩ := s.slot m _ h
  exact ⟨_, q, sm.rt _ _ F H k e s.base ⟨l, vs, rfl, h0, f, hH, al⟩⟩
/-- .. fixed -/
theorem sg_fix {m : Nat} {ds : List PyData} (h : Γ[m]? = some (.mu ds)) (k : SG X E t (Γ.set m (.d (.list ds))) G) : SG X E t Γ G := fun Fa D sm F H σ e s => by
  obtain ⟨l, vs, _, _, _, _, up, s'⟩ := s.fix h
  exact k Fa D sm _ H σ (e.trans up) s'
theorem sg_weak (hl : Γ'.length = Γ.length) (h : ∀ (i : Nat) (sv : SV), Γ'[i]? = some sv → sv = .no ∨ Γ[i]? = some sv) (k : SG X E t Γ' G) : SG X E t Γ G := fun Fa D sm F H σ e s =>
  k Fa D sm F H σ e (s.weak hl h)
/-- a slot that is not asked any more -/
theorem sg_drop (i : Nat) (k : SG X E t (Γ.set i .no) G) : SG X E t Γ G := sg_weak (by rw [List.length_set]) (fun j sv e => by
  rcases get_set e with ⟨_, _, rfl⟩ | ⟨_, e⟩
  · exact .inl rfl
  · exact .inr e) k
/-- an expression as a statement -/
theorem sg_drop1 (h : EvP X E te Γ P) (k : G.nx Γ) : SG X E (tDrop te) Γ G := fun Fa D sm F H σ e s =>
  h F H σ s _ fun r v F1 H1 p s1 ro => sm.nx Γ σ F1 H1 k (e.trans s1.up) (s.step s1)
/-- xs.append(e) -/
theorem sg_appendP {m : Nat} {ds : List PyData} (hm : Γ[m]? = some (.mu ds)) (h : EvP X E te Γ P) (hl : ds.length ≤ 1000) (k : ∀ r, P r → ∃ x, r = .d x ∧ G.nx (Γ.set m (.mu (ds ++ [x])))) :
    SG X E (tDrop (tBM X.K "list" rAppend (tVar m) (tCons te tNil))) Γ G := fun Fa D sm F H σ e s => by
  obtain ⟨l, vs, q, f, h0, n, hH, al⟩ := s.slot m _ hm
  refine ⟨_, q, .inl ⟨rfl, _, SqL.of hH⟩, h F H σ s _ fun r v F1 H1 p s1 ro => ?_⟩
  obtain ⟨x, rfl, k⟩ := k r p
  have hH1 := s1.go _ _ n hH
  have hF1 := s1.nw l f (by rw [hH]; exact fun z => (nomatch z))
  refine ⟨l, vs, v, rfl, rfl, hH1, by rw [dpa_len al]; exact Nat.lt_of_le_of_lt hl (by decide), ?_⟩
  exact sm.nx _ _ F1 _ k (e.trans s1.up) ((s.step s1).chg hm rfl q rfl ⟨l, _, rfl, hF1, h0, n, upd_same, dpa_app (dpa_mono s1.up al) (.cons ro .nil)⟩)
theorem sg_append {m : Nat} {ds : List PyData} {x : PyData} (hm : Γ[m]? = some (.mu ds)) (h : EvD X E te Γ x) (hl : ds.length ≤ 1000) (k : G.nx (Γ.set m (.mu (ds ++ [x])))) :
    SG X E (tDrop (tBM X.K "list" rAppend (tVar m) (tCons te tNil))) Γ G := sg_appendP hm h hl fun r e => ⟨x, e, k⟩
/-- xs[i] = e -/
theorem sg_setL {m : Nat} {ds : List PyData} {x : PyData} {j : Nat} (hm : Γ[m]? = some (.mu ds)) (h : EvD X E te Γ x) (hi : EvD X E tb Γ (.int j)) (hj : j < ds.length) (k : G.nx (Γ.set m (.mu (ds.set j x)))) :
    SG X E (tAsg te (gSub (tVar m) tb rSetL)) Γ G := fun Fa D sm F H σ e s =>
  h F H σ s _ fun r v F1 H1 p s1 ro => by
    subst p
    have s2 := s.step s1
    obtain ⟨l, vs, q, f, h0, n, hH, al⟩ := s2.slot m _ hm
    refine ⟨_, q, hi F1 H1 σ s2 _ fun r2 v2 F2 H2 p2 s3 ro2 => ?_⟩
    subst p2
    have s4 := s2.step s3
    obtain ⟨l', vs', q', f', h0', n', hH', al'⟩ := s4.slot m _ hm
    rw [q] at q'
    cases q'
    refine ⟨l, vs', j, j, rfl, dp_int ro2, hH', ?_, ?_⟩
    · unfold ixN
      rw [dpa_len al', if_pos (by omega), if_pos (by omega)]; simp
    · exact sm.nx _ _ F2 _ k (e.trans (s1.up.trans s3.up)) (s4.chg hm rfl q rfl ⟨l, _, rfl, f', h0', n', upd_same, dpa_set (dp_mono s3.up ro) j al'⟩)
/-! loops -/
theorem sg_forP {wi : TI} {g : TG} {Pd : List PyData → Prop} (hi : ItP X E wi Γ Pd) (Iv : List PyData → Nat → List SV → Prop) (h0 : ∀ ds, Pd ds → Iv ds 0 Γ)
    (hs : ∀ ds, Pd ds → ∀ (i : Nat) (x : PyData) Γ1, ds[i]? = some x → Iv ds i Γ1 → ∃ Γ2 js, TgP X E g x Γ1 Γ2 js ∧ SG X E t Γ2 { nx := Iv ds (i + 1), rt := G.rt, bk := G.nx, ct := Iv ds (i + 1) })
    (hd : ∀ ds Γ1, Pd ds → Iv ds ds.length Γ1 → G.nx Γ1) : SG X E (tFor wi g t) Γ G := fun Fa D sm F H σ e s =>
  hi F H σ s _ fun ds J F1 H1 pd s1 io => by
    refine ⟨fun i m σ' H' => m = ds.length - i ∧ i ≤ ds.length ∧ ∃ F' Γ1, Exs F1 F' ∧ Sta X E F' H' σ' Γ1 ∧ Iv ds i Γ1, ⟨ds.length, by simp, Nat.zero_le _, F1, Γ, Exs.refl _, s.step s1, h0 ds pd⟩, ?_⟩
    rintro i m σ' H' ⟨rfl, hle, F', Γ1, up, st, iv⟩
    obtain ⟨io1, io2⟩ := io F' H' up st.ok
    by_cases hlt : i < ds.length
    · refine .inr ?_
      obtain ⟨go, yl⟩ := io1 i ds[i] (List.getElem?_eq_getElem hlt)
      obtain ⟨Γ2, js, tg, sg⟩ := hs ds pd i ds[i] Γ1 (List.getElem?_eq_getElem hlt) iv
      refine ⟨go, fun σ'' H'' => ∃ F' Γ1, Exs F1 F' ∧ Sta X E F' H'' σ'' Γ1 ∧ Iv ds (i + 1) Γ1, fun σ'' H'' p => ⟨ds.length - (i + 1), by omega, rfl, hlt, p⟩, fun x H'' y => ?_⟩
      obtain ⟨F3, s3, dx⟩ := yl x H'' y
      refine tg F3 H'' σ' x (st.step s3) dx _ fun σ2 st2 _ _ => ?_
      refine sg F1 { D with nx := fun σ'' H'' => ∃ F' Γ1, Exs F1 F' ∧ Sta X E F' H'' σ'' Γ1 ∧ Iv ds (i + 1) Γ1, ct := fun σ'' H'' => ∃ F' Γ1, Exs F1 F' ∧ Sta X E F' H'' σ'' Γ1 ∧ Iv ds (i + 1) Γ1, bk := D.nx } ⟨fun Γ' σ3 F4 H4 g e' s' => ⟨F4, Γ', e', s', g⟩, fun r v F4 H4 g e' s' ro => sm.rt r v F4 H4 g (e.trans (s1.up.trans e')) s' ro,
        fun Γ' σ3 F4 H4 g e' s' => sm.nx Γ' σ3 F4 H4 g (e.trans (s1.up.trans e')) s', fun Γ' σ3 F4 H4 g e' s' => ⟨F4, Γ', e', s', g⟩⟩ F3 H'' σ2 (up.trans s3.up) st2
    · have ei : i = ds.length := by omega
      refine .inl ⟨io2 i (by omega), ?_⟩
      rw [ei] at iv
      exact sm.nx Γ1 σ' F' H' (hd ds Γ1 pd iv) (e.trans (s1.up.trans up)) st
theorem sg_for {wi : TI} {g : TG} {ds : List PyData} (hi : ItD X E wi Γ ds) (Iv : Nat → List SV → Prop) (h0 : Iv 0 Γ)
    (hs : ∀ (i : Nat) (x : PyData) Γ1, ds[i]? = some x → Iv i Γ1 → ∃ Γ2 js, TgP X E g x Γ1 Γ2 js ∧ SG X E t Γ2 { nx := Iv (i + 1), rt := G.rt, bk := G.nx, ct := Iv (i + 1) })
    (hd : ∀ Γ1, Iv ds.length Γ1 → G.nx Γ1) : SG X E (tFor wi g t) Γ G :=
  sg_forP hi (fun _ => Iv) (fun _ _ => h0) (fun ds' e i x Γ1 hx iv => by subst e; exact hs i x Γ1 hx iv) fun ds' Γ1 e iv => by subst e; exact hd Γ1 iv
theorem sg_while (Iv : Nat → List SV → Prop) (m0 : Nat) (h0 : Iv m0 Γ)
    (hs : ∀ m Γ1, Iv m Γ1 → ∃ b, EvB X E tt Γ1 b ∧ (b = true → SG X E t Γ1 { nx := fun Γ2 => ∃ m', m' < m ∧ Iv m' Γ2, rt := G.rt, bk := G.nx, ct := fun Γ2 => ∃ m', m' < m ∧ Iv m' Γ2 }) ∧ (b = false → G.nx Γ1)) :
    SG X E (tWhile tt t) Γ G := fun Fa D sm F H σ e s => by
  refine ⟨fun m σ' H' => ∃ F' Γ1, Exs Fa F' ∧ Sta X E F' H' σ' Γ1 ∧ Iv m Γ1, ⟨m0, F, Γ, e, s, h0⟩, ?_⟩
  rintro m σ' H' ⟨F', Γ1, up, st, iv⟩
  obtain ⟨b, hb, h1, h2⟩ := hs m Γ1 iv
  refine hb F' H' σ' st _ fun c F2 H2 ec s2 => ?_
  subst ec
  cases c with
  | true =>
    rw [if_pos rfl]
    refine ⟨fun σ'' H'' => ∃ m', m' < m ∧ ∃ F' Γ1, Exs Fa F' ∧ Sta X E F' H'' σ'' Γ1 ∧ Iv m' Γ1, fun σ'' H'' p => p, ?_⟩
    exact h1 rfl Fa { D with nx := fun σ'' H'' => ∃ m', m' < m ∧ ∃ F' Γ1, Exs Fa F' ∧ Sta X E F' H'' σ'' Γ1 ∧ Iv m' Γ1, ct := fun σ'' H'' => ∃ m', m' < m ∧ ∃ F' Γ1, Exs Fa F' ∧ Sta X E F' H'' σ'' Γ1 ∧ Iv m' Γ1, bk := D.nx } ⟨fun Γ' σ3 F4 H4 g e' s' => by obtain ⟨m', hm, g⟩ := g; exact ⟨m', hm, F4, Γ', e', s', g⟩, sm.rt, sm.nx,
      fun Γ' σ3 F4 H4 g e' s' => by obtain ⟨m', hm, g⟩ := g; exact ⟨m', hm, F4, Γ', e', s', g⟩⟩ F2 H2 σ' (up.trans s2.up) (st.step s2)
  | false =>
    rw [if_neg Bool.false_ne_true]
    exact sm.nx Γ1 σ' F2 H2 (h2 rfl) (up.trans s2.up) (st.step s2)

/-! ### a def -/
def startG (ss : List SV) (n : Nat) : List SV := ss ++ List.replicate (n - ss.length) .no
theorem args_at {F H : Hp} : ∀ {vs : List V} {ss : List SV}, ArgsOk X F H vs ss → ∀ (i : Nat) (s : SV), ss[i]? = some s → ∃ v, vs[i]? = some v ∧ ArgOk X F H s v
  | _, _, .nil, i, s, h => by simp at h
  | _, _, .cons a b, 0, s, h => by simp at h; subst h; exact ⟨_, rfl, a⟩
  | _, _, .cons a b, i + 1, s, h => by simpa using args_at b i s (by simpa using h)
theorem sg_run {A : List SV → (SV → Prop) → Prop} {N : List Str} {vs : List V} {H : Hp} {Q : VK} {Er : XK} (h : SpR X A vs H Q Er)
    (k : ∀ ss P E, A ss P → ss.length = vs.length → SG X E t (startG ss N.length) { nx := fun _ => P (.d .none), rt := P }) (hN : vs.length ≤ N.length) : t { nx := fun _ H' => Q .non H', rt := Q } (L2.start N vs) H := by
  obtain ⟨F, ss, P, o, a, hA, q⟩ := h
  have hl := a.len
  have st : Sta X ⟨F, H⟩ F H (L2.start N vs) (startG ss N.length) := by
    refine ⟨.refl o, ?_, fun i sv e => ?_, fun a b l x y nab ea eb mx my _ _ => ?_⟩
    · unfold L2.start startG; simp; omega
    · unfold startG at e
      by_cases hi : i < ss.length
      · rw [List.getElem?_append_left hi] at e
        obtain ⟨v, hv, av⟩ := args_at a i sv e
        have hs : (L2.start N vs)[i]? = some (some v) := by
          unfold L2.start
          rw [List.getElem?_append_left (by rw [List.length_map]; omega), List.getElem?_map, hv]; rfl
        rw [hs]
        cases sv with
        | no => trivial
        | d x => exact ⟨v, rfl, av⟩
        | raw w => show some (some v) = some (some w); rw [show v = w from av]
        | bor ds => obtain ⟨l, ws, rfl, n, hH, al⟩ := av; exact ⟨l, ws, rfl, n, hH, al⟩
        | mu ds => exact av.elim
        | obj u => exact av.elim
        | mt dss => exact av.elim
      · rw [List.getElem?_append_right (by omega), List.getElem?_replicate] at e
        split at e
        · cases e; trivial
        · cases e
    · exfalso
      unfold startG at ea
      by_cases hi : a < ss.length
      · rw [List.getElem?_append_left hi] at ea
        obtain ⟨v, hv, av⟩ := args_at ‹ArgsOk X F H vs ss› a x ea
        cases x with
        | mu ds => exact av.elim
        | obj u => exact av.elim
        | mt dss => exact av.elim
        | no => cases mx
        | d x => cases mx
        | raw w => cases mx
        | bor ds => cases mx
      · rw [List.getElem?_append_right (by omega), List.getElem?_replicate] at ea
        split at ea
        · cases ea; cases mx
        · cases ea
  exact k ss P ⟨F, H⟩ hA hl.symm F _ ⟨fun Γ' σ' F' H' g e s => q (.d .none) .non F' H' g s.base .non, fun r v F' H' g e s ro => q r v F' H' g s ro, fun Γ' σ' F' H' g => g.elim, fun Γ' σ' F' H' g => g.elim⟩ F H _ (Exs.refl _) st
end
end Odd
set_option Elab.async false
set_option linter.all false
set_option maxRecDepth 100000
set_option maxHeartbeats 4000000
/-! rules that the layer lacks: {x}, repr of data; the text by places; a def as a datum -/
namespace Odd
open PySem L2

section
variable {X : Cx}
/-! ### {e} -/
def tSet1 (w : World) (te : TE) : TE := fun σ H Q => ∀ p, H p = none → te σ (upd H p (SetO w p (fun _ => false) 0)) fun x H1 => ∃ k, x = .int k ∧ H1 p = some (SetO w p (fun _ => false) 0) ∧
  Q (.ref p) (upd H1 p (SetO w p (fun j => decide (j = k)) 1))
theorem newSet_led {prog : Program} {w : World} {A : Around} {E : Value → Shared → Prop} {s : Shared} {Q : Value → Shared → Prop}
    (h : Q (.ref s.heap.objs.size) { s with heap := s.heap.push { cls := .type "set", dict := none, data := .set #[] 0 (.fresh 0 0 (!w.params.followText "set-order")) } }) : wpAny (model prog w) A (newSet (.type "set")) Q E s := by
  unfold newSet setsByText
  refine wpAny_bind (wpAny_bind (wpAny_askSetting (wpAny_pure ?_)))
  dsimp only
  simp only [newObj]
  exact wpAny_bind (wpAny_alloc (wpAny_pure h))
theorem pe_set1 {e : Expr} {te : TE} {pos : Pos} (he : PE X e te) (hc : PySem.W.kdsCode X.K X.env.code = true) (hp : PySem.W.kdsPlain e = true := by rfl) : PE X (.Set [e] 0 pos) (tSet1 X.w te) := by
  refine ⟨fun pins s σ H Q I h => ?_⟩
  rw [arm_eval_Set]
  refine wpAny_bind (wpAny_standAt ?_)
  refine wpAny_bind (PySem.W.kds_main I.kIn hc fun b => ?_)
  rw [PySem.W.kds_star [e] (by rw [List.all_cons, hp]; rfl), List.map_map]
  show wpAny _ _ (setDisplay .oneByOne b [(false, do let v ← eval e X.env; standAt pos; pure v)]) _ _ _
  unfold setDisplay
  try dsimp only
  rw [if_neg (by decide)]
  refine wpAny_bind (newSet_led ?_)
  have hn : H s.heap.objs.size = none := I.hok.fresh (Nat.le_refl _)
  have I1 := I.laid (t' := s.toks) (o := SetO X.w s.heap.objs.size (fun _ => false) 0) (fun b u e => Heap.get?_push_of_some _ e) (Nat.le_refl _) (setO_new (setR_fresh X.w))
  dsimp only
  refine wpAny_bind (wpAny_holding ?_)
  show wpAny _ _ (evalAll [do let v ← eval e X.env; standAt pos; pure v] >>= _) _ _ _
  refine wpAny_bind ?_
  show wpAny _ _ ((do let v ← eval e X.env; standAt pos; pure v) >>= fun v => holding [v] (evalAll []) >>= fun r => pure (v :: r)) _ _ _
  refine wpAny_bind (wpAny_bind (thn (he.run pins _ σ _ _ I1 (h _ hn)) fun v s1 ⟨x, H1, I2, r1, q1⟩ => ?_))
  refine wpAny_bind (wpAny_standAt (wpAny_pure ?_))
  refine wpAny_bind (wpAny_holding (wpAny_pure (wpAny_pure ?_)))
  obtain ⟨k, rfl, hp1, q⟩ := q1
  obtain ⟨tk, rfl⟩ := r1
  refine wpAny_bind (wpAny_holding ?_)
  refine wpAny_bind ?_
  have R := setO_get I2 hp1
  refine wpAny_mono (PySem.W.kds_for (M := model X.prog X.w) (A := X.A) (E := X.xe) (Q := fun v s' => ∃ v0 H', L2.Inv X pins σ H' s' ∧ RelV v0 v ∧ Q v0 H') (u := false) (d := s.heap.objs.size) ?ka [.int k tk] s1 (PySem.W.kds_fill_cons ?kb)) ?kc fun _ _ x => x
  case ka =>
    intro y P s' hx
    refine wpAny_bind (wpAny_mono hx (fun _ s2 h2 => ?_) fun _ _ x => x)
    first | exact wpAny_pure ⟨rfl, h2⟩ | exact wpAny_bind (wpAny_pure (wpAny_pure ⟨rfl, h2⟩))
  case kb =>
    unfold setAdd
    refine wpAny_holding (wpAny_bind ((intKind X.prog X.w).pyHash (intKind_is X.prog X.w k tk) ?_))
    refine setR_add_hashed (P := X.prog) (s := { s1 with toks := s1.toks + 1 }) R (by decide) fun h' sb new => ?_
    have new2 : SetR X.w h' s.heap.objs.size (fun j => decide (j = k)) 1 := SetR.congr new fun j => by simp
    have hex : ∃ u, h'.get? s.heap.objs.size = some u := by
      have ⟨o, _, _, _, ho, _⟩ := new
      exact ⟨o, ho⟩
    exact PySem.W.kds_fill_nil rfl ⟨.ref s.heap.objs.size, _, I2.write (e := s.heap.objs.size) (t' := s1.toks + 1) (o := SetO X.w s.heap.objs.size (fun j => decide (j = k)) 1) (by rw [hp1]; trivial) (.inl rfl) (fun b u hb hu => (sb.2 b hb).trans hu) hex (setO_new new2), rfl, q⟩
  case kc =>
    intro _ s2 h2
    have h3 : ∃ v0 H', L2.Inv X pins σ H' s2 ∧ RelV v0 (.ref s.heap.objs.size) ∧ Q v0 H' := by simpa [PySem.W.KdsFill] using h2
    rw [if_neg (by decide)]
    refine wpAny_pure ?_
    show wpAny _ _ (forIn [] _ _ >>= _) _ _ _
    rw [List.forIn_nil]
    exact wpAny_pure (wpAny_pure h3)

/-! ### repr of data -/
def rRepr (K : PySem.W.Frag) : List V → Hp → VK → Prop := fun xs H Q => ∃ a ds, xs = [.ref a] ∧ Dp K H (.ref a) (.list ds) ∧ PyData.showable (.list ds) = true ∧ PyData.hasDict (.list ds) = false ∧ PyData.depth (.list ds) ≤ 64 ∧
  (PyData.shown (.list ds)).length ≤ sizeLine ∧ Q (.str (PyData.shown (.list ds))) H
theorem call_repr (hg : X.A.guards = some []) (hu : X.A.units + 65 < cLine) : CallR X (.builtin "repr") (rRepr X.K) := by
  intro pins s σ H xs us Q I r h
  obtain ⟨a, ds, rfl, dp, h1, h2, h3, h4, q⟩ := h
  obtain ⟨u, rfl, ru⟩ := vals1 r
  cases (show u = Value.ref a from ru)
  obtain ⟨as, rd⟩ := Dp.reads I (.list ds) (.ref a) (.ref a) dp rfl
  exact repr_of_reads' rd h1 (PyData.noDict_hsm h2) hg (by omega) (fun _ _ e => e) (fun h' u tk hk => ⟨.str _, H, I.kept (h' := h') (t' := tk) hk, ⟨_, rfl⟩, q⟩) h4
/-! ### // of ints of any size: the stack has room for the long road -/
theorem pylong_room {pins : List (Addr × Obj)} {σ : St} {H : Hp} {s : Shared} (I : L2.Inv X pins σ H s) (hN : X.base.NoSeer) (ht : X.prog.given.tree = none) (hst : X.stack = X.env :: X.outer) (hgen : X.env.scope.isGenerator = false) (hco : X.env.scope.isCoroutine = false)
    (hd : X.A.depth + 100 < 1000) : PylongRoom (model X.prog X.w) X.A s :=
  PylongRoom.of I.nolimit hd (SeerAt.of (env := X.env) (l := X.outer) (hN.keeps I.bk) ht (by rw [I.ok.frames, hst]) hgen hco I.ok.blt I.ok.glob)
theorem op_fdivR (hN : X.base.NoSeer) (ht : X.prog.given.tree = none) (hst : X.stack = X.env :: X.outer) (hgen : X.env.scope.isGenerator = false) (hco : X.env.scope.isCoroutine = false)
    (hd : X.A.depth + 100 < 1000) : OpR X (binaryOp .FloorDiv) (rI (fun _ j => 0 < j) fun i j => .int (i / j)) := by
  intro pins s σ H x y v u Q I rx ry h
  obtain ⟨i, j, rfl, rfl, hj, q⟩ := h
  obtain ⟨t, rfl⟩ := rx
  obtain ⟨t', rfl⟩ := ry
  refine PyProof.Rows.floordiv_int (by omega) ?_ (.inr (pylong_room I hN ht hst hgen hco hd))
  rw [Int.fdiv_eq_ediv_of_nonneg i (by omega)]
  exact ⟨.int _, H, I.tok _, ⟨_, rfl⟩, q⟩
theorem room100 {k : Nat} {A : Around} (hr : Room k A) (hk : 32 ≤ k) : A.depth + 100 < 1000 := by
  have h := hr.dp
  have e : recursionLimit = 1000 := rfl
  omega
end

/-! ### the text -/
/-- the i-th statement of the top is the def x with the parameters ps; it stands -/
def Stands (K : PySem.W.Frag) (mg : Str → Option Value) (x : Str) (i : Nat) (ps : List Str) : Prop :=
  ∃ f fd, FunD K x x (defArgs (top i)) (defBody (top i)) (defScope (top i)) [] [] f fd ∧ mg x = some (.ref f) ∧ Binds K fd ps []
/-- a def of the module keeps a promise -/
def DefOk (P : Program) (w : World) (K : PySem.W.Frag) (mg : Str → Option Value) (base : Heap) (x : Str) (ps : List Str) (k : Nat) (sp : Sp) : Prop :=
  ∃ f fd, FnOk P w K mg base CX0 k f fd ps sp ∧ mg x = some (.ref f) ∧ PySem.W.keepIn K (.ref f) = true ∧ Binds K fd ps []
section
variable {X : Cx} {x : Str} {p pos : Pos} {e : Expr} {es : List Expr} {t : TA} {k : Nat} {sp : Sp} {ps : List Str}
theorem pe_def (D : DefOk X.prog X.w X.K X.mg X.base x ps k sp) (hr : Room k X.A) (hg : Gl X x) (ha : PA X (e :: es) t) (hdb : (x == ("__debug__" : Str)) = false := by decide)
    (he : starEach (e :: es) X.env = (false, eval e X.env) :: starEach es X.env := by rfl) (hpl : (backTo pos (starEach es X.env)).any (·.1) = false := by rfl) :
    PE X (.Call (.Name x p) (e :: es) [] pos) (tCall sp [] E0 t) := by
  obtain ⟨f, fd, ok, g, kp, b⟩ := D
  exact pe_call ok hr hg g kp b .nil pass0 ha hdb he hpl
end
/-- the module's names -/
structure Txt (K : PySem.W.Frag) (mg : Str → Option Value) where
  aN : Addr
  aO : Addr
  gN : mg "NOUGHT" = some (.ref aN)
  gO : mg "ONE" = some (.ref aO)
  tN : ∀ H, SqT K H aN [.int 0, .int 1]
  tO : ∀ H, SqT K H aO [.int 1, .int 1]
  gcd : mg "gcd" = some (.builtin "math.gcd")
  int : mg "int" = none
  list : mg "list" = none
  len : mg "len" = none
  any : mg "any" = none
  all : mg "all" = none
  enumerate : mg "enumerate" = none
  zip : mg "zip" = none
  range : mg "range" = none
  sorted : mg "sorted" = none
  abs : mg "abs" = none
  isinstance : mg "isinstance" = none
  sum : mg "sum" = none
  repr : mg "repr" = none
  tuple : mg "tuple" = none
  bool : mg "bool" = none
section
variable {P : Program} {w : World} {K : PySem.W.Frag} {mg : Str → Option Value} {base : Heap} {x : Str} {i k : Nat} {ps N : List Str}
theorem def_ok (S : Stands K mg x i ps) {sp : Sp} (sc : FnScope N ps (defScope (top i))) (len : ∀ vs H Q E, sp vs H Q E → vs.length = ps.length)
    (hbody : ∀ (f : Addr) (cdv : Value) (A : Around) (outer : List Env) (s : Shared) (H : Hp) (vs : List V) (Q : VK) (E : XK), Room k (A.deeper (PyProof.Rows.envOfC x (defScope (top i)) s.heap.objs.size f cdv)) → PySem.W.codeIn K cdv x = true → sp vs H Q E →
      ∃ t, PSs (cxOf CX0 P w K mg base N x (defScope (top i)) f cdv A outer s H E).nox (defBody (top i)) t ∧ t { nx := fun _ H' => Q .non H', rt := Q } (L2.start N vs) H) : DefOk P w K mg base x ps (k + 1) sp := by
  obtain ⟨f, fd, F, g, b⟩ := S
  refine ⟨f, fd, ?_, g, F.kp, b⟩
  obtain ⟨oc, od, dV, kV, doc, pm, an, cdv, ct, osl, rfl, lk, hcd, _, _⟩ := F.ex
  refine fn_of lk hcd sc len fun A outer s H vs Q E hr hsp => ?_
  obtain ⟨t, h, q⟩ := hbody f cdv A outer s H vs Q E hr hcd hsp
  exact ⟨t, h.nox, q⟩
theorem kds_of_code {cd : Value} {q : Str} (h : PySem.W.codeIn K cd q = true) : PySem.W.kdsCode K cd = true := by
  unfold PySem.W.codeIn at h
  unfold PySem.W.kdsCode
  split at h
  · split at h
    · rename_i h1
      simp only [h1]
    · cases h
  · cases h
/-- a pure def by its slots: A gives the promise, from the data at the start -/
theorem def_pure (S : Stands K mg x i ps) {A : List SV → (SV → Prop) → Prop} (sc : FnScope N ps (defScope (top i))) (hA : ∀ ss P, A ss P → ss.length = ps.length) (hN : ps.length ≤ N.length)
    (hbody : ∀ (f : Addr) (cdv : Value) (B : Around) (outer : List Env) (s : Shared) (H : Hp) (E : XK), Room k (B.deeper (PyProof.Rows.envOfC x (defScope (top i)) s.heap.objs.size f cdv)) → PySem.W.codeIn K cdv x = true →
      ∃ t, PSs (cxOf CX0 P w K mg base N x (defScope (top i)) f cdv B outer s H E).nox (defBody (top i)) t ∧ ∀ ss P E, A ss P → SG (.pure K) E t (startG ss N.length) { nx := fun _ => P (.d .none), rt := P }) : DefOk P w K mg base x ps (k + 1) (SpR (.pure K) A) := by
  refine def_ok S sc (fun vs H Q E h => ?_) fun f cdv B outer s H vs Q E hr hcd h => ?_
  · obtain ⟨F, ss, P, o, a, hh, q⟩ := h
    rw [a.len]; exact hA ss P hh
  · obtain ⟨t, h1, h2⟩ := hbody f cdv B outer s H E hr hcd
    refine ⟨t, h1, sg_run h (fun ss P E hh _ => h2 ss P E hh) ?_⟩
    obtain ⟨F, ss, P, o, a, hh, q⟩ := h
    rw [a.len, hA ss P hh]; exact hN
end

/-! ### data rules for them -/
section
variable {X : Fx} {E : En} {Γ : List SV} {te ta tb tc : TE} {P : SV → Prop} {tl : TA} {w : World}
theorem ev_fdivR {i j : Int} (ha : EvD X E ta Γ (.int i)) (hb : EvD X E tb Γ (.int j)) (hc : 0 < j) : EvD X E (tOp (rI (fun _ j => 0 < j) fun i j => .int (i / j)) ta tb) Γ (.int (i / j)) := ev_int2 (C := fun _ j => 0 < j) (f := fun i j => .int (i / j)) (fun F => .int _) ha hb hc
theorem ev_set1 {k : Int} (h : EvD X E te Γ (.int k)) : EvP X E (tSet1 w te) Γ fun r => r = .obj fun a => SetO w a (fun j => decide (j = k)) 1 := fun F H σ s Q q p hp => by
  have s0 := Step.newM (u := SetO w p (fun _ => false) 0) s.ok hp
  have nS := s.ok.noS hp
  have hF := s.ok.up.none hp
  refine h F _ σ (s.step s0) _ fun r v F1 H1 e s1 rv => ?_
  subst e
  have hp1 : H1 p = some (SetO w p (fun _ => false) 0) := s1.go _ _ nS upd_same
  have hF1 : F1 p = none := s1.nw p hF (by rw [upd_same]; exact fun z => nomatch z)
  have st := s0.trans s1
  refine ⟨k, dp_int rv, hp1, q _ _ F1 _ rfl ⟨st.up, ⟨st.ok.up.newR hF1, X.st H1 _ (fun b hb => upd_ne fun e => nS (e ▸ hb)) st.ok.inv, st.ok.out⟩, fun b o n e => ?_, st.nw⟩ ⟨p, rfl, hp, hF1, upd_same⟩⟩
  rw [upd_ne (ne_of_none e hp)]; exact st.go b o n e
/-- k not in the set -/
theorem ev_snotin {m : Nat} {k : Int} {S : Int → Bool} {n : Nat} (ha : EvD X E ta Γ (.int k)) (h : Γ[m]? = some (.obj fun a => SetO w a S n)) : EvD X E (tOp (rSNotIn w) ta (tVar m)) Γ (.bool (!S k)) := fun F H σ s Q q => ha F H σ s _ fun r v F1 H1 e s1 rv => by
  subst e
  obtain ⟨l, e2, f, h0, nn, hH⟩ := (s.step s1).slot m _ h
  exact ⟨_, e2, k, l, S, n, dp_int rv, rfl, hH, q _ _ F1 H1 rfl s1 (.bl _)⟩
/-- seen.add(k) -/
theorem sg_sadd {G : GE} {m : Nat} {k : Int} {S : Int → Bool} {n : Nat} (h : Γ[m]? = some (.obj fun a => SetO w a S n)) (hb : EvD X E tb Γ (.int k)) (hn : n + 1 < 1000)
    (k2 : G.nx (Γ.set m (.obj fun a => SetO w a (fun j => S j || decide (j = k)) (if S k = true then n else n + 1)))) : SG X E (tDrop (tSAdd w (tVar m) (tCons tb tNil))) Γ G := fun Fa D sm F H σ e s => by
  obtain ⟨l, e2, f, h0, nn, hH⟩ := s.slot m _ h
  refine ⟨_, e2, ⟨l, S, n, rfl, hH⟩, hb F H σ s _ fun r v F1 H1 er s1 rv => ?_⟩
  subst er
  have hH1 := s1.go _ _ nn hH
  have hF1 := s1.nw l f (by rw [hH]; exact fun z => (nomatch z))
  exact ⟨l, k, S, n, rfl, by rw [dp_int rv], hH1, Nat.lt_trans hn (by decide), sm.nx _ _ F1 _ k2 (e.trans s1.up) ((s.step s1).chg h rfl e2 rfl ⟨l, rfl, hF1, h0, nn, upd_same⟩)⟩
/-- sorted(seen) -/
theorem ev_sortedSet {m : Nat} {S : Int → Bool} {n : Nat} (h : Γ[m]? = some (.obj fun a => SetO w a S n)) (hn : n < 64) (k : ∀ ns : List Int, ns.Pairwise (· < ·) → (∀ k : Int, k ∈ ns ↔ S k = true) → ns.length = n → P (.mu (ns.map .int))) :
    EvP X E (tCB (rSortedSet w) (tCons (tVar m) tNil)) Γ P := fun F H σ s Q q => by
  obtain ⟨l, e2, f, h0, nn, hH⟩ := s.slot m _ h
  exact ⟨_, e2, l, S, n, rfl, hH, hn, fun ns p h1 h2 h3 hp => q _ _ F _ (k ns h1 h2 h3) (.newM s.ok hp) ⟨p, _, rfl, hp, s.ok.up.none hp, upd_same, dpa_of_ints ns⟩⟩
/-- waiting.pop() -/
theorem ev_pop {m : Nat} {ds : List PyData} {x : PyData} (h : Γ[m]? = some (.mu ds)) (hx : ds.getLast? = some x) : ∀ F H σ, Sta X E F H σ Γ → ∀ Q : VK, (∀ v H', Dp X.K F v x → Sta X E F H' σ (Γ.set m (.mu ds.dropLast)) → Q v H') → tBM0 X.K "list" rPop (tVar m) σ H Q := fun F H σ s Q q => by
  obtain ⟨l, vs, e2, f, h0, nn, hH, al⟩ := s.slot m _ h
  rw [List.getLast?_eq_getElem?] at hx
  obtain ⟨v, hv, dv⟩ := dpa_get al hx
  refine ⟨_, e2, .inl ⟨rfl, _, SqL.of hH⟩, l, vs, v, rfl, rfl, hH, by rw [dpa_len al]; exact hv, q v _ dv ?_⟩
  exact s.chg h rfl e2 rfl ⟨l, _, rfl, f, h0, nn, upd_same, dpa_dropLast al⟩
end
end Odd
set_option Elab.async false
set_option linter.all false
set_option maxRecDepth 100000
set_option maxHeartbeats 4000000
/-! rules with the fragment named, for places under a binder -/
namespace Odd
open PySem L2
section
variable {X : Cx} {K : PySem.W.Frag} {pos : Pos}
theorem ixL_K (h : X.K = K) : IxR X (rIxL K) := h ▸ ix_list
theorem ixT_K (h : X.K = K) : IxR X (rIxT K) := h ▸ ix_tup
theorem eqD_K (hu : X.A.units + 64 < cLine) (h : X.K = K) : OpR X (compareOp .Eq) (rEqD K) := h ▸ op_eqD hu
theorem neD_K (hu : X.A.units + 64 < cLine) (h : X.K = K) : OpR X (compareOp .NotEq) (rNeD K) := h ▸ op_neD hu
theorem in_K (h : X.K = K) : OpR X (compareOp .In) (rIn K false) := h ▸ op_in_seq
theorem tup_K {es : List Expr} {k : Nat} {t : TGs} {n : Nat} (hc : X.calm = true) (h : X.K = K) (hg : PGs X es t)
    (hn : (assignEach es X.env).length = n := by rfl) (hst : (assignEach es X.env).findIdx? (·.1) = none := by rfl) : PG X (.Tuple es k pos) (gTup K n t) := h ▸ pg_tup hc hg hn hst
theorem lof_K (h : X.K = K) : CallR X (.type "list") (fun xs H Q => ∃ p ys, xs = [.ref p] ∧ (SqL K H p ys ∨ SqT K H p ys) ∧ ∀ l, H l = none → Q (.ref l) (upd H l (.lst ys))) := h ▸ call_list_of
theorem sum_K (hc : X.calm = true) (h : X.K = K) : CallR X (.builtin "sum") (rSum K) := h ▸ cr_sum hc
end
section
variable {X : Fx} {E : En} {Γ : List SV} {te ta tb : TE} {tt tu : TT}
theorem et_orF {b : Bool} (ha : EvB X E tt Γ false) (hb : EvB X E tu Γ b) : EvB X E (tOr tt tu) Γ b := fun F H σ s Q q => ha F H σ s _ fun r F1 H1 e s1 => by
  subst e; exact hb F1 H1 σ (s.step s1) _ fun c F2 H2 e2 s2 => q c F2 H2 e2 (s1.trans s2)
theorem et_orT (ha : EvB X E tt Γ true) : EvB X E (tOr tt tu) Γ true := fun F H σ s Q q => ha F H σ s _ fun r F1 H1 e s1 => by
  subst e; exact q true F1 H1 rfl s1
/-- a comprehension without a test: the i-th element is ys[i] -/
theorem ev_lcI {wi : TI} {g : TG} {vs : List Nat} {ds ys : List PyData} (hi : ItD X E wi Γ ds) (hl : ds.length ≤ 1000) (hy : ys.length = ds.length)
    (hs : ∀ (i : Nat) (x y : PyData), ds[i]? = some x → ys[i]? = some y → ∃ Γ1 js, TgP X E g x (wipeG Γ vs) Γ1 js ∧ (∀ j ∈ js, j ∈ vs) ∧ EvD X E te Γ1 y) : EvM X E (tLc wi g tYes te vs) Γ ys := by
  refine ev_lcP hi (fun ds' e => e ▸ hl) (fun xs acc => acc = ys.take xs.length) (fun _ _ => rfl) (fun ds' e i x hx => ?_) fun ds' acc e ra _ => ?_
  · subst e
    have hlt : i < ds'.length := (List.getElem?_eq_some_iff.mp hx).1
    obtain ⟨y, hyi⟩ : ∃ y, ys[i]? = some y := ⟨_, List.getElem?_eq_getElem (by omega)⟩
    obtain ⟨Γ1, js, tg, hj, ey⟩ := hs i x y hx hyi
    refine ⟨Γ1, js, tg, hj, true, et_yes, fun _ => ey.imp fun r e => ⟨y, e, fun acc ra => ?_⟩, fun e => nomatch e⟩
    rw [List.length_take, Nat.min_eq_left (by omega)] at ra ⊢
    rw [ra, List.take_add_one, hyi]; rfl
  · subst e ra
    rw [List.take_of_length_le (by omega)]
/-- .. with a test -/
theorem ev_lcF {wi : TI} {g : TG} {vs : List Nat} {ds : List PyData} (bs : Nat → Bool) (f : Nat → PyData) (hi : ItD X E wi Γ ds) (hl : ds.length ≤ 1000)
    (hs : ∀ (i : Nat) (x : PyData), ds[i]? = some x → ∃ Γ1 js, TgP X E g x (wipeG Γ vs) Γ1 js ∧ (∀ j ∈ js, j ∈ vs) ∧ EvB X E tt Γ1 (bs i) ∧ (bs i = true → EvD X E te Γ1 (f i))) :
    EvM X E (tLc wi g tt te vs) Γ (((List.range ds.length).filter bs).map f) := by
  refine ev_lcP hi (fun ds' e => e ▸ hl) (fun xs acc => acc = ((List.range xs.length).filter bs).map f) (fun _ _ => rfl) (fun ds' e i x hx => ?_) fun ds' acc e ra _ => by subst e ra; rfl
  subst e
  have hlt : i < ds'.length := (List.getElem?_eq_some_iff.mp hx).1
  obtain ⟨Γ1, js, tg, hj, eb, ey⟩ := hs i x hx
  refine ⟨Γ1, js, tg, hj, bs i, eb, fun b => (ey b).imp fun r e => ⟨f i, e, fun acc ra => ?_⟩, fun b acc ra => ?_⟩
  · rw [List.length_take, Nat.min_eq_left (by omega)] at ra ⊢
    rw [ra, List.range_succ, List.filter_append, List.map_append]
    simp [b]
  · rw [List.length_take, Nat.min_eq_left (by omega)] at ra ⊢
    rw [ra, List.range_succ, List.filter_append, List.map_append]
    simp [b]
end
end Odd
set_option Elab.async false
set_option linter.all false
set_option maxRecDepth 100000
set_option maxHeartbeats 4000000
/-! own lists that are read, moved, handed on -/
namespace Odd
open PySem L2
/-- no list inside -/
inductive LF : PyData → Prop
  | none : LF .none
  | bool (b : Bool) : LF (.bool b)
  | int (i : Int) : LF (.int i)
  | str (x : Str) : LF (.str x)
  | tup {ds : List PyData} (h : ∀ d, d ∈ ds → LF d) : LF (.tuple ds)
def hide (F : Hp) (l : Addr) : Hp := fun a => if a = l then none else F a
theorem hide_ne {F : Hp} {l a : Addr} (h : a ≠ l) : hide F l a = F a := if_neg h
theorem hide_same {F : Hp} {l : Addr} : hide F l l = none := if_pos rfl
theorem hide_le {F : Hp} {l : Addr} : Exs (hide F l) F := fun a o h => by
  by_cases e : a = l
  · subst e; rw [hide_same] at h; cases h
  · rw [hide_ne e] at h; exact h
section
variable {K : PySem.W.Frag} {F : Hp} {l : Addr} {ws : List V}
theorem sqt_hide (hl : F l = some (.lst ws)) {a : Addr} {xs : List V} (h : SqT K F a xs) : SqT K (hide F l) a xs := by
  rcases h with h | h
  · have ne : a ≠ l := fun e => by
      subst e
      rcases h with h | ⟨o, h⟩ <;> (rw [hl] at h; cases h)
    rcases h with h | ⟨o, h⟩
    · exact .inl (.inl (by rw [hide_ne ne]; exact h))
    · exact .inl (.inr ⟨o, by rw [hide_ne ne]; exact h⟩)
  · exact .inr h
mutual
theorem dp_hide (hl : F l = some (.lst ws)) : ∀ {v : V} {d : PyData}, Dp K F v d → LF d → Dp K (hide F l) v d
  | _, _, .non, _ => .non
  | _, _, .bl b, _ => .bl b
  | _, _, .int i, _ => .int i
  | _, _, .str x, _ => .str x
  | _, _, .lst s a, h => by cases h
  | _, _, .tup s a, h => .tup (sqt_hide hl s) (dpa_hide hl a (by cases h with | tup h => exact h))
theorem dpa_hide (hl : F l = some (.lst ws)) : ∀ {vs : List V} {ds : List PyData}, DpAll K F vs ds → (∀ d, d ∈ ds → LF d) → DpAll K (hide F l) vs ds
  | _, _, .nil, _ => .nil
  | _, _, .cons a b, h => .cons (dp_hide hl a (h _ List.mem_cons_self)) (dpa_hide hl b fun d hd => h d (List.mem_cons_of_mem _ hd))
end
end
def ResLF : SV → Prop
  | .d x => LF x
  | .mu ds => ∀ d, d ∈ ds → LF d
  | .mt dss => ∀ ds, ds ∈ dss → ∀ d, d ∈ ds → LF d
  | _ => True
section
variable {X : Fx} {E : En} {Γ Γ' : List SV} {te ta tb tc : TE} {tt : TT} {P P' Pa Pb : SV → Prop} {tl : TA} {t u : TS} {G : GE}
theorem hide_none {F : Hp} {l a : Addr} (h : F a = none) : hide F l a = none := by
  by_cases e : a = l
  · rw [e, hide_same]
  · rw [hide_ne e]; exact h
theorem mt_hide {F F' H H0 : Hp} {l : Addr} {ws : List V} (hl : F l = some (.lst ws)) : ∀ {ls : List Addr} {dss : List (List PyData)}, MtOk X F H H0 ls dss → (∀ ds, ds ∈ dss → ∀ d, d ∈ ds → LF d) → MtOk X (hide F l) H H0 ls dss
  | _, _, .nil, _ => .nil
  | _, _, .cons a b c d r, h => .cons a (hide_none b) c (dpa_hide hl d (h _ List.mem_cons_self)) (mt_hide (F' := F') hl r fun ds hd => h ds (List.mem_cons_of_mem _ hd))
theorem res_hide {F H H0 : Hp} {l : Addr} {ws : List V} (hl : F l = some (.lst ws)) {r : SV} {v : V} (h : ResOk X F H H0 r v) (k : ResLF r) : ResOk X (hide F l) H H0 r v := by
  cases r with
  | d x => exact dp_hide hl h k
  | raw w => exact h
  | no => exact h.elim
  | bor ds => exact h.elim
  | mu ds => obtain ⟨p, vs, e, h0, q, q2, a⟩ := h; exact ⟨p, vs, e, h0, hide_none q, q2, dpa_hide hl a k⟩
  | obj u => obtain ⟨p, e, h0, q, q2⟩ := h; exact ⟨p, e, h0, hide_none q, q2⟩
  | mt dss => obtain ⟨p, ls, e, h0, hF, hp, nd, m⟩ := h; exact ⟨p, ls, e, h0, hide_none hF, hp, nd, mt_hide (F' := F) hl m k⟩
theorem step_hide {F H F1 H1 : Hp} {l : Addr} {vs : List V} (f : F l = none) (st : Step X (upd F l (.lst vs)) H F1 H1) : Step X F H (hide F1 l) H1 where
  up := fun a o h => by
    have ne : a ≠ l := fun e => by rw [e, f] at h; cases h
    rw [hide_ne ne]; exact st.up a o (by rw [upd_ne ne]; exact h)
  ok := ⟨hide_le.trans st.ok.up, st.ok.inv, fun b hb => hide_none (st.ok.out b hb)⟩
  go := st.go
  nw := fun b h1 h2 => by
    by_cases e : b = l
    · rw [e, hide_same]
    · rw [hide_ne e]; exact st.nw b (by rw [upd_ne e]; exact h1) h2
/-- an own list is read as data for the time of one expression -/
theorem ev_tmp {m : Nat} {ds : List PyData} (hm : Γ[m]? = some (.mu ds)) (h : EvP X E te (Γ.set m (.d (.list ds))) P) (hP : ∀ r, P r → ResLF r) : EvP X E te Γ P := fun F H σ s Q q => by
  obtain ⟨l, vs, hH, f, h0, n, up, s'⟩ := s.fix hm
  exact h _ H σ s' Q fun r v F1 H1 p st ro => q r v (hide F1 l) H1 p (step_hide f st) (res_hide (st.up l _ upd_same) ro (hP r p))
theorem et_tmp {m : Nat} {ds : List PyData} {Pb : Bool → Prop} (hm : Γ[m]? = some (.mu ds)) (h : EvT X E tt (Γ.set m (.d (.list ds))) Pb) : EvT X E tt Γ Pb := fun F H σ s Q q => by
  obtain ⟨l, vs, hH, f, h0, n, up, s'⟩ := s.fix hm
  exact h _ H σ s' Q fun r F1 H1 p st => q r (hide F1 l) H1 p (step_hide f st)
/-- a = b, a list of one's own: it moves -/
theorem sg_move {i j : Nat} {ds : List PyData} (h : Γ[j]? = some (.mu ds)) (k : G.nx ((Γ.set j .no).set i (.mu ds))) : SG X E (tAsg (tVar j) (gName i)) Γ G := fun Fa D sm F H σ e s => by
  obtain ⟨l, vs, q, f, h0, n, hH, al⟩ := s.slot j _ h
  have s1 : Sta X E F H σ (Γ.set j .no) := s.weak (by rw [List.length_set]) fun a sv ea => by
    rcases get_set ea with ⟨_, _, rfl⟩ | ⟨_, ea⟩
    · exact .inl rfl
    · exact .inr ea
  refine ⟨_, q, sm.nx _ _ F H k e (s1.setN (H1 := H) (fun a t ea ma qa => ?_) ⟨l, vs, rfl, f, h0, n, hH, al⟩)⟩
  rcases get_set ea with ⟨_, _, rfl⟩ | ⟨ne, ea⟩
  · cases ma
  · exact s.dst j a l _ t ne h ea rfl ma q qa
/-- a, b = a new tuple of new lists -/
theorem sg_unpack {i j : Nat} (hij : i ≠ j) (h : EvP X E te Γ P) (k : ∀ r, P r → ∃ a b, r = .mt [a, b] ∧ G.nx ((Γ.set i (.mu a)).set j (.mu b))) : SG X E (tAsg te (gTup X.K 2 (gCons (gName i) (gCons (gName j) gNil)))) Γ G := fun Fa D sm F H σ e s =>
  h F H σ s _ fun r v F1 H1 p s1 ro => by
    obtain ⟨a, b, rfl, k⟩ := k r p
    obtain ⟨p, ls, rfl, h0, hF, hp, nd, m⟩ := ro
    cases m with
    | @cons l1 ls vs ds dss a1 b1 c1 d1 m =>
      cases m with
      | @cons l2 ls vs2 ds2 dss a2 b2 c2 d2 m =>
        cases m
        have s2 := s.step s1
        have ne : l1 ≠ l2 := fun e => by
          rw [e] at nd; simp at nd
        refine ⟨p, _, rfl, SqT.of hp, rfl, _, _, rfl, _, _, rfl, rfl, ?_⟩
        have s3 := s2.setN (i := i) (sv := .mu a) (H1 := H1) (fun a t ea ma qa => s.apart a1 a t ea ma qa) ⟨l1, vs, rfl, b1, s.base.fresh a1, s.ok.noS a1, c1, d1⟩
        refine sm.nx _ _ F1 H1 k (e.trans s1.up) (s3.setN (H1 := H1) (fun a t ea ma qa => ?_) ⟨l2, vs2, rfl, b2, s.base.fresh a2, s.ok.noS a2, c2, d2⟩)
        rcases get_set ea with ⟨rfl, hi, rfl⟩ | ⟨n1, ea⟩
        · rw [List.getElem?_set_self (by rw [s.len]; exact hi)] at qa
          cases qa; exact ne rfl
        · rw [List.getElem?_set_ne n1] at qa
          exact s.apart a2 a t ea ma qa
/-- return of two lists of one's own -/
theorem sg_retMT2 {m1 m2 : Nat} {a b : List PyData} (h1 : Γ[m1]? = some (.mu a)) (h2 : Γ[m2]? = some (.mu b)) (ne : m1 ≠ m2) (k : G.rt (.mt [a, b])) : SG X E (tRet (tTup (tCons (tVar m1) (tCons (tVar m2) tNil)))) Γ G := fun Fa D sm F H σ e s => by
  obtain ⟨l1, v1, q1, f1, z1, n1, g1, d1⟩ := s.slot m1 _ h1
  obtain ⟨l2, v2, q2, f2, z2, n2, g2, d2⟩ := s.slot m2 _ h2
  have n12 : l1 ≠ l2 := fun e => s.dst m1 m2 l1 _ _ ne h1 h2 rfl rfl q1 (by rw [e]; exact q2)
  refine ⟨_, q1, _, q2, Nat.le_trans (show 2 ≤ 3 by decide) (by decide), fun p hp => ?_⟩
  have st := Step.newM (u := .tup [.ref l1, .ref l2]) s.ok hp
  have hx : ∀ {l : Addr} {v : List V}, H l = some (.lst v) → upd H p (.tup [.ref l1, .ref l2]) l = some (.lst v) := fun {l v} g => by rw [upd_ne (ne_of_none g hp)]; exact g
  exact sm.rt _ _ F _ k e (s.base.trans st) ⟨p, [l1, l2], rfl, s.base.fresh hp, s.ok.up.none hp, upd_same, by simp [n12], .cons z1 f1 (hx g1) d1 (.cons z2 f2 (hx g2) d2 .nil)⟩
theorem sg_retMT3 {m1 m2 m3 : Nat} {a b c : List PyData} (h1 : Γ[m1]? = some (.mu a)) (h2 : Γ[m2]? = some (.mu b)) (h3 : Γ[m3]? = some (.mu c)) (ne : m1 ≠ m2) (ne2 : m1 ≠ m3) (ne3 : m2 ≠ m3) (k : G.rt (.mt [a, b, c])) :
    SG X E (tRet (tTup (tCons (tVar m1) (tCons (tVar m2) (tCons (tVar m3) tNil))))) Γ G := fun Fa D sm F H σ e s => by
  obtain ⟨l1, v1, q1, f1, z1, n1, g1, d1⟩ := s.slot m1 _ h1
  obtain ⟨l2, v2, q2, f2, z2, n2, g2, d2⟩ := s.slot m2 _ h2
  obtain ⟨l3, v3, q3, f3, z3, n3, g3, d3⟩ := s.slot m3 _ h3
  have n12 : l1 ≠ l2 := fun e => s.dst m1 m2 l1 _ _ ne h1 h2 rfl rfl q1 (by rw [e]; exact q2)
  have n13 : l1 ≠ l3 := fun e => s.dst m1 m3 l1 _ _ ne2 h1 h3 rfl rfl q1 (by rw [e]; exact q3)
  have n23 : l2 ≠ l3 := fun e => s.dst m2 m3 l2 _ _ ne3 h2 h3 rfl rfl q2 (by rw [e]; exact q3)
  refine ⟨_, q1, _, q2, _, q3, Nat.le_trans (show 3 ≤ 3 by decide) (by decide), fun p hp => ?_⟩
  have st := Step.newM (u := .tup [.ref l1, .ref l2, .ref l3]) s.ok hp
  have hx : ∀ {l : Addr} {v : List V}, H l = some (.lst v) → upd H p (.tup [.ref l1, .ref l2, .ref l3]) l = some (.lst v) := fun {l v} g => by rw [upd_ne (ne_of_none g hp)]; exact g
  exact sm.rt _ _ F _ k e (s.base.trans st) ⟨p, [l1, l2, l3], rfl, s.base.fresh hp, s.ok.up.none hp, upd_same, by simp [n12, n13, n23], .cons z1 f1 (hx g1) d1 (.cons z2 f2 (hx g2) d2 (.cons z3 f3 (hx g3) d3 .nil))⟩
/-- the first list of a new tuple of new lists -/
theorem ev_mt0 (h : EvP X E te Γ P) (k : ∀ r, P r → ∃ a dss, r = .mt (a :: dss) ∧ P' (.mu a)) : EvP X E (tOp (rIxT X.K) te (tC (.int 0))) Γ P' := fun F H σ s Q q =>
  h F H σ s _ fun r v F1 H1 p s1 ro => by
    obtain ⟨a, dss, rfl, k⟩ := k r p
    obtain ⟨p, ls, rfl, h0, hF, hp, nd, m⟩ := ro
    cases m with
    | @cons l1 ls vs ds dss a1 b1 c1 d1 m =>
      exact ⟨p, _, 0, .ref l1, rfl, rfl, SqT.of hp, atI_nat (j := 0) rfl, q _ _ F1 H1 k s1 ⟨l1, vs, rfl, a1, b1, c1, d1⟩⟩
/-- what is walked, where the asking changes slots -/
def ItG (X : Fx) (E : En) (wi : TI) (Γ Γ' : List SV) (ds : List PyData) : Prop := ∀ F H σ, Sta X E F H σ Γ → ∀ R : It → Hp → Prop,
  (∀ J F1 H1, Exs F F1 → Sta X E F1 H1 σ Γ' → IterOk X J F1 ds → R J H1) → wi σ H R
theorem sg_forG {wi : TI} {g : TG} {ds : List PyData} (hi : ItG X E wi Γ Γ' ds) (Iv : Nat → List SV → Prop) (h0 : Iv 0 Γ')
    (hs : ∀ (i : Nat) (x : PyData) Γ1, ds[i]? = some x → Iv i Γ1 → ∃ Γ2 js, TgP X E g x Γ1 Γ2 js ∧ SG X E t Γ2 { nx := Iv (i + 1), rt := G.rt, bk := G.nx, ct := Iv (i + 1) })
    (hd : ∀ Γ1, Iv ds.length Γ1 → G.nx Γ1) : SG X E (tFor wi g t) Γ G := fun Fa D sm F H σ e s =>
  hi F H σ s _ fun J F1 H1 up1 s1 io => by
    refine ⟨fun i m σ' H' => m = ds.length - i ∧ i ≤ ds.length ∧ ∃ F' Γ1, Exs F1 F' ∧ Sta X E F' H' σ' Γ1 ∧ Iv i Γ1, ⟨ds.length, by simp, Nat.zero_le _, F1, Γ', Exs.refl _, s1, h0⟩, ?_⟩
    rintro i m σ' H' ⟨rfl, hle, F', Γ1, up, st, iv⟩
    obtain ⟨io1, io2⟩ := io F' H' up st.ok
    by_cases hlt : i < ds.length
    · refine .inr ?_
      obtain ⟨go, yl⟩ := io1 i ds[i] (List.getElem?_eq_getElem hlt)
      obtain ⟨Γ2, js, tg, sg⟩ := hs i ds[i] Γ1 (List.getElem?_eq_getElem hlt) iv
      refine ⟨go, fun σ'' H'' => ∃ F' Γ1, Exs F1 F' ∧ Sta X E F' H'' σ'' Γ1 ∧ Iv (i + 1) Γ1, fun σ'' H'' p => ⟨ds.length - (i + 1), by omega, rfl, hlt, p⟩, fun x H'' y => ?_⟩
      obtain ⟨F3, s3, dx⟩ := yl x H'' y
      refine tg F3 H'' σ' x (st.step s3) dx _ fun σ2 st2 _ _ => ?_
      refine sg F1 { D with nx := fun σ'' H'' => ∃ F' Γ1, Exs F1 F' ∧ Sta X E F' H'' σ'' Γ1 ∧ Iv (i + 1) Γ1, ct := fun σ'' H'' => ∃ F' Γ1, Exs F1 F' ∧ Sta X E F' H'' σ'' Γ1 ∧ Iv (i + 1) Γ1, bk := D.nx } ⟨fun Γ' σ3 F4 H4 g e' s' => ⟨F4, Γ', e', s', g⟩, fun r v F4 H4 g e' s' ro => sm.rt r v F4 H4 g (e.trans (up1.trans e')) s' ro,
        fun Γ' σ3 F4 H4 g e' s' => sm.nx Γ' σ3 F4 H4 g (e.trans (up1.trans e')) s', fun Γ' σ3 F4 H4 g e' s' => ⟨F4, Γ', e', s', g⟩⟩ F3 H'' σ2 (up.trans s3.up) st2
    · have ei : i = ds.length := by omega
      refine .inl ⟨io2 i (by omega), ?_⟩
      rw [ei] at iv
      exact sm.nx Γ1 σ' F' H' (hd Γ1 iv) (e.trans (up1.trans up)) st
/-- for .. in f(x, waiting.pop()) -/
theorem it_pop {A : List SV → (SV → Prop) → Prop} {Er : XK} {a m : Nat} {x y : PyData} {ds zs : List PyData} (ha : Γ[a]? = some (.d x)) (hm : Γ[m]? = some (.mu ds)) (hl : ds.getLast? = some y) (k : A [.d x, .d y] fun r => r = .d (.list zs)) :
    ItG X E (iList X.K (tCall (SpR (.pure X.K) A) [] Er (tCons (tVar a) (tCons (tBM0 X.K "list" rPop (tVar m)) tNil)))) Γ (Γ.set m (.mu ds.dropLast)) zs := fun F H σ s R q => by
  obtain ⟨v, e, dv⟩ := s.slot a _ ha
  refine ⟨v, e, ev_pop hm hl F H σ s _ fun w H' dw s1 => ?_⟩
  show SpR (.pure X.K) A ([v, w] ++ []) H' _ (Er)
  rw [List.append_nil]
  refine ⟨F, [.d x, .d y], _, ok_pure s1.ok, .cons dv (.cons dw .nil), k, fun r z F' H'' pr st ro => ?_⟩
  subst pr
  obtain ⟨c, vs, rfl, sq, al⟩ := dp_list ro
  have st2 := step_pure s1.ok st
  exact ⟨c, rfl, ⟨vs, sql_mono st2.ok.up sq⟩, q _ F' H'' st2.up (s1.step st2) (io_list rfl sq al)⟩
end
end Odd
/-! numbers: Rat and pairs -/
set_option linter.all false
set_option exponentiation.threshold 1000000
namespace Odd
/-! ### sizes -/
def Bd (q : Rat) : Prop := q.num.natAbs < 2 ^ 200000 ∧ q.den < 2 ^ 200000
theorem log2_lt {n k : Nat} (h : n < 2 ^ k) (hk : 0 < k) : n.log2 < k := by
  by_cases e : n = 0
  · subst e; simpa using hk
  · exact (Nat.log2_lt e).mpr h
theorem divInt_pos (n d : Int) (hd : 0 < d) : (Rat.divInt n d).num = n / ((Nat.gcd n.natAbs d.natAbs : Nat) : Int) ∧ ((Rat.divInt n d).den : Int) = d / ((Nat.gcd n.natAbs d.natAbs : Nat) : Int) := by
  have e : Int.gcd d n = Nat.gcd n.natAbs d.natAbs := by unfold Int.gcd; exact Nat.gcd_comm _ _
  constructor
  · rw [Rat.num_divInt, Int.sign_eq_one_of_pos hd, Int.one_mul, e]
  · rw [Rat.den_divInt, if_neg (by omega), e]
    rw [Int.natCast_ediv]
    have : ((d.natAbs : Nat) : Int) = d := by omega
    rw [this]
theorem gcd_le_right {a b : Nat} (h : 0 < b) : Nat.gcd a b ≤ b := Nat.gcd_le_right a h
theorem add_divInt (a b : Rat) : Rat.divInt (a.num * b.den + b.num * a.den) ((a.den : Int) * b.den) = a + b := by
  rw [Rat.add_def', ← Rat.divInt_ofNat, Int.natCast_mul]
theorem sub_divInt (a b : Rat) : Rat.divInt (a.num * b.den - b.num * a.den) ((a.den : Int) * b.den) = a - b := by
  rw [Rat.sub_def', ← Rat.divInt_ofNat, Int.natCast_mul]
theorem mul_divInt (a b : Rat) : Rat.divInt (a.num * b.num) ((a.den : Int) * b.den) = a * b := by
  rw [Rat.mul_def', ← Rat.divInt_ofNat, Int.natCast_mul]
theorem div_divInt (a b : Rat) : Rat.divInt (a.num * b.den) ((a.den : Int) * b.num) = a / b := by
  rw [← Rat.divInt_mul_divInt, Rat.div_def, Rat.inv_def, Rat.num_divInt_den]
theorem lt_num {a b : Rat} : decide (a.num * (b.den : Int) < b.num * (a.den : Int)) = decide (a < b) := by
  by_cases h : a < b
  · rw [decide_eq_true h, decide_eq_true ((Rat.lt_iff a b).mp h)]
  · rw [decide_eq_false h, decide_eq_false fun z => h ((Rat.lt_iff a b).mpr z)]
theorem Bd.den_ne (a b : Rat) : ((a.den : Int) * b.den) ≠ 0 := by
  have h1 := a.den_pos
  have h2 := b.den_pos
  have : 0 < (a.den : Int) * b.den := Int.mul_pos (by omega) (by omega)
  omega
theorem Bd.num_log {a : Rat} (h : Bd a) : a.num.natAbs.log2 < 200000 := log2_lt h.1 (by decide)
theorem Bd.den_log {a : Rat} (h : Bd a) : ((a.den : Int)).natAbs.log2 < 200000 := log2_lt (by simpa using h.2) (by decide)
end Odd
set_option Elab.async false
set_option linter.all false
set_option maxRecDepth 100000
set_option maxHeartbeats 8000000
set_option exponentiation.threshold 200000
namespace Odd
open PySem L2
theorem hu65 {k : Nat} {A : Around} (hr : Room k A) : A.units + 65 < cLine := by have := hr.un; omega
/-- a number as a pair -/
def dN (q : Rat) : PyData := .tuple [.int q.num, .int (q.den : Int)]
theorem dN_pos (n d : Int) (hd : 0 < d) : dN (Rat.divInt n d) = .tuple [.int (n / ((Nat.gcd n.natAbs d.natAbs : Nat) : Int)), .int (d / ((Nat.gcd n.natAbs d.natAbs : Nat) : Int))] := by
  unfold dN
  rw [(divInt_pos n d hd).1, (divInt_pos n d hd).2]
def A_number (ss : List SV) (P : SV → Prop) : Prop := ∃ n d : Int, ss = [.d (.int n), .d (.int d)] ∧ d ≠ 0 ∧ P (.d (dN (Rat.divInt n d)))
def A_compare (ss : List SV) (P : SV → Prop) : Prop := ∃ a b : Rat, ss = [.d (dN a), .d (dN b)] ∧ Bd a ∧ Bd b ∧ P (.d (.int (if a < b then -1 else if b < a then 1 else 0)))
def A_plus (ss : List SV) (P : SV → Prop) : Prop := ∃ a b : Rat, ss = [.d (dN a), .d (dN b)] ∧ Bd a ∧ Bd b ∧ P (.d (dN (a + b)))
def A_minus (ss : List SV) (P : SV → Prop) : Prop := ∃ a b : Rat, ss = [.d (dN a), .d (dN b)] ∧ Bd a ∧ Bd b ∧ P (.d (dN (a - b)))
def A_times (ss : List SV) (P : SV → Prop) : Prop := ∃ a b : Rat, ss = [.d (dN a), .d (dN b)] ∧ Bd a ∧ Bd b ∧ P (.d (dN (a * b)))
def A_divided (ss : List SV) (P : SV → Prop) : Prop := ∃ a b : Rat, ss = [.d (dN a), .d (dN b)] ∧ Bd a ∧ Bd b ∧ 0 < b ∧ P (.d (dN (a / b)))
theorem len2 {ss : List SV} {x y : SV} (h : ss = [x, y]) : ss.length = 2 := by rw [h]; rfl
theorem len_number {ss : List SV} {P : SV → Prop} (h : A_number ss P) : ss.length = 2 := by obtain ⟨_, _, rfl, _⟩ := h; rfl
theorem len_compare {ss : List SV} {P : SV → Prop} (h : A_compare ss P) : ss.length = 2 := by obtain ⟨_, _, rfl, _⟩ := h; rfl
theorem len_plus {ss : List SV} {P : SV → Prop} (h : A_plus ss P) : ss.length = 2 := by obtain ⟨_, _, rfl, _⟩ := h; rfl
theorem len_minus {ss : List SV} {P : SV → Prop} (h : A_minus ss P) : ss.length = 2 := by obtain ⟨_, _, rfl, _⟩ := h; rfl
theorem len_times {ss : List SV} {P : SV → Prop} (h : A_times ss P) : ss.length = 2 := by obtain ⟨_, _, rfl, _⟩ := h; rfl
theorem len_divided {ss : List SV} {P : SV → Prop} (h : A_divided ss P) : ss.length = 2 := by obtain ⟨_, _, rfl, _⟩ := h; rfl
section
variable {X : Fx} {E : En} {Γ : List SV} {te ta tb : TE}
/-- the parts of a number -/
theorem ev_num0 {q : Rat} (h : EvD X E te Γ (dN q)) : EvD X E (tOp (rIxT X.K) te (tC (.int 0))) Γ (.int q.num) := ev_ixT h ev_ci rfl
theorem ev_num1 {q : Rat} (h : EvD X E te Γ (dN q)) : EvD X E (tOp (rIxT X.K) te (tC (.int 1))) Γ (.int (q.den : Int)) := ev_ixT h ev_ci rfl
theorem mulW {i j : Int} {a b : Nat} (ha : i.natAbs.log2 < a) (hb : j.natAbs.log2 < b) (h : a + b ≤ 1000000) : CMulW i j := by unfold CMulW; omega
end
section
variable {P : Program} {w : World} {K : PySem.W.Frag} {mg : Str → Option Value} {base : Heap}
theorem sc_number : FnScope ["n", "d", "common"] ["n", "d"] (defScope (top 7)) := ⟨rfl, rfl, rfl, by decide +kernel, rfl, by decide +kernel, by decide +kernel⟩
theorem d_number (T : Txt K mg) (S : Stands K mg "number" 7 ["n", "d"]) (hN : base.NoSeer) (ht : P.given.tree = none) : DefOk P w K mg base "number" ["n", "d"] 33 (SpR (.pure K) A_number) := by
  refine def_pure S sc_number (fun ss P h => len_number h) (by decide) fun f cdv B outer s H E hr hcd => ?_
  have nd := sc_number.nd
  refine ⟨_, (pss_cons (ps_if (pt_cmpR op_lt (pv 1) pe_int (nomark _)) (pss_one (ps_par (i := 0) (j := 1) rfl nd rfl rfl (by decide) rfl rfl (pa_cons (pe_un un_neg (pv 0)) (pa_cons (pe_un un_neg (pv 1)) pa_nil)) (by rfl))) pss_nil)
    (pss_cons (ps_set (i := 2) nd rfl (.inl rfl) (pe_callBfun cr_gcd (by rfl) T.gcd (pa_cons (pv 0) (pa_cons (pv 1) pa_nil))))
    (pss_one (ps_ret (pe_tup (pa_cons (pe_op (op_fdivR hN ht rfl rfl rfl (room100 hr (by decide))) (pv 0) (pv 2)) (pa_cons (pe_op (op_fdivR hN ht rfl rfl rfl (room100 hr (by decide))) (pv 1) (pv 2)) pa_nil))))))), fun ss P E h => ?_⟩
  obtain ⟨n, d, rfl, hd, hP⟩ := h
  have fin : ∀ n' d' : Int, 0 < d' → Rat.divInt n' d' = Rat.divInt n d →
      SG (.pure K) E (tSeq (tAsg (tCB rGcd (tCons (tVar 0) (tCons (tVar 1) tNil))) (gName 2)) (tRet (tTup (tCons (tOp (rI (fun _ j => 0 < j) fun i j => .int (i / j)) (tVar 0) (tVar 2)) (tCons (tOp (rI (fun _ j => 0 < j) fun i j => .int (i / j)) (tVar 1) (tVar 2)) tNil))))) [.d (.int n'), .d (.int d'), .no] { nx := fun _ => P (.d .none), rt := P } := by
    intro n' d' h1 h3
    have hpos : 0 < Nat.gcd n'.natAbs d'.natAbs := Nat.gcd_pos_of_pos_right _ (by omega)
    have hc : (0 : Int) < ((Nat.gcd n'.natAbs d'.natAbs : Nat) : Int) := by omega
    refine sg_seq (sg_asg (ev_gcd ev_var ev_var) ?_)
    refine sg_retD (ev_tup (xs := [_, _]) (ea_cons (ev_fdivR ev_var ev_var hc) (ea_cons (ev_fdivR ev_var ev_var hc) ea_nil))) ?_
    rw [← dN_pos n' d' h1, h3]; exact hP
  refine sg_seq (sg_if (et_test (ev_lt ev_var ev_ci)) (fun h => ?_) (fun h => ?_))
  · have h0 : d < 0 := of_decide_eq_true h.symm
    refine sg_par (ea_cons (ev_neg ev_var) (ea_cons (ev_neg ev_var) ea_nil)) ?_
    exact fin (-n) (-d) (by omega) (Rat.neg_divInt_neg n d)
  · have h0 : ¬ d < 0 := of_decide_eq_false h.symm
    exact sg_next (fin n d (by omega) rfl)
theorem sc_plus : FnScope ["a", "b"] ["a", "b"] (defScope (top 9)) := ⟨rfl, rfl, rfl, by decide +kernel, rfl, by decide +kernel, by decide +kernel⟩
theorem d_plus (T : Txt K mg) (S : Stands K mg "plus" 9 ["a", "b"]) (D_number : DefOk P w K mg base "number" ["n", "d"] 33 (SpR (.pure K) A_number)) : DefOk P w K mg base "plus" ["a", "b"] 34 (SpR (.pure K) A_plus) := by
  refine def_pure S sc_plus (fun ss P h => len_plus h) (by decide) fun f cdv B outer s H E hr hcd => ?_
  have nd := sc_plus.nd
  refine ⟨_, (pss_one (ps_ret (pe_def D_number (hr.mono (by decide)) (by rfl) (pa_cons (pe_op op_add (pe_op op_mulW (pe_ix ix_tup (pv 0) pe_int (fun _ _ => rfl)) (pe_ix ix_tup (pv 1) pe_int (fun _ _ => rfl))) (pe_op op_mulW (pe_ix ix_tup (pv 1) pe_int (fun _ _ => rfl)) (pe_ix ix_tup (pv 0) pe_int (fun _ _ => rfl)))) (pa_cons (pe_op op_mulW (pe_ix ix_tup (pv 0) pe_int (fun _ _ => rfl)) (pe_ix ix_tup (pv 1) pe_int (fun _ _ => rfl))) pa_nil))))), fun ss P E h => ?_⟩
  obtain ⟨a, b, rfl, ha, hb, hP⟩ := h
  refine sg_ret (ev_call (ea_cons (ev_add (ev_mulW (ev_num0 ev_var) (ev_num1 ev_var) (mulW ha.num_log hb.den_log (by decide))) (ev_mulW (ev_num0 ev_var) (ev_num1 ev_var) (mulW hb.num_log ha.den_log (by decide)))) (ea_cons (ev_mulW (ev_num1 ev_var) (ev_num1 ev_var) (mulW ha.den_log hb.den_log (by decide))) ea_nil))
    ⟨_, _, rfl, Bd.den_ne a b, ?_⟩) fun r h => h
  rw [add_divInt]; exact hP
theorem sc_minus : FnScope ["a", "b"] ["a", "b"] (defScope (top 10)) := ⟨rfl, rfl, rfl, by decide +kernel, rfl, by decide +kernel, by decide +kernel⟩
theorem d_minus (T : Txt K mg) (S : Stands K mg "minus" 10 ["a", "b"]) (D_number : DefOk P w K mg base "number" ["n", "d"] 33 (SpR (.pure K) A_number)) : DefOk P w K mg base "minus" ["a", "b"] 34 (SpR (.pure K) A_minus) := by
  refine def_pure S sc_minus (fun ss P h => len_minus h) (by decide) fun f cdv B outer s H E hr hcd => ?_
  have nd := sc_minus.nd
  refine ⟨_, (pss_one (ps_ret (pe_def D_number (hr.mono (by decide)) (by rfl) (pa_cons (pe_op op_sub (pe_op op_mulW (pe_ix ix_tup (pv 0) pe_int (fun _ _ => rfl)) (pe_ix ix_tup (pv 1) pe_int (fun _ _ => rfl))) (pe_op op_mulW (pe_ix ix_tup (pv 1) pe_int (fun _ _ => rfl)) (pe_ix ix_tup (pv 0) pe_int (fun _ _ => rfl)))) (pa_cons (pe_op op_mulW (pe_ix ix_tup (pv 0) pe_int (fun _ _ => rfl)) (pe_ix ix_tup (pv 1) pe_int (fun _ _ => rfl))) pa_nil))))), fun ss P E h => ?_⟩
  obtain ⟨a, b, rfl, ha, hb, hP⟩ := h
  refine sg_ret (ev_call (ea_cons (ev_sub (ev_mulW (ev_num0 ev_var) (ev_num1 ev_var) (mulW ha.num_log hb.den_log (by decide))) (ev_mulW (ev_num0 ev_var) (ev_num1 ev_var) (mulW hb.num_log ha.den_log (by decide)))) (ea_cons (ev_mulW (ev_num1 ev_var) (ev_num1 ev_var) (mulW ha.den_log hb.den_log (by decide))) ea_nil))
    ⟨_, _, rfl, Bd.den_ne a b, ?_⟩) fun r h => h
  rw [sub_divInt]; exact hP
theorem sc_times : FnScope ["a", "b"] ["a", "b"] (defScope (top 11)) := ⟨rfl, rfl, rfl, by decide +kernel, rfl, by decide +kernel, by decide +kernel⟩
theorem d_times (T : Txt K mg) (S : Stands K mg "times" 11 ["a", "b"]) (D_number : DefOk P w K mg base "number" ["n", "d"] 33 (SpR (.pure K) A_number)) : DefOk P w K mg base "times" ["a", "b"] 34 (SpR (.pure K) A_times) := by
  refine def_pure S sc_times (fun ss P h => len_times h) (by decide) fun f cdv B outer s H E hr hcd => ?_
  have nd := sc_times.nd
  refine ⟨_, (pss_one (ps_ret (pe_def D_number (hr.mono (by decide)) (by rfl) (pa_cons (pe_op op_mulW (pe_ix ix_tup (pv 0) pe_int (fun _ _ => rfl)) (pe_ix ix_tup (pv 1) pe_int (fun _ _ => rfl))) (pa_cons (pe_op op_mulW (pe_ix ix_tup (pv 0) pe_int (fun _ _ => rfl)) (pe_ix ix_tup (pv 1) pe_int (fun _ _ => rfl))) pa_nil))))), fun ss P E h => ?_⟩
  obtain ⟨a, b, rfl, ha, hb, hP⟩ := h
  refine sg_ret (ev_call (ea_cons (ev_mulW (ev_num0 ev_var) (ev_num0 ev_var) (mulW ha.num_log hb.num_log (by decide))) (ea_cons (ev_mulW (ev_num1 ev_var) (ev_num1 ev_var) (mulW ha.den_log hb.den_log (by decide))) ea_nil))
    ⟨_, _, rfl, Bd.den_ne a b, ?_⟩) fun r h => h
  rw [mul_divInt]; exact hP
theorem sc_divided : FnScope ["a", "b"] ["a", "b"] (defScope (top 12)) := ⟨rfl, rfl, rfl, by decide +kernel, rfl, by decide +kernel, by decide +kernel⟩
theorem d_divided (T : Txt K mg) (S : Stands K mg "divided" 12 ["a", "b"]) (D_number : DefOk P w K mg base "number" ["n", "d"] 33 (SpR (.pure K) A_number)) : DefOk P w K mg base "divided" ["a", "b"] 34 (SpR (.pure K) A_divided) := by
  refine def_pure S sc_divided (fun ss P h => len_divided h) (by decide) fun f cdv B outer s H E hr hcd => ?_
  have nd := sc_divided.nd
  refine ⟨_, (pss_one (ps_ret (pe_def D_number (hr.mono (by decide)) (by rfl) (pa_cons (pe_op op_mulW (pe_ix ix_tup (pv 0) pe_int (fun _ _ => rfl)) (pe_ix ix_tup (pv 1) pe_int (fun _ _ => rfl))) (pa_cons (pe_op op_mulW (pe_ix ix_tup (pv 0) pe_int (fun _ _ => rfl)) (pe_ix ix_tup (pv 1) pe_int (fun _ _ => rfl))) pa_nil))))), fun ss P E h => ?_⟩
  obtain ⟨a, b, rfl, ha, hb, hp, hP⟩ := h
  have hbn : 0 < b.num := by
    have h1 : 0 ≤ b.num := Rat.num_nonneg.mpr (Rat.le_of_lt hp)
    have h2 : b.num ≠ 0 := fun z => absurd hp (by rw [Rat.num_eq_zero.mp z]; exact Rat.lt_irrefl)
    omega
  have had := a.den_pos
  refine sg_ret (ev_call (ea_cons (ev_mulW (ev_num0 ev_var) (ev_num1 ev_var) (mulW ha.num_log hb.den_log (by decide))) (ea_cons (ev_mulW (ev_num1 ev_var) (ev_num0 ev_var) (mulW ha.den_log hb.num_log (by decide))) ea_nil))
    ⟨_, _, rfl, ?_, ?_⟩) fun r h => h
  · have := Int.mul_pos (show (0 : Int) < a.den by omega) hbn
    omega
  · rw [div_divInt]; exact hP
theorem sc_compare : FnScope ["a", "b", "left", "right"] ["a", "b"] (defScope (top 8)) := ⟨rfl, rfl, rfl, by decide +kernel, rfl, by decide +kernel, by decide +kernel⟩
theorem d_compare (T : Txt K mg) (S : Stands K mg "compare" 8 ["a", "b"]) : DefOk P w K mg base "compare" ["a", "b"] 1 (SpR (.pure K) A_compare) := by
  refine def_pure S sc_compare (fun ss P h => len_compare h) (by decide) fun f cdv B outer s H E hr hcd => ?_
  have nd := sc_compare.nd
  refine ⟨_, (pss_cons (ps_par (i := 2) (j := 3) rfl nd rfl rfl (by decide) rfl rfl (pa_cons (pe_op op_mulW (pe_ix ix_tup (pv 0) pe_int (fun _ _ => rfl)) (pe_ix ix_tup (pv 1) pe_int (fun _ _ => rfl))) (pa_cons (pe_op op_mulW (pe_ix ix_tup (pv 1) pe_int (fun _ _ => rfl)) (pe_ix ix_tup (pv 0) pe_int (fun _ _ => rfl))) pa_nil)) (by rfl))
    (pss_cons (ps_if (pt_cmpR op_lt (pv 2) (pv 3) (nomark _)) (pss_one (ps_ret (pe_un un_neg pe_int))) pss_nil)
    (pss_one (ps_ret (pe_callTy call_int1 (by rfl) T.int (by decide +kernel) (pa_cons (pe_cmpR op_gt (pv 2) (pv 3) (nomark _)) pa_nil)))))), fun ss P E h => ?_⟩
  obtain ⟨a, b, rfl, ha, hb, hP⟩ := h
  refine sg_seq (sg_par (ea_cons (ev_mulW (ev_num0 ev_var) (ev_num1 ev_var) (mulW ha.num_log hb.den_log (by decide))) (ea_cons (ev_mulW (ev_num0 ev_var) (ev_num1 ev_var) (mulW hb.num_log ha.den_log (by decide))) ea_nil)) ?_)
  refine sg_seq (sg_if (et_test (ev_lt ev_var ev_var)) (fun h => ?_) (fun h => ?_))
  · rw [lt_num] at h
    rw [if_pos (of_decide_eq_true h.symm)] at hP
    exact sg_retD (ev_neg ev_ci) hP
  · rw [lt_num] at h
    rw [if_neg (of_decide_eq_false h.symm)] at hP
    refine sg_next (sg_retD (ev_intB (ev_gt ev_var ev_var)) ?_)
    rw [lt_num]
    by_cases hba : b < a
    · rw [if_pos hba] at hP; rw [decide_eq_true hba]; exact hP
    · rw [if_neg hba] at hP; rw [decide_eq_false hba]; exact hP
end
end Odd
/-! Gauss-Jordan over Rat, by functions -/
set_option linter.all false
set_option exponentiation.threshold 1000000
namespace Odd
def sm : Nat → (Nat → Rat) → Rat
  | 0, _ => 0
  | n + 1, f => sm n f + f n
theorem sm_congr : ∀ {n : Nat} {f g : Nat → Rat}, (∀ i, i < n → f i = g i) → sm n f = sm n g
  | 0, _, _, _ => rfl
  | n + 1, f, g, h => by
    show sm n f + f n = sm n g + g n
    rw [sm_congr (n := n) fun i hi => h i (by omega), h n (by omega)]
theorem sm_zero : ∀ {n : Nat} {f : Nat → Rat}, (∀ i, i < n → f i = 0) → sm n f = 0
  | 0, _, _ => rfl
  | n + 1, f, h => by
    show sm n f + f n = 0
    rw [sm_zero (n := n) fun i hi => h i (by omega), h n (by omega)]; grind
theorem sm_add : ∀ (n : Nat) (f g : Nat → Rat), sm n (fun i => f i + g i) = sm n f + sm n g
  | 0, _, _ => by show (0 : Rat) = 0 + 0; grind
  | n + 1, f, g => by
    show sm n _ + (f n + g n) = (sm n f + f n) + (sm n g + g n)
    rw [sm_add n f g]; grind
theorem sm_sub : ∀ (n : Nat) (f g : Nat → Rat), sm n (fun i => f i - g i) = sm n f - sm n g
  | 0, _, _ => by show (0 : Rat) = 0 - 0; grind
  | n + 1, f, g => by
    show sm n _ + (f n - g n) = (sm n f + f n) - (sm n g + g n)
    rw [sm_sub n f g]; grind
theorem sm_mul : ∀ (n : Nat) (c : Rat) (f : Nat → Rat), sm n (fun i => c * f i) = c * sm n f
  | 0, c, _ => by show (0 : Rat) = c * 0; grind
  | n + 1, c, f => by
    show sm n _ + c * f n = c * (sm n f + f n)
    rw [sm_mul n c f]; grind
theorem sm_le : ∀ {n : Nat} {f g : Nat → Rat}, (∀ i, i < n → f i ≤ g i) → sm n f ≤ sm n g
  | 0, _, _, _ => by show (0 : Rat) ≤ 0; grind
  | n + 1, f, g, h => by
    show sm n f + f n ≤ sm n g + g n
    have h1 := sm_le (n := n) (f := f) (g := g) fun i hi => h i (by omega)
    have h2 := h n (by omega)
    grind
theorem sm_one : ∀ {n k : Nat} {f : Nat → Rat}, k < n → (∀ i, i < n → i ≠ k → f i = 0) → sm n f = f k
  | 0, _, _, h, _ => by omega
  | n + 1, k, f, h, z => by
    show sm n f + f n = f k
    by_cases e : k = n
    · subst e
      rw [sm_zero fun i hi => z i (by omega) (by omega)]; grind
    · rw [sm_one (n := n) (k := k) (by omega) fun i hi hk => z i (by omega) hk, z n (by omega) (by omega)]; grind

/-- one stage: column k is made a unit column by row k -/
def gst (k : Nat) (S : Nat → Nat → Rat) : Nat → Nat → Rat := fun i j => if i = k then S k j / S k k else S i j - S i k * (S k j / S k k)
def gj : Nat → (Nat → Nat → Rat) → Nat → Nat → Rat
  | 0, M => M
  | k + 1, M => gst k (gj k M)
/-- a column of numbers solves the rows -/
def Solves (n : Nat) (S : Nat → Nat → Rat) (x : Nat → Rat) : Prop := ∀ i, i < n → sm n (fun j => S i j * x j) = S i n
theorem gst_solves {n k : Nat} {S : Nat → Nat → Rat} {x : Nat → Rat} (hk : k < n) (hp : S k k ≠ 0) : Solves n (gst k S) x ↔ Solves n S x := by
  have hrow : ∀ i, i ≠ k → sm n (fun j => gst k S i j * x j) = sm n (fun j => S i j * x j) - S i k * sm n (fun j => gst k S k j * x j) := fun i hi => by
    rw [← sm_mul, ← sm_sub]
    refine sm_congr fun j hj => ?_
    show (if i = k then _ else S i j - S i k * (S k j / S k k)) * x j = S i j * x j - S i k * ((if k = k then S k j / S k k else _) * x j)
    rw [if_neg hi, if_pos rfl]; grind
  have hhead : sm n (fun j => gst k S k j * x j) = sm n (fun j => S k j * x j) / S k k := by
    have e : sm n (fun j => gst k S k j * x j) = sm n (fun j => (S k k)⁻¹ * (S k j * x j)) := sm_congr fun j hj => by
      show (if k = k then S k j / S k k else _) * x j = _
      rw [if_pos rfl]; grind
    rw [e, sm_mul]; grind
  have hb : ∀ i, i ≠ k → gst k S i n = S i n - S i k * gst k S k n := fun i hi => by
    show (if i = k then _ else S i n - S i k * (S k n / S k k)) = S i n - S i k * (if k = k then S k n / S k k else _)
    rw [if_neg hi, if_pos rfl]
  have hbk : gst k S k n = S k n / S k k := by
    show (if k = k then S k n / S k k else _) = _
    rw [if_pos rfl]
  constructor
  · intro h i hi
    have h1 := h k hk
    by_cases e : i = k
    · subst e
      rw [hhead, hbk] at h1
      grind
    · have h2 := h i hi
      rw [hrow i e, h1, hb i e] at h2
      grind
  · intro h i hi
    have h1 := h k hk
    have hk' : sm n (fun j => gst k S k j * x j) = gst k S k n := by rw [hhead, hbk, h1]
    by_cases e : i = k
    · subst e; exact hk'
    · rw [hrow i e, hk', hb i e, h i hi]
theorem gj_solves {n : Nat} {M : Nat → Nat → Rat} {x : Nat → Rat} : ∀ {k : Nat}, k ≤ n → (∀ t, t < k → gj t M t t ≠ 0) → (Solves n (gj k M) x ↔ Solves n M x)
  | 0, _, _ => Iff.rfl
  | k + 1, hk, hp => by
    rw [show gj (k + 1) M = gst k (gj k M) from rfl, gst_solves (by omega) (hp k (by omega))]
    exact gj_solves (k := k) (by omega) fun t ht => hp t (by omega)
/-- the columns that are done -/
theorem gj_unit {n : Nat} {M : Nat → Nat → Rat} : ∀ {k : Nat}, k ≤ n → (∀ t, t < k → gj t M t t ≠ 0) → ∀ i j, j < k → gj k M i j = if i = j then 1 else 0
  | 0, _, _, i, j, h => by omega
  | k + 1, hk, hp, i, j, hj => by
    have ih := gj_unit (n := n) (M := M) (k := k) (by omega) fun t ht => hp t (by omega)
    have hpk := hp k (by omega)
    show (if i = k then gj k M k j / gj k M k k else gj k M i j - gj k M i k * (gj k M k j / gj k M k k)) = _
    by_cases e : j = k
    · subst e
      by_cases ei : i = j
      · subst ei; rw [if_pos rfl, if_pos rfl]; grind
      · rw [if_neg ei, if_neg ei]; grind
    · have hj' : j < k := by omega
      have h0 : gj k M k j = 0 := by rw [ih k j hj', if_neg (by omega)]
      by_cases ei : i = k
      · subst ei; rw [if_pos rfl, h0, if_neg (by omega)]; grind
      · rw [if_neg ei, h0, ih i j hj']; grind
/-- the solution: it is one, and the only one -/
theorem gj_only {n : Nat} {M : Nat → Nat → Rat} (hp : ∀ t, t < n → gj t M t t ≠ 0) {x : Nat → Rat} (h : Solves n M x) : ∀ i, i < n → x i = gj n M i n := fun i hi => by
  have h1 := (gj_solves (Nat.le_refl n) hp).mpr h i hi
  rw [sm_one hi fun j hj hne => by rw [gj_unit (Nat.le_refl n) hp i j hj, if_neg (by omega)]; grind] at h1
  rw [gj_unit (Nat.le_refl n) hp i i hi, if_pos rfl] at h1
  rw [← h1]; grind
theorem gj_sol {n : Nat} {M : Nat → Nat → Rat} (hp : ∀ t, t < n → gj t M t t ≠ 0) : Solves n M fun i => gj n M i n := by
  refine (gj_solves (Nat.le_refl n) hp).mp fun i hi => ?_
  rw [sm_one hi fun j hj hne => by rw [gj_unit (Nat.le_refl n) hp i j hj, if_neg (by omega)]; grind, gj_unit (Nat.le_refl n) hp i i hi, if_pos rfl]
  grind

/-! ### pivots: off the diagonal nothing is greater than 0, and the rows are greater than 0 on a weight -/
structure MM (n : Nat) (w : Nat → Rat) (S : Nat → Nat → Rat) (k : Nat) : Prop where
  off : ∀ i j, i < n → j < n → k ≤ j → i ≠ j → S i j ≤ 0
  wt : ∀ i, i < n → 0 < sm n (fun j => S i j * w j)
  one : ∀ i, i < n → k ≤ i → S i i ≤ 1
  unit : ∀ i j, j < k → S i j = if i = j then 1 else 0
theorem MM.piv {n k : Nat} {w : Nat → Rat} {S : Nat → Nat → Rat} (h : MM n w S k) (hw : ∀ i, i < n → 0 < w i) (hk : k < n) : 0 < S k k := by
  have h1 := h.wt k hk
  have h2 : sm n (fun j => S k j * w j) ≤ sm n (fun j => if j = k then S k k * w k else 0) := sm_le fun j hj => by
    by_cases e : j = k
    · subst e; rw [if_pos rfl]; grind
    · rw [if_neg e]
      have hwj := hw j hj
      by_cases hjk : j < k
      · rw [h.unit k j hjk, if_neg (by omega)]; grind
      · have := h.off k j hk hj (by omega) (Ne.symm e)
        have : S k j * w j ≤ 0 * w j := Rat.mul_le_mul_of_nonneg_right this (Rat.le_of_lt hwj)
        grind
  rw [sm_one (k := k) hk fun j hj hne => if_neg hne, if_pos rfl] at h2
  have h3 : 0 < S k k * w k := by grind
  exact (Rat.mul_pos_iff_of_pos_right (hw k hk)).mp h3
theorem MM.step {n k : Nat} {w : Nat → Rat} {S : Nat → Nat → Rat} (h : MM n w S k) (hw : ∀ i, i < n → 0 < w i) (hk : k < n) : MM n w (gst k S) (k + 1) := by
  have hp := h.piv hw hk
  have hpi : 0 < (S k k)⁻¹ := Rat.inv_pos.mpr hp
  have hd : ∀ j, S k j / S k k = S k j * (S k k)⁻¹ := fun j => Rat.div_def _ _
  have hkj : ∀ j, j < n → k < j → S k j / S k k ≤ 0 := fun j hj hlt => by
    rw [hd]
    have := h.off k j hk hj (by omega) (by omega)
    have : S k j * (S k k)⁻¹ ≤ 0 * (S k k)⁻¹ := Rat.mul_le_mul_of_nonneg_right this (Rat.le_of_lt hpi)
    grind
  have hneg : ∀ a b : Rat, a ≤ 0 → b ≤ 0 → 0 ≤ a * b := fun a b ha hb => by
    have := Rat.mul_nonneg (a := -a) (b := -b) (by grind) (by grind)
    grind
  refine ⟨fun i j hi hj hkj' hne => ?_, fun i hi => ?_, fun i hi hki => ?_, fun i j hj => ?_⟩
  · show (if i = k then S k j / S k k else S i j - S i k * (S k j / S k k)) ≤ 0
    by_cases e : i = k
    · rw [if_pos e]; exact hkj j hj (by omega)
    · rw [if_neg e]
      have h1 := h.off i j hi hj (by omega) hne
      have h2 := h.off i k hi hk (Nat.le_refl _) e
      have h3 := hneg _ _ h2 (hkj j hj (by omega))
      grind
  · have hh : sm n (fun j => gst k S k j * w j) = (S k k)⁻¹ * sm n (fun j => S k j * w j) := by
      rw [← sm_mul]
      refine sm_congr fun j hj => ?_
      show (if k = k then S k j / S k k else _) * w j = _
      rw [if_pos rfl, hd]; grind
    have hhp : 0 < sm n (fun j => gst k S k j * w j) := by rw [hh]; exact Rat.mul_pos hpi (h.wt k hk)
    by_cases e : i = k
    · rw [e]; exact hhp
    · have hr : sm n (fun j => gst k S i j * w j) = sm n (fun j => S i j * w j) - S i k * sm n (fun j => gst k S k j * w j) := by
        rw [← sm_mul, ← sm_sub]
        refine sm_congr fun j hj => ?_
        show (if i = k then _ else S i j - S i k * (S k j / S k k)) * w j = S i j * w j - S i k * ((if k = k then S k j / S k k else _) * w j)
        rw [if_neg e, if_pos rfl]; grind
      rw [hr]
      have h1 := h.wt i hi
      have h2 := h.off i k hi hk (Nat.le_refl _) e
      have h3 := Rat.mul_nonneg (a := -(S i k)) (b := sm n (fun j => gst k S k j * w j)) (by grind) (Rat.le_of_lt hhp)
      grind
  · show (if i = k then S k i / S k k else S i i - S i k * (S k i / S k k)) ≤ 1
    rw [if_neg (by omega)]
    have h1 := h.one i hi (by omega)
    have h2 := h.off i k hi hk (Nat.le_refl _) (by omega)
    have h3 := hneg _ _ h2 (hkj i hi (by omega))
    grind
  · show (if i = k then S k j / S k k else S i j - S i k * (S k j / S k k)) = _
    by_cases e : j = k
    · subst e
      by_cases ei : i = j
      · subst ei; rw [if_pos rfl, if_pos rfl]; grind
      · rw [if_neg ei, if_neg ei]; grind
    · have hj' : j < k := by omega
      have h0 : S k j = 0 := by rw [h.unit k j hj', if_neg (by omega)]
      by_cases ei : i = k
      · subst ei; rw [if_pos rfl, h0, if_neg (by omega)]; grind
      · rw [if_neg ei, h0, h.unit i j hj']; grind
theorem mm_all {n : Nat} {w : Nat → Rat} {M : Nat → Nat → Rat} (h : MM n w M 0) (hw : ∀ i, i < n → 0 < w i) : ∀ k, k ≤ n → MM n w (gj k M) k
  | 0, _ => h
  | k + 1, hk => (mm_all h hw k (by omega)).step hw (by omega)
theorem mm_piv {n : Nat} {w : Nat → Rat} {M : Nat → Nat → Rat} (h : MM n w M 0) (hw : ∀ i, i < n → 0 < w i) (t : Nat) (ht : t < n) : 0 < gj t M t t := (mm_all h hw t (by omega)).piv hw ht

/-! ### sizes -/
/-- all entries of a row by one denominator, below 2^m -/
def RowB (m : Nat) (f : Nat → Rat) (c : Nat) : Prop := ∃ D : Nat, 0 < D ∧ D < 2 ^ m ∧ ∀ j, j < c → ∃ N : Int, N.natAbs < 2 ^ m ∧ f j = (N : Rat) / (D : Rat)
theorem frac_le (N : Int) (D : Nat) (hD : 0 < D) : ((N : Rat) / (D : Rat)).num.natAbs ≤ N.natAbs ∧ ((N : Rat) / (D : Rat)).den ≤ D := by
  have e : (N : Rat) / (D : Rat) = mkRat N D := (Rat.mkRat_eq_div N D).symm
  rw [e, Rat.num_mkRat, Rat.den_mkRat, if_neg (by omega), if_neg (by omega)]
  refine ⟨?_, Nat.div_le_self _ _⟩
  rw [Int.natAbs_ediv_of_dvd (Int.ofNat_dvd_left.mpr (Nat.gcd_dvd_right _ _))]
  exact Nat.div_le_self _ _
theorem RowB.bd {m c : Nat} {f : Nat → Rat} (h : RowB m f c) (hm : m ≤ 200000) {j : Nat} (hj : j < c) : Bd (f j) := by
  obtain ⟨D, h0, h1, h2⟩ := h
  obtain ⟨N, hN, e⟩ := h2 j hj
  obtain ⟨a, b⟩ := frac_le N D h0
  rw [e]
  have hp : 2 ^ m ≤ 2 ^ 200000 := Nat.pow_le_pow_right (by omega) hm
  exact ⟨by omega, by omega⟩
theorem RowB.mono {m k c : Nat} {f : Nat → Rat} (h : RowB m f c) (hk : m ≤ k) : RowB k f c := by
  obtain ⟨D, h0, h1, h2⟩ := h
  have hp : 2 ^ m ≤ 2 ^ k := Nat.pow_le_pow_right (by omega) hk
  exact ⟨D, h0, by omega, fun j hj => by obtain ⟨N, hN, e⟩ := h2 j hj; exact ⟨N, by omega, e⟩⟩
theorem cast_ne {D : Nat} (h : 0 < D) : (D : Rat) ≠ 0 := fun z => by
  have h1 : (0 : Rat) < (D : Rat) := Rat.natCast_pos.mpr h
  rw [z] at h1; exact Rat.lt_irrefl h1
theorem gst_row {n m k c i : Nat} {S : Nat → Nat → Rat} (hk : k < c) (hi : RowB m (S i) c) (hh : RowB m (S k) c) (hp : 0 < S k k) : RowB (2 * m + 1) (gst k S i) c := by
  obtain ⟨D, d0, d1, dj⟩ := hi
  obtain ⟨Dc, c0, c1, cj⟩ := hh
  obtain ⟨P, hP, eP⟩ := cj k hk
  obtain ⟨Xk, hXk, eXk⟩ := dj k hk
  have hDc := cast_ne c0
  have hD := cast_ne d0
  have hPpos : 0 < P := by
    rw [eP, Rat.div_def] at hp
    have h2 : (0 : Rat) < ((Dc : Rat))⁻¹ := Rat.inv_pos.mpr (Rat.natCast_pos.mpr c0)
    exact Rat.intCast_pos.mp ((Rat.mul_pos_iff_of_pos_right h2).mp hp)
  have hPn : ((P.natAbs : Nat) : Rat) = (P : Rat) := by
    have : ((P.natAbs : Nat) : Int) = P := by omega
    rw [← this]; rfl
  have hP0 : (P : Rat) ≠ 0 := by rw [← hPn]; exact cast_ne (by omega)
  have pw : 2 ^ m * 2 ^ m = 2 ^ (2 * m) := by rw [← Nat.pow_add]; congr 1; omega
  have pw1 : 2 ^ (2 * m + 1) = 2 * 2 ^ (2 * m) := by rw [Nat.pow_succ]; omega
  have small : ∀ a b : Nat, a < 2 ^ m → b < 2 ^ m → a * b < 2 ^ (2 * m) := fun a b ha hb => by rw [← pw]; exact Nat.mul_lt_mul'' ha hb
  have one2 : 2 ^ m ≤ 2 ^ (2 * m) := Nat.pow_le_pow_right (by omega) (by omega)
  by_cases e : i = k
  · refine ⟨P.natAbs, by omega, by omega, fun j hj => ?_⟩
    obtain ⟨Y, hY, eY⟩ := cj j hj
    refine ⟨Y, by omega, ?_⟩
    show (if i = k then S k j / S k k else _) = _
    rw [if_pos e, eY, eP, hPn]; grind
  · refine ⟨D * P.natAbs, Nat.mul_pos d0 (by omega), by have := small D P.natAbs d1 hP; omega, fun j hj => ?_⟩
    obtain ⟨Y, hY, eY⟩ := cj j hj
    obtain ⟨Z, hZ, eZ⟩ := dj j hj
    refine ⟨Z * P - Xk * Y, ?_, ?_⟩
    · have h1 := small Z.natAbs P.natAbs hZ hP
      have h2 := small Xk.natAbs Y.natAbs hXk hY
      rw [← Int.natAbs_mul] at h1 h2
      omega
    · show (if i = k then _ else S i j - S i k * (S k j / S k k)) = _
      rw [if_neg e, eY, eP, eZ, eXk, Rat.natCast_mul, hPn, Rat.intCast_sub, Rat.intCast_mul, Rat.intCast_mul]
      grind
/-- what the walks ask of an elimination: positive pivots, entries of bounded size -/
structure Gok (n c : Nat) (M : Nat → Nat → Rat) : Prop where
  piv : ∀ k, k < n → 0 < gj k M k k
  row : ∀ k i, k ≤ n → i < n → RowB (8 * 2 ^ k) (gj k M i) c
theorem gok_of {n c : Nat} {w : Nat → Rat} {M : Nat → Nat → Rat} (hc : n ≤ c) (h : MM n w M 0) (hw : ∀ i, i < n → 0 < w i) (hr : ∀ i, i < n → RowB 6 (M i) c) : Gok n c M := by
  refine ⟨mm_piv h hw, fun k i hk hi => ?_⟩
  have key : ∀ k, k ≤ n → ∀ i, i < n → RowB (8 * 2 ^ k - 2) (gj k M i) c := by
    intro k
    induction k with
    | zero => intro _ i hi; exact hr i hi
    | succ k ih =>
      intro hk i hi
      have h1 := gst_row (n := n) (i := i) (S := gj k M) (k := k) (c := c) (by omega) (ih (by omega) i hi) (ih (by omega) k (by omega)) (mm_piv h hw k (by omega))
      refine h1.mono ?_
      have : 2 ^ (k + 1) = 2 * 2 ^ k := by rw [Nat.pow_succ]; omega
      have : 0 < 2 ^ k := Nat.pow_pos (by omega)
      omega
  exact (key k hk i hi).mono (by omega)
end Odd
/-! games, chains, weights -/
set_option linter.all false
set_option exponentiation.threshold 1000000
namespace Odd
inductive Kd | draw | ours | theirs | reward | finish | lose
  deriving DecidableEq
inductive Pl
  | draw (bs : List (Rat × Nat))
  | ours (ts : List Nat)
  | theirs (ts : List Nat)
  | reward (a : Rat) (t : Nat)
  | finish
  | lose
def Pl.kd : Pl → Kd
  | .draw _ => .draw
  | .ours _ => .ours
  | .theirs _ => .theirs
  | .reward _ _ => .reward
  | .finish => .finish
  | .lose => .lose
/-- the targets, in order -/
def Pl.tgts : Pl → List Nat
  | .draw bs => bs.map (·.2)
  | .ours ts => ts
  | .theirs ts => ts
  | .reward _ t => [t]
  | .finish => []
  | .lose => []
/-- a chain's branches -/
def Pl.brs : Pl → List (Rat × Nat)
  | .draw bs => bs
  | .reward _ t => [(1, t)]
  | _ => []
def Pl.gain : Pl → Rat
  | .reward a _ => a
  | _ => 0
def Pl.isEnd (p : Pl) : Bool := p.kd == .finish || p.kd == .lose
/-- the place of a game at i -/
def gat (g : List Pl) (i : Nat) : Pl := g.getD i .lose
theorem gat_some {g : List Pl} {i : Nat} {p : Pl} (h : g[i]? = some p) : gat g i = p := by
  unfold gat; rw [List.getD_eq_getElem?_getD, h]; rfl
theorem gat_get {g : List Pl} {i : Nat} (h : i < g.length) : g[i]? = some (gat g i) := by
  unfold gat; rw [List.getD_eq_getElem?_getD, List.getElem?_eq_getElem h]; rfl
/-- a strategy put in -/
def putP (k : Kd) (p : Pl) (o : Option Nat) : Pl := if p.kd = k then .draw [(1, p.tgts.getD (o.getD 0) 0)] else p
def putS (g : List Pl) (k : Kd) (s : List (Option Nat)) : List Pl := List.zipWith (putP k) g s
/-- a strategy of the side k -/
structure StrOk (g : List Pl) (k : Kd) (s : List (Option Nat)) : Prop where
  len : s.length = g.length
  at_ : ∀ (i : Nat) (p : Pl) (o : Option Nat), g[i]? = some p → s[i]? = some o → (p.kd = k → ∃ b, o = some b ∧ b < p.tgts.length) ∧ (p.kd ≠ k → o = none)

/-! ### sums over branches -/
def bsum (bs : List (Rat × Nat)) (x : Nat → Rat) : Rat := bs.foldr (fun b s => b.1 * x b.2 + s) 0
theorem bsum_nil (x : Nat → Rat) : bsum [] x = 0 := rfl
theorem bsum_cons (b : Rat × Nat) (bs : List (Rat × Nat)) (x : Nat → Rat) : bsum (b :: bs) x = b.1 * x b.2 + bsum bs x := rfl
theorem bsum_app (bs cs : List (Rat × Nat)) (x : Nat → Rat) : bsum (bs ++ cs) x = bsum bs x + bsum cs x := by
  induction bs with
  | nil => rw [List.nil_append, bsum_nil]; grind
  | cons b bs ih => rw [List.cons_append, bsum_cons, bsum_cons, ih]; grind
theorem bsum_sub (bs : List (Rat × Nat)) (x y : Nat → Rat) : bsum bs (fun i => x i - y i) = bsum bs x - bsum bs y := by
  induction bs with
  | nil => show (0 : Rat) = 0 - 0; grind
  | cons b bs ih => rw [bsum_cons, bsum_cons, bsum_cons, ih]; grind
theorem bsum_mul (bs : List (Rat × Nat)) (c : Rat) (x : Nat → Rat) : bsum bs (fun i => c * x i) = c * bsum bs x := by
  induction bs with
  | nil => show (0 : Rat) = c * 0; grind
  | cons b bs ih => rw [bsum_cons, bsum_cons, ih]; grind
theorem bsum_le {bs : List (Rat × Nat)} {x y : Nat → Rat} (hb : ∀ b ∈ bs, 0 ≤ b.1) (h : ∀ b ∈ bs, x b.2 ≤ y b.2) : bsum bs x ≤ bsum bs y := by
  induction bs with
  | nil => show (0 : Rat) ≤ 0; grind
  | cons b bs ih =>
    rw [bsum_cons, bsum_cons]
    have h1 := Rat.mul_le_mul_of_nonneg_left (h b List.mem_cons_self) (hb b List.mem_cons_self)
    have h2 := ih (fun c hc => hb c (List.mem_cons_of_mem _ hc)) fun c hc => h c (List.mem_cons_of_mem _ hc)
    grind
theorem bsum_congr {bs : List (Rat × Nat)} {x y : Nat → Rat} (h : ∀ b ∈ bs, x b.2 = y b.2) : bsum bs x = bsum bs y := by
  induction bs with
  | nil => rfl
  | cons b bs ih => rw [bsum_cons, bsum_cons, h b List.mem_cons_self, ih fun c hc => h c (List.mem_cons_of_mem _ hc)]
/-- the chance to go to j -/
def pr (bs : List (Rat × Nat)) (j : Nat) : Rat := bsum bs fun t => if t = j then 1 else 0
theorem bsum_sm {n : Nat} {bs : List (Rat × Nat)} (x : Nat → Rat) (h : ∀ b ∈ bs, b.2 < n) : sm n (fun j => pr bs j * x j) = bsum bs x := by
  induction bs with
  | nil => exact sm_zero fun j hj => by show (0 : Rat) * x j = 0; grind
  | cons b bs ih =>
    have e : sm n (fun j => pr (b :: bs) j * x j) = sm n (fun j => (if j = b.2 then b.1 * x b.2 else 0)) + sm n (fun j => pr bs j * x j) := by
      rw [← sm_add]
      refine sm_congr fun j hj => ?_
      show (b.1 * (if b.2 = j then 1 else 0) + pr bs j) * x j = _
      by_cases e : j = b.2
      · subst e; rw [if_pos rfl, if_pos rfl]; grind
      · rw [if_neg (Ne.symm e), if_neg e]; grind
    rw [e, ih fun c hc => h c (List.mem_cons_of_mem _ hc), sm_one (k := b.2) (h b List.mem_cons_self) fun j hj hne => if_neg hne, if_pos rfl, bsum_cons]

/-! ### chains by functions -/
/-- n places with branches and gains; a weight on which each step loses -/
structure Ch (n : Nat) (B : Nat → List (Rat × Nat)) (w : Nat → Rat) : Prop where
  tg : ∀ i, i < n → ∀ b ∈ B i, b.2 < n
  pos : ∀ i, i < n → ∀ b ∈ B i, 0 ≤ b.1
  w0 : ∀ i, i < n → 0 < w i
  w1 : ∀ i, i < n → bsum (B i) w < w i
def Sol (n : Nat) (B : Nat → List (Rat × Nat)) (r : Nat → Rat) (x : Nat → Rat) : Prop := ∀ i, i < n → x i = r i + bsum (B i) x
theorem argmin (f : Nat → Rat) : ∀ n, 0 < n → ∃ i, i < n ∧ ∀ j, j < n → f i ≤ f j
  | 0, h => by omega
  | 1, _ => ⟨0, by omega, fun j hj => by rw [show j = 0 by omega]; exact Rat.le_refl⟩
  | n + 2, _ => by
    obtain ⟨i, hi, h⟩ := argmin f (n + 1) (by omega)
    by_cases c : f i ≤ f (n + 1)
    · exact ⟨i, by omega, fun j hj => by
        by_cases e : j = n + 1
        · rw [e]; exact c
        · exact h j (by omega)⟩
    · have c' : f (n + 1) < f i := Rat.not_le.mp c
      exact ⟨n + 1, by omega, fun j hj => by
        by_cases e : j = n + 1
        · rw [e]; exact Rat.le_refl
        · exact Rat.le_trans (Rat.le_of_lt c') (h j (by omega))⟩
theorem Ch.nonneg {n : Nat} {B : Nat → List (Rat × Nat)} {w : Nat → Rat} (C : Ch n B w) {d : Nat → Rat} (h : ∀ i, i < n → bsum (B i) d ≤ d i) : ∀ i, i < n → 0 ≤ d i := fun i hi => by
  obtain ⟨k, hk, hm⟩ := argmin (fun j => d j / w j) n (by omega)
  -- m the least quotient
  have hdj : ∀ j, j < n → d k / w k * w j ≤ d j := fun j hj => by
    have h1 : d k / w k * w j ≤ d j / w j * w j := Rat.mul_le_mul_of_nonneg_right (hm j hj) (Rat.le_of_lt (C.w0 j hj))
    have h2 : d j / w j * w j = d j := Rat.div_mul_cancel (fun z => by have := C.w0 j hj; rw [z] at this; exact Rat.lt_irrefl this)
    rw [h2] at h1; exact h1
  by_cases c : 0 ≤ d k / w k
  · have h1 := Rat.mul_nonneg c (Rat.le_of_lt (C.w0 i hi))
    exact Rat.le_trans h1 (hdj i hi)
  · exfalso
    have c' : d k / w k < 0 := Rat.not_le.mp c
    have h1 : bsum (B k) (fun j => d k / w k * w j) ≤ bsum (B k) d := bsum_le (C.pos k hk) fun b hb => hdj b.2 (C.tg k hk b hb)
    rw [bsum_mul] at h1
    have h2 := h k hk
    have h3 := C.w1 k hk
    have h4 : d k / w k * w k = d k := Rat.div_mul_cancel (fun z => by have := C.w0 k hk; rw [z] at this; exact Rat.lt_irrefl this)
    have h5 : d k / w k * w k < d k / w k * bsum (B k) w := by
      have := Rat.mul_lt_mul_of_pos_left (c := -(d k / w k)) h3 (by grind)
      grind
    grind
/-- a lower guess lies below the solution -/
theorem Ch.below {n : Nat} {B : Nat → List (Rat × Nat)} {w : Nat → Rat} (C : Ch n B w) {r x y : Nat → Rat} (hx : ∀ i, i < n → x i ≤ r i + bsum (B i) x) (hy : Sol n B r y) : ∀ i, i < n → x i ≤ y i := fun i hi => by
  have := C.nonneg (d := fun i => y i - x i) (fun i hi => by
    rw [bsum_sub]
    have h1 := hx i hi
    have h2 := hy i hi
    grind) i hi
  grind
theorem Ch.above {n : Nat} {B : Nat → List (Rat × Nat)} {w : Nat → Rat} (C : Ch n B w) {r x y : Nat → Rat} (hx : ∀ i, i < n → r i + bsum (B i) x ≤ x i) (hy : Sol n B r y) : ∀ i, i < n → y i ≤ x i := fun i hi => by
  have := C.nonneg (d := fun i => x i - y i) (fun i hi => by
    rw [bsum_sub]
    have h1 := hx i hi
    have h2 := hy i hi
    grind) i hi
  grind
theorem Ch.only {n : Nat} {B : Nat → List (Rat × Nat)} {w : Nat → Rat} (C : Ch n B w) {r x y : Nat → Rat} (hx : Sol n B r x) (hy : Sol n B r y) : ∀ i, i < n → x i = y i := fun i hi =>
  Rat.le_antisymm (C.below (fun i hi => by rw [← hx i hi]; exact Rat.le_refl) hy i hi) (C.above (fun i hi => by rw [← hx i hi]; exact Rat.le_refl) hy i hi)
/-- the matrix of a chain -/
def mat (n : Nat) (B : Nat → List (Rat × Nat)) (r : Nat → Rat) : Nat → Nat → Rat := fun i j => if j < n then (if i = j then 1 else 0) - pr (B i) j else if j = n then r i else if i = j - (n + 1) then 1 else 0
theorem mat_sum {n : Nat} {B : Nat → List (Rat × Nat)} {r : Nat → Rat} (x : Nat → Rat) (tg : ∀ i, i < n → ∀ b ∈ B i, b.2 < n) {i : Nat} (hi : i < n) : sm n (fun j => mat n B r i j * x j) = x i - bsum (B i) x := by
  have e : sm n (fun j => mat n B r i j * x j) = sm n (fun j => if j = i then x i else 0) - sm n (fun j => pr (B i) j * x j) := by
    rw [← sm_sub]
    refine sm_congr fun j hj => ?_
    show (if j < n then (if i = j then 1 else 0) - pr (B i) j else _) * x j = _
    rw [if_pos hj]
    by_cases e : i = j
    · subst e; rw [if_pos rfl, if_pos rfl]; grind
    · rw [if_neg e, if_neg (Ne.symm e)]; grind
  rw [e, sm_one (k := i) hi fun j hj hne => if_neg hne, if_pos rfl, bsum_sm x (tg i hi)]
theorem mat_sol {n : Nat} {B : Nat → List (Rat × Nat)} {r x : Nat → Rat} (tg : ∀ i, i < n → ∀ b ∈ B i, b.2 < n) : Solves n (mat n B r) x ↔ Sol n B r x := by
  have hn : ∀ i, mat n B r i n = r i := fun i => by show (if n < n then _ else if n = n then r i else _) = r i; rw [if_neg (by omega), if_pos rfl]
  constructor
  · intro h i hi
    have h1 := h i hi
    rw [mat_sum x tg hi, hn] at h1
    grind
  · intro h i hi
    rw [mat_sum x tg hi, hn, h i hi]
    have := h i hi
    grind
theorem Ch.mm {n : Nat} {B : Nat → List (Rat × Nat)} {w r : Nat → Rat} (C : Ch n B w) : MM n w (mat n B r) 0 := by
  have hpr : ∀ i, i < n → ∀ j, 0 ≤ pr (B i) j := fun i hi j => by
    have h1 := bsum_le (x := fun _ => 0) (y := fun t => if t = j then 1 else 0) (C.pos i hi) fun b hb => by
      show (0 : Rat) ≤ if b.2 = j then 1 else 0
      by_cases e : b.2 = j
      · rw [if_pos e]; grind
      · rw [if_neg e]; grind
    have h2 : bsum (B i) (fun _ => 0) = 0 := by
      have := bsum_mul (B i) 0 fun _ => 0
      rw [bsum_congr (y := fun i => 0 * 0) (fun b _ => by grind), this]; grind
    rw [h2] at h1; exact h1
  refine ⟨fun i j hi hj _ hne => ?_, fun i hi => ?_, fun i hi _ => ?_, fun i j hj => by omega⟩
  · show (if j < n then (if i = j then 1 else 0) - pr (B i) j else _) ≤ 0
    rw [if_pos hj, if_neg hne]
    have := hpr i hi j
    grind
  · rw [mat_sum w C.tg hi]
    have := C.w1 i hi
    grind
  · show (if i < n then (if i = i then 1 else 0) - pr (B i) i else _) ≤ 1
    rw [if_pos hi, if_pos rfl]
    have := hpr i hi i
    grind
/-- the sizes of the matrix' rows -/
structure RowS (n : Nat) (B : Nat → List (Rat × Nat)) (r : Nat → Rat) : Prop where
  row : ∀ i, i < n → ∃ D : Nat, 0 < D ∧ D < 32 ∧ (∀ b ∈ B i, ∃ k : Nat, b.1 = (k : Rat) / (D : Rat)) ∧ bsum (B i) (fun _ => 1) ≤ 1 ∧ ∃ N : Nat, N < 32 ∧ r i = (N : Rat) / (D : Rat)
theorem pr_frac {D : Nat} (hD : 0 < D) (j : Nat) : ∀ {bs : List (Rat × Nat)}, (∀ b ∈ bs, ∃ k : Nat, b.1 = (k : Rat) / (D : Rat)) → ∃ k : Nat, pr bs j = (k : Rat) / (D : Rat) ∧ (k : Rat) / (D : Rat) ≤ bsum bs fun _ => 1
  | [], _ => ⟨0, by show (0 : Rat) = _; have : ((0 : Nat) : Rat) = 0 := rfl; rw [this, Rat.div_def]; grind, by show _ ≤ (0 : Rat); have : ((0 : Nat) : Rat) = 0 := rfl; rw [this, Rat.div_def]; grind⟩
  | b :: bs, h => by
    obtain ⟨k, e, l⟩ := pr_frac hD j (bs := bs) fun c hc => h c (List.mem_cons_of_mem _ hc)
    obtain ⟨m, em⟩ := h b List.mem_cons_self
    have hm : (0 : Rat) ≤ (m : Rat) / (D : Rat) := by
      rw [Rat.div_def]
      exact Rat.mul_nonneg Rat.natCast_nonneg (Rat.le_of_lt (Rat.inv_pos.mpr (Rat.natCast_pos.mpr hD)))
    have epr : pr (b :: bs) j = b.1 * (if b.2 = j then 1 else 0) + pr bs j := rfl
    have e1 : bsum (b :: bs) (fun _ => 1) = b.1 * 1 + bsum bs fun _ => 1 := rfl
    by_cases c : b.2 = j
    · refine ⟨m + k, ?_, ?_⟩
      · rw [epr, if_pos c, e, em, Rat.natCast_add, Rat.div_def, Rat.div_def, Rat.div_def]; grind
      · rw [e1, em, Rat.natCast_add]
        have : ((m : Rat) + (k : Rat)) / (D : Rat) = (m : Rat) / D + (k : Rat) / D := by rw [Rat.div_def, Rat.div_def, Rat.div_def]; grind
        rw [this]; grind
    · refine ⟨k, ?_, ?_⟩
      · rw [epr, if_neg c, e]; grind
      · rw [e1, em]; grind
theorem RowS.rowB {n : Nat} {B : Nat → List (Rat × Nat)} {r : Nat → Rat} (R : RowS n B r) (c : Nat) {i : Nat} (hi : i < n) : RowB 6 (mat n B r i) c := by
  obtain ⟨D, d0, d1, hb, h1, N, hN, er⟩ := R.row i hi
  have hDp : (0 : Rat) < (D : Rat) := Rat.natCast_pos.mpr d0
  have hD0 := cast_ne d0
  refine ⟨D, d0, by omega, fun j hj => ?_⟩
  unfold mat
  by_cases c1 : j < n
  · rw [if_pos c1]
    obtain ⟨k, e, l⟩ := pr_frac d0 j hb
    have hkD : k ≤ D := by
      have h2 : (k : Rat) / (D : Rat) ≤ 1 := Rat.le_trans l h1
      have h3 := Rat.mul_le_mul_of_nonneg_right h2 (Rat.le_of_lt hDp)
      rw [Rat.div_mul_cancel hD0, Rat.one_mul] at h3
      exact Rat.natCast_le_natCast.mp h3
    by_cases c2 : i = j
    · refine ⟨(D : Int) - k, by omega, ?_⟩
      rw [if_pos c2, e, Rat.intCast_sub, Rat.intCast_natCast, Rat.intCast_natCast]; grind
    · refine ⟨-(k : Int), by omega, ?_⟩
      rw [if_neg c2, e, Rat.intCast_neg, Rat.intCast_natCast]; grind
  · rw [if_neg c1]
    by_cases c2 : j = n
    · rw [if_pos c2]
      exact ⟨(N : Int), by omega, by rw [er, Rat.intCast_natCast]⟩
    · rw [if_neg c2]
      by_cases c3 : i = j - (n + 1)
      · rw [if_pos c3]; exact ⟨(D : Int), by omega, by rw [Rat.intCast_natCast]; grind⟩
      · rw [if_neg c3]; exact ⟨0, by decide, by rw [Rat.intCast_zero]; grind⟩
theorem Ch.gok {n : Nat} {B : Nat → List (Rat × Nat)} {w r : Nat → Rat} (C : Ch n B w) (R : RowS n B r) {c : Nat} (hc : n ≤ c) : Gok n c (mat n B r) := gok_of hc C.mm C.w0 fun i hi => R.rowB c hi
end Odd
set_option Elab.async false
set_option linter.all false
set_option maxRecDepth 100000
set_option maxHeartbeats 8000000
set_option exponentiation.threshold 1000000
namespace Odd
open PySem L2
/-! games as data -/
def Kd.str : Kd → Str
  | .draw => "draw"
  | .ours => "ours"
  | .theirs => "theirs"
  | .reward => "reward"
  | .finish => "finish"
  | .lose => "lose"
def dI (n : Nat) : PyData := .int (n : Int)
def dO : Option Nat → PyData
  | none => .none
  | some n => dI n
def dBr (b : Rat × Nat) : PyData := .tuple [dN b.1, dI b.2]
def dP : Pl → PyData
  | .draw bs => .tuple [.str Kd.draw.str, .list (bs.map dBr)]
  | .ours ts => .tuple [.str Kd.ours.str, .list (ts.map dI)]
  | .theirs ts => .tuple [.str Kd.theirs.str, .list (ts.map dI)]
  | .reward a t => .tuple [.str Kd.reward.str, dN a, dI t]
  | .finish => .tuple [.str Kd.finish.str]
  | .lose => .tuple [.str Kd.lose.str]
def dG (g : List Pl) : PyData := .list (g.map dP)
def dS (s : List (Option Nat)) : PyData := .list (s.map dO)
def dNL (qs : List Rat) : PyData := .list (qs.map dN)
def dIL (ns : List Nat) : PyData := .list (ns.map dI)

/-! ### equality of data -/
theorem shp_of {d : PyData} (h1 : d.canLay0 = true) (h2 : d.depth ≤ 64) : SeqAt.shaped d = true := by
  unfold SeqAt.shaped
  rw [h1, Bool.true_and, decide_eq_true h2]
theorem layAll {α : Type} (f : α → PyData) (h : ∀ a, (f a).canLay0 = true) : ∀ l : List α, PyData.canLayAll0 (l.map f) = true
  | [] => by simp [PyData.canLayAll0]
  | a :: l => by simp [PyData.canLayAll0, h a, layAll f h l]
theorem depAll {α : Type} (f : α → PyData) (n : Nat) (h : ∀ a, (f a).depth ≤ n) : ∀ l : List α, PyData.depthAll (l.map f) ≤ n
  | [] => by simp [PyData.depthAll]
  | a :: l => by
    have h1 := h a
    have h2 := depAll f n h l
    simp only [List.map_cons, PyData.depthAll]
    omega
theorem shp_list {α : Type} (f : α → PyData) (n : Nat) (hn : n < 60) (h : ∀ a, (f a).canLay0 = true) (h2 : ∀ a, (f a).depth ≤ n) (l : List α) : SeqAt.shaped (.list (l.map f)) = true :=
  shp_of (by simp only [PyData.canLay0]; exact layAll f h l) (by
    have := depAll f n h2 l
    simp only [PyData.depth]
    omega)
theorem dN_lay (q : Rat) : (dN q).canLay0 = true := by simp [dN, PyData.canLay0, PyData.canLayAll0]
theorem dN_dep (q : Rat) : (dN q).depth ≤ 1 := by simp [dN, PyData.depth, PyData.depthAll]
theorem dN_shp (q : Rat) : SeqAt.shaped (dN q) = true := shp_of (dN_lay q) (Nat.le_trans (dN_dep q) (by decide))
theorem dI_lay (n : Nat) : (dI n).canLay0 = true := by simp [dI, PyData.canLay0]
theorem dI_dep (n : Nat) : (dI n).depth ≤ 0 := by simp [dI, PyData.depth]
theorem dO_lay (n : Option Nat) : (dO n).canLay0 = true := by cases n <;> simp [dO, dI, PyData.canLay0]
theorem dO_dep (n : Option Nat) : (dO n).depth ≤ 0 := by cases n <;> simp [dO, dI, PyData.depth]
theorem dNL_shp (qs : List Rat) : SeqAt.shaped (dNL qs) = true := shp_list dN 1 (by decide) dN_lay dN_dep qs
theorem dS_shp (s : List (Option Nat)) : SeqAt.shaped (dS s) = true := shp_list dO 0 (by decide) dO_lay dO_dep s
theorem dIL_shp (s : List Nat) : SeqAt.shaped (dIL s) = true := shp_list dI 0 (by decide) dI_lay dI_dep s
theorem kd_lay (k : Kd) : (PyData.str k.str).canLay0 = true := by cases k <;> (simp only [PyData.canLay0, Kd.str]; decide +kernel)
theorem kd_shp (k : Kd) : SeqAt.shaped (.str k.str) = true := shp_of (kd_lay k) (by simp [PyData.depth])
theorem kd_inj {a b : Kd} (h : a.str = b.str) : a = b := by
  cases a <;> cases b <;> first | rfl | (exfalso; revert h; decide +kernel)
theorem eqv_str (x y : Str) : PyData.eqv (.str x) (.str y) = decide (x = y) := by
  simp only [PyData.eqv]
  by_cases h : x = y
  · subst h; simp
  · rw [decide_eq_false h]; exact beq_eq_false_iff_ne.mpr h
theorem eqv_kd (a b : Kd) : PyData.eqv (.str a.str) (.str b.str) = decide (a = b) := by
  rw [eqv_str]
  by_cases h : a = b
  · subst h; simp
  · rw [decide_eq_false h, decide_eq_false fun z => h (kd_inj z)]
theorem dN_eqv (p q : Rat) : PyData.eqv (dN p) (dN q) = decide (p = q) := by
  have e : PyData.eqv (dN p) (dN q) = ((p.num == q.num) && (((p.den : Int) == (q.den : Int)) && true)) := by simp only [dN, PyData.eqv, PyData.eqvAll]
  rw [e]
  by_cases h : p = q
  · subst h; simp
  · rw [decide_eq_false h]
    by_cases h1 : p.num = q.num
    · by_cases h2 : p.den = q.den
      · exact absurd (Rat.ext h1 h2) h
      · have : ((p.den : Int) == (q.den : Int)) = false := beq_eq_false_iff_ne.mpr (by omega)
        rw [this, Bool.false_and, Bool.and_false]
    · rw [beq_eq_false_iff_ne.mpr h1, Bool.false_and]
theorem dO_eqv (p q : Option Nat) : PyData.eqv (dO p) (dO q) = decide (p = q) := by
  cases p with
  | none => cases q <;> simp [dO, dI, PyData.eqv]
  | some a =>
    cases q with
    | none => simp [dO, dI, PyData.eqv]
    | some b =>
      have e : PyData.eqv (dO (some a)) (dO (some b)) = ((a : Int) == (b : Int)) := by simp only [dO, dI, PyData.eqv]
      rw [e]
      by_cases h : a = b
      · subst h; simp
      · rw [decide_eq_false (by simpa using h)]; exact beq_eq_false_iff_ne.mpr (by omega)
theorem all_eqv {α : Type} [DecidableEq α] (f : α → PyData) (h : ∀ a b, PyData.eqv (f a) (f b) = decide (a = b)) : ∀ l m : List α, PyData.eqvAll (l.map f) (m.map f) = decide (l = m)
  | [], [] => by simp [PyData.eqvAll]
  | [], _ :: _ => by simp [PyData.eqvAll]
  | _ :: _, [] => by simp [PyData.eqvAll]
  | a :: l, b :: m => by
    simp only [List.map_cons, PyData.eqvAll]
    rw [h a b, all_eqv f h l m]
    by_cases e1 : a = b
    · by_cases e2 : l = m
      · subst e1 e2; simp
      · rw [decide_eq_false e2, Bool.and_false, decide_eq_false]; intro z; cases z; exact e2 rfl
    · rw [decide_eq_false e1, Bool.false_and, decide_eq_false]; intro z; cases z; exact e1 rfl
theorem dNL_eqv (p q : List Rat) : PyData.eqv (dNL p) (dNL q) = decide (p = q) := by
  unfold dNL; simp only [PyData.eqv]; exact all_eqv dN dN_eqv p q
theorem dS_eqv (p q : List (Option Nat)) : PyData.eqv (dS p) (dS q) = decide (p = q) := by
  unfold dS; simp only [PyData.eqv]; exact all_eqv dO dO_eqv p q

/-! ### small rules -/
theorem get_map {α β : Type} {f : α → β} {l : List α} {i : Nat} {x : β} (h : (l.map f)[i]? = some x) : ∃ a, l[i]? = some a ∧ x = f a := by
  rw [List.getElem?_map] at h
  cases q : l[i]? with
  | none => rw [q] at h; cases h
  | some a => rw [q] at h; exact ⟨a, rfl, (Option.some.inj h).symm⟩
theorem at_mapN {α : Type} {f : α → PyData} {l : List α} {i : Nat} {a : α} (h : l[i]? = some a) : atI (l.map f) (i : Int) = some (f a) := atI_nat (by rw [List.getElem?_map, h]; rfl)
theorem ints_get0 {n i : Nat} {x : PyData} (h : (intsD 0 n)[i]? = some x) : i < n ∧ x = dI i := by
  obtain ⟨h1, rfl⟩ := ints_get h
  exact ⟨h1, by rw [Int.zero_add]; rfl⟩
theorem dIL_ints (ns : List Nat) : ns.map dI = (ns.map fun (n : Nat) => (n : Int)).map PyData.int := by rw [List.map_map]; rfl
section
variable {X : Fx} {E : En} {Γ : List SV} {te ta tb : TE}
theorem ev_vi {i : Nat} {n : Nat} (h : Γ[i]? = some (.d (dI n)) := by rfl) : EvD X E (tVar i) Γ (.int n) := ev_var h
/-- here[0] -/
theorem ev_p0 {p : Pl} (h : EvD X E te Γ (dP p)) : EvD X E (tOp (rIxT X.K) te (tC (.int 0))) Γ (.str p.kd.str) := by
  cases p <;> exact ev_ixT h ev_ci rfl
theorem ev_kp {p : Pl} (b : Kd) (h : EvD X E te Γ (dP p)) : EvB X E (tTest (tOp (rEqD X.K) (tOp (rIxT X.K) te (tC (.int 0))) (tC (.str b.str)))) Γ (decide (p.kd = b)) :=
  et_test ((ev_eqD (ev_p0 h) ev_cs (kd_shp _) (kd_shp b)).is (by rw [eqv_kd]))
theorem ev_kpn {p : Pl} (b : Kd) (h : EvD X E te Γ (dP p)) : EvB X E (tTest (tOp (rNeD X.K) (tOp (rIxT X.K) te (tC (.int 0))) (tC (.str b.str)))) Γ (!decide (p.kd = b)) :=
  et_test ((ev_neD (ev_p0 h) ev_cs (kd_shp _) (kd_shp b)).is (by rw [eqv_kd]))
theorem ev_kpv {p : Pl} {b : Kd} (h : EvD X E te Γ (dP p)) (hb : EvD X E tb Γ (.str b.str)) : EvB X E (tTest (tOp (rEqD X.K) (tOp (rIxT X.K) te (tC (.int 0))) tb)) Γ (decide (p.kd = b)) :=
  et_test ((ev_eqD (ev_p0 h) hb (kd_shp _) (kd_shp b)).is (by rw [eqv_kd]))
theorem ev_kpvn {p : Pl} {b : Kd} (h : EvD X E te Γ (dP p)) (hb : EvD X E tb Γ (.str b.str)) : EvB X E (tTest (tOp (rNeD X.K) (tOp (rIxT X.K) te (tC (.int 0))) tb)) Γ (!decide (p.kd = b)) :=
  et_test ((ev_neD (ev_p0 h) hb (kd_shp _) (kd_shp b)).is (by rw [eqv_kd]))
/-- game[place] -/
theorem ev_gat {g : List Pl} {i : Nat} {p : Pl} (h : EvD X E ta Γ (dG g)) (hi : EvD X E tb Γ (.int i)) (hp : g[i]? = some p) : EvD X E (tOp (rIxL X.K) ta tb) Γ (dP p) := ev_ixL h hi (at_mapN hp)
/-- a number of a list -/
theorem ev_nat {qs : List Rat} {i : Nat} {q : Rat} (h : EvD X E ta Γ (dNL qs)) (hi : EvD X E tb Γ (.int i)) (hp : qs[i]? = some q) : EvD X E (tOp (rIxL X.K) ta tb) Γ (dN q) := ev_ixL h hi (at_mapN hp)
theorem ev_iat {ns : List Nat} {i : Nat} {n : Nat} (h : EvD X E ta Γ (dIL ns)) (hi : EvD X E tb Γ (.int i)) (hp : ns[i]? = some n) : EvD X E (tOp (rIxL X.K) ta tb) Γ (.int n) := ev_ixL h hi (at_mapN (f := dI) hp)
theorem ev_sat {s : List (Option Nat)} {i : Nat} {o : Option Nat} (h : EvD X E ta Γ (dS s)) (hi : EvD X E tb Γ (.int i)) (hp : s[i]? = some o) : EvD X E (tOp (rIxL X.K) ta tb) Γ (dO o) := ev_ixL h hi (at_mapN hp)
/-- here[1] at a side's place -/
theorem ev_p1s {p : Pl} (h : EvD X E te Γ (dP p)) (hk : p.kd = .ours ∨ p.kd = .theirs) : EvD X E (tOp (rIxT X.K) te (tC (.int 1))) Γ (dIL p.tgts) := by
  cases p with
  | ours ts => exact ev_ixT h ev_ci rfl
  | theirs ts => exact ev_ixT h ev_ci rfl
  | draw bs => rcases hk with z | z <;> cases z
  | reward a t => rcases hk with z | z <;> cases z
  | finish => rcases hk with z | z <;> cases z
  | lose => rcases hk with z | z <;> cases z
theorem ev_inN {k : Nat} {ns : List Nat} (ha : EvD X E ta Γ (.int k)) (hb : EvD X E tb Γ (dIL ns)) : EvD X E (tOp (rIn X.K false) ta tb) Γ (.bool (decide (k ∈ ns))) := by
  refine (ev_in (ns := ns.map fun (n : Nat) => (n : Int)) ha (hb.is (by unfold dIL; rw [dIL_ints]))).is ?_
  have : ((k : Int) ∈ ns.map fun (n : Nat) => (n : Int)) ↔ k ∈ ns := by
    rw [List.mem_map]
    constructor
    · rintro ⟨a, ha, e⟩
      have : a = k := by omega
      rw [← this]; exact ha
    · exact fun h => ⟨k, h, rfl⟩
  simp only [this]
end
end Odd
set_option Elab.async false
set_option linter.all false
set_option maxRecDepth 100000
set_option maxHeartbeats 8000000
set_option exponentiation.threshold 1000000
namespace Odd
open PySem L2
def sndD : PyData → PyData
  | .tuple [_, b] => b
  | x => x
def A_targets (ss : List SV) (P : SV → Prop) : Prop := ∃ (g : List Pl) (i : Nat) (p : Pl), ss = [.d (dG g), .d (.int i)] ∧ g[i]? = some p ∧ p.tgts.length ≤ 1000 ∧ P (.d (dIL p.tgts))
def A_copy_of (ss : List SV) (P : SV → Prop) : Prop := ∃ p : Pl, ss = [.d (dP p)] ∧ P (.d (dP p))
def A_with_strategy (ss : List SV) (P : SV → Prop) : Prop := ∃ (g : List Pl) (k : Kd) (s : List (Option Nat)), ss = [.d (dG g), .d (.str k.str), .d (dS s)] ∧ (k = .ours ∨ k = .theirs) ∧ StrOk g k s ∧ g.length ≤ 1000 ∧ P (.d (dG (putS g k s)))
def A_branches (ss : List SV) (P : SV → Prop) : Prop := ∃ (g : List Pl) (i : Nat) (p : Pl), ss = [.d (dG g), .d (.int i)] ∧ g[i]? = some p ∧ P (.d (.list (p.brs.map dBr)))
def A_first_strategy (ss : List SV) (P : SV → Prop) : Prop := ∃ (g : List Pl) (k : Kd), ss = [.d (dG g), .d (.str k.str)] ∧ g.length ≤ 1000 ∧ P (.mu ((g.map fun p => if p.kd = k then some 0 else none).map dO))
def A_greatest (ss : List SV) (P : SV → Prop) : Prop := ∃ qs : List Rat, ss = [.d (dNL qs)] ∧ qs ≠ [] ∧ (∀ q ∈ qs, Bd q) ∧ ∀ q ∈ qs, (∀ r ∈ qs, r ≤ q) → P (.d (dN q))
def A_least (ss : List SV) (P : SV → Prop) : Prop := ∃ qs : List Rat, ss = [.d (dNL qs)] ∧ qs ≠ [] ∧ (∀ q ∈ qs, Bd q) ∧ ∀ q ∈ qs, (∀ r ∈ qs, q ≤ r) → P (.d (dN q))

theorem len_targets {ss : List SV} {P : SV → Prop} (h : A_targets ss P) : ss.length = 2 := by obtain ⟨_, _, _, rfl, _⟩ := h; rfl
theorem len_copy_of {ss : List SV} {P : SV → Prop} (h : A_copy_of ss P) : ss.length = 1 := by obtain ⟨_, rfl, _⟩ := h; rfl
theorem len_with_strategy {ss : List SV} {P : SV → Prop} (h : A_with_strategy ss P) : ss.length = 3 := by obtain ⟨_, _, _, rfl, _⟩ := h; rfl
theorem len_branches {ss : List SV} {P : SV → Prop} (h : A_branches ss P) : ss.length = 2 := by obtain ⟨_, _, _, rfl, _⟩ := h; rfl
theorem len_first_strategy {ss : List SV} {P : SV → Prop} (h : A_first_strategy ss P) : ss.length = 2 := by obtain ⟨_, _, rfl, _⟩ := h; rfl
theorem len_greatest {ss : List SV} {P : SV → Prop} (h : A_greatest ss P) : ss.length = 1 := by obtain ⟨_, rfl, _⟩ := h; rfl
theorem len_least {ss : List SV} {P : SV → Prop} (h : A_least ss P) : ss.length = 1 := by obtain ⟨_, rfl, _⟩ := h; rfl
section
variable {P : Program} {w : World} {K : PySem.W.Frag} {mg : Str → Option Value} {base : Heap}
theorem sc_targets : FnScope ["game", "place", "here", "chance", "target"] ["game", "place"] (defScope (top 14)) := ⟨rfl, rfl, rfl, by decide +kernel, rfl, by decide +kernel, by decide +kernel⟩
theorem d_targets (T : Txt K mg) (S : Stands K mg "targets" 14 ["game", "place"]) : DefOk P w K mg base "targets" ["game", "place"] 1 (SpR (.pure K) A_targets) := by
  refine def_pure S sc_targets (fun ss P h => len_targets h) (by decide) fun f cdv B outer s H E hr hcd => ?_
  have nd := sc_targets.nd
  refine ⟨_, (pss_cons (ps_set (i := 2) nd rfl (.inl rfl) (pe_ix ix_list (pv 0) (pv 1) (fun _ _ => rfl)))
    (pss_cons (ps_if (pt_cmpR (op_eqD hr.units) (pe_ix ix_tup (pv 2) pe_int (fun _ _ => rfl)) pe_str (nomark _)) (pss_one (ps_ret (pe_lc (own := [("chance", 3), ("target", 4)]) rfl nd (pi_list (pe_ix ix_tup (pv 2) pe_int (fun _ _ => rfl))) (blkOk_by (N := ["game", "place", "here", "chance", "target"]) (sc := defScope (top 14)) (by decide +kernel)) (fun _ _ _ _ _ => (tup_K (K := K) (n := 2) rfl rfl (pgs_cons (pg_name (i := 3) nd rfl (.inl rfl) (.inr (by rfl))) (pgs_cons (pg_name (i := 4) nd rfl (.inl rfl) (.inr (by rfl))) pgs_nil)))) (fun _ _ _ _ _ => pts_nil) (fun _ _ _ _ _ => (pv 4))))) pss_nil)
    (pss_cons (ps_if (PW.pt (pw_or (pt_cmpR (op_eqD hr.units) (pe_ix ix_tup (pv 2) pe_int (fun _ _ => rfl)) pe_str (nomark _)) (pw_or1 (pt_cmpR (op_eqD hr.units) (pe_ix ix_tup (pv 2) pe_int (fun _ _ => rfl)) pe_str (nomark _))))) (pss_one (ps_ret (pe_callTy call_list_of (by rfl) T.list (by decide +kernel) (pa_cons (pe_ix ix_tup (pv 2) pe_int (fun _ _ => rfl)) pa_nil)))) pss_nil)
    (pss_cons (ps_if (pt_cmpR (op_eqD hr.units) (pe_ix ix_tup (pv 2) pe_int (fun _ _ => rfl)) pe_str (nomark _)) (pss_one (ps_ret (pe_lst (pa_cons (pe_ix ix_tup (pv 2) pe_int (fun _ _ => rfl)) pa_nil)))) pss_nil)
    (pss_one (ps_ret (pe_lst pa_nil))))))), fun ss P E h => ?_⟩
  obtain ⟨g, i, p, rfl, hp, hl, hP⟩ := h
  refine sg_seq (sg_asg (ev_gat ev_var ev_var hp) ?_)
  cases p with
  | draw bs =>
    refine sg_seq (sg_ifT ((ev_kp .draw ev_var).is rfl) (sg_retD ((ev_lcm sndD (it_list (ds := bs.map dBr) (ev_ixT ev_var ev_ci rfl)) (by simpa [Pl.tgts] using hl) fun j x hx => ?_).d) ?_))
    · obtain ⟨b, hb, rfl⟩ := get_map hx
      exact ⟨_, _, tg_tup (tgs_cons tg_name (tgs_cons tg_name tgs_nil)), by simp, ev_var⟩
    · have e : (bs.map dBr).map sndD = (Pl.draw bs).tgts.map dI := by
        show _ = (bs.map (·.2)).map dI
        rw [List.map_map, List.map_map]; rfl
      rw [e]; exact hP
  | ours ts =>
    refine sg_seq (sg_ifF ((ev_kp .draw ev_var).is rfl) (sg_next ?_))
    exact sg_seq (sg_ifT (et_orT ((ev_kp .ours ev_var).is rfl)) (sg_retD (ev_listL (ev_ixT ev_var ev_ci rfl)).d hP))
  | theirs ts =>
    refine sg_seq (sg_ifF ((ev_kp .draw ev_var).is rfl) (sg_next ?_))
    exact sg_seq (sg_ifT (et_orF ((ev_kp .ours ev_var).is rfl) ((ev_kp .theirs ev_var).is rfl)) (sg_retD (ev_listL (ev_ixT ev_var ev_ci rfl)).d hP))
  | reward a t =>
    refine sg_seq (sg_ifF ((ev_kp .draw ev_var).is rfl) (sg_next ?_))
    refine sg_seq (sg_ifF (et_orF ((ev_kp .ours ev_var).is rfl) ((ev_kp .theirs ev_var).is rfl)) (sg_next ?_))
    exact sg_seq (sg_ifT ((ev_kp .reward ev_var).is rfl) (sg_retD (ev_lst (xs := [dI t]) (ea_cons (ev_ixT ev_var ev_ci rfl) ea_nil)).d hP))
  | finish =>
    refine sg_seq (sg_ifF ((ev_kp .draw ev_var).is rfl) (sg_next ?_))
    refine sg_seq (sg_ifF (et_orF ((ev_kp .ours ev_var).is rfl) ((ev_kp .theirs ev_var).is rfl)) (sg_next ?_))
    exact sg_seq (sg_ifF ((ev_kp .reward ev_var).is rfl) (sg_next (sg_retD (ev_lst (xs := []) ea_nil).d hP)))
  | lose =>
    refine sg_seq (sg_ifF ((ev_kp .draw ev_var).is rfl) (sg_next ?_))
    refine sg_seq (sg_ifF (et_orF ((ev_kp .ours ev_var).is rfl) ((ev_kp .theirs ev_var).is rfl)) (sg_next ?_))
    exact sg_seq (sg_ifF ((ev_kp .reward ev_var).is rfl) (sg_next (sg_retD (ev_lst (xs := []) ea_nil).d hP)))
theorem sc_copy_of : FnScope ["place"] ["place"] (defScope (top 15)) := ⟨rfl, rfl, rfl, by decide +kernel, rfl, by decide +kernel, by decide +kernel⟩
theorem d_copy_of (T : Txt K mg) (S : Stands K mg "copy_of" 15 ["place"]) : DefOk P w K mg base "copy_of" ["place"] 1 (SpR (.pure K) A_copy_of) := by
  refine def_pure S sc_copy_of (fun ss P h => len_copy_of h) (by decide) fun f cdv B outer s H E hr hcd => ?_
  have nd := sc_copy_of.nd
  refine ⟨_, (pss_cons (ps_if (PW.pt (pw_or (pt_cmpR (op_eqD hr.units) (pe_ix ix_tup (pv 0) pe_int (fun _ _ => rfl)) pe_str (nomark _)) (pw_or (pt_cmpR (op_eqD hr.units) (pe_ix ix_tup (pv 0) pe_int (fun _ _ => rfl)) pe_str (nomark _)) (pw_or1 (pt_cmpR (op_eqD hr.units) (pe_ix ix_tup (pv 0) pe_int (fun _ _ => rfl)) pe_str (nomark _)))))) (pss_one (ps_ret (pe_tup (pa_cons (pe_ix ix_tup (pv 0) pe_int (fun _ _ => rfl)) (pa_cons (pe_callTy call_list_of (by rfl) T.list (by decide +kernel) (pa_cons (pe_ix ix_tup (pv 0) pe_int (fun _ _ => rfl)) pa_nil)) pa_nil))))) pss_nil)
    (pss_one (ps_ret (pv 0)))), fun ss P E h => ?_⟩
  obtain ⟨p, rfl, hP⟩ := h
  cases p with
  | draw bs => exact sg_seq (sg_ifT (et_orT ((ev_kp (p := .draw bs) .draw ev_var).is rfl)) (sg_retD (ev_tup (xs := [_, _]) (ea_cons (ev_p0 (p := .draw bs) ev_var) (ea_cons (ev_listL (ev_ixT ev_var ev_ci rfl)).d ea_nil))) hP))
  | ours ts => exact sg_seq (sg_ifT (et_orF ((ev_kp (p := .ours ts) .draw ev_var).is rfl) (et_orT ((ev_kp (p := .ours ts) .ours ev_var).is rfl))) (sg_retD (ev_tup (xs := [_, _]) (ea_cons (ev_p0 (p := .ours ts) ev_var) (ea_cons (ev_listL (ev_ixT ev_var ev_ci rfl)).d ea_nil))) hP))
  | theirs ts => exact sg_seq (sg_ifT (et_orF ((ev_kp (p := .theirs ts) .draw ev_var).is rfl) (et_orF ((ev_kp (p := .theirs ts) .ours ev_var).is rfl) ((ev_kp (p := .theirs ts) .theirs ev_var).is rfl))) (sg_retD (ev_tup (xs := [_, _]) (ea_cons (ev_p0 (p := .theirs ts) ev_var) (ea_cons (ev_listL (ev_ixT ev_var ev_ci rfl)).d ea_nil))) hP))
  | reward a t => exact sg_seq (sg_ifF (et_orF ((ev_kp (p := .reward a t) .draw ev_var).is rfl) (et_orF ((ev_kp (p := .reward a t) .ours ev_var).is rfl) ((ev_kp (p := .reward a t) .theirs ev_var).is rfl))) (sg_next (sg_retD ev_var hP)))
  | finish => exact sg_seq (sg_ifF (et_orF ((ev_kp (p := .finish) .draw ev_var).is rfl) (et_orF ((ev_kp (p := .finish) .ours ev_var).is rfl) ((ev_kp (p := .finish) .theirs ev_var).is rfl))) (sg_next (sg_retD ev_var hP)))
  | lose => exact sg_seq (sg_ifF (et_orF ((ev_kp (p := .lose) .draw ev_var).is rfl) (et_orF ((ev_kp (p := .lose) .ours ev_var).is rfl) ((ev_kp (p := .lose) .theirs ev_var).is rfl))) (sg_next (sg_retD ev_var hP)))
theorem sc_with_strategy : FnScope ["game", "side", "strategy", "found", "place", "here"] ["game", "side", "strategy"] (defScope (top 16)) := ⟨rfl, rfl, rfl, by decide +kernel, rfl, by decide +kernel, by decide +kernel⟩
theorem d_with_strategy (T : Txt K mg) (S : Stands K mg "with_strategy" 16 ["game", "side", "strategy"]) (D_copy_of : DefOk P w K mg base "copy_of" ["place"] 1 (SpR (.pure K) A_copy_of)) : DefOk P w K mg base "with_strategy" ["game", "side", "strategy"] 2 (SpR (.pure K) A_with_strategy) := by
  refine def_pure S sc_with_strategy (fun ss P h => len_with_strategy h) (by decide) fun f cdv B outer s H E hr hcd => ?_
  have nd := sc_with_strategy.nd
  refine ⟨_, (pss_cons (ps_set (i := 3) nd rfl (.inl rfl) (pe_lst pa_nil))
    (pss_cons (ps_for PassesOwn.never rfl (pi_enum (by rfl) T.enumerate (pa_cons (pv 0) pa_nil)) (pg_tup rfl (pgs_cons (pg_name (i := 4) nd rfl (.inl rfl)) (pgs_cons (pg_name (i := 5) nd rfl (.inl rfl)) pgs_nil))) (pss_one (ps_if (pt_cmpR (op_eqD hr.units) (pe_ix ix_tup (pv 5) pe_int (fun _ _ => rfl)) (pv 1) (nomark _)) (pss_one (ps_expr (pe_bm PySem.F.plainAttrs_list PySem.F.slot_list_append PySem.F.type_list_append mt_append (pv 3) (pa_cons (pe_tup (pa_cons pe_str (pa_cons (pe_lst (pa_cons (pe_tup (pa_cons (pe_glob (v := .ref T.aO) (by rfl) T.gO rfl) (pa_cons (pe_ix ix_list (pe_ix ix_tup (pv 5) pe_int (fun _ _ => rfl)) (pe_ix ix_list (pv 2) (pv 4) (fun _ _ => rfl)) (fun _ _ => rfl)) pa_nil))) pa_nil)) pa_nil))) pa_nil)))) (pss_one (ps_expr (pe_bm PySem.F.plainAttrs_list PySem.F.slot_list_append PySem.F.type_list_append mt_append (pv 3) (pa_cons (pe_def D_copy_of (hr.mono (by decide)) (by rfl) (pa_cons (pv 5) pa_nil)) pa_nil)))))))
    (pss_one (ps_ret (pv 3))))), fun ss P E h => ?_⟩
  obtain ⟨g, k, s, rfl, hk, hs, hl, hP⟩ := h
  refine sg_seq (sg_asgM (ev_lst (xs := []) ea_nil) ?_)
  refine sg_seq (sg_for (ds := enumD (g.map dP)) (it_enum ev_var) (fun i Γ => ∃ a b, Γ = [.d (dG g), .d (.str k.str), .d (dS s), .mu (((putS g k s).take i).map dP), a, b]) ⟨_, _, rfl⟩ (fun i x Γ1 hx iv => ?_) (fun Γ1 iv => ?_))
  · obtain ⟨a, b, rfl⟩ := iv
    obtain ⟨y, hy, rfl⟩ := enum_get hx
    obtain ⟨p, hp, rfl⟩ := get_map hy
    have hi : i < g.length := (List.getElem?_eq_some_iff.mp hp).1
    obtain ⟨oi, hsi⟩ : ∃ o, s[i]? = some o := ⟨_, List.getElem?_eq_getElem (by rw [hs.len]; exact hi)⟩
    have hput : (putS g k s)[i]? = some (putP k p oi) := by
      unfold putS
      rw [List.getElem?_zipWith, hp, hsi]
    have hlen : ((putS g k s).take i).length ≤ 1000 := by
      rw [List.length_take]
      unfold putS
      rw [List.length_zipWith]; omega
    have htk : (putS g k s).take (i + 1) = (putS g k s).take i ++ [putP k p oi] := by rw [List.take_add_one, hput]; rfl
    refine ⟨_, _, tg_tup (tgs_cons tg_name (tgs_cons tg_name tgs_nil)), ?_⟩
    refine sg_if (ev_kpv (b := k) ev_var ev_var) (fun c => ?_) (fun c => ?_)
    · have c' : p.kd = k := of_decide_eq_true c.symm
      obtain ⟨b', eb, hb'⟩ := (hs.at_ i p oi hp hsi).1 c'
      refine sg_append rfl (ev_tup (xs := [_, _]) (ea_cons (ev_cs (z := Kd.draw.str)) (ea_cons (ev_lst (xs := [_]) (ea_cons (ev_tup (xs := [dN 1, dI (p.tgts.getD b' 0)]) (ea_cons (ev_cg fun F => .tup (T.tO F) (.cons (.int 1) (.cons (.int 1) .nil))) (ea_cons (ev_iat (ns := p.tgts) (i := b') (ev_p1s ev_var (c' ▸ hk)) ((ev_sat ev_var ev_var hsi).is (by rw [eb]; rfl)) ?_) ea_nil))) ea_nil)).d ea_nil))) (by rw [List.length_map]; exact hlen) ?_
      · rw [List.getD_eq_getElem?_getD, List.getElem?_eq_getElem hb']; rfl
      · refine ⟨.d (.int i), .d (dP p), ?_⟩
        rw [htk, List.map_append]
        unfold putP
        rw [if_pos c', eb]
        rfl
    · have c' : ¬ p.kd = k := of_decide_eq_false c.symm
      refine sg_appendP rfl (ev_call (ea_cons ev_var ea_nil) ⟨p, rfl, rfl⟩) (by rw [List.length_map]; exact hlen) fun r er => ⟨dP p, er.symm, ?_⟩
      refine ⟨.d (.int i), .d (dP p), ?_⟩
      rw [htk, List.map_append]
      unfold putP
      rw [if_neg c']
      rfl
  · obtain ⟨a, b, rfl⟩ := iv
    refine sg_fix (m := 3) rfl (sg_retD ev_var ?_)
    have e : (putS g k s).take (enumD (g.map dP)).length = putS g k s := by
      rw [enum_len, List.length_map]
      refine List.take_of_length_le ?_
      unfold putS
      rw [List.length_zipWith]; omega
    rw [e]; exact hP
theorem sc_branches : FnScope ["chain", "place"] ["chain", "place"] (defScope (top 27)) := ⟨rfl, rfl, rfl, by decide +kernel, rfl, by decide +kernel, by decide +kernel⟩
theorem d_branches (T : Txt K mg) (S : Stands K mg "branches" 27 ["chain", "place"]) : DefOk P w K mg base "branches" ["chain", "place"] 1 (SpR (.pure K) A_branches) := by
  refine def_pure S sc_branches (fun ss P h => len_branches h) (by decide) fun f cdv B outer s H E hr hcd => ?_
  have nd := sc_branches.nd
  refine ⟨_, (pss_cons (ps_if (pt_cmpR (op_eqD hr.units) (pe_ix ix_tup (pe_ix ix_list (pv 0) (pv 1) (fun _ _ => rfl)) pe_int (fun _ _ => rfl)) pe_str (nomark _)) (pss_one (ps_ret (pe_callTy call_list_of (by rfl) T.list (by decide +kernel) (pa_cons (pe_ix ix_tup (pe_ix ix_list (pv 0) (pv 1) (fun _ _ => rfl)) pe_int (fun _ _ => rfl)) pa_nil)))) pss_nil)
    (pss_cons (ps_if (pt_cmpR (op_eqD hr.units) (pe_ix ix_tup (pe_ix ix_list (pv 0) (pv 1) (fun _ _ => rfl)) pe_int (fun _ _ => rfl)) pe_str (nomark _)) (pss_one (ps_ret (pe_lst (pa_cons (pe_tup (pa_cons (pe_glob (v := .ref T.aO) (by rfl) T.gO rfl) (pa_cons (pe_ix ix_tup (pe_ix ix_list (pv 0) (pv 1) (fun _ _ => rfl)) pe_int (fun _ _ => rfl)) pa_nil))) pa_nil)))) pss_nil)
    (pss_one (ps_ret (pe_lst pa_nil))))), fun ss P E h => ?_⟩
  obtain ⟨g, i, p, rfl, hp, hP⟩ := h
  have hg : ∀ {Γ : List SV} {te tb : TE}, EvD (.pure K) E te Γ (dG g) → EvD (.pure K) E tb Γ (.int i) → EvD (.pure K) E (tOp (rIxL K) te tb) Γ (dP p) := fun h1 h2 => ev_gat h1 h2 hp
  cases p with
  | draw bs => exact sg_seq (sg_ifT ((ev_kp .draw (hg ev_var ev_var)).is rfl) (sg_retD (ev_listL (ev_ixT (hg ev_var ev_var) ev_ci rfl)).d hP))
  | ours ts => exact sg_seq (sg_ifF ((ev_kp .draw (hg ev_var ev_var)).is rfl) (sg_next (sg_seq (sg_ifF ((ev_kp .reward (hg ev_var ev_var)).is rfl) (sg_next (sg_retD (ev_lst (xs := []) ea_nil).d hP))))))
  | theirs ts => exact sg_seq (sg_ifF ((ev_kp .draw (hg ev_var ev_var)).is rfl) (sg_next (sg_seq (sg_ifF ((ev_kp .reward (hg ev_var ev_var)).is rfl) (sg_next (sg_retD (ev_lst (xs := []) ea_nil).d hP))))))
  | finish => exact sg_seq (sg_ifF ((ev_kp .draw (hg ev_var ev_var)).is rfl) (sg_next (sg_seq (sg_ifF ((ev_kp .reward (hg ev_var ev_var)).is rfl) (sg_next (sg_retD (ev_lst (xs := []) ea_nil).d hP))))))
  | lose => exact sg_seq (sg_ifF ((ev_kp .draw (hg ev_var ev_var)).is rfl) (sg_next (sg_seq (sg_ifF ((ev_kp .reward (hg ev_var ev_var)).is rfl) (sg_next (sg_retD (ev_lst (xs := []) ea_nil).d hP))))))
  | reward a t =>
    exact sg_seq (sg_ifF ((ev_kp .draw (hg ev_var ev_var)).is rfl) (sg_next (sg_seq (sg_ifT ((ev_kp .reward (hg ev_var ev_var)).is rfl) (sg_retD (ev_lst (xs := [dBr (1, t)]) (ea_cons (ev_tup (xs := [dN 1, dI t]) (ea_cons (ev_cg fun F => .tup (T.tO F) (.cons (.int 1) (.cons (.int 1) .nil))) (ea_cons (ev_ixT (hg ev_var ev_var) ev_ci rfl) ea_nil))) ea_nil)).d hP)))))
theorem sc_first_strategy : FnScope ["game", "side", "here"] ["game", "side"] (defScope (top 39)) := ⟨rfl, rfl, rfl, by decide +kernel, rfl, by decide +kernel, by decide +kernel⟩
theorem d_first_strategy (T : Txt K mg) (S : Stands K mg "first_strategy" 39 ["game", "side"]) : DefOk P w K mg base "first_strategy" ["game", "side"] 1 (SpR (.pure K) A_first_strategy) := by
  refine def_pure S sc_first_strategy (fun ss P h => len_first_strategy h) (by decide) fun f cdv B outer s H E hr hcd => ?_
  have nd := sc_first_strategy.nd
  refine ⟨_, (pss_one (ps_ret (pe_lc (own := [("here", 2)]) rfl nd (pi_list (pv 0)) (blkOk_by (N := ["game", "side", "here"]) (sc := defScope (top 39)) (by decide +kernel)) (fun _ _ _ _ _ => (pg_name (i := 2) nd rfl (.inl rfl) (.inr (by rfl)))) (fun _ _ _ _ _ => pts_nil) (fun _ _ _ _ _ => (pe_ifExp (pt_cmpR (eqD_K (K := K) hr.units rfl) (pe_ix (ixT_K (K := K) rfl) (pv 2) pe_int (fun _ _ => rfl)) (pv 1) (nomark _)) pe_int pe_non))))), fun ss P E h => ?_⟩
  obtain ⟨g, k, rfl, hl, hP⟩ := h
  refine sg_ret (ev_lcI (ys := (g.map fun p => if p.kd = k then some 0 else none).map dO) (it_list (ds := g.map dP) ev_var) (by rw [List.length_map]; exact hl) (by simp) fun j x y hx hy => ?_) fun r er => er ▸ hP
  obtain ⟨p, hp, rfl⟩ := get_map hx
  rw [List.map_map, List.getElem?_map, hp] at hy
  cases hy
  refine ⟨_, _, tg_name, by simp, ?_⟩
  refine ev_if (ev_kpv (b := k) ev_var ev_var) (fun c => ?_) (fun c => ?_)
  · have c' : p.kd = k := of_decide_eq_true c
    exact ev_ci.is (by show _ = dO (if p.kd = k then some 0 else none); rw [if_pos c']; rfl)
  · have c' : ¬ p.kd = k := of_decide_eq_false c
    exact ev_cn.is (by show _ = dO (if p.kd = k then some 0 else none); rw [if_neg c']; rfl)
theorem sc_greatest : FnScope ["numbers", "best", "one"] ["numbers"] (defScope (top 34)) := ⟨rfl, rfl, rfl, by decide +kernel, rfl, by decide +kernel, by decide +kernel⟩
theorem d_greatest (T : Txt K mg) (S : Stands K mg "greatest" 34 ["numbers"]) (D_compare : DefOk P w K mg base "compare" ["a", "b"] 1 (SpR (.pure K) A_compare)) : DefOk P w K mg base "greatest" ["numbers"] 2 (SpR (.pure K) A_greatest) := by
  refine def_pure S sc_greatest (fun ss P h => len_greatest h) (by decide) fun f cdv B outer s H E hr hcd => ?_
  have nd := sc_greatest.nd
  refine ⟨_, (pss_cons (ps_set (i := 1) nd rfl (.inl rfl) (pe_ix ix_list (pv 0) pe_int (fun _ _ => rfl)))
    (pss_cons (ps_for PassesOwn.never rfl (pi_list (pv 0)) (pg_name (i := 2) nd rfl (.inl rfl)) (pss_one (ps_if (pt_cmpR op_gt (pe_def D_compare (hr.mono (by decide)) (by rfl) (pa_cons (pv 2) (pa_cons (pv 1) pa_nil))) pe_int (nomark _)) (pss_one (ps_set (i := 1) nd rfl (.inl rfl) (pv 2))) pss_nil)))
    (pss_one (ps_ret (pv 1))))), fun ss P E h => ?_⟩
  obtain ⟨qs, rfl, hne, hb, hP⟩ := h
  obtain ⟨q0, rs, rfl⟩ : ∃ q0 rs, qs = q0 :: rs := by
    cases qs with
    | nil => exact absurd rfl hne
    | cons a l => exact ⟨a, l, rfl⟩
  refine sg_seq (sg_asg (ev_nat (i := 0) ev_var ev_ci rfl) ?_)
  refine sg_seq (sg_for (ds := (q0 :: rs).map dN) (it_list ev_var) (fun i Γ => ∃ a q, Γ = [.d (dNL (q0 :: rs)), .d (dN q), a] ∧ q ∈ q0 :: rs ∧ ∀ r ∈ (q0 :: rs).take i, r ≤ q) ⟨_, q0, rfl, List.mem_cons_self, fun r hr => by simp at hr⟩ (fun i x Γ1 hx iv => ?_) (fun Γ1 iv => ?_))
  · obtain ⟨a, q, rfl, hq, hm⟩ := iv
    obtain ⟨r, hr, rfl⟩ := get_map hx
    have hrm : r ∈ q0 :: rs := List.mem_of_getElem? hr
    have htk : (q0 :: rs).take (i + 1) = (q0 :: rs).take i ++ [r] := by rw [List.take_add_one, hr]; rfl
    refine ⟨_, _, tg_name, ?_⟩
    refine sg_if (et_testP (Pb := fun b => b = decide (q < r)) (ev_two (P := fun z => z = .d (.bool (decide (q < r)))) (ev_call (P := fun z => z = .d (.int (if r < q then -1 else if q < r then 1 else 0))) (ea_cons ev_var (ea_cons ev_var ea_nil)) ⟨r, q, rfl, hb r hrm, hb q hq, rfl⟩) ev_ci fun x y ex ey => ⟨_, _, ex, ey, fun F H u v o du dv Q k => ?_⟩) fun z ez => ⟨_, ez, rfl⟩) (fun c => ?_) (fun c => ?_)
    · refine ⟨_, _, dp_int du, dp_int dv, k _ _ F H rfl (.refl o) ?_⟩
      have : (decide ((0:Int) < (if r < q then -1 else if q < r then 1 else 0))) = decide (q < r) := by
        by_cases c1 : r < q
        · have c2 : ¬ q < r := fun z => Rat.lt_irrefl (Std.lt_trans c1 z)
          simp [c1, c2]
        · by_cases c2 : q < r <;> simp [c1, c2]
      show Dp K F (V.bl (decide ((0:Int) < (if r < q then -1 else if q < r then 1 else 0)))) _
      rw [this]; exact .bl _
    · have c' : q < r := of_decide_eq_true c.symm
      refine sg_asg ev_var ⟨_, r, rfl, hrm, fun z hz => ?_⟩
      rw [htk] at hz
      rcases List.mem_append.mp hz with h1 | h1
      · have := hm z h1; exact Rat.le_trans this (Rat.le_of_lt c')
      · rw [List.mem_singleton.mp h1]; exact Rat.le_refl
    · have c' : ¬ q < r := of_decide_eq_false c.symm
      refine sg_next ⟨_, q, rfl, hq, fun z hz => ?_⟩
      rw [htk] at hz
      rcases List.mem_append.mp hz with h1 | h1
      · exact hm z h1
      · rw [List.mem_singleton.mp h1]; exact Rat.not_lt.mp c'
  · obtain ⟨a, q, rfl, hq, hm⟩ := iv
    refine sg_retD ev_var (hP q hq fun r hr => hm r ?_)
    rw [List.length_map, List.take_length]; exact hr
theorem sc_least : FnScope ["numbers", "best", "one"] ["numbers"] (defScope (top 35)) := ⟨rfl, rfl, rfl, by decide +kernel, rfl, by decide +kernel, by decide +kernel⟩
theorem d_least (T : Txt K mg) (S : Stands K mg "least" 35 ["numbers"]) (D_compare : DefOk P w K mg base "compare" ["a", "b"] 1 (SpR (.pure K) A_compare)) : DefOk P w K mg base "least" ["numbers"] 2 (SpR (.pure K) A_least) := by
  refine def_pure S sc_least (fun ss P h => len_least h) (by decide) fun f cdv B outer s H E hr hcd => ?_
  have nd := sc_least.nd
  refine ⟨_, (pss_cons (ps_set (i := 1) nd rfl (.inl rfl) (pe_ix ix_list (pv 0) pe_int (fun _ _ => rfl)))
    (pss_cons (ps_for PassesOwn.never rfl (pi_list (pv 0)) (pg_name (i := 2) nd rfl (.inl rfl)) (pss_one (ps_if (pt_cmpR op_lt (pe_def D_compare (hr.mono (by decide)) (by rfl) (pa_cons (pv 2) (pa_cons (pv 1) pa_nil))) pe_int (nomark _)) (pss_one (ps_set (i := 1) nd rfl (.inl rfl) (pv 2))) pss_nil)))
    (pss_one (ps_ret (pv 1))))), fun ss P E h => ?_⟩
  obtain ⟨qs, rfl, hne, hb, hP⟩ := h
  obtain ⟨q0, rs, rfl⟩ : ∃ q0 rs, qs = q0 :: rs := by
    cases qs with
    | nil => exact absurd rfl hne
    | cons a l => exact ⟨a, l, rfl⟩
  refine sg_seq (sg_asg (ev_nat (i := 0) ev_var ev_ci rfl) ?_)
  refine sg_seq (sg_for (ds := (q0 :: rs).map dN) (it_list ev_var) (fun i Γ => ∃ a q, Γ = [.d (dNL (q0 :: rs)), .d (dN q), a] ∧ q ∈ q0 :: rs ∧ ∀ r ∈ (q0 :: rs).take i, q ≤ r) ⟨_, q0, rfl, List.mem_cons_self, fun r hr => by simp at hr⟩ (fun i x Γ1 hx iv => ?_) (fun Γ1 iv => ?_))
  · obtain ⟨a, q, rfl, hq, hm⟩ := iv
    obtain ⟨r, hr, rfl⟩ := get_map hx
    have hrm : r ∈ q0 :: rs := List.mem_of_getElem? hr
    have htk : (q0 :: rs).take (i + 1) = (q0 :: rs).take i ++ [r] := by rw [List.take_add_one, hr]; rfl
    refine ⟨_, _, tg_name, ?_⟩
    refine sg_if (et_testP (Pb := fun b => b = decide (r < q)) (ev_two (P := fun z => z = .d (.bool (decide (r < q)))) (ev_call (P := fun z => z = .d (.int (if r < q then -1 else if q < r then 1 else 0))) (ea_cons ev_var (ea_cons ev_var ea_nil)) ⟨r, q, rfl, hb r hrm, hb q hq, rfl⟩) ev_ci fun x y ex ey => ⟨_, _, ex, ey, fun F H u v o du dv Q k => ?_⟩) fun z ez => ⟨_, ez, rfl⟩) (fun c => ?_) (fun c => ?_)
    · refine ⟨_, _, dp_int du, dp_int dv, k _ _ F H rfl (.refl o) ?_⟩
      have : (decide ((if r < q then -1 else if q < r then 1 else 0 : Int) < 0)) = decide (r < q) := by
        by_cases c1 : r < q
        · have c2 : ¬ q < r := fun z => Rat.lt_irrefl (Std.lt_trans c1 z)
          simp [c1, c2]
        · by_cases c2 : q < r <;> simp [c1, c2]
      show Dp K F (V.bl (decide ((if r < q then -1 else if q < r then 1 else 0 : Int) < 0))) _
      rw [this]; exact .bl _
    · have c' : r < q := of_decide_eq_true c.symm
      refine sg_asg ev_var ⟨_, r, rfl, hrm, fun z hz => ?_⟩
      rw [htk] at hz
      rcases List.mem_append.mp hz with h1 | h1
      · have := hm z h1; exact Rat.le_trans (Rat.le_of_lt c') this
      · rw [List.mem_singleton.mp h1]; exact Rat.le_refl
    · have c' : ¬ r < q := of_decide_eq_false c.symm
      refine sg_next ⟨_, q, rfl, hq, fun z hz => ?_⟩
      rw [htk] at hz
      rcases List.mem_append.mp hz with h1 | h1
      · exact hm z h1
      · rw [List.mem_singleton.mp h1]; exact Rat.not_lt.mp c'
  · obtain ⟨a, q, rfl, hq, hm⟩ := iv
    refine sg_retD ev_var (hP q hq fun r hr => hm r ?_)
    rw [List.length_map, List.take_length]; exact hr
end
end Odd
/-! what is reached; games that end -/
set_option linter.all false
namespace Odd
inductive Reach (g : List Pl) (p : Nat) : Nat → Prop
  | refl : Reach g p p
  | step {j t : Nat} : Reach g p j → t ∈ (gat g j).tgts → Reach g p t
theorem Reach.trans {g : List Pl} {p j k : Nat} (a : Reach g p j) (b : Reach g j k) : Reach g p k := by
  induction b with
  | refl => exact a
  | step _ h ih => exact .step ih h
/-- targets are places -/
structure GOk (g : List Pl) : Prop where
  tg : ∀ i, i < g.length → ∀ t ∈ (gat g i).tgts, t < g.length
  len : ∀ i, (gat g i).tgts.length ≤ 1000
  most : g.length ≤ 60
theorem Reach.lt {g : List Pl} (G : GOk g) {p j : Nat} (hp : p < g.length) (h : Reach g p j) : j < g.length := by
  induction h with
  | refl => exact hp
  | step a h ih => exact G.tg _ ih _ h
open Classical in
noncomputable def reachL (g : List Pl) (p : Nat) : List Nat := (List.range g.length).filter fun j => decide (Reach g p j)
theorem mem_reachL {g : List Pl} (G : GOk g) {p j : Nat} (hp : p < g.length) : j ∈ reachL g p ↔ Reach g p j := by
  unfold reachL
  simp only [List.mem_filter, List.mem_range, decide_eq_true_eq]
  exact ⟨fun h => h.2, fun h => ⟨h.lt G hp, h⟩⟩
theorem reachL_len {g : List Pl} {p : Nat} : (reachL g p).length ≤ g.length := by
  unfold reachL
  refine Nat.le_trans (List.length_filter_le _ _) ?_
  rw [List.length_range]; exact Nat.le_refl _
theorem asc_eq : ∀ {l m : List Int}, l.Pairwise (· < ·) → m.Pairwise (· < ·) → (∀ k, k ∈ l ↔ k ∈ m) → l = m
  | [], [], _, _, _ => rfl
  | [], b :: m, _, _, h => absurd ((h b).mpr List.mem_cons_self) (by simp)
  | a :: l, [], _, _, h => absurd ((h a).mp List.mem_cons_self) (by simp)
  | a :: l, b :: m, hl, hm, h => by
    obtain ⟨l1, l2⟩ := List.pairwise_cons.mp hl
    obtain ⟨m1, m2⟩ := List.pairwise_cons.mp hm
    have e : a = b := by
      rcases List.mem_cons.mp ((h a).mp List.mem_cons_self) with h1 | h1
      · exact h1
      · rcases List.mem_cons.mp ((h b).mpr List.mem_cons_self) with h2 | h2
        · exact h2.symm
        · have := m1 a h1
          have := l1 b h2
          omega
    subst e
    rw [asc_eq l2 m2 fun k => ?_]
    constructor
    · intro hk
      rcases List.mem_cons.mp ((h k).mp (List.mem_cons_of_mem _ hk)) with h1 | h1
      · have := l1 k hk; omega
      · exact h1
    · intro hk
      rcases List.mem_cons.mp ((h k).mpr (List.mem_cons_of_mem _ hk)) with h1 | h1
      · have := m1 k hk; omega
      · exact h1
theorem reachL_asc (g : List Pl) (p : Nat) : ((reachL g p).map fun (n : Nat) => (n : Int)).Pairwise (· < ·) := by
  rw [List.pairwise_map]
  unfold reachL
  exact ((List.pairwise_lt_range (n := g.length)).filter _).imp fun h => by omega
/-- games whose places lie forward -/
structure Fw (g : List Pl) : Prop where
  ok : GOk g
  ends : ∀ i, i < g.length → (gat g i).isEnd = false → ∃ t, t ∈ (gat g i).tgts ∧ i < t
  fwd : ∀ i, i < g.length → ((gat g i).kd = .ours ∨ (gat g i).kd = .theirs) → ∀ t ∈ (gat g i).tgts, i < t
end Odd
set_option Elab.async false
set_option linter.all false
set_option maxRecDepth 100000
set_option maxHeartbeats 8000000
set_option exponentiation.threshold 1000000
namespace Odd
open PySem L2
def A_reached (ss : List SV) (P : SV → Prop) : Prop := ∃ (g : List Pl) (p : Nat), ss = [.d (dG g), .d (.int p)] ∧ GOk g ∧ p < g.length ∧ P (.mu ((reachL g p).map dI))
def A_all_reached (ss : List SV) (P : SV → Prop) : Prop := ∃ g : List Pl, ss = [.d (dG g)] ∧ GOk g ∧ P (.mu ((List.range g.length).map fun p => dIL (reachL g p)))
def A_always_ends (ss : List SV) (P : SV → Prop) : Prop := ∃ g : List Pl, ss = [.d (dG g)] ∧ Fw g ∧ P (.d (.bool true))
def A_check_ending (ss : List SV) (P : SV → Prop) : Prop := ∃ g : List Pl, ss = [.d (dG g)] ∧ Fw g ∧ P (.d .none)
theorem len_reached {ss : List SV} {P : SV → Prop} (h : A_reached ss P) : ss.length = 2 := by obtain ⟨_, _, rfl, _⟩ := h; rfl
theorem len_all_reached {ss : List SV} {P : SV → Prop} (h : A_all_reached ss P) : ss.length = 1 := by obtain ⟨_, rfl, _⟩ := h; rfl
theorem len_always_ends {ss : List SV} {P : SV → Prop} (h : A_always_ends ss P) : ss.length = 1 := by obtain ⟨_, rfl, _⟩ := h; rfl
theorem len_check_ending {ss : List SV} {P : SV → Prop} (h : A_check_ending ss P) : ss.length = 1 := by obtain ⟨_, rfl, _⟩ := h; rfl
section
variable {P : Program} {w : World} {K : PySem.W.Frag} {mg : Str → Option Value} {base : Heap}
/-- the state of the search: sn seen, ws waiting -/
structure Srch (g : List Pl) (p : Nat) (S : Int → Bool) (sn : List Nat) : Prop where
  s : ∀ k : Int, S k = true ↔ ∃ j ∈ sn, k = (j : Int)
  nd : sn.Nodup
  lt : ∀ j ∈ sn, j < g.length
  rc : ∀ j ∈ sn, Reach g p j
  p : p ∈ sn
theorem nodup_le {sn : List Nat} {n : Nat} (nd : sn.Nodup) (lt : ∀ j ∈ sn, j < n) : sn.length ≤ n := by
  induction n generalizing sn with
  | zero =>
    cases sn with
    | nil => exact Nat.le_refl _
    | cons a l => exact absurd (lt a List.mem_cons_self) (Nat.not_lt_zero _)
  | succ n ih =>
    by_cases h : n ∈ sn
    · have h1 := ih (sn := sn.erase n) (nd.erase n) fun j hj => by
        have h2 := lt j (List.mem_of_mem_erase hj)
        have h3 : j ≠ n := fun e => by
          rw [e, List.Nodup.mem_erase_iff nd] at hj
          exact hj.1 rfl
        omega
      rw [List.length_erase_of_mem h] at h1
      omega
    · have h1 := ih (sn := sn) nd fun j hj => by
        have h2 := lt j hj
        have h3 : j ≠ n := fun e => h (e ▸ hj)
        omega
      omega
theorem sc_reached : FnScope ["game", "place", "seen", "waiting", "target"] ["game", "place"] (defScope (top 17)) := ⟨rfl, rfl, rfl, by decide +kernel, rfl, by decide +kernel, by decide +kernel⟩
theorem d_reached (T : Txt K mg) (S : Stands K mg "reached" 17 ["game", "place"]) (D_targets : DefOk P w K mg base "targets" ["game", "place"] 1 (SpR (.pure K) A_targets)) : DefOk P w K mg base "reached" ["game", "place"] 2 (SpR (.pure K) A_reached) := by
  refine def_pure S sc_reached (fun ss P h => len_reached h) (by decide) fun f cdv B outer s H E hr hcd => ?_
  have nd := sc_reached.nd
  refine ⟨_, (pss_cons (ps_set (i := 2) nd rfl (.inl rfl) (pe_set1 (pv 1) (kds_of_code hcd)))
    (pss_cons (ps_set (i := 3) nd rfl (.inl rfl) (pe_lst (pa_cons (pv 1) pa_nil)))
    (pss_cons (ps_while PassesOwn.never (pt_truth (pv 3) (by intro _; rfl)) (pss_one (ps_for PassesOwn.never rfl (pi_list (pe_def D_targets (hr.mono (by decide)) (by rfl) (pa_cons (pv 0) (pa_cons (pe_bm0 PySem.F.plainAttrs_list PySem.F.slot_list_pop PySem.F.type_list_pop mt_pop (pv 3)) pa_nil)))) (pg_name (i := 4) nd rfl (.inl rfl)) (pss_one (ps_if (pt_cmpR or_snotin (pv 4) (pv 2) (by rfl)) (pss_cons (ps_expr (pe_sadd (pv 2) (pa_cons (pv 4) pa_nil)))
    (pss_one (ps_expr (pe_bm PySem.F.plainAttrs_list PySem.F.slot_list_append PySem.F.type_list_append mt_append (pv 3) (pa_cons (pv 4) pa_nil))))) pss_nil)))))
    (pss_one (ps_ret (pe_callB (cr_sortedSet rfl) (by rfl) T.sorted (by decide +kernel) (pa_cons (pv 2) pa_nil))))))), fun ss P E h => ?_⟩
  obtain ⟨g, p, rfl, G, hp, hP⟩ := h
  refine sg_seq (sg_asgO (ev_set1 ev_var) ?_)
  refine sg_seq (sg_asgM (ev_lst (xs := [.int p]) (ea_cons ev_var ea_nil)) ?_)
  refine sg_seq (sg_while (fun m Γ => ∃ S sn ws t, Γ = [.d (dG g), .d (.int p), .obj fun a => SetO w a S sn.length, .mu (ws.map dI), t] ∧ Srch g p S sn ∧ (∀ j ∈ ws, j ∈ sn) ∧ (∀ j ∈ sn, j ∉ ws → ∀ t ∈ (gat g j).tgts, t ∈ sn) ∧ ws.length ≤ sn.length ∧ m = 2 * (g.length - sn.length) + ws.length) (2 * (g.length - 1) + 1)
    ⟨fun j => decide (j = (p : Int)), [p], [p], .no, rfl, ⟨fun k => by simp, by simp, fun j hj => by rw [List.mem_singleton.mp hj]; exact hp, fun j hj => by rw [List.mem_singleton.mp hj]; exact .refl, by simp⟩, fun j hj => hj, fun j h1 h2 => absurd h1 h2, Nat.le_refl _, rfl⟩ fun m Γ1 iv => ?_)
  obtain ⟨S, sn, ws, t, rfl, R, sub, cl, wl, rfl⟩ := iv
  refine ⟨_, et_truM rfl, fun hb => ?_, fun hb => ?_⟩
  · obtain ⟨x, hx⟩ : ∃ x, ws.getLast? = some x := by
      cases q : ws.getLast? with
      | none => rw [List.getLast?_eq_none_iff.mp q] at hb; cases hb
      | some x => exact ⟨x, rfl⟩
    have hxm : x ∈ ws := List.mem_of_getLast? hx
    have hws : ws = ws.dropLast ++ [x] := by
      obtain ⟨ys, e⟩ := List.getLast?_eq_some_iff.mp hx
      rw [e]; simp
    have hxl : x < g.length := R.lt x (sub x hxm)
    refine sg_forG (it_pop (ds := ws.map dI) (x := dG g) (y := dI x) (zs := (gat g x).tgts.map dI) rfl rfl (by rw [List.getLast?_map, hx]; rfl) ⟨g, x, gat g x, rfl, gat_get hxl, G.len x, rfl⟩)
      (fun i Γ => ∃ S sn' ws' t, Γ = [.d (dG g), .d (.int p), .obj fun a => SetO w a S sn'.length, .mu (ws'.map dI), t] ∧ Srch g p S sn' ∧ (∀ j ∈ ws', j ∈ sn') ∧ (∀ j ∈ sn, j ∈ sn') ∧ (∀ j ∈ sn', j ∉ ws' → j ∈ sn ∧ j ∉ ws.dropLast) ∧ (∀ t ∈ (gat g x).tgts.take i, t ∈ sn') ∧ sn.length + (ws'.length - (ws.length - 1)) = sn'.length ∧ ws.length - 1 ≤ ws'.length)
      ⟨S, sn, ws.dropLast, t, by rw [← List.map_dropLast]; rfl, R, fun j hj => sub j (List.dropLast_subset _ hj), fun j hj => hj, fun j h1 h2 => ⟨h1, h2⟩, fun t ht => by simp at ht, by rw [List.length_dropLast]; omega, by rw [List.length_dropLast]; omega⟩ (fun i y Γ2 hy iv => ?_) (fun Γ2 iv => ?_)
    · obtain ⟨S', sn', ws', t', rfl, R', sub', sup, new, tk, l1, l2⟩ := iv
      obtain ⟨k, hk, rfl⟩ := get_map hy
      have hkl : k < g.length := G.tg x hxl k (List.mem_of_getElem? hk)
      have htk : (gat g x).tgts.take (i + 1) = (gat g x).tgts.take i ++ [k] := by rw [List.take_add_one, hk]; rfl
      refine ⟨_, _, tg_name, sg_if (et_test (ev_snotin ev_vi rfl)) (fun h => ?_) (fun h => ?_)⟩
      · have hS : ¬ S' (k : Int) = true := by simpa using h.symm
        have hkn : k ∉ sn' := fun z => hS ((R'.s _).mpr ⟨k, z, rfl⟩)
        have hle : sn'.length ≤ g.length := nodup_le R'.nd R'.lt
        have hm := G.most
        have hpos : 0 < ws.length := List.length_pos_of_mem hxm
        refine sg_seq (sg_sadd rfl ev_vi (by omega) ?_)
        refine sg_append rfl (x := dI k) ev_var (by rw [List.length_map]; omega) ?_
        refine ⟨fun j => S' j || decide (j = (k : Int)), sn' ++ [k], ws' ++ [k], .d (dI k), ?_, ⟨fun j => ?_, ?_, ?_, ?_, ?_⟩, ?_, ?_, ?_, ?_, ?_, ?_⟩
        · show [_, _, SV.obj fun a => SetO w a (fun j => S' j || decide (j = (k : Int))) (if S' (k : Int) = true then sn'.length else sn'.length + 1), SV.mu (ws'.map dI ++ [dI k]), _] = _
          rw [if_neg hS, List.map_append, List.length_append]; rfl
        · rw [Bool.or_eq_true, R'.s j, decide_eq_true_iff]
          constructor
          · rintro (⟨a, ha, e⟩ | e)
            · exact ⟨a, List.mem_append_left _ ha, e⟩
            · exact ⟨k, by simp, e⟩
          · rintro ⟨a, ha, e⟩
            rcases List.mem_append.mp ha with h1 | h1
            · exact .inl ⟨a, h1, e⟩
            · rw [List.mem_singleton.mp h1] at e; exact .inr e
        · rw [List.nodup_append]
          exact ⟨R'.nd, by simp, fun a ha b hb e => hkn (by rw [List.mem_singleton.mp hb] at e; rw [← e]; exact ha)⟩
        · intro j hj
          rcases List.mem_append.mp hj with h1 | h1
          · exact R'.lt j h1
          · rw [List.mem_singleton.mp h1]; exact hkl
        · intro j hj
          rcases List.mem_append.mp hj with h1 | h1
          · exact R'.rc j h1
          · rw [List.mem_singleton.mp h1]; exact .step (R.rc x (sub x hxm)) (List.mem_of_getElem? hk)
        · exact List.mem_append_left _ R'.p
        · intro j hj
          rcases List.mem_append.mp hj with h1 | h1
          · exact List.mem_append_left _ (sub' j h1)
          · exact List.mem_append_right _ h1
        · exact fun j hj => List.mem_append_left _ (sup j hj)
        · intro j hj hn
          rcases List.mem_append.mp hj with h1 | h1
          · exact new j h1 fun z => hn (List.mem_append_left _ z)
          · exact absurd (List.mem_append_right _ h1) hn
        · intro z hz
          rw [htk] at hz
          rcases List.mem_append.mp hz with h1 | h1
          · exact List.mem_append_left _ (tk z h1)
          · exact List.mem_append_right _ h1
        · rw [List.length_append, List.length_append]; simp; omega
        · rw [List.length_append]; omega
      · have hS : S' (k : Int) = true := by simpa using h.symm
        refine sg_next ⟨S', sn', ws', .d (dI k), rfl, R', sub', sup, new, fun z hz => ?_, l1, l2⟩
        rw [htk] at hz
        rcases List.mem_append.mp hz with h1 | h1
        · exact tk z h1
        · rw [List.mem_singleton.mp h1]
          obtain ⟨j, hj, e⟩ := (R'.s _).mp hS
          have : k = j := by omega
          rw [this]; exact hj
    · obtain ⟨S', sn', ws', t', rfl, R', sub', sup, new, tk, l1, l2⟩ := iv
      rw [List.length_map, List.take_length] at tk
      have hle : sn'.length ≤ g.length := nodup_le R'.nd R'.lt
      have hpos : 0 < ws.length := List.length_pos_of_mem hxm
      refine ⟨_, ?_, S', sn', ws', t', rfl, R', sub', fun j hj hn t ht => ?_, ?_, rfl⟩
      · omega
      · obtain ⟨h1, h2⟩ := new j hj hn
        by_cases e : j = x
        · subst e; exact tk t ht
        · refine sup t (cl j h1 (fun z => ?_) t ht)
          rw [hws] at z
          rcases List.mem_append.mp z with z | z
          · exact h2 z
          · exact e (List.mem_singleton.mp z)
      · omega
  · have hw : ws = [] := by
      cases ws with
      | nil => rfl
      | cons a l => cases hb
    subst hw
    have hle : sn.length ≤ g.length := nodup_le R.nd R.lt
    have hm := G.most
    refine sg_ret (ev_sortedSet (P := fun r => r = .mu ((reachL g p).map dI)) rfl (by omega) fun ns h1 h2 h3 => ?_) fun r er => er ▸ hP
    have e : ns = (reachL g p).map fun (n : Nat) => (n : Int) := asc_eq h1 (reachL_asc g p) fun k => by
      rw [h2 k, R.s k, List.mem_map]
      constructor
      · rintro ⟨j, hj, e⟩; exact ⟨j, (mem_reachL G hp).mpr (R.rc j hj), e.symm⟩
      · rintro ⟨j, hj, e⟩
        refine ⟨j, ?_, e.symm⟩
        have : ∀ {j}, Reach g p j → j ∈ sn := fun {j} r => by
          induction r with
          | refl => exact R.p
          | step a h ih => exact cl _ ih (by simp) _ h
        exact this ((mem_reachL G hp).mp hj)
    rw [e, dIL_ints]
theorem sc_all_reached : FnScope ["chain", "place"] ["chain"] (defScope (top 28)) := ⟨rfl, rfl, rfl, by decide +kernel, rfl, by decide +kernel, by decide +kernel⟩
theorem d_all_reached (T : Txt K mg) (S : Stands K mg "all_reached" 28 ["chain"]) (D_reached : DefOk P w K mg base "reached" ["game", "place"] 2 (SpR (.pure K) A_reached)) : DefOk P w K mg base "all_reached" ["chain"] 3 (SpR (.pure K) A_all_reached) := by
  refine def_pure S sc_all_reached (fun ss P h => len_all_reached h) (by decide) fun f cdv B outer s H E hr hcd => ?_
  have nd := sc_all_reached.nd
  refine ⟨_, (pss_one (ps_ret (pe_lc (own := [("place", 1)]) rfl nd (pi_range1 (by rfl) T.range (pa_cons (pe_callB call_len_seq (by rfl) T.len (by decide +kernel) (pa_cons (pv 0) pa_nil)) pa_nil)) (blkOk_by (N := ["chain", "place"]) (sc := defScope (top 28)) (by decide +kernel)) (fun _ _ _ _ _ => (pg_name (i := 1) nd rfl (.inl rfl) (.inr (by rfl)))) (fun _ _ _ _ _ => pts_nil) (fun _ _ _ _ _ => (pe_def D_reached (hr.mono (by decide)) (by rfl) (pa_cons (pv 0) (pa_cons (pv 1) pa_nil))))))), fun ss P E h => ?_⟩
  obtain ⟨g, rfl, G, hP⟩ := h
  have hm := G.most
  refine sg_ret (ev_lcI (ys := (List.range g.length).map fun p => dIL (reachL g p)) (it_rng1 ((ev_lenL (ev_var (x := dG g))).is (by rw [List.length_map])) (by omega)) (by rw [ints_len]; omega) (by rw [ints_len]; simp) fun i x y hx hy => ?_) fun r er => er ▸ hP
  obtain ⟨hi, rfl⟩ := ints_get0 hx
  rw [List.getElem?_map, List.getElem?_range hi] at hy
  cases hy
  refine ⟨_, _, tg_name, by simp, ?_⟩
  exact EvM.d (ev_call (P := fun r => r = .mu ((reachL g i).map dI)) (ea_cons ev_var (ea_cons ev_vi ea_nil)) ⟨g, i, rfl, G, hi, rfl⟩)
theorem sc_always_ends : FnScope ["game", "kept", "turn", "left", "place", "inside", "stays", "here", "target"] ["game"] (defScope (top 19)) := ⟨rfl, rfl, rfl, by decide +kernel, rfl, by decide +kernel, by decide +kernel⟩
theorem d_always_ends (T : Txt K mg) (S : Stands K mg "always_ends" 19 ["game"]) (D_targets : DefOk P w K mg base "targets" ["game", "place"] 1 (SpR (.pure K) A_targets)) : DefOk P w K mg base "always_ends" ["game"] 2 (SpR (.pure K) A_always_ends) := by
  refine def_pure S sc_always_ends (fun ss P h => len_always_ends h) (by decide) fun f cdv B outer s H E hr hcd => ?_
  have nd := sc_always_ends.nd
  refine ⟨_, (pss_cons (ps_set (i := 1) nd rfl (.inr rfl) (pe_lc (own := [("place", 4), ("here", 7)]) rfl nd (pi_enum (by rfl) T.enumerate (pa_cons (pv 0) pa_nil)) (blkOk_by (N := ["game", "kept", "turn", "left", "place", "inside", "stays", "here", "target"]) (sc := defScope (top 19)) (by decide +kernel)) (fun _ _ _ _ _ => (tup_K (K := K) (n := 2) rfl rfl (pgs_cons (pg_name (i := 4) nd rfl (.inl rfl) (.inr (by rfl))) (pgs_cons (pg_name (i := 7) nd rfl (.inl rfl) (.inr (by rfl))) pgs_nil)))) (fun _ _ _ _ _ => (pts_one (PW.pt (pw_and (pt_cmpR (neD_K (K := K) hr.units rfl) (pe_ix (ixT_K (K := K) rfl) (pv 7) pe_int (fun _ _ => rfl)) pe_str (nomark _)) (pw_and1 (pt_cmpR (neD_K (K := K) hr.units rfl) (pe_ix (ixT_K (K := K) rfl) (pv 7) pe_int (fun _ _ => rfl)) pe_str (nomark _))))))) (fun _ _ _ _ _ => (pv 4))))
    (pss_cons (ps_for PassesOwn.never rfl (pi_range1 (by rfl) T.range (pa_cons (pe_callB call_len_seq (by rfl) T.len (by decide +kernel) (pa_cons (pv 0) pa_nil)) pa_nil)) (pg_name (i := 2) nd rfl (.inl rfl)) (pss_cons (ps_set (i := 3) nd rfl (.inl rfl) (pe_lst pa_nil))
    (pss_cons (ps_for PassesOwn.never rfl (pi_list (pv 1)) (pg_name (i := 4) nd rfl (.inl rfl)) (pss_cons (ps_setLc (i := 5) (own := [("target", 8)]) rfl nd rfl rfl (sw_true rfl rfl rfl (by decide +kernel)) (pi_list (pe_def D_targets (hr.mono (by decide)) (by rfl) (pa_cons (pv 0) (pa_cons (pv 4) pa_nil)))) (blkOk_by (N := ["game", "kept", "turn", "left", "place", "inside", "stays", "here", "target"]) (sc := defScope (top 19)) (by decide +kernel)) (fun _ _ _ _ _ => (pg_name (i := 8) nd rfl (.inl rfl) (.inr (by rfl)))) (fun _ _ _ _ _ => pts_nil) (fun _ _ _ _ _ => (pe_cmpR (in_K (K := K) rfl) (pv 8) (pv 1) (by rfl))))
    (pss_cons (ps_if (PW.pt (pw_or (pt_cmpR (op_eqD hr.units) (pe_ix ix_tup (pe_ix ix_list (pv 0) (pv 4) (fun _ _ => rfl)) pe_int (fun _ _ => rfl)) pe_str (nomark _)) (pw_or1 (pt_cmpR (op_eqD hr.units) (pe_ix ix_tup (pe_ix ix_list (pv 0) (pv 4) (fun _ _ => rfl)) pe_int (fun _ _ => rfl)) pe_str (nomark _))))) (pss_one (ps_set (i := 6) nd rfl (.inl rfl) (pe_callB (cr_any rfl) (by rfl) T.any (by decide +kernel) (pa_cons (pv 5) pa_nil)))) (pss_one (ps_set (i := 6) nd rfl (.inl rfl) (pe_callB (cr_all rfl) (by rfl) T.all (by decide +kernel) (pa_cons (pv 5) pa_nil)))))
    (pss_one (ps_if (pt_val (pv 6)) (pss_one (ps_expr (pe_bm PySem.F.plainAttrs_list PySem.F.slot_list_append PySem.F.type_list_append mt_append (pv 3) (pa_cons (pv 4) pa_nil)))) pss_nil)))))
    (pss_one (ps_set (i := 1) nd rfl (.inr rfl) (pv 3))))))
    (pss_one (ps_ret (pe_notT (pv 1)))))), fun ss P E h => ?_⟩
  obtain ⟨g, rfl, W, hP⟩ := h
  have G := W.ok
  have hm := G.most
  refine sg_seq (sg_asg (ev_lcF (fun i => !(gat g i).isEnd) dI (it_enum (ds := g.map dP) ev_var) (by rw [enum_len, List.length_map]; omega) fun i x hx => ?_).d ?_)
  · obtain ⟨y, hy, rfl⟩ := enum_get hx
    obtain ⟨p, hp, rfl⟩ := get_map hy
    refine ⟨_, _, tg_tup (tgs_cons tg_name (tgs_cons tg_name tgs_nil)), by simp, ?_, fun _ => ev_var⟩
    have e : (!(gat g i).isEnd) = ((!decide (p.kd = .finish)) && !decide (p.kd = .lose)) := by
      rw [gat_some hp]
      cases p <;> rfl
    rw [e]
    exact et_and (ev_kpn .finish ev_var) fun _ => ev_kpn .lose ev_var
  rw [enum_len, List.length_map]
  refine sg_seq (sg_for (ds := intsD 0 g.length) (it_rng1 ((ev_lenL (ev_var (x := dG g))).is (by rw [List.length_map])) (by omega))
    (fun r Γ => ∃ ks a b c d e f h, Γ = [.d (dG g), .d (dIL ks), a, b, c, d, e, f, h] ∧ ks.length ≤ 60 ∧ ∀ x ∈ ks, x < g.length ∧ x < g.length - r ∧ (gat g x).isEnd = false)
    ⟨(List.range g.length).filter fun i => !(gat g i).isEnd, _, _, _, _, _, _, _, rfl, ?_, fun x hx => ?_⟩ (fun r x Γ1 hx iv => ?_) (fun Γ1 iv => ?_))
  · have := List.length_filter_le (fun i => !(gat g i).isEnd) (List.range g.length)
    rw [List.length_range] at this
    omega
  · obtain ⟨h1, h2⟩ := List.mem_filter.mp hx
    have := List.mem_range.mp h1
    exact ⟨this, by omega, by simpa using h2⟩
  · obtain ⟨ks, a, b, c, d, e, f, h, rfl, hl, hk⟩ := iv
    refine ⟨_, _, tg_name, ?_⟩
    refine sg_seq (sg_asgM (ev_lst (xs := []) ea_nil) ?_)
    refine sg_seq (sg_for (ds := ks.map dI) (it_list ev_var) (fun i Γ => ∃ (ls : List Nat) (a c d e f h : SV), Γ = [.d (dG g), .d (dIL ks), a, .mu (ls.map dI), c, d, e, f, h] ∧ ls.length ≤ i ∧ ∀ x ∈ ls, x < g.length ∧ x < g.length - (r + 1) ∧ (gat g x).isEnd = false)
      ⟨[], _, _, _, _, _, _, rfl, by simp, by simp⟩ (fun i y Γ2 hy iv => ?_) (fun Γ2 iv => ?_))
    · obtain ⟨ls, a, c, d, e, f, h, rfl, hll, hls⟩ := iv
      obtain ⟨x, hx, rfl⟩ := get_map hy
      have hxm := List.mem_of_getElem? hx
      obtain ⟨x1, x2, x3⟩ := hk x hxm
      have hi : i < ks.length := (List.getElem?_eq_some_iff.mp hx).1
      refine ⟨_, _, tg_name, ?_⟩
      refine sg_seq (sg_asg (ev_lcI (ds := (gat g x).tgts.map dI) (ys := ((gat g x).tgts.map fun t => decide (t ∈ ks)).map .bool) (it_list (ev_call (P := fun r => r = .d (dIL (gat g x).tgts)) (ea_cons ev_var (ea_cons ev_vi ea_nil)) ⟨g, x, gat g x, rfl, gat_get x1, G.len x, rfl⟩)) (by rw [List.length_map]; exact G.len x) (by simp) fun j z y hz hy => ?_).d ?_)
      · obtain ⟨t, ht, rfl⟩ := get_map hz
        rw [List.map_map, List.getElem?_map, ht] at hy
        cases hy
        exact ⟨_, _, tg_name, by simp, ev_inN ev_vi ev_var⟩
      have stay : ∀ b : Bool, (b = true → x < g.length - (r + 1)) → ∀ v (B C : List SV → Prop), SG (.pure K) E (tIfS (tB (tVar 6)) (tDrop (tBM K "list" rAppend (tVar 3) (tCons (tVar 4) tNil))) tNext) [.d (dG g), .d (dIL ks), a, .mu (ls.map dI), .d (dI x), v, .d (.bool b), f, h]
          { nx := fun Γ => ∃ (ls : List Nat) (a c d e f h : SV), Γ = [.d (dG g), .d (dIL ks), a, .mu (ls.map dI), c, d, e, f, h] ∧ ls.length ≤ i + 1 ∧ ∀ x ∈ ls, x < g.length ∧ x < g.length - (r + 1) ∧ (gat g x).isEnd = false, rt := P, bk := B, ct := C } := by
        intro b hb v B C
        refine sg_if (et_B ev_var) (fun e => ?_) (fun e => sg_next ⟨ls, _, _, _, _, _, _, rfl, by omega, hls⟩)
        refine sg_append rfl (x := dI x) ev_var (by rw [List.length_map]; omega) ⟨ls ++ [x], _, _, _, _, _, _, by rw [List.map_append]; rfl, by rw [List.length_append]; simp; omega, fun z hz => ?_⟩
        rcases List.mem_append.mp hz with h1 | h1
        · exact hls z h1
        · rw [List.mem_singleton.mp h1]; exact ⟨x1, hb e.symm, x3⟩
      have anyE : ((gat g x).tgts.map fun t => decide (t ∈ ks)).any id = true → ∃ t ∈ (gat g x).tgts, t ∈ ks := fun e => by
        obtain ⟨b, hb, e⟩ := List.any_eq_true.mp e
        obtain ⟨t, ht, rfl⟩ := List.mem_map.mp hb
        exact ⟨t, ht, of_decide_eq_true e⟩
      have allE : ((gat g x).tgts.map fun t => decide (t ∈ ks)).all id = true → ∀ t ∈ (gat g x).tgts, t ∈ ks := fun e t ht =>
        of_decide_eq_true (List.all_eq_true.mp e _ (List.mem_map.mpr ⟨t, ht, rfl⟩))
      have hat : ∀ {Γ : List SV} {te tb : TE}, EvD (.pure K) E te Γ (dG g) → EvD (.pure K) E tb Γ (.int x) → EvD (.pure K) E (tOp (rIxL K) te tb) Γ (dP (gat g x)) := fun h1 h2 => ev_gat h1 h2 (gat_get x1)
      refine sg_seq (sg_if (Pb := fun b => b = true → (gat g x).kd = .ours ∨ (gat g x).kd = .theirs) (fun F H σ s Q q => ?_) (fun c => ?_) (fun c => ?_))
      · by_cases c : (gat g x).kd = .ours
        · exact et_orT ((ev_kp .ours (hat ev_var ev_vi)).is (decide_eq_true c)) F H σ s Q fun b F' H' e => q b F' H' fun _ => .inl c
        · refine et_orF ((ev_kp .ours (hat ev_var ev_vi)).is (decide_eq_false c)) (ev_kp .theirs (hat ev_var ev_vi)) F H σ s Q fun b F' H' e => q b F' H' fun h => .inr (of_decide_eq_true (e ▸ h))
      · refine sg_asg (ev_any ev_var) (stay _ (fun e => ?_) _ _ _)
        obtain ⟨t, ht, htk⟩ := anyE e
        have h1 := W.fwd x x1 (c rfl) t ht
        have h2 := (hk t htk).2.1
        omega
      · refine sg_asg (ev_all ev_var) (stay _ (fun e => ?_) _ _ _)
        obtain ⟨t, ht, h1⟩ := W.ends x x1 x3
        have h2 := (hk t (allE e t ht)).2.1
        omega
    · obtain ⟨ls, a, c, d, e, f, h, rfl, hll, hls⟩ := iv
      rw [List.length_map] at hll
      exact sg_fix (m := 3) rfl (sg_asg ev_var ⟨ls, _, _, _, _, _, _, _, rfl, by omega, hls⟩)
  · obtain ⟨ks, a, b, c, d, e, f, h, rfl, hl, hk⟩ := iv
    rw [ints_len] at hk
    refine sg_retD ((ev_notL ev_var).is ?_) hP
    have : ks = [] := by
      cases ks with
      | nil => rfl
      | cons y l =>
        have := (hk y List.mem_cons_self).2.1
        omega
    rw [this]; rfl
theorem sc_check_ending : FnScope ["game"] ["game"] (defScope (top 37)) := ⟨rfl, rfl, rfl, by decide +kernel, rfl, by decide +kernel, by decide +kernel⟩
theorem d_check_ending (T : Txt K mg) (S : Stands K mg "check_ending" 37 ["game"]) (D_always_ends : DefOk P w K mg base "always_ends" ["game"] 2 (SpR (.pure K) A_always_ends)) : DefOk P w K mg base "check_ending" ["game"] 3 (SpR (.pure K) A_check_ending) := by
  refine def_pure S sc_check_ending (fun ss P h => len_check_ending h) (by decide) fun f cdv B outer s H E hr hcd => ?_
  have nd := sc_check_ending.nd
  refine ⟨_, (pss_one (ps_if (pt_not (pt_val (pe_def D_always_ends (hr.mono (by decide)) (by rfl) (pa_cons (pv 0) pa_nil)))) (pss_one ps_never) pss_nil)), fun ss P E h => ?_⟩
  obtain ⟨g, rfl, W, hP⟩ := h
  exact sg_ifF (et_not (b := true) (et_B (ev_call (ea_cons ev_var ea_nil) ⟨g, rfl, W, rfl⟩))) (sg_next hP)
end
end Odd
set_option linter.all false
set_option exponentiation.threshold 1000000
namespace Odd
theorem pow_split {a b : Nat} (m k : Nat) (ha : a < 2 ^ m) (hb : b < 2 ^ k) : a * b < 2 ^ (m + k) := by
  rw [Nat.pow_add]
  have h1 : 0 < 2 ^ m := Nat.pow_pos (by omega)
  have h2 : 0 < 2 ^ k := Nat.pow_pos (by omega)
  calc a * b ≤ a * 2 ^ k := Nat.mul_le_mul_left _ (by omega)
    _ < 2 ^ m * 2 ^ k := Nat.mul_lt_mul_of_pos_right ha h2
/-- below 2^m by its parts -/
def Bt (m : Nat) (q : Rat) : Prop := ∃ (D : Nat) (N : Int), 0 < D ∧ D < 2 ^ m ∧ N.natAbs < 2 ^ m ∧ q = (N : Rat) / (D : Rat)
theorem Bt.bd {m : Nat} {q : Rat} (h : Bt m q) (hm : m ≤ 200000) : Bd q := by
  obtain ⟨D, N, h0, h1, h2, e⟩ := h
  obtain ⟨a, b⟩ := frac_le N D h0
  have hp : 2 ^ m ≤ 2 ^ 200000 := Nat.pow_le_pow_right (by omega) hm
  rw [e]
  exact ⟨by omega, by omega⟩
theorem Bt.mono {m k : Nat} {q : Rat} (h : Bt m q) (hk : m ≤ k) : Bt k q := by
  obtain ⟨D, N, h0, h1, h2, e⟩ := h
  have hp : 2 ^ m ≤ 2 ^ k := Nat.pow_le_pow_right (by omega) hk
  exact ⟨D, N, h0, by omega, by omega, e⟩
theorem Bt.mul {m k : Nat} {p q : Rat} (h : Bt m p) (g : Bt k q) : Bt (m + k) (p * q) := by
  obtain ⟨D, N, h0, h1, h2, e⟩ := h
  obtain ⟨D', N', g0, g1, g2, e'⟩ := g
  have hD := cast_ne h0
  have hD' := cast_ne g0
  refine ⟨D * D', N * N', Nat.mul_pos h0 g0, pow_split m k h1 g1, by rw [Int.natAbs_mul]; exact pow_split m k h2 g2, ?_⟩
  rw [e, e', Rat.intCast_mul, Rat.natCast_mul]
  grind
theorem Bt.add {m k : Nat} {p q : Rat} (h : Bt m p) (g : Bt k q) : Bt (m + k + 1) (p + q) := by
  obtain ⟨D, N, h0, h1, h2, e⟩ := h
  obtain ⟨D', N', g0, g1, g2, e'⟩ := g
  have hD := cast_ne h0
  have hD' := cast_ne g0
  have a1 := pow_split m k h1 g1
  have a2 : N.natAbs * D' < 2 ^ (m + k) := pow_split m k h2 g1
  have a3 : N'.natAbs * D < 2 ^ (m + k) := by rw [Nat.add_comm]; exact pow_split k m g2 h1
  refine ⟨D * D', N * D' + N' * D, Nat.mul_pos h0 g0, ?_, ?_, ?_⟩
  · rw [Nat.pow_succ]; omega
  · have b1 : (N * D' + N' * D).natAbs ≤ (N * D').natAbs + (N' * D).natAbs := Int.natAbs_add_le _ _
    rw [Int.natAbs_mul, Int.natAbs_mul, Int.natAbs_natCast, Int.natAbs_natCast] at b1
    rw [Nat.pow_succ]; omega
  · rw [e, e', Rat.intCast_add, Rat.intCast_mul, Rat.intCast_mul, Rat.natCast_mul, Rat.intCast_natCast, Rat.intCast_natCast]
    grind
theorem Bt.neg {m : Nat} {p : Rat} (h : Bt m p) : Bt m (-p) := by
  obtain ⟨D, N, h0, h1, h2, e⟩ := h
  exact ⟨D, -N, h0, h1, by rw [Int.natAbs_neg]; exact h2, by rw [e, Rat.intCast_neg]; grind⟩
theorem Bt.sub {m k : Nat} {p q : Rat} (h : Bt m p) (g : Bt k q) : Bt (m + k + 1) (p - q) := by
  have := h.add g.neg
  rw [show p - q = p + -q by grind]; exact this
theorem Bt.inv {m : Nat} {p : Rat} (h : Bt m p) (hp : 0 < p) : Bt m (1 / p) := by
  obtain ⟨D, N, h0, h1, h2, e⟩ := h
  have hD := cast_ne h0
  have hN : 0 < N := by
    have h3 : (0 : Rat) < ((D : Rat))⁻¹ := Rat.inv_pos.mpr (Rat.natCast_pos.mpr h0)
    rw [e, Rat.div_def] at hp
    have h4 := (Rat.mul_pos_iff_of_pos_right h3).mp hp
    exact Rat.intCast_pos.mp h4
  have hNn : ((N.natAbs : Nat) : Rat) = (N : Rat) := by
    rw [← Rat.intCast_natCast]
    congr 1; omega
  have hN0 : (N : Rat) ≠ 0 := fun z => by
    have := Rat.intCast_pos.mpr hN
    rw [z] at this; exact Rat.lt_irrefl this
  refine ⟨N.natAbs, D, by omega, h2, by simpa using h1, ?_⟩
  rw [hNn, e, Rat.intCast_natCast]
  grind
theorem RowB.bt {m c : Nat} {f : Nat → Rat} (h : RowB m f c) {j : Nat} (hj : j < c) : Bt m (f j) := by
  obtain ⟨D, h0, h1, h2⟩ := h
  obtain ⟨N, hN, e⟩ := h2 j hj
  exact ⟨D, N, h0, h1, hN, e⟩
section
variable {n c : Nat} {M : Nat → Nat → Rat}
theorem pw12 {k : Nat} (h : k ≤ 12) : 8 * 2 ^ k ≤ 32768 := by
  have : 2 ^ k ≤ 2 ^ 12 := Nat.pow_le_pow_right (by omega) h
  omega
theorem Gok.bt (G : Gok n c M) (hn : n ≤ 12) {k i j : Nat} (hk : k ≤ n) (hi : i < n) (hj : j < c) : Bt 32768 (gj k M i j) :=
  ((G.row k i hk hi).bt hj).mono (pw12 (by omega))
theorem Gok.bd (G : Gok n c M) (hn : n ≤ 12) {k i j : Nat} (hk : k ≤ n) (hi : i < n) (hj : j < c) : Bd (gj k M i j) := (G.bt hn hk hi hj).bd (by decide)
end
end Odd
set_option Elab.async false
set_option linter.all false
set_option maxRecDepth 100000
set_option maxHeartbeats 8000000
set_option exponentiation.threshold 1000000
namespace Odd
open PySem L2
/-! lines and elimination -/
def cl (f : Nat → Rat) (lo n : Nat) : List Rat := (List.range n).map fun j => f (lo + j)
theorem cl_at {f : Nat → Rat} {lo n j : Nat} (h : j < n) : (cl f lo n)[j]? = some (f (lo + j)) := by
  unfold cl; rw [List.getElem?_map, List.getElem?_range h]; rfl
theorem cl_get {f : Nat → Rat} {lo n j : Nat} {q : Rat} (h : (cl f lo n)[j]? = some q) : j < n ∧ q = f (lo + j) := by
  have hj : j < n := by
    have := (List.getElem?_eq_some_iff.mp h).1
    unfold cl at this
    simpa using this
  rw [cl_at hj] at h
  exact ⟨hj, (Option.some.inj h).symm⟩
theorem cl_len {f : Nat → Rat} {lo n : Nat} : (cl f lo n).length = n := by unfold cl; simp
def dLine (n : Nat) (f : Nat → Rat) : PyData := .tuple [dNL (cl f 0 n), dN (f n), dNL (cl f (n + 1) n)]
def dRow (n : Nat) (f : Nat → Rat) : PyData := .tuple [dNL (cl f 0 n), dN (f n)]
def rws (n : Nat) (M : Nat → Nat → Rat) : List PyData := (List.range n).map fun i => dRow n (M i)
theorem rng_get {α : Type} {f : Nat → α} {n i : Nat} {x : α} (h : ((List.range n).map f)[i]? = some x) : i < n ∧ x = f i := by
  rw [List.getElem?_map] at h
  by_cases hi : i < n
  · rw [List.getElem?_range hi] at h; exact ⟨hi, (Option.some.inj h).symm⟩
  · rw [List.getElem?_eq_none (by simpa using hi)] at h; cases h
theorem rng_at {α : Type} {f : Nat → α} {n i : Nat} (h : i < n) : ((List.range n).map f)[i]? = some (f i) := by rw [List.getElem?_map, List.getElem?_range h]; rfl
theorem rng_len {α : Type} {f : Nat → α} {n : Nat} : ((List.range n).map f).length = n := by simp
theorem rng_succ {α : Type} {f : Nat → α} {n : Nat} : (List.range (n + 1)).map f = (List.range n).map f ++ [f n] := by rw [List.range_succ, List.map_append]; rfl
theorem bd01 : Bd 0 ∧ Bd 1 := ⟨⟨by show (0 : Nat) < _; exact Nat.pow_pos (by omega), by show (1 : Nat) < _; exact Nat.one_lt_pow (by omega) (by omega)⟩, ⟨by show (1 : Nat) < _; exact Nat.one_lt_pow (by omega) (by omega), by show (1 : Nat) < _; exact Nat.one_lt_pow (by omega) (by omega)⟩⟩
section
variable {K : PySem.W.Frag} {mg : Str → Option Value} {E : En} {Γ : List SV} {X : Fx}
theorem ev_one (T : Txt K mg) : EvD (.pure K) E (tC (.ref T.aO)) Γ (dN 1) := ev_cg fun F => .tup (T.tO F) (.cons (.int 1) (.cons (.int 1) .nil))
theorem ev_nought (T : Txt K mg) : EvD (.pure K) E (tC (.ref T.aN)) Γ (dN 0) := ev_cg fun F => .tup (T.tN F) (.cons (.int 0) (.cons (.int 1) .nil))
theorem ev_l0 {te : TE} {n : Nat} {f : Nat → Rat} (h : EvD X E te Γ (dLine n f)) : EvD X E (tOp (rIxT X.K) te (tC (.int 0))) Γ (dNL (cl f 0 n)) := ev_ixT h ev_ci rfl
theorem ev_l1 {te : TE} {n : Nat} {f : Nat → Rat} (h : EvD X E te Γ (dLine n f)) : EvD X E (tOp (rIxT X.K) te (tC (.int 1))) Γ (dN (f n)) := ev_ixT h ev_ci rfl
theorem ev_l2 {te : TE} {n : Nat} {f : Nat → Rat} (h : EvD X E te Γ (dLine n f)) : EvD X E (tOp (rIxT X.K) te (tC (.int 2))) Γ (dNL (cl f (n + 1) n)) := ev_ixT h ev_ci rfl
theorem ev_l0i {te tb : TE} {n i : Nat} {f : Nat → Rat} (h : EvD X E te Γ (dLine n f)) (hb : EvD X E tb Γ (.int i)) (hi : i < n) : EvD X E (tOp (rIxL X.K) (tOp (rIxT X.K) te (tC (.int 0))) tb) Γ (dN (f i)) :=
  (ev_nat (ev_l0 h) hb (cl_at hi)).is (by rw [Nat.zero_add])
end
theorem cut0 (ds : List PyData) : cutD ds none (some 0) = [] := by
  show (ds.drop 0).take (HT.sIx ds.length ds.length (some ((0 : Nat) : Int)) - 0) = []
  rw [HT.sIx_nat, Nat.zero_min]; rfl
theorem cut1 (ds : List PyData) : cutD ds (some (0 + 1)) none = ds.drop 1 := by
  show (ds.drop (HT.sIx ds.length 0 (some ((1 : Nat) : Int)))).take (ds.length - HT.sIx ds.length 0 (some ((1 : Nat) : Int))) = ds.drop 1
  rw [HT.sIx_nat]
  cases ds with
  | nil => rfl
  | cons a l =>
    rw [show min 1 (a :: l).length = 1 by simp]
    exact List.take_of_length_le (by simp)
def A_scaled (ss : List SV) (P : SV → Prop) : Prop := ∃ (n : Nat) (f : Nat → Rat) (q : Rat), ss = [.d (dLine n f), .d (dN q)] ∧ n ≤ 60 ∧ Bd q ∧ (∀ j, j < 2 * n + 1 → Bd (f j)) ∧ P (.d (dLine n fun j => q * f j))
def A_without (ss : List SV) (P : SV → Prop) : Prop := ∃ (n p : Nat) (f h : Nat → Rat), ss = [.d (dLine n f), .d (.int p), .d (dLine n h)] ∧ n ≤ 60 ∧ p < n ∧ (∀ j, j < 2 * n + 1 → Bd (f j)) ∧ (∀ j, j < 2 * n + 1 → Bd (h j)) ∧
  (∀ j, j < 2 * n + 1 → Bd (f p * h j)) ∧ P (.d (dLine n fun j => f j - f p * h j))
structure Lin (n : Nat) (M : Nat → Nat → Rat) : Prop where
  ok : Gok n (2 * n + 1) M
  one : ∀ i k, i < n → k < n → M i (n + 1 + k) = if i = k then 1 else 0
  most : n ≤ 11
def A_reduced (ss : List SV) (P : SV → Prop) : Prop := ∃ (n : Nat) (M : Nat → Nat → Rat), ss = [.d (.int n), .d (.list (rws n M))] ∧ Lin n M ∧ P (.d (.tuple [.list ((List.range n).map fun t => .tuple [dI t, dLine n (gj n M t)]), .list []]))
def A_solution_of (ss : List SV) (P : SV → Prop) : Prop := ∃ (n : Nat) (S : Nat → Nat → Rat), ss = [.d (.int n), .d (.list ((List.range n).map fun t => .tuple [dI t, dLine n (S t)]))] ∧ n ≤ 60 ∧ P (.mu ((List.range n).map fun i => dN (S i n)))
def A_only_solution (ss : List SV) (P : SV → Prop) : Prop := ∃ (n : Nat) (M : Nat → Nat → Rat), ss = [.d (.int n), .d (.list (rws n M))] ∧ Lin n M ∧ P (.mu ((List.range n).map fun i => dN (gj n M i n)))
theorem len_scaled {ss : List SV} {P : SV → Prop} (h : A_scaled ss P) : ss.length = 2 := by obtain ⟨_, _, _, rfl, _⟩ := h; rfl
theorem len_without {ss : List SV} {P : SV → Prop} (h : A_without ss P) : ss.length = 3 := by obtain ⟨_, _, _, _, rfl, _⟩ := h; rfl
theorem len_reduced {ss : List SV} {P : SV → Prop} (h : A_reduced ss P) : ss.length = 2 := by obtain ⟨_, _, rfl, _⟩ := h; rfl
theorem len_solution_of {ss : List SV} {P : SV → Prop} (h : A_solution_of ss P) : ss.length = 2 := by obtain ⟨_, _, rfl, _⟩ := h; rfl
theorem len_only_solution {ss : List SV} {P : SV → Prop} (h : A_only_solution ss P) : ss.length = 2 := by obtain ⟨_, _, rfl, _⟩ := h; rfl
section
variable {P : Program} {w : World} {K : PySem.W.Frag} {mg : Str → Option Value} {base : Heap}
theorem sc_scaled : FnScope ["line", "by", "one"] ["line", "by"] (defScope (top 21)) := ⟨rfl, rfl, rfl, by decide +kernel, rfl, by decide +kernel, by decide +kernel⟩
theorem d_scaled (T : Txt K mg) (S : Stands K mg "scaled" 21 ["line", "by"]) (D_times : DefOk P w K mg base "times" ["a", "b"] 34 (SpR (.pure K) A_times)) : DefOk P w K mg base "scaled" ["line", "by"] 35 (SpR (.pure K) A_scaled) := by
  refine def_pure S sc_scaled (fun ss P h => len_scaled h) (by decide) fun f cdv B outer s H E hr hcd => ?_
  have nd := sc_scaled.nd
  refine ⟨_, (pss_one (ps_ret (pe_tup (pa_cons (pe_lc (own := [("one", 2)]) rfl nd (pi_list (pe_ix ix_tup (pv 0) pe_int (fun _ _ => rfl))) (blkOk_by (N := ["line", "by", "one"]) (sc := defScope (top 21)) (by decide +kernel)) (fun _ _ _ _ _ => (pg_name (i := 2) nd rfl (.inl rfl) (.inr (by rfl)))) (fun _ _ _ _ _ => pts_nil) (fun _ _ _ _ _ => (pe_def D_times (hr.mono (by decide)) (by rfl) (pa_cons (pv 1) (pa_cons (pv 2) pa_nil))))) (pa_cons (pe_def D_times (hr.mono (by decide)) (by rfl) (pa_cons (pv 1) (pa_cons (pe_ix ix_tup (pv 0) pe_int (fun _ _ => rfl)) pa_nil))) (pa_cons (pe_lc (own := [("one", 2)]) rfl nd (pi_list (pe_ix ix_tup (pv 0) pe_int (fun _ _ => rfl))) (blkOk_by (N := ["line", "by", "one"]) (sc := defScope (top 21)) (by decide +kernel)) (fun _ _ _ _ _ => (pg_name (i := 2) nd rfl (.inl rfl) (.inr (by rfl)))) (fun _ _ _ _ _ => pts_nil) (fun _ _ _ _ _ => (pe_def D_times (hr.mono (by decide)) (by rfl) (pa_cons (pv 1) (pa_cons (pv 2) pa_nil))))) pa_nil)))))), fun ss P E h => ?_⟩
  obtain ⟨n, f, q, rfl, hn, hq, hf, hP⟩ := h
  have col : ∀ (lo : Nat) (te : TE), lo + n ≤ 2 * n + 1 → EvD (.pure K) E te [.d (dLine n f), .d (dN q), .no] (dNL (cl f lo n)) →
      EvM (.pure K) E (tLc (iList K te) (gName 2) tYes (tCall (SpR (.pure K) A_times) [] E0 (tCons (tVar 1) (tCons (tVar 2) tNil))) [2]) [.d (dLine n f), .d (dN q), .no] ((cl (fun j => q * f j) lo n).map dN) := fun lo te hlo hte => by
    refine ev_lcI (ds := (cl f lo n).map dN) (it_list hte) (by rw [List.length_map, cl_len]; omega) (by rw [List.length_map, List.length_map, cl_len, cl_len]) fun i x y hx hy => ?_
    obtain ⟨a, ha, rfl⟩ := get_map hx
    obtain ⟨b, hb, rfl⟩ := get_map hy
    obtain ⟨hi, rfl⟩ := cl_get ha
    obtain ⟨_, rfl⟩ := cl_get hb
    exact ⟨_, _, tg_name, by simp, ev_call (ea_cons ev_var (ea_cons ev_var ea_nil)) ⟨q, _, rfl, hq, hf _ (by omega), rfl⟩⟩
  refine sg_retD (ev_tup (xs := [dNL (cl (fun j => q * f j) 0 n), dN (q * f n), dNL (cl (fun j => q * f j) (n + 1) n)])
    (ea_cons (col 0 _ (by omega) (ev_l0 ev_var)).d (ea_cons (ev_call (P := fun r => r = .d (dN (q * f n))) (ea_cons ev_var (ea_cons (ev_l1 ev_var) ea_nil)) ⟨q, _, rfl, hq, hf n (by omega), rfl⟩) (ea_cons (col (n + 1) _ (by omega) (ev_l2 ev_var)).d ea_nil)))) hP
theorem sc_without : FnScope ["line", "place", "other", "less", "factors", "multipliers", "one", "two"] ["line", "place", "other"] (defScope (top 22)) := ⟨rfl, rfl, rfl, by decide +kernel, rfl, by decide +kernel, by decide +kernel⟩
theorem d_without (T : Txt K mg) (S : Stands K mg "without" 22 ["line", "place", "other"]) (D_scaled : DefOk P w K mg base "scaled" ["line", "by"] 35 (SpR (.pure K) A_scaled)) (D_minus : DefOk P w K mg base "minus" ["a", "b"] 34 (SpR (.pure K) A_minus)) : DefOk P w K mg base "without" ["line", "place", "other"] 36 (SpR (.pure K) A_without) := by
  refine def_pure S sc_without (fun ss P h => len_without h) (by decide) fun f cdv B outer s H E hr hcd => ?_
  have nd := sc_without.nd
  refine ⟨_, (pss_cons (ps_if (pt_cmpR (op_eqD hr.units) (pe_ix ix_list (pe_ix ix_tup (pv 0) pe_int (fun _ _ => rfl)) (pv 1) (fun _ _ => rfl)) (pe_glob (v := .ref T.aN) (by rfl) T.gN rfl) (nomark _)) (pss_one (ps_ret (pv 0))) pss_nil)
    (pss_cons (ps_set (i := 3) nd rfl (.inl rfl) (pe_def D_scaled (hr.mono (by decide)) (by rfl) (pa_cons (pv 2) (pa_cons (pe_ix ix_list (pe_ix ix_tup (pv 0) pe_int (fun _ _ => rfl)) (pv 1) (fun _ _ => rfl)) pa_nil))))
    (pss_cons (ps_setLc (i := 4) (own := [("one", 6), ("two", 7)]) rfl nd rfl rfl (sw_true rfl rfl rfl (by decide +kernel)) (pi_zip (by rfl) T.zip (pa_cons (pe_ix ix_tup (pv 0) pe_int (fun _ _ => rfl)) (pa_cons (pe_ix ix_tup (pv 3) pe_int (fun _ _ => rfl)) pa_nil))) (blkOk_by (N := ["line", "place", "other", "less", "factors", "multipliers", "one", "two"]) (sc := defScope (top 22)) (by decide +kernel)) (fun _ _ _ _ _ => (tup_K (K := K) (n := 2) rfl rfl (pgs_cons (pg_name (i := 6) nd rfl (.inl rfl) (.inr (by rfl))) (pgs_cons (pg_name (i := 7) nd rfl (.inl rfl) (.inr (by rfl))) pgs_nil)))) (fun _ _ _ _ _ => pts_nil) (fun _ _ _ _ _ => (pe_def D_minus (hr.mono (by decide)) (by rfl) (pa_cons (pv 6) (pa_cons (pv 7) pa_nil)))))
    (pss_cons (ps_setLc (i := 5) (own := [("one", 6), ("two", 7)]) rfl nd rfl rfl (sw_true rfl rfl rfl (by decide +kernel)) (pi_zip (by rfl) T.zip (pa_cons (pe_ix ix_tup (pv 0) pe_int (fun _ _ => rfl)) (pa_cons (pe_ix ix_tup (pv 3) pe_int (fun _ _ => rfl)) pa_nil))) (blkOk_by (N := ["line", "place", "other", "less", "factors", "multipliers", "one", "two"]) (sc := defScope (top 22)) (by decide +kernel)) (fun _ _ _ _ _ => (tup_K (K := K) (n := 2) rfl rfl (pgs_cons (pg_name (i := 6) nd rfl (.inl rfl) (.inr (by rfl))) (pgs_cons (pg_name (i := 7) nd rfl (.inl rfl) (.inr (by rfl))) pgs_nil)))) (fun _ _ _ _ _ => pts_nil) (fun _ _ _ _ _ => (pe_def D_minus (hr.mono (by decide)) (by rfl) (pa_cons (pv 6) (pa_cons (pv 7) pa_nil)))))
    (pss_one (ps_ret (pe_tup (pa_cons (pv 4) (pa_cons (pe_def D_minus (hr.mono (by decide)) (by rfl) (pa_cons (pe_ix ix_tup (pv 0) pe_int (fun _ _ => rfl)) (pa_cons (pe_ix ix_tup (pv 3) pe_int (fun _ _ => rfl)) pa_nil))) (pa_cons (pv 5) pa_nil)))))))))), fun ss P E h => ?_⟩
  obtain ⟨n, p, f, g, rfl, hn, hp, hf, hg, hfg, hP⟩ := h
  refine sg_seq (sg_if (Pb := fun b => b = decide (f p = 0)) (et_test ((ev_eqD (ev_l0i ev_var ev_vi hp) (ev_nought T) (dN_shp _) (dN_shp _)).is (by rw [dN_eqv]))) (fun c => ?_) (fun c => ?_))
  · have c' : f p = 0 := of_decide_eq_true c.symm
    have e : (fun j => f j - f p * g j) = f := funext fun j => by rw [c']; grind
    rw [e] at hP
    exact sg_retD ev_var hP
  · have c' : ¬ f p = 0 := of_decide_eq_false c.symm
    refine sg_next (sg_seq (sg_asg (ev_call (P := fun r => r = .d (dLine n fun j => f p * g j)) (ea_cons ev_var (ea_cons (ev_l0i ev_var ev_vi hp) ea_nil)) ⟨n, g, f p, rfl, hn, hf p (by omega), hg, rfl⟩) ?_))
    have col : ∀ (Γ : List SV) (a b c d e k l m : SV), Γ = [a, b, c, d, e, k, l, m] → ∀ (lo : Nat) (ta tb : TE), lo + n ≤ 2 * n + 1 → EvD (.pure K) E ta Γ (dNL (cl f lo n)) → EvD (.pure K) E tb Γ (dNL (cl (fun j => f p * g j) lo n)) →
        EvM (.pure K) E (tLc (iZip K (tCons ta (tCons tb tNil))) (gTup K 2 (gCons (gName 6) (gCons (gName 7) gNil))) tYes (tCall (SpR (.pure K) A_minus) [] E0 (tCons (tVar 6) (tCons (tVar 7) tNil))) [6, 7]) Γ ((cl (fun j => f j - f p * g j) lo n).map dN) := fun Γ a b c d e k l m eΓ lo ta tb hlo hta htb => by
      subst eΓ
      refine ev_lcI (ds := zipD ((cl f lo n).map dN) ((cl (fun j => f p * g j) lo n).map dN)) (it_zip hta htb) (by rw [zip_len, List.length_map, List.length_map, cl_len, cl_len]; omega) (by rw [zip_len, List.length_map, List.length_map, List.length_map, cl_len, cl_len, cl_len]; omega) fun i x y hx hy => ?_
      obtain ⟨u, v, hu, hv, rfl⟩ := zip_get hx
      obtain ⟨a, ha, rfl⟩ := get_map hu
      obtain ⟨b, hb, rfl⟩ := get_map hv
      obtain ⟨z, hz, rfl⟩ := get_map hy
      obtain ⟨hi, rfl⟩ := cl_get ha
      obtain ⟨_, rfl⟩ := cl_get hb
      obtain ⟨_, rfl⟩ := cl_get hz
      exact ⟨_, _, tg_tup (tgs_cons tg_name (tgs_cons tg_name tgs_nil)), by simp, ev_call (ea_cons ev_var (ea_cons ev_var ea_nil)) ⟨_, _, rfl, hf _ (by omega), hfg _ (by omega), rfl⟩⟩
    refine sg_seq (sg_asg (col _ _ _ _ _ _ _ _ _ rfl 0 _ _ (by omega) (ev_l0 ev_var) (ev_l0 ev_var)).d ?_)
    refine sg_seq (sg_asg (col _ _ _ _ _ _ _ _ _ rfl (n + 1) _ _ (by omega) (ev_l2 ev_var) (ev_l2 ev_var)).d ?_)
    exact sg_retD (ev_tup (xs := [_, dN (f n - f p * g n), _]) (ea_cons ev_var (ea_cons (ev_call (P := fun r => r = .d (dN (f n - f p * g n))) (ea_cons (ev_l1 ev_var) (ea_cons (ev_l1 ev_var) ea_nil)) ⟨_, _, rfl, hf n (by omega), hfg n (by omega), rfl⟩) (ea_cons ev_var ea_nil)))) hP
theorem sc_solution_of : FnScope ["count", "solved", "numbers", "place", "line"] ["count", "solved"] (defScope (top 24)) := ⟨rfl, rfl, rfl, by decide +kernel, rfl, by decide +kernel, by decide +kernel⟩
theorem d_solution_of (T : Txt K mg) (S : Stands K mg "solution_of" 24 ["count", "solved"]) : DefOk P w K mg base "solution_of" ["count", "solved"] 1 (SpR (.pure K) A_solution_of) := by
  refine def_pure S sc_solution_of (fun ss P h => len_solution_of h) (by decide) fun f cdv B outer s H E hr hcd => ?_
  have nd := sc_solution_of.nd
  refine ⟨_, (pss_cons (ps_setLc (i := 2) (own := [("place", 3)]) rfl nd rfl rfl (sw_true rfl rfl rfl (by decide +kernel)) (pi_range1 (by rfl) T.range (pa_cons (pv 0) pa_nil)) (blkOk_by (N := ["count", "solved", "numbers", "place", "line"]) (sc := defScope (top 24)) (by decide +kernel)) (fun _ _ _ _ _ => (pg_name (i := 3) nd rfl (.inl rfl) (.inr (by rfl)))) (fun _ _ _ _ _ => pts_nil) (fun _ _ _ _ _ => (pe_glob (v := .ref T.aN) (by rfl) T.gN rfl)))
    (pss_cons (ps_for PassesOwn.never rfl (pi_list (pv 1)) (pg_tup rfl (pgs_cons (pg_name (i := 3) nd rfl (.inl rfl)) (pgs_cons (pg_name (i := 4) nd rfl (.inl rfl)) pgs_nil))) (pss_one (ps_asg (pe_ix ix_tup (pv 4) pe_int (fun _ _ => rfl)) (pg_sub (pv 2) (pv 3) set_list))))
    (pss_one (ps_ret (pv 2))))), fun ss P E h => ?_⟩
  obtain ⟨n, S, rfl, hn, hP⟩ := h
  refine sg_seq (sg_asgM (ev_lcI (ys := (List.range n).map fun _ => dN 0) (it_rng1 (n := n) ev_var (by omega)) (by rw [ints_len]; omega) (by rw [ints_len]; simp) fun i x y hx hy => ?_) ?_)
  · obtain ⟨_, rfl⟩ := rng_get hy
    exact ⟨_, _, tg_name, by simp, ev_nought T⟩
  refine sg_seq (sg_for (ds := (List.range n).map fun t => .tuple [dI t, dLine n (S t)]) (it_list ev_var) (fun i Γ => ∃ a b, Γ = [.d (.int n), .d (.list ((List.range n).map fun t => .tuple [dI t, dLine n (S t)])), .mu ((List.range n).map fun j => if j < i then dN (S j n) else dN 0), a, b])
    ⟨_, _, rfl⟩ (fun i x Γ1 hx iv => ?_) (fun Γ1 iv => ?_))
  · obtain ⟨a, b, rfl⟩ := iv
    obtain ⟨hi, rfl⟩ := rng_get hx
    refine ⟨_, _, tg_tup (tgs_cons tg_name (tgs_cons tg_name tgs_nil)), sg_setL rfl (ev_l1 ev_var) ev_vi (by rw [rng_len]; exact hi) ⟨.d (dI i), .d (dLine n (S i)), ?_⟩⟩
    have e : ((List.range n).map fun j => if j < i then dN (S j n) else dN 0).set i (dN (S i n)) = (List.range n).map fun j => if j < i + 1 then dN (S j n) else dN 0 := by
      apply List.ext_getElem?
      intro k
      by_cases hk : k < n
      · rw [rng_at hk]
        by_cases e : i = k
        · subst e
          rw [List.getElem?_set_self (by rw [rng_len]; exact hk), if_pos (by omega)]
        · rw [List.getElem?_set_ne e, rng_at hk]
          by_cases c : k < i
          · rw [if_pos c, if_pos (by omega)]
          · rw [if_neg c, if_neg (by omega)]
      · rw [List.getElem?_eq_none (by rw [List.length_set, rng_len]; omega), List.getElem?_eq_none (by rw [rng_len]; omega)]
    rw [← e]; rfl
  · obtain ⟨a, b, rfl⟩ := iv
    refine sg_retM (m := 2) rfl ?_
    have e : ((List.range n).map fun j => if j < ((List.range n).map fun t => PyData.tuple [dI t, dLine n (S t)]).length then dN (S j n) else dN 0) = (List.range n).map fun i => dN (S i n) := by
      rw [rng_len]
      exact List.map_congr_left fun j hj => if_pos (List.mem_range.mp hj)
    rw [e]; exact hP
theorem sc_reduced : FnScope ["count", "rows", "waiting", "place", "factors", "bound", "solved", "having", "line", "k", "other", "at"] ["count", "rows"] (defScope (top 23)) := ⟨rfl, rfl, rfl, by decide +kernel, rfl, by decide +kernel, by decide +kernel⟩
theorem d_reduced (T : Txt K mg) (S : Stands K mg "reduced" 23 ["count", "rows"]) (D_scaled : DefOk P w K mg base "scaled" ["line", "by"] 35 (SpR (.pure K) A_scaled)) (D_divided : DefOk P w K mg base "divided" ["a", "b"] 34 (SpR (.pure K) A_divided)) (D_without : DefOk P w K mg base "without" ["line", "place", "other"] 36 (SpR (.pure K) A_without)) : DefOk P w K mg base "reduced" ["count", "rows"] 37 (SpR (.pure K) A_reduced) := by
  refine def_pure S sc_reduced (fun ss P h => len_reduced h) (by decide) fun f cdv B outer s H E hr hcd => ?_
  have nd := sc_reduced.nd
  refine ⟨_, (pss_cons (ps_set (i := 2) nd rfl (.inl rfl) (pe_lst pa_nil))
    (pss_cons (ps_for PassesOwn.never rfl (pi_enum (by rfl) T.enumerate (pa_cons (pv 1) pa_nil)) (pg_tup rfl (pgs_cons (pg_name (i := 3) nd rfl (.inr rfl)) (pgs_cons (pg_tup rfl (pgs_cons (pg_name (i := 4) nd rfl (.inl rfl)) (pgs_cons (pg_name (i := 5) nd rfl (.inl rfl)) pgs_nil))) pgs_nil))) (pss_one (ps_expr (pe_bm PySem.F.plainAttrs_list PySem.F.slot_list_append PySem.F.type_list_append mt_append (pv 2) (pa_cons (pe_tup (pa_cons (pe_callTy call_list_of (by rfl) T.list (by decide +kernel) (pa_cons (pv 4) pa_nil)) (pa_cons (pv 5) (pa_cons (pe_lc (own := [("k", 9)]) rfl nd (pi_range1 (by rfl) T.range (pa_cons (pe_callB call_len_seq (by rfl) T.len (by decide +kernel) (pa_cons (pv 1) pa_nil)) pa_nil)) (blkOk_by (N := ["count", "rows", "waiting", "place", "factors", "bound", "solved", "having", "line", "k", "other", "at"]) (sc := defScope (top 23)) (by decide +kernel)) (fun _ _ _ _ _ => (pg_name (i := 9) nd rfl (.inl rfl) (.inr (by rfl)))) (fun _ _ _ _ _ => pts_nil) (fun _ _ _ _ _ => (pe_ifExp (pt_cmpR (eqD_K (K := K) hr.units rfl) (pv 9) (pv 3) (nomark _)) (pe_glob (v := .ref T.aO) (by rfl) T.gO rfl) (pe_glob (v := .ref T.aN) (by rfl) T.gN rfl)))) pa_nil)))) pa_nil)))))
    (pss_cons (ps_set (i := 6) nd rfl (.inl rfl) (pe_lst pa_nil))
    (pss_cons (ps_for PassesOwn.never rfl (pi_range1 (by rfl) T.range (pa_cons (pv 0) pa_nil)) (pg_name (i := 3) nd rfl (.inr rfl)) (pss_cons (ps_setLc (i := 7) (own := [("k", 9), ("line", 8)]) rfl nd rfl rfl (sw_true rfl rfl rfl (by decide +kernel)) (pi_enum (by rfl) T.enumerate (pa_cons (pv 2) pa_nil)) (blkOk_by (N := ["count", "rows", "waiting", "place", "factors", "bound", "solved", "having", "line", "k", "other", "at"]) (sc := defScope (top 23)) (by decide +kernel)) (fun _ _ _ _ _ => (tup_K (K := K) (n := 2) rfl rfl (pgs_cons (pg_name (i := 9) nd rfl (.inl rfl) (.inr (by rfl))) (pgs_cons (pg_name (i := 8) nd rfl (.inl rfl) (.inr (by rfl))) pgs_nil)))) (fun _ _ _ _ _ => (pts_one (pt_cmpR (neD_K (K := K) hr.units rfl) (pe_ix (ixL_K (K := K) rfl) (pe_ix (ixT_K (K := K) rfl) (pv 8) pe_int (fun _ _ => rfl)) (pv 3) (fun _ _ => rfl)) (pe_glob (v := .ref T.aN) (by rfl) T.gN rfl) (nomark _)))) (fun _ _ _ _ _ => (pv 9)))
    (pss_one (ps_if (pt_truth (pv 7) (by intro _; rfl)) (pss_cons (ps_set (i := 8) nd rfl (.inr rfl) (pe_ix ix_list (pv 2) (pe_ix ix_list (pv 7) pe_int (fun _ _ => rfl)) (fun _ _ => rfl)))
    (pss_cons (ps_set (i := 8) nd rfl (.inr rfl) (pe_def D_scaled (hr.mono (by decide)) (by rfl) (pa_cons (pv 8) (pa_cons (pe_def D_divided (hr.mono (by decide)) (by rfl) (pa_cons (pe_glob (v := .ref T.aO) (by rfl) T.gO rfl) (pa_cons (pe_ix ix_list (pe_ix ix_tup (pv 8) pe_int (fun _ _ => rfl)) (pv 3) (fun _ _ => rfl)) pa_nil))) pa_nil))))
    (pss_cons (ps_set (i := 2) nd rfl (.inl rfl) (pe_op op_cat (pe_slice sl_list (pv 2) po_none (po_some (pe_ix ix_list (pv 7) pe_int (fun _ _ => rfl)))) (pe_slice sl_list (pv 2) (po_some (pe_op op_add (pe_ix ix_list (pv 7) pe_int (fun _ _ => rfl)) pe_int)) po_none)))
    (pss_cons (ps_setLc (i := 2) (own := [("other", 10)]) rfl nd rfl rfl (sw_true rfl rfl rfl (by decide +kernel)) (pi_list (pv 2)) (blkOk_by (N := ["count", "rows", "waiting", "place", "factors", "bound", "solved", "having", "line", "k", "other", "at"]) (sc := defScope (top 23)) (by decide +kernel)) (fun _ _ _ _ _ => (pg_name (i := 10) nd rfl (.inl rfl) (.inr (by rfl)))) (fun _ _ _ _ _ => pts_nil) (fun _ _ _ _ _ => (pe_def D_without (hr.mono (by decide)) (by rfl) (pa_cons (pv 10) (pa_cons (pv 3) (pa_cons (pv 8) pa_nil))))))
    (pss_one (ps_set (i := 6) nd rfl (.inl rfl) (pe_op op_cat (pe_lc (own := [("at", 11), ("other", 10)]) rfl nd (pi_list (pv 6)) (blkOk_by (N := ["count", "rows", "waiting", "place", "factors", "bound", "solved", "having", "line", "k", "other", "at"]) (sc := defScope (top 23)) (by decide +kernel)) (fun _ _ _ _ _ => (tup_K (K := K) (n := 2) rfl rfl (pgs_cons (pg_name (i := 11) nd rfl (.inl rfl) (.inr (by rfl))) (pgs_cons (pg_name (i := 10) nd rfl (.inl rfl) (.inr (by rfl))) pgs_nil)))) (fun _ _ _ _ _ => pts_nil) (fun _ _ _ _ _ => (pe_tup (pa_cons (pv 11) (pa_cons (pe_def D_without (hr.mono (by decide)) (by rfl) (pa_cons (pv 10) (pa_cons (pv 3) (pa_cons (pv 8) pa_nil)))) pa_nil))))) (pe_lst (pa_cons (pe_tup (pa_cons (pv 3) (pa_cons (pv 8) pa_nil))) pa_nil))))))))) pss_nil))))
    (pss_one (ps_ret (pe_tup (pa_cons (pv 6) (pa_cons (pv 2) pa_nil))))))))), fun ss P E h => ?_⟩
  obtain ⟨n, M, rfl, L, hP⟩ := h
  have hn := L.most
  have G := L.ok
  refine sg_seq (sg_asgM (ev_lst (xs := []) ea_nil) ?_)
  refine sg_seq (sg_for (ds := enumD (rws n M)) (it_enum ev_var) (fun i Γ => ∃ a b c d e f g h j, Γ = [.d (.int n), .d (.list (rws n M)), .mu ((List.range i).map fun t => dLine n (M t)), a, b, c, d, e, f, g, h, j])
    ⟨_, _, _, _, _, _, _, _, _, rfl⟩ (fun i x Γ1 hx iv => ?_) (fun Γ1 iv => ?_))
  · obtain ⟨a, b, c, d, e, f, g, h, j, rfl⟩ := iv
    obtain ⟨y, hy, rfl⟩ := enum_get hx
    obtain ⟨hi, rfl⟩ := rng_get hy
    refine ⟨_, _, tg_tup (tgs_cons tg_name (tgs_cons (tg_tup (tgs_cons tg_name (tgs_cons tg_name tgs_nil))) tgs_nil)), ?_⟩
    refine sg_append rfl (x := dLine n (M i)) (ev_tup (xs := [dNL (cl (M i) 0 n), dN (M i n), dNL (cl (M i) (n + 1) n)]) (ea_cons (ev_listL ev_var).d (ea_cons ev_var (ea_cons (EvM.d (ev_lcI (ys := (cl (M i) (n + 1) n).map dN) (it_rng1 (n := n) ((ev_lenL ev_var).is (by unfold rws; rw [rng_len])) (by omega)) (by rw [ints_len]; omega) (by rw [ints_len, List.length_map, cl_len]) fun k x y hx hy => ?_)) ea_nil)))) (by rw [rng_len]; omega) ?_
    · obtain ⟨hk, rfl⟩ := ints_get0 hx
      obtain ⟨q, hq, rfl⟩ := get_map hy
      obtain ⟨_, rfl⟩ := cl_get hq
      refine ⟨_, _, tg_name, by simp, ?_⟩
      refine ev_if (b := decide (k = i)) (et_test ((ev_eqD (ev_vi (n := k)) (ev_vi (n := i)) (shp_of (dI_lay k) (by simp [PyData.depth])) (shp_of (dI_lay i) (by simp [PyData.depth]))).is ?_)) (fun c => ?_) (fun c => ?_)
      · have e : PyData.eqv (.int (k : Int)) (.int (i : Int)) = ((k : Int) == (i : Int)) := by simp only [PyData.eqv]
        rw [e]
        by_cases h : k = i
        · subst h; simp
        · rw [decide_eq_false h, beq_eq_false_iff_ne.mpr (by omega)]
      · refine (ev_one T).is ?_
        rw [L.one i k hi hk, if_pos (of_decide_eq_true c).symm]
      · refine (ev_nought T).is ?_
        rw [L.one i k hi hk, if_neg fun z => of_decide_eq_false c z.symm]
    · exact ⟨_, _, _, _, _, _, _, _, _, by rw [rng_succ]; rfl⟩
  obtain ⟨a, b, c, d, e, f, g, h, j, rfl⟩ := iv
  have e0 : (enumD (rws n M)).length = n := by rw [enum_len]; unfold rws; rw [rng_len]
  rw [e0]
  refine sg_fix (m := 2) rfl (sg_seq (sg_asg (ev_lst (xs := []) ea_nil).d ?_))
  have this : (List.range (n - 0)).map (fun i => dLine n (gj 0 M (0 + i))) = (List.range n).map fun t => dLine n (M t) := by
    rw [Nat.sub_zero]
    exact List.map_congr_left fun i _ => by rw [Nat.zero_add]; rfl
  refine sg_seq (sg_for (ds := intsD 0 n) (it_rng1 (n := n) ev_var (by omega)) (fun k Γ => ∃ a b c e f g h j, Γ = [.d (.int n), .d (.list (rws n M)), .d (.list ((List.range (n - k)).map fun i => dLine n (gj k M (k + i)))), a, b, c, .d (.list ((List.range k).map fun t => .tuple [dI t, dLine n (gj k M t)])), e, f, g, h, j])
    ⟨_, _, _, _, _, _, _, _, by rw [this]; rfl⟩ (fun k x Γ1 hx iv => ?_) (fun Γ1 iv => ?_))
  · obtain ⟨a, b, c, e, f, g, h, j, rfl⟩ := iv
    obtain ⟨hk, rfl⟩ := ints_get0 hx
    have hp : 0 < gj k M k k := G.piv k hk
    have hp0 : gj k M k k ≠ 0 := fun z => by rw [z] at hp; exact Rat.lt_irrefl hp
    obtain ⟨m, em⟩ : ∃ m, n - k = m + 1 := ⟨n - k - 1, by omega⟩
    have bS : ∀ i, i < n → ∀ q, q < 2 * n + 1 → Bd (gj k M i q) := fun i hi q hq => G.bd (by omega) (by omega) hi hq
    have bT : ∀ i, i < n → ∀ q, q < 2 * n + 1 → Bt 32768 (gj k M i q) := fun i hi q hq => G.bt (by omega) (by omega) hi hq
    have bI : Bt 32768 (1 / gj k M k k) := (bT k hk k (by omega)).inv hp
    have bH : ∀ q, q < 2 * n + 1 → Bt 65536 (1 / gj k M k k * gj k M k q) := fun q hq => bI.mul (bT k hk q hq)
    have row : ∀ i, i ≠ k → dLine n (gj (k + 1) M i) = dLine n fun q => gj k M i q - gj k M i k * (1 / gj k M k k * gj k M k q) := fun i hi => by
      congr 1
      funext q
      show (if i = k then _ else gj k M i q - gj k M i k * (gj k M k q / gj k M k k)) = _
      rw [if_neg hi]; grind
    have hrow : dLine n (gj (k + 1) M k) = dLine n fun q => 1 / gj k M k k * gj k M k q := by
      congr 1
      funext q
      show (if k = k then gj k M k q / gj k M k k else _) = _
      rw [if_pos rfl]; grind
    have wo : ∀ {Γ : List SV} {ta tb tc : TE} {i : Nat}, i < n → EvD (.pure K) E ta Γ (dLine n (gj k M i)) → EvD (.pure K) E tb Γ (.int k) → EvD (.pure K) E tc Γ (dLine n fun q => 1 / gj k M k k * gj k M k q) → i ≠ k →
        EvD (.pure K) E (tCall (SpR (.pure K) A_without) [] E0 (tCons ta (tCons tb (tCons tc tNil)))) Γ (dLine n (gj (k + 1) M i)) := fun {Γ ta tb tc i} hi h1 h2 h3 hne => by
      refine (ev_call (P := fun r => r = .d (dLine n fun q => gj k M i q - gj k M i k * (1 / gj k M k k * gj k M k q))) (ea_cons h1 (ea_cons h2 (ea_cons h3 ea_nil))) ⟨n, k, gj k M i, _, rfl, by omega, hk, bS i hi, fun q hq => (bH q hq).bd (by decide), fun q hq => ((bT i hi k (by omega)).mul (bH q hq)).bd (by decide), rfl⟩ : EvD _ _ _ _ _).is ?_
      rw [row i hne]
    refine ⟨_, _, tg_name, ?_⟩
    refine sg_seq (sg_asg (x := .list (.int 0 :: (((List.range m).map Nat.succ).filter fun i => decide (gj k M (k + i) k ≠ 0)).map dI)) ((ev_lcF (fun i => decide (gj k M (k + i) k ≠ 0)) dI (it_enum ev_var) (by rw [enum_len, rng_len]; omega) fun i x hx => ?_).d.is ?_) ?_)
    · obtain ⟨y, hy, rfl⟩ := enum_get hx
      obtain ⟨hi, rfl⟩ := rng_get hy
      refine ⟨_, _, tg_tup (tgs_cons tg_name (tgs_cons tg_name tgs_nil)), by simp, et_test ((ev_neD (ev_l0i ev_var ev_vi hk) (ev_nought T) (dN_shp _) (dN_shp _)).is ?_), fun _ => ev_vi⟩
      rw [dN_eqv]
      by_cases c : gj k M (k + i) k = 0 <;> simp [c]
    · rw [enum_len, rng_len, em, List.range_succ_eq_map, List.filter_cons_of_pos (by simpa using hp0)]; rfl
    refine sg_ifT (EvT.is (et_truL ev_var) rfl) ?_
    refine sg_seq (sg_asg (x := dLine n (gj k M k)) (ev_ixL ev_var (ev_ixL ev_var ev_ci (atI_nat (j := 0) rfl)) (atI_nat (j := 0) (rng_at (f := fun i => dLine n (gj k M (k + i))) (by omega)))) ?_)
    refine sg_seq (sg_asg (ev_call (P := fun r => r = .d (dLine n fun q => 1 / gj k M k k * gj k M k q)) (ea_cons ev_var (ea_cons (ev_call (P := fun r => r = .d (dN (1 / gj k M k k))) (ea_cons (ev_one T) (ea_cons (ev_l0i ev_var ev_vi hk) ea_nil)) ⟨1, _, rfl, bd01.2, bS k hk k (by omega), hp, rfl⟩) ea_nil))
      ⟨n, gj k M k, 1 / gj k M k k, rfl, by omega, bI.bd (by decide), bS k hk, rfl⟩) ?_)
    have drp : ((List.range (n - k)).map fun i => dLine n (gj k M (k + i))).drop 1 = (List.range m).map fun i => dLine n (gj k M (k + 1 + i)) := by
      rw [em, List.range_succ_eq_map, List.map_cons, List.drop_one, List.tail_cons, List.map_map]
      refine List.map_congr_left fun i _ => ?_
      show dLine n (gj k M (k + (i + 1))) = _
      rw [show k + (i + 1) = k + 1 + i by omega]
    refine sg_seq (sg_asg (x := .list ((List.range m).map fun i => dLine n (gj k M (k + 1 + i)))) ((ev_cat (ev_cutTo ev_var (ev_ixL ev_var ev_ci (atI_nat (j := 0) rfl))) (ev_cutFrom ev_var (ev_add (ev_ixL ev_var ev_ci (atI_nat (j := 0) rfl)) ev_ci)) ?_).d.is ?_) ?_)
    · rw [cut0, cut1, drp, rng_len]
      show 0 + m ≤ 1000
      omega
    · rw [cut0, cut1, drp]; rfl
    refine sg_seq (sg_asg (ev_lcI (ys := (List.range m).map fun i => dLine n (gj (k + 1) M (k + 1 + i))) (it_list ev_var) (by rw [rng_len]; omega) (by rw [rng_len, rng_len]) fun i x y hx hy => ?_).d ?_)
    · obtain ⟨hi, rfl⟩ := rng_get hx
      obtain ⟨_, rfl⟩ := rng_get hy
      exact ⟨_, _, tg_name, by simp, wo (i := k + 1 + i) (by omega) ev_var ev_vi ev_var (by omega)⟩
    refine sg_asg (ev_cat (ev_lcI (ys := (List.range k).map fun t => .tuple [dI t, dLine n (gj (k + 1) M t)]) (it_list ev_var) (by rw [rng_len]; omega) (by rw [rng_len, rng_len]) fun i x y hx hy => ?_) (ev_lst (xs := [.tuple [dI k, dLine n (gj (k + 1) M k)]]) (ea_cons (ev_tup (xs := [_, _]) (ea_cons (ev_vi (n := k)) (ea_cons (EvP.is ev_var hrow.symm) ea_nil))) ea_nil)) (by rw [rng_len]; show k + 1 ≤ 1000; omega)).d ?_
    · obtain ⟨hi, rfl⟩ := rng_get hx
      obtain ⟨_, rfl⟩ := rng_get hy
      exact ⟨_, _, tg_tup (tgs_cons tg_name (tgs_cons tg_name tgs_nil)), by simp, ev_tup (xs := [dI i, dLine n (gj (k + 1) M i)]) (ea_cons ev_vi (ea_cons (wo (i := i) (by omega) ev_var ev_vi ev_var (by omega)) ea_nil))⟩
    · have e1 : n - (k + 1) = m := by omega
      exact ⟨_, _, _, _, _, _, _, _, by rw [e1, rng_succ]; rfl⟩
  · obtain ⟨a, b, c, e, f, g, h, j, rfl⟩ := iv
    refine sg_retD (ev_tup (xs := [_, _]) (ea_cons ev_var (ea_cons ev_var ea_nil))) ?_
    rw [ints_len, Nat.sub_self]; exact hP
theorem sc_only_solution : FnScope ["count", "rows", "solved", "left", "line"] ["count", "rows"] (defScope (top 25)) := ⟨rfl, rfl, rfl, by decide +kernel, rfl, by decide +kernel, by decide +kernel⟩
theorem d_only_solution (T : Txt K mg) (S : Stands K mg "only_solution" 25 ["count", "rows"]) (D_reduced : DefOk P w K mg base "reduced" ["count", "rows"] 37 (SpR (.pure K) A_reduced)) (D_solution_of : DefOk P w K mg base "solution_of" ["count", "solved"] 1 (SpR (.pure K) A_solution_of)) : DefOk P w K mg base "only_solution" ["count", "rows"] 38 (SpR (.pure K) A_only_solution) := by
  refine def_pure S sc_only_solution (fun ss P h => len_only_solution h) (by decide) fun f cdv B outer s H E hr hcd => ?_
  have nd := sc_only_solution.nd
  refine ⟨_, (pss_cons (ps_asg (pe_def D_reduced (hr.mono (by decide)) (by rfl) (pa_cons (pv 0) (pa_cons (pv 1) pa_nil))) (pg_tup rfl (pgs_cons (pg_name (i := 2) nd rfl (.inl rfl)) (pgs_cons (pg_name (i := 3) nd rfl (.inl rfl)) pgs_nil))))
    (pss_cons (ps_if (PW.pt (pw_or (pt_cmpR op_lt (pe_callB call_len_seq (by rfl) T.len (by decide +kernel) (pa_cons (pv 2) pa_nil)) (pv 0) (nomark _)) (pw_or1 (pt_val (pe_callB (cr_any rfl) (by rfl) T.any (by decide +kernel) (pa_cons (pe_lc (own := [("line", 4)]) rfl nd (pi_list (pv 3)) (blkOk_by (N := ["count", "rows", "solved", "left", "line"]) (sc := defScope (top 25)) (by decide +kernel)) (fun _ _ _ _ _ => (pg_name (i := 4) nd rfl (.inl rfl) (.inr (by rfl)))) (fun _ _ _ _ _ => pts_nil) (fun _ _ _ _ _ => (pe_cmpR (neD_K (K := K) hr.units rfl) (pe_ix (ixT_K (K := K) rfl) (pv 4) pe_int (fun _ _ => rfl)) (pe_glob (v := .ref T.aN) (by rfl) T.gN rfl) (nomark _)))) pa_nil)))))) (pss_one (ps_ret pe_non)) pss_nil)
    (pss_one (ps_ret (pe_def D_solution_of (hr.mono (by decide)) (by rfl) (pa_cons (pv 0) (pa_cons (pv 2) pa_nil))))))), fun ss P E h => ?_⟩
  obtain ⟨n, M, rfl, L, hP⟩ := h
  have hn := L.most
  refine sg_seq (sg_tg (ev_call (P := fun r => r = .d (.tuple [.list ((List.range n).map fun t => .tuple [dI t, dLine n (gj n M t)]), .list []])) (ea_cons ev_var (ea_cons ev_var ea_nil)) ⟨n, M, rfl, L, rfl⟩) (tg_tup (tgs_cons tg_name (tgs_cons tg_name tgs_nil))) ?_)
  refine sg_seq (sg_ifF (et_orF (et_test ((ev_lt (ev_lenL ev_var) ev_var).is (by rw [rng_len]; simp))) (et_B ((ev_any (bs := []) (ev_lcI (ds := []) (it_list ev_var) (by simp) (by simp) fun i x y hx hy => by simp at hx).d).is rfl))) (sg_next ?_))
  exact sg_ret (ev_call (ea_cons ev_var (ea_cons ev_var ea_nil)) ⟨n, gj n M, rfl, by omega, hP⟩) fun r h => h
end
end Odd
/-! chains, and their part that gains -/
set_option linter.all false
set_option exponentiation.threshold 1000000
namespace Odd
def cB (c : List Pl) (i : Nat) : List (Rat × Nat) := (gat c i).brs
def cr (c : List Pl) (i : Nat) : Rat := (gat c i).gain
structure Cn (c : List Pl) (w : Nat → Rat) : Prop where
  ok : GOk c
  most : c.length ≤ 11
  kd : ∀ i, i < c.length → (gat c i).kd ≠ .ours ∧ (gat c i).kd ≠ .theirs
  ends : ∀ i, i < c.length → (gat c i).isEnd = false → ∃ t, t ∈ (gat c i).tgts ∧ i < t
  ch : Ch c.length (cB c) w
  rs : RowS c.length (cB c) (cr c)
theorem brs_tgts {p : Pl} (h : p.kd ≠ .ours ∧ p.kd ≠ .theirs) : p.brs.map (·.2) = p.tgts := by
  cases p with
  | ours ts => exact absurd rfl h.1
  | theirs ts => exact absurd rfl h.2
  | _ => rfl
theorem end_none {p : Pl} (h : p.isEnd = true) : p.tgts = [] ∧ p.brs = [] ∧ p.gain = 0 := by
  cases p with
  | finish => exact ⟨rfl, rfl, rfl⟩
  | lose => exact ⟨rfl, rfl, rfl⟩
  | draw _ => cases h
  | ours _ => cases h
  | theirs _ => cases h
  | reward _ _ => cases h
/-- from each place an end is reached -/
theorem Cn.toEnd {c : List Pl} {w : Nat → Rat} (C : Cn c w) : ∀ (m i : Nat), c.length - i ≤ m → i < c.length → ∃ e, Reach c i e ∧ e < c.length ∧ (gat c e).isEnd = true
  | 0, i, h1, h2 => by omega
  | m + 1, i, h1, h2 => by
    cases q : (gat c i).isEnd with
    | true => exact ⟨i, .refl, h2, q⟩
    | false =>
      obtain ⟨t, ht, hlt⟩ := C.ends i h2 q
      have := C.ok.tg i h2 t ht
      obtain ⟨e, r, he, ee⟩ := Cn.toEnd C m t (by omega) this
      exact ⟨e, Reach.trans (.step .refl ht) r, he, ee⟩
theorem end_reach {c : List Pl} {e j : Nat} (h : (gat c e).isEnd = true) (r : Reach c e j) : j = e := by
  induction r with
  | refl => rfl
  | step a ht ih =>
    subst ih
    rw [(end_none h).1] at ht
    cases ht
/-- a closed class is an end -/
theorem Cn.closed {c : List Pl} {w : Nat → Rat} (C : Cn c w) {i : Nat} (hi : i < c.length) (h : ∀ j, Reach c i j → Reach c j i) : (gat c i).isEnd = true ∧ ∀ j, Reach c i j → j = i := by
  obtain ⟨e, r, he, ee⟩ := C.toEnd _ i (Nat.le_refl _) hi
  have := end_reach ee (h e r)
  subst this
  exact ⟨ee, fun j rj => end_reach ee rj⟩

/-! ### restriction -/
def rB (us : List Nat) (bs : List (Rat × Nat)) : List (Rat × Nat) := bs.filterMap fun b => if b.2 ∈ us then some (b.1, us.idxOf b.2) else none
theorem rB_app (us : List Nat) (bs cs : List (Rat × Nat)) : rB us (bs ++ cs) = rB us bs ++ rB us cs := List.filterMap_append
theorem rB_in {us : List Nat} {b : Rat × Nat} (h : b.2 ∈ us) : rB us [b] = [(b.1, us.idxOf b.2)] := by unfold rB; simp [h]
theorem rB_out {us : List Nat} {b : Rat × Nat} (h : b.2 ∉ us) : rB us [b] = [] := by unfold rB; simp [h]
theorem rB_mem {us : List Nat} {bs : List (Rat × Nat)} {b : Rat × Nat} (h : b ∈ rB us bs) : ∃ b0, b0 ∈ bs ∧ b0.1 = b.1 ∧ b0.2 ∈ us ∧ b.2 = us.idxOf b0.2 := by
  obtain ⟨b0, h0, e⟩ := List.mem_filterMap.mp h
  by_cases c : b0.2 ∈ us
  · rw [if_pos c] at e
    cases e
    exact ⟨b0, h0, rfl, c, rfl⟩
  · rw [if_neg c] at e; cases e
theorem rB_sum (us : List Nat) (z : Nat → Rat) : ∀ bs : List (Rat × Nat), bsum (rB us bs) z = bsum bs fun t => if t ∈ us then z (us.idxOf t) else 0
  | [] => rfl
  | b :: bs => by
    rw [show b :: bs = [b] ++ bs from rfl, rB_app, bsum_app, bsum_app, rB_sum us z bs]
    congr 1
    by_cases c : b.2 ∈ us
    · rw [rB_in c]
      show b.1 * z (us.idxOf b.2) + 0 = b.1 * (if b.2 ∈ us then z (us.idxOf b.2) else 0) + 0
      rw [if_pos c]
    · rw [rB_out c]
      show (0 : Rat) = b.1 * (if b.2 ∈ us then z (us.idxOf b.2) else 0) + 0
      rw [if_neg c]; grind
theorem idx_lt {us : List Nat} {t : Nat} (h : t ∈ us) : us.idxOf t < us.length := List.idxOf_lt_length_iff.mpr h
theorem idx_get {us : List Nat} {t : Nat} (h : t ∈ us) : us.getD (us.idxOf t) 0 = t := by
  rw [List.getD_eq_getElem?_getD, List.getElem?_eq_getElem (idx_lt h), List.getElem_idxOf]; rfl
section
variable {n : Nat} {B : Nat → List (Rat × Nat)} {r w : Nat → Rat} {us : List Nat}
theorem getD_lt (hu : ∀ u ∈ us, u < n) {a : Nat} (ha : a < us.length) : us.getD a 0 < n ∧ us.getD a 0 ∈ us := by
  rw [List.getD_eq_getElem?_getD, List.getElem?_eq_getElem ha]
  exact ⟨hu _ (List.getElem_mem ha), List.getElem_mem ha⟩
theorem Ch.restr (C : Ch n B w) (hu : ∀ u ∈ us, u < n) : Ch us.length (fun a => rB us (B (us.getD a 0))) fun a => w (us.getD a 0) := by
  refine ⟨fun a ha b hb => ?_, fun a ha b hb => ?_, fun a ha => C.w0 _ (getD_lt hu ha).1, fun a ha => ?_⟩
  · obtain ⟨b0, h0, _, hm, e⟩ := rB_mem hb
    rw [e]; exact idx_lt hm
  · obtain ⟨b0, h0, e, _⟩ := rB_mem hb
    rw [← e]; exact C.pos _ (getD_lt hu ha).1 b0 h0
  · have h1 := C.w1 _ (getD_lt hu ha).1
    rw [rB_sum]
    refine Std.lt_of_le_of_lt (bsum_le (C.pos _ (getD_lt hu ha).1) fun b hb => ?_) h1
    by_cases c : b.2 ∈ us
    · rw [if_pos c, idx_get c]; exact Rat.le_refl
    · rw [if_neg c]; exact Rat.le_of_lt (C.w0 _ (C.tg _ (getD_lt hu ha).1 b hb))
theorem RowS.restr (R : RowS n B r) (C : Ch n B w) (hu : ∀ u ∈ us, u < n) : RowS us.length (fun a => rB us (B (us.getD a 0))) fun a => r (us.getD a 0) := by
  refine ⟨fun a ha => ?_⟩
  obtain ⟨D, d0, d1, hb, h1, hr⟩ := R.row _ (getD_lt hu ha).1
  refine ⟨D, d0, d1, fun b hb' => ?_, ?_, hr⟩
  · obtain ⟨b0, h0, e, _⟩ := rB_mem hb'
    rw [← e]; exact hb b0 h0
  · rw [rB_sum]
    refine Rat.le_trans (bsum_le (C.pos _ (getD_lt hu ha).1) fun b hb => ?_) h1
    show (if b.2 ∈ us then (1 : Rat) else 0) ≤ 1
    by_cases c : b.2 ∈ us
    · rw [if_pos c]; exact Rat.le_refl
    · rw [if_neg c]; grind
/-- a solution of the part is one of the whole, if the rest gains nothing -/
theorem sol_ext (hu : ∀ u ∈ us, u < n) {x : Nat → Rat} (h : Sol us.length (fun a => rB us (B (us.getD a 0))) (fun a => r (us.getD a 0)) x) (h0 : ∀ i, i < n → i ∉ us → r i = 0 ∧ ∀ b ∈ B i, b.2 ∉ us) :
    Sol n B r fun i => if i ∈ us then x (us.idxOf i) else 0 := fun i hi => by
  show (if i ∈ us then x (us.idxOf i) else 0) = _
  by_cases c : i ∈ us
  · rw [if_pos c]
    have h1 := h _ (idx_lt c)
    rw [h1, rB_sum, idx_get c]
    show r (us.getD (us.idxOf i) 0) + _ = _
    rw [idx_get c]
  · rw [if_neg c]
    obtain ⟨e, hb⟩ := h0 i hi c
    rw [e]
    have : bsum (B i) (fun i => if i ∈ us then x (us.idxOf i) else 0) = bsum (B i) fun i => 0 * 0 := bsum_congr fun b hb' => by
      show (if b.2 ∈ us then _ else (0 : Rat)) = 0 * 0
      rw [if_neg (hb b hb')]; grind
    rw [this, bsum_mul (B i) 0 fun _ => 0]; grind
end
/-! ### sizes of rows that are being made -/
theorem bsum_one_le {bs cs : List (Rat × Nat)} (h : ∀ b ∈ cs, 0 ≤ b.1) : bsum bs (fun _ => 1) ≤ bsum (bs ++ cs) fun _ => 1 := by
  rw [bsum_app]
  have : 0 ≤ bsum cs fun _ => 1 := by
    have h1 := bsum_le (x := fun _ => 0 * 0) (y := fun _ => 1) h fun b hb => by show (0 : Rat) * 0 ≤ 1; grind
    rw [bsum_mul cs 0 fun _ => 0] at h1
    grind
  grind
theorem frac_bt {k D : Nat} (hD : 0 < D) (h : D < 32) (hk : k ≤ D) : Bt 6 ((k : Rat) / (D : Rat)) := ⟨D, k, hD, by omega, by omega, by rw [Rat.intCast_natCast]⟩
theorem frac_le1 {k D : Nat} (hD : 0 < D) (h : (k : Rat) / (D : Rat) ≤ 1) : k ≤ D := by
  have hDp : (0 : Rat) < (D : Rat) := Rat.natCast_pos.mpr hD
  have h3 := Rat.mul_le_mul_of_nonneg_right h (Rat.le_of_lt hDp)
  rw [Rat.div_mul_cancel (cast_ne hD), Rat.one_mul] at h3
  exact Rat.natCast_le_natCast.mp h3
theorem bt01 : Bt 1 0 ∧ Bt 1 1 := ⟨⟨1, 0, by omega, by omega, by omega, by rw [Rat.intCast_zero]; grind⟩, ⟨1, 1, by omega, by omega, by omega, by grind⟩⟩
theorem pr_bt {D : Nat} (hD : 0 < D) (h : D < 32) {bs : List (Rat × Nat)} (hb : ∀ b ∈ bs, ∃ k : Nat, b.1 = (k : Rat) / (D : Rat)) (h1 : bsum bs (fun _ => 1) ≤ 1) (j : Nat) : Bt 6 (pr bs j) := by
  obtain ⟨k, e, l⟩ := pr_frac hD j hb
  rw [e]
  exact frac_bt hD h (frac_le1 hD (Rat.le_trans l h1))
theorem ch_bt {D : Nat} (hD : 0 < D) (h : D < 32) {bs : List (Rat × Nat)} (hb : ∀ b ∈ bs, ∃ k : Nat, b.1 = (k : Rat) / (D : Rat)) (h1 : bsum bs (fun _ => 1) ≤ 1) {b : Rat × Nat} (hm : b ∈ bs) : Bt 6 b.1 := by
  obtain ⟨k, e⟩ := hb b hm
  have hp : ∀ c ∈ bs, 0 ≤ c.1 := fun c hc => by
    obtain ⟨m, em⟩ := hb c hc
    rw [em, Rat.div_def]
    exact Rat.mul_nonneg Rat.natCast_nonneg (Rat.le_of_lt (Rat.inv_pos.mpr (Rat.natCast_pos.mpr hD)))
  rw [e]
  refine frac_bt hD h (frac_le1 hD ?_)
  rw [← e]
  obtain ⟨s, t, rfl⟩ := List.append_of_mem hm
  have h2 := bsum_one_le (bs := []) (cs := s) fun c hc => hp c (List.mem_append_left _ hc)
  have h3 := bsum_one_le (bs := []) (cs := t) fun c hc => hp c (List.mem_append_right _ (List.mem_cons_of_mem _ hc))
  rw [bsum_app, bsum_cons] at h1
  rw [List.nil_append, bsum_nil] at h2 h3
  grind
theorem Gok.bt11 {n c : Nat} {M : Nat → Nat → Rat} (G : Gok n c M) (hn : n ≤ 11) {k i j : Nat} (hk : k ≤ n) (hi : i < n) (hj : j < c) : Bt 16384 (gj k M i j) :=
  ((G.row k i hk hi).bt hj).mono (by
    have : 2 ^ k ≤ 2 ^ 11 := Nat.pow_le_pow_right (by omega) (by omega)
    omega)
/-- the numbers of a chain -/
def vat (v : List Rat) (i : Nat) : Rat := v.getD i 0
structure SolB (c : List Pl) (v : List Rat) : Prop where
  len : v.length = c.length
  sol : Sol c.length (cB c) (cr c) (vat v)
  bt : ∀ q ∈ v, Bt 16384 q
/-- the chain of two strategies -/
def chn (g : List Pl) (σ τ : List (Option Nat)) : List Pl := putS (putS g .ours σ) .theirs τ
end Odd
set_option Elab.async false
set_option linter.all false
set_option maxRecDepth 100000
set_option maxHeartbeats 8000000
set_option exponentiation.threshold 1000000
namespace Odd
open PySem L2
theorem cl_congr {f g : Nat → Rat} {lo n : Nat} (h : ∀ j, j < n → f (lo + j) = g (lo + j)) : cl f lo n = cl g lo n := List.map_congr_left fun j hj => h j (List.mem_range.mp hj)
theorem cl_set {f g : Nat → Rat} {n k : Nat} {q : Rat} (hk : k < n) (h1 : g k = q) (h2 : ∀ j, j < n → j ≠ k → g j = f j) : ((cl f 0 n).map dN).set k (dN q) = (cl g 0 n).map dN := by
  apply List.ext_getElem?
  intro j
  by_cases hj : j < n
  · rw [List.getElem?_map (l := cl g 0 n), cl_at hj]
    by_cases e : k = j
    · subst e
      rw [List.getElem?_set_self (by rw [List.length_map, cl_len]; exact hk), Nat.zero_add, h1]; rfl
    · rw [List.getElem?_set_ne e, List.getElem?_map, cl_at hj, Nat.zero_add, h2 j hj (Ne.symm e)]
  · rw [List.getElem?_eq_none (by rw [List.length_set, List.length_map, cl_len]; omega), List.getElem?_eq_none (by rw [List.length_map, cl_len]; omega)]
theorem pr_app (bs cs : List (Rat × Nat)) (j : Nat) : pr (bs ++ cs) j = pr bs j + pr cs j := bsum_app _ _ _
/-- the matrix of the part us -/
noncomputable def MU (c : List Pl) (us : List Nat) : Nat → Nat → Rat := mat us.length (fun a => rB us (cB c (us.getD a 0))) fun a => cr c (us.getD a 0)
def zrs (n : Nat) : List PyData := (List.range n).map fun _ => dN 0
structure Uok (c : List Pl) (us : List Nat) : Prop where
  nd : us.Nodup
  lt : ∀ u ∈ us, u < c.length
  len : us.length ≤ c.length
theorem MU_lin {c : List Pl} {w : Nat → Rat} {us : List Nat} (C : Cn c w) (U : Uok c us) : Lin us.length (MU c us) := by
  have := C.most
  have := U.len
  refine ⟨(C.ch.restr U.lt).gok (C.rs.restr C.ch U.lt) (by omega), fun i k hi hk => ?_, by omega⟩
  show (if us.length + 1 + k < us.length then _ else if us.length + 1 + k = us.length then _ else if i = us.length + 1 + k - (us.length + 1) then (1 : Rat) else 0) = _
  rw [if_neg (by omega), if_neg (by omega), show us.length + 1 + k - (us.length + 1) = k by omega]
def A_means (ss : List SV) (P : SV → Prop) : Prop := ∃ (c : List Pl) (w : Nat → Rat) (us : List Nat), ss = [.d (dG c), .d (dIL us), .d (dNL (c.map Pl.gain)), .bor (zrs c.length)] ∧ Cn c w ∧ Uok c us ∧ P (.mu ((List.range us.length).map fun a => dN (gj us.length (MU c us) a us.length)))
def A_closed_classes (ss : List SV) (P : SV → Prop) : Prop := ∃ (c : List Pl) (w : Nat → Rat), ss = [.d (dG c)] ∧ Cn c w ∧ ∀ cs : List (List Nat), (∀ s ∈ cs, s.length ≤ c.length ∧ ∀ p ∈ s, p < c.length ∧ (gat c p).isEnd = true) → P (.mu (cs.map dIL))
def A_expected (ss : List SV) (P : SV → Prop) : Prop := ∃ (c : List Pl) (w : Nat → Rat), ss = [.d (dG c), .d (dNL (c.map Pl.gain)), .d (.list [])] ∧ Cn c w ∧ ∀ v, SolB c v → P (.mu (v.map dN))
def A_expected_rewards (ss : List SV) (P : SV → Prop) : Prop := ∃ (c : List Pl) (w : Nat → Rat), ss = [.d (dG c)] ∧ Cn c w ∧ ∀ v, SolB c v → P (.mu (v.map dN))
def A_followed (ss : List SV) (P : SV → Prop) : Prop := ∃ (g : List Pl) (σ τ : List (Option Nat)) (w : Nat → Rat), ss = [.d (dG g), .d (dS σ), .d (dS τ)] ∧ StrOk g .ours σ ∧ StrOk (putS g .ours σ) .theirs τ ∧ Cn (chn g σ τ) w ∧ ∀ v, SolB (chn g σ τ) v → P (.mu (v.map dN))
theorem len_means {ss : List SV} {P : SV → Prop} (h : A_means ss P) : ss.length = 4 := by obtain ⟨_, _, _, rfl, _⟩ := h; rfl
theorem len_closed_classes {ss : List SV} {P : SV → Prop} (h : A_closed_classes ss P) : ss.length = 1 := by obtain ⟨_, _, rfl, _⟩ := h; rfl
theorem len_expected {ss : List SV} {P : SV → Prop} (h : A_expected ss P) : ss.length = 3 := by obtain ⟨_, _, rfl, _⟩ := h; rfl
theorem len_expected_rewards {ss : List SV} {P : SV → Prop} (h : A_expected_rewards ss P) : ss.length = 1 := by obtain ⟨_, _, rfl, _⟩ := h; rfl
theorem len_followed {ss : List SV} {P : SV → Prop} (h : A_followed ss P) : ss.length = 3 := by obtain ⟨_, _, _, _, rfl, _⟩ := h; rfl
theorem ev_eqN {X : Fx} {E : En} {Γ : List SV} {ta tb : TE} {k i : Nat} (ha : EvD X E ta Γ (.int k)) (hb : EvD X E tb Γ (.int i)) : EvB X E (tTest (tOp (rEqD X.K) ta tb)) Γ (decide (k = i)) := by
  refine et_test ((ev_eqD ha hb (shp_of (dI_lay k) (by simp [PyData.depth])) (shp_of (dI_lay i) (by simp [PyData.depth]))).is ?_)
  have e : PyData.eqv (.int (k : Int)) (.int (i : Int)) = ((k : Int) == (i : Int)) := by simp only [PyData.eqv]
  rw [e]
  by_cases h : k = i
  · subst h; simp
  · rw [decide_eq_false h, beq_eq_false_iff_ne.mpr (by omega)]
section
variable {P : Program} {w : World} {K : PySem.W.Frag} {mg : Str → Option Value} {base : Heap}
theorem sc_means : FnScope ["chain", "unknown", "gains", "known", "rows", "place", "factors", "bound", "chance", "target", "at", "other"] ["chain", "unknown", "gains", "known"] (defScope (top 29)) := ⟨rfl, rfl, rfl, by decide +kernel, rfl, by decide +kernel, by decide +kernel⟩
theorem d_means (T : Txt K mg) (S : Stands K mg "means" 29 ["chain", "unknown", "gains", "known"]) (D_only_solution : DefOk P w K mg base "only_solution" ["count", "rows"] 38 (SpR (.pure K) A_only_solution)) (D_branches : DefOk P w K mg base "branches" ["chain", "place"] 1 (SpR (.pure K) A_branches)) (D_minus : DefOk P w K mg base "minus" ["a", "b"] 34 (SpR (.pure K) A_minus)) (D_plus : DefOk P w K mg base "plus" ["a", "b"] 34 (SpR (.pure K) A_plus)) (D_times : DefOk P w K mg base "times" ["a", "b"] 34 (SpR (.pure K) A_times)) : DefOk P w K mg base "means" ["chain", "unknown", "gains", "known"] 39 (SpR (.pure K) A_means) := by
  refine def_pure S sc_means (fun ss P h => len_means h) (by decide) fun f cdv B outer s H E hr hcd => ?_
  have nd := sc_means.nd
  refine ⟨_, (pss_cons (ps_set (i := 4) nd rfl (.inl rfl) (pe_lst pa_nil))
    (pss_cons (ps_for PassesOwn.never rfl (pi_list (pv 1)) (pg_name (i := 5) nd rfl (.inr rfl)) (pss_cons (ps_setLc (i := 6) (own := [("other", 11)]) rfl nd rfl rfl (sw_true rfl rfl rfl (by decide +kernel)) (pi_list (pv 1)) (blkOk_by (N := ["chain", "unknown", "gains", "known", "rows", "place", "factors", "bound", "chance", "target", "at", "other"]) (sc := defScope (top 29)) (by decide +kernel)) (fun _ _ _ _ _ => (pg_name (i := 11) nd rfl (.inl rfl) (.inr (by rfl)))) (fun _ _ _ _ _ => pts_nil) (fun _ _ _ _ _ => (pe_ifExp (pt_cmpR (eqD_K (K := K) hr.units rfl) (pv 11) (pv 5) (nomark _)) (pe_glob (v := .ref T.aO) (by rfl) T.gO rfl) (pe_glob (v := .ref T.aN) (by rfl) T.gN rfl))))
    (pss_cons (ps_set (i := 7) nd rfl (.inl rfl) (pe_ix ix_list (pv 2) (pv 5) (fun _ _ => rfl)))
    (pss_cons (ps_for PassesOwn.never rfl (pi_list (pe_def D_branches (hr.mono (by decide)) (by rfl) (pa_cons (pv 0) (pa_cons (pv 5) pa_nil)))) (pg_tup rfl (pgs_cons (pg_name (i := 8) nd rfl (.inl rfl)) (pgs_cons (pg_name (i := 9) nd rfl (.inl rfl)) pgs_nil))) (pss_one (ps_if (pt_cmpR op_in_seq (pv 9) (pv 1) (by rfl)) (pss_cons (ps_set (i := 10) nd rfl (.inl rfl) (pe_bm PySem.F.plainAttrs_list PySem.F.slot_list_index PySem.F.type_list_index mt_index (pv 1) (pa_cons (pv 9) pa_nil)))
    (pss_one (ps_asg (pe_def D_minus (hr.mono (by decide)) (by rfl) (pa_cons (pe_ix ix_list (pv 6) (pv 10) (fun _ _ => rfl)) (pa_cons (pv 8) pa_nil))) (pg_sub (pv 6) (pv 10) set_list)))) (pss_one (ps_set (i := 7) nd rfl (.inl rfl) (pe_def D_plus (hr.mono (by decide)) (by rfl) (pa_cons (pv 7) (pa_cons (pe_def D_times (hr.mono (by decide)) (by rfl) (pa_cons (pv 8) (pa_cons (pe_ix ix_list (pv 3) (pv 9) (fun _ _ => rfl)) pa_nil))) pa_nil))))))))
    (pss_one (ps_expr (pe_bm PySem.F.plainAttrs_list PySem.F.slot_list_append PySem.F.type_list_append mt_append (pv 4) (pa_cons (pe_tup (pa_cons (pv 6) (pa_cons (pv 7) pa_nil))) pa_nil))))))))
    (pss_one (ps_ret (pe_def D_only_solution (hr.mono (by decide)) (by rfl) (pa_cons (pe_callB call_len_seq (by rfl) T.len (by decide +kernel) (pa_cons (pv 1) pa_nil)) (pa_cons (pv 4) pa_nil))))))), fun ss P E h => ?_⟩
  obtain ⟨c, w0, us, rfl, C, U, hP⟩ := h
  have L := MU_lin C U
  have hu := L.most
  refine sg_seq (sg_asgM (ev_lst (xs := []) ea_nil) ?_)
  refine sg_seq (sg_for (ds := us.map dI) (it_list ev_var) (fun a Γ => ∃ e f g h i j k, Γ = [.d (dG c), .d (dIL us), .d (dNL (c.map Pl.gain)), .bor (zrs c.length), .mu ((List.range a).map fun b => dRow us.length (MU c us b)), e, f, g, h, i, j, k])
    ⟨_, _, _, _, _, _, _, rfl⟩ (fun a x Γ1 hx iv => ?_) (fun Γ1 iv => ?_))
  · obtain ⟨e, f, g, h, i, j, k, rfl⟩ := iv
    obtain ⟨p, hp, rfl⟩ := get_map hx
    have ha : a < us.length := (List.getElem?_eq_some_iff.mp hp).1
    have hpm := List.mem_of_getElem? hp
    have hpl := U.lt p hpm
    have hpd : us.getD a 0 = p := by rw [List.getD_eq_getElem?_getD, hp]; rfl
    obtain ⟨D, d0, d1, hb, h1, N, hN, er⟩ := C.rs.row p hpl
    refine ⟨_, _, tg_name, ?_⟩
    refine sg_seq (sg_asgM (ds := (cl (fun b => if a = b then 1 else 0) 0 us.length).map dN) (ev_lcI (ds := us.map dI) (it_list ev_var) (by rw [List.length_map]; omega) (by rw [List.length_map, List.length_map, cl_len]) fun b x y hx hy => ?_) ?_)
    · obtain ⟨q, hq, rfl⟩ := get_map hx
      obtain ⟨z, hz, rfl⟩ := get_map hy
      obtain ⟨hbl, rfl⟩ := cl_get hz
      rw [Nat.zero_add]
      refine ⟨_, _, tg_name, by simp, ?_⟩
      refine ev_if (ev_eqN (ev_vi (n := q)) (ev_vi (n := p))) (fun e => ?_) (fun e => ?_)
      · have e' : q = p := of_decide_eq_true e
        have : a = b := by
          subst e'
          exact (List.getElem_inj U.nd (h₀ := ha) (h₁ := hbl)).mp (by
            have h1 := (List.getElem?_eq_some_iff.mp hp).2
            have h2 := (List.getElem?_eq_some_iff.mp hq).2
            rw [h1, h2])
        refine (ev_one T).is ?_
        rw [if_pos this]
      · refine (ev_nought T).is ?_
        rw [if_neg fun z => ?_]
        subst z
        rw [hp] at hq
        exact of_decide_eq_false e (Option.some.inj hq).symm
    refine sg_seq (sg_asg (ev_nat (q := cr c p) ev_var ev_vi ?_) ?_)
    · rw [List.getElem?_map, gat_get hpl]; rfl
    have bnd : ∀ m b, Bt 8 ((if a = b then (1 : Rat) else 0) - pr (rB us ((cB c p).take m)) b) := fun m b => by
      have h2 : Bt 6 (pr (rB us ((cB c p).take m)) b) := by
        refine pr_bt d0 d1 (fun b hb' => ?_) ?_ b
        · obtain ⟨b0, h0, e, _⟩ := rB_mem hb'
          rw [← e]; exact hb b0 (List.mem_of_mem_take h0)
        · rw [rB_sum]
          have pos := C.ch.pos p hpl
          refine Rat.le_trans (bsum_le (y := fun _ => 1) (fun b hb => pos b (List.mem_of_mem_take hb)) fun b hb => ?_) (Rat.le_trans ?_ h1)
          · show (if b.2 ∈ us then (1 : Rat) else 0) ≤ 1
            by_cases c : b.2 ∈ us
            · rw [if_pos c]; exact Rat.le_refl
            · rw [if_neg c]; grind
          · have := bsum_one_le (bs := (cB c p).take m) (cs := (cB c p).drop m) fun b hb => pos b (List.mem_of_mem_drop hb)
            rw [List.take_append_drop] at this
            exact this
      by_cases e : a = b
      · rw [if_pos e]; exact bt01.2.sub h2
      · rw [if_neg e]; exact bt01.1.sub h2
    have e0 : (fun b => (if a = b then (1 : Rat) else 0) - pr (rB us ((cB c p).take 0)) b) = fun b => if a = b then 1 else 0 := funext fun b => by
      show _ - (0 : Rat) = _
      grind
    refine sg_seq (sg_for (ds := (cB c p).map dBr) (it_list (ev_call (P := fun r => r = .d (.list ((cB c p).map dBr))) (ea_cons ev_var (ea_cons ev_vi ea_nil)) ⟨c, p, gat c p, rfl, gat_get hpl, rfl⟩))
      (fun m Γ => ∃ h i j k, Γ = [.d (dG c), .d (dIL us), .d (dNL (c.map Pl.gain)), .bor (zrs c.length), .mu ((List.range a).map fun b => dRow us.length (MU c us b)), .d (dI p), .mu ((cl (fun b => (if a = b then (1 : Rat) else 0) - pr (rB us ((cB c p).take m)) b) 0 us.length).map dN), .d (dN (cr c p)), h, i, j, k])
      ⟨_, _, _, _, by rw [e0]; rfl⟩ (fun m x Γ1 hx iv => ?_) (fun Γ1 iv => ?_))
    · obtain ⟨h, i, j, k, rfl⟩ := iv
      obtain ⟨b, hbm, rfl⟩ := get_map hx
      have hbmem := List.mem_of_getElem? hbm
      have hbt : b.2 < c.length := C.ch.tg p hpl b hbmem
      have bb : Bt 6 b.1 := ch_bt d0 d1 hb h1 hbmem
      have btr : Bt 12 (cr c p) := Bt.mono (m := 6) ⟨D, N, d0, by omega, by omega, by rw [er, Rat.intCast_natCast]⟩ (by omega)
      have htk : (cB c p).take (m + 1) = (cB c p).take m ++ [b] := by rw [List.take_add_one, hbm]; rfl
      refine ⟨_, _, tg_tup (tgs_cons tg_name (tgs_cons tg_name tgs_nil)), sg_if (et_test (ev_inN ev_vi ev_var)) (fun q => ?_) (fun q => ?_)⟩
      · have hin : b.2 ∈ us := of_decide_eq_true q.symm
        have hix := idx_lt hin
        refine sg_seq (sg_asg (x := dI (us.idxOf b.2)) (ev_index (ns := us.map fun (n : Nat) => (n : Int)) (k := (b.2 : Int)) (EvP.is ev_var (by unfold dIL; rw [dIL_ints])) ev_vi ?_ fun m' hm' hz => ?_) ?_)
        · rw [List.getElem?_map, List.getElem?_eq_getElem hix, List.getElem_idxOf]; rfl
        · rw [List.getElem?_map, List.getElem?_eq_getElem (by omega)] at hz
          have h2 : ((us[m'] : Nat) : Int) = (b.2 : Int) := Option.some.inj hz
          have h3 := List.not_of_lt_findIdx (p := (· == b.2)) (xs := us) (i := m') hm'
          have h4 : us[m'] = b.2 := by omega
          simp [h4] at h3
        · refine sg_setL (m := 6) (j := us.idxOf b.2) (x := dN (((if a = us.idxOf b.2 then (1 : Rat) else 0) - pr (rB us ((cB c p).take m)) (us.idxOf b.2)) - b.1)) rfl (ev_call (ea_cons (ev_ixM (m := 6) rfl (ev_vi (n := us.idxOf b.2)) (at_mapN (cl_at hix))) (ea_cons ev_var ea_nil)) ⟨_, b.1, rfl, ?_, bb.bd (by decide), ?_⟩) (ev_vi (n := us.idxOf b.2)) (by rw [List.length_map, cl_len]; exact hix) ⟨.d (dN b.1), .d (dI b.2), .d (dI (us.idxOf b.2)), k, ?_⟩
          · rw [Nat.zero_add]; exact (bnd m _).bd (by decide)
          · rw [Nat.zero_add]
          · rw [htk]
            have e := cl_set (f := fun b => (if a = b then (1 : Rat) else 0) - pr (rB us ((cB c p).take m)) b) (g := fun b' => (if a = b' then (1 : Rat) else 0) - pr (rB us ((cB c p).take m ++ [b])) b') (q := ((if a = us.idxOf b.2 then (1 : Rat) else 0) - pr (rB us ((cB c p).take m)) (us.idxOf b.2)) - b.1) hix ?_ fun j hj hne => ?_
            · rw [← e]; rfl
            · rw [rB_app, pr_app, rB_in hin]
              show _ - (_ + (b.1 * (if us.idxOf b.2 = us.idxOf b.2 then 1 else 0) + 0)) = _
              rw [if_pos rfl]; grind
            · rw [rB_app, pr_app, rB_in hin]
              show _ - (_ + (b.1 * (if us.idxOf b.2 = j then 1 else 0) + 0)) = _
              rw [if_neg (Ne.symm hne)]; grind
      · have hout : b.2 ∉ us := of_decide_eq_false q.symm
        refine sg_asg (x := dN (cr c p)) (EvP.is (ev_call (P := fun r => r = .d (dN (cr c p + b.1 * 0))) (ea_cons ev_var (ea_cons (ev_call (P := fun r => r = .d (dN (b.1 * 0))) (ea_cons ev_var (ea_cons (ev_ixB (m := 3) rfl ev_vi (atI_nat (rng_at hbt))) ea_nil)) ⟨b.1, 0, rfl, bb.bd (by decide), bd01.1, rfl⟩) ea_nil)) ⟨_, _, rfl, btr.bd (by decide), (bb.mul bt01.1).bd (by decide), rfl⟩) ?_) ⟨.d (dN b.1), .d (dI b.2), j, k, ?_⟩
        · rw [show cr c p + b.1 * 0 = cr c p by grind]
        · rw [htk, rB_app, rB_out hout, List.append_nil]; rfl
    · obtain ⟨h, i, j, k, rfl⟩ := iv
      rw [List.length_map, List.take_length]
      refine sg_fix (m := 6) rfl (sg_append (x := dRow us.length (MU c us a)) rfl (EvP.is (ev_tup (xs := [_, _]) (ea_cons ev_var (ea_cons ev_var ea_nil))) ?_) (by rw [rng_len]; omega) ⟨.d (dI p), _, _, _, _, _, _, by rw [rng_succ]; rfl⟩)
      unfold dRow MU
      have e1 : cl (fun b => (if a = b then (1 : Rat) else 0) - pr (rB us (cB c p)) b) 0 us.length = cl (mat us.length (fun a => rB us (cB c (us.getD a 0))) (fun a => cr c (us.getD a 0)) a) 0 us.length := cl_congr fun j hj => by
        show _ = if 0 + j < us.length then (if a = 0 + j then (1 : Rat) else 0) - pr (rB us (cB c (us.getD a 0))) (0 + j) else _
        rw [if_pos (show 0 + j < us.length by omega), hpd]
      have e2 : mat us.length (fun a => rB us (cB c (us.getD a 0))) (fun a => cr c (us.getD a 0)) a us.length = cr c p := by
        show (if us.length < us.length then _ else if us.length = us.length then cr c (us.getD a 0) else _) = _
        rw [if_neg (by omega), if_pos rfl, hpd]
      rw [e2, ← e1]; rfl
  · obtain ⟨e, f, g, h, i, j, k, rfl⟩ := iv
    rw [List.length_map]
    exact sg_fix (m := 4) rfl (sg_ret (ev_call (ea_cons (EvP.is (ev_lenL ev_var) (by rw [List.length_map])) (ea_cons ev_var ea_nil)) ⟨us.length, MU c us, rfl, L, hP⟩) fun r h => h)
theorem sc_closed_classes : FnScope ["chain", "ways", "found", "place", "other"] ["chain"] (defScope (top 30)) := ⟨rfl, rfl, rfl, by decide +kernel, rfl, by decide +kernel, by decide +kernel⟩
theorem d_closed_classes (T : Txt K mg) (S : Stands K mg "closed_classes" 30 ["chain"]) (D_all_reached : DefOk P w K mg base "all_reached" ["chain"] 3 (SpR (.pure K) A_all_reached)) : DefOk P w K mg base "closed_classes" ["chain"] 4 (SpR (.pure K) A_closed_classes) := by
  refine def_pure S sc_closed_classes (fun ss P h => len_closed_classes h) (by decide) fun f cdv B outer s H E hr hcd => ?_
  have nd := sc_closed_classes.nd
  refine ⟨_, (pss_cons (ps_set (i := 1) nd rfl (.inr rfl) (pe_def D_all_reached (hr.mono (by decide)) (by rfl) (pa_cons (pv 0) pa_nil)))
    (pss_cons (ps_set (i := 2) nd rfl (.inl rfl) (pe_lst pa_nil))
    (pss_cons (ps_for PassesOwn.never rfl (pi_range1 (by rfl) T.range (pa_cons (pe_callB call_len_seq (by rfl) T.len (by decide +kernel) (pa_cons (pv 0) pa_nil)) pa_nil)) (pg_name (i := 3) nd rfl (.inr rfl)) (pss_one (ps_if (PW.pt (pw_and (pt_val (pe_callB (cr_all rfl) (by rfl) T.all (by decide +kernel) (pa_cons (pe_lc (own := [("other", 4)]) rfl nd (pi_list (pe_ix ix_list (pv 1) (pv 3) (fun _ _ => rfl))) (blkOk_by (N := ["chain", "ways", "found", "place", "other"]) (sc := defScope (top 30)) (by decide +kernel)) (fun _ _ _ _ _ => (pg_name (i := 4) nd rfl (.inl rfl) (.inr (by rfl)))) (fun _ _ _ _ _ => pts_nil) (fun _ _ _ _ _ => (pe_cmpR (in_K (K := K) rfl) (pv 3) (pe_ix (ixL_K (K := K) rfl) (pv 1) (pv 4) (fun _ _ => rfl)) (by rfl)))) pa_nil))) (pw_and1 (pt_cmpR (op_notInD (hu65 hr)) (pe_ix ix_list (pv 1) (pv 3) (fun _ _ => rfl)) (pv 2) (by rfl))))) (pss_one (ps_expr (pe_bm PySem.F.plainAttrs_list PySem.F.slot_list_append PySem.F.type_list_append mt_append (pv 2) (pa_cons (pe_ix ix_list (pv 1) (pv 3) (fun _ _ => rfl)) pa_nil)))) pss_nil)))
    (pss_one (ps_ret (pv 2)))))), fun ss P E h => ?_⟩
  obtain ⟨c, w0, rfl, C, hP⟩ := h
  have hm := C.most
  have G := C.ok
  refine sg_seq (sg_asg (x := .list ((List.range c.length).map fun p => dIL (reachL c p))) (EvM.d (ev_call (ea_cons ev_var ea_nil) ⟨c, rfl, G, rfl⟩)) ?_)
  refine sg_seq (sg_asgM (ev_lst (xs := []) ea_nil) ?_)
  refine sg_seq (sg_for (ds := intsD 0 c.length) (it_rng1 ((ev_lenL (ev_var (x := dG c))).is (by rw [List.length_map])) (by omega))
    (fun i Γ => ∃ (cs : List (List Nat)) (a b : SV), Γ = [.d (dG c), .d (.list ((List.range c.length).map fun p => dIL (reachL c p))), .mu (cs.map dIL), a, b] ∧ cs.length ≤ i ∧ ∀ s ∈ cs, s.length ≤ c.length ∧ ∀ p ∈ s, p < c.length ∧ (gat c p).isEnd = true)
    ⟨[], _, _, rfl, by simp, by simp⟩ (fun i x Γ1 hx iv => ?_) (fun Γ1 iv => ?_))
  · obtain ⟨cs, a, b, rfl, hl, hc⟩ := iv
    obtain ⟨hi, rfl⟩ := ints_get0 hx
    refine ⟨_, _, tg_name, ?_⟩
    have way : ∀ {Γ : List SV} {ta tb : TE} {k : Nat}, k < c.length → EvD (.pure K) E ta Γ (.list ((List.range c.length).map fun p => dIL (reachL c p))) → EvD (.pure K) E tb Γ (.int k) → EvD (.pure K) E (tOp (rIxL K) ta tb) Γ (dIL (reachL c k)) := fun hk h1 h2 => ev_ixL h1 h2 (atI_nat (rng_at hk))
    have dep : ∀ s : List Nat, (dIL s).canLay0 = true ∧ (dIL s).depth ≤ 1 := fun s => ⟨by
      unfold dIL; simp only [PyData.canLay0]; exact layAll dI dI_lay s, by
      have := depAll dI 0 dI_dep s
      unfold dIL; simp only [PyData.depth]; omega⟩
    refine sg_if (Pb := fun b => b = true → ∀ j, Reach c i j → Reach c j i) (et_andP (Pa := fun b => b = true → ∀ j, Reach c i j → Reach c j i) (Pb := fun _ => True) ?_ (fun _ => ?_) fun a b ha hb hf e => ?_) (fun q => ?_) (fun q => ?_)
    · refine EvT.imp (et_B (ev_all (bs := (reachL c i).map fun j => decide (i ∈ reachL c j)) (EvM.d (ev_lcI (ds := (reachL c i).map dI) (it_list (way hi ev_var ev_vi)) (by rw [List.length_map]; have := reachL_len (g := c) (p := i); omega) (by simp) fun j x y hx hy => ?_)))) fun r e h j hj => ?_
      · obtain ⟨t, ht, rfl⟩ := get_map hx
        rw [List.map_map, List.getElem?_map, ht] at hy
        cases hy
        have htl := ((mem_reachL G hi).mp (List.mem_of_getElem? ht)).lt G hi
        exact ⟨_, _, tg_name, by simp, ev_inN ev_vi (way htl ev_var ev_vi)⟩
      · rw [e] at h
        have h1 := List.all_eq_true.mp h _ (List.mem_map.mpr ⟨j, (mem_reachL G hi).mpr hj, rfl⟩)
        exact (mem_reachL G (hj.lt G hi)).mp (of_decide_eq_true h1)
    · exact EvT.imp (et_test (ev_notInD (way hi ev_var ev_vi) rfl (dIL_shp _) (shp_list dIL 1 (by decide) (fun s => (dep s).1) (fun s => (dep s).2) cs))) fun _ _ => trivial
    · cases a with
      | true => exact ha rfl
      | false => rw [hf rfl] at e; cases e
    · obtain ⟨h1, h2⟩ := C.closed hi (q rfl)
      refine sg_append rfl (x := dIL (reachL c i)) (way hi ev_var ev_vi) (by rw [List.length_map]; omega) ⟨cs ++ [reachL c i], _, _, by rw [List.map_append]; rfl, by rw [List.length_append]; simp; omega, fun s hs => ?_⟩
      rcases List.mem_append.mp hs with z | z
      · exact hc s z
      · rw [List.mem_singleton.mp z]
        refine ⟨reachL_len, fun p hp => ?_⟩
        rw [h2 p ((mem_reachL G hi).mp hp)]
        exact ⟨hi, h1⟩
    · exact sg_next ⟨cs, _, _, rfl, by omega, hc⟩
  · obtain ⟨cs, a, b, rfl, hl, hc⟩ := iv
    exact sg_retM (m := 2) rfl (hP cs hc)
theorem sc_expected : FnScope ["chain", "gains", "endless", "ways", "found", "unknown", "place", "number", "other"] ["chain", "gains", "endless"] (defScope (top 31)) := ⟨rfl, rfl, rfl, by decide +kernel, rfl, by decide +kernel, by decide +kernel⟩
theorem d_expected (T : Txt K mg) (S : Stands K mg "expected" 31 ["chain", "gains", "endless"]) (D_all_reached : DefOk P w K mg base "all_reached" ["chain"] 3 (SpR (.pure K) A_all_reached)) (D_means : DefOk P w K mg base "means" ["chain", "unknown", "gains", "known"] 39 (SpR (.pure K) A_means)) : DefOk P w K mg base "expected" ["chain", "gains", "endless"] 40 (SpR (.pure K) A_expected) := by
  refine def_pure S sc_expected (fun ss P h => len_expected h) (by decide) fun f cdv B outer s H E hr hcd => ?_
  have nd := sc_expected.nd
  refine ⟨_, (pss_cons (ps_set (i := 3) nd rfl (.inl rfl) (pe_def D_all_reached (hr.mono (by decide)) (by rfl) (pa_cons (pv 0) pa_nil)))
    (pss_cons (ps_setLc (i := 4) (own := [("place", 6)]) rfl nd rfl rfl (sw_true rfl rfl rfl (by decide +kernel)) (pi_list (pv 0)) (blkOk_by (N := ["chain", "gains", "endless", "ways", "found", "unknown", "place", "number", "other"]) (sc := defScope (top 31)) (by decide +kernel)) (fun _ _ _ _ _ => (pg_name (i := 6) nd rfl (.inl rfl) (.inr (by rfl)))) (fun _ _ _ _ _ => pts_nil) (fun _ _ _ _ _ => (pe_glob (v := .ref T.aN) (by rfl) T.gN rfl)))
    (pss_cons (ps_set (i := 5) nd rfl (.inl rfl) (pe_lst pa_nil))
    (pss_cons (ps_for PassesOwn.never rfl (pi_range1 (by rfl) T.range (pa_cons (pe_callB call_len_seq (by rfl) T.len (by decide +kernel) (pa_cons (pv 0) pa_nil)) pa_nil)) (pg_name (i := 6) nd rfl (.inl rfl)) (pss_one (ps_if (pt_val (pe_callB (cr_any rfl) (by rfl) T.any (by decide +kernel) (pa_cons (pe_lc (own := [("other", 8)]) rfl nd (pi_list (pe_ix ix_list (pv 3) (pv 6) (fun _ _ => rfl))) (blkOk_by (N := ["chain", "gains", "endless", "ways", "found", "unknown", "place", "number", "other"]) (sc := defScope (top 31)) (by decide +kernel)) (fun _ _ _ _ _ => (pg_name (i := 8) nd rfl (.inl rfl) (.inr (by rfl)))) (fun _ _ _ _ _ => pts_nil) (fun _ _ _ _ _ => (pe_cmpR (in_K (K := K) rfl) (pv 8) (pv 2) (by rfl)))) pa_nil))) pss_never (pss_one (ps_if (pt_val (pe_callB (cr_any rfl) (by rfl) T.any (by decide +kernel) (pa_cons (pe_lc (own := [("other", 8)]) rfl nd (pi_list (pe_ix ix_list (pv 3) (pv 6) (fun _ _ => rfl))) (blkOk_by (N := ["chain", "gains", "endless", "ways", "found", "unknown", "place", "number", "other"]) (sc := defScope (top 31)) (by decide +kernel)) (fun _ _ _ _ _ => (pg_name (i := 8) nd rfl (.inl rfl) (.inr (by rfl)))) (fun _ _ _ _ _ => pts_nil) (fun _ _ _ _ _ => (pe_cmpR (neD_K (K := K) hr.units rfl) (pe_ix (ixL_K (K := K) rfl) (pv 1) (pv 8) (fun _ _ => rfl)) (pe_glob (v := .ref T.aN) (by rfl) T.gN rfl) (nomark _)))) pa_nil))) (pss_one (ps_expr (pe_bm PySem.F.plainAttrs_list PySem.F.slot_list_append PySem.F.type_list_append mt_append (pv 5) (pa_cons (pv 6) pa_nil)))) pss_nil)))))
    (pss_cons (ps_for PassesOwn.never rfl (pi_zip (by rfl) T.zip (pa_cons (pv 5) (pa_cons (pe_def D_means (hr.mono (by decide)) (by rfl) (pa_cons (pv 0) (pa_cons (pv 5) (pa_cons (pv 1) (pa_cons (pv 4) pa_nil))))) pa_nil))) (pg_tup rfl (pgs_cons (pg_name (i := 6) nd rfl (.inl rfl)) (pgs_cons (pg_name (i := 7) nd rfl (.inl rfl)) pgs_nil))) (pss_one (ps_asg (pv 7) (pg_sub (pv 4) (pv 6) set_list))))
    (pss_one (ps_ret (pv 4)))))))), fun ss P E h => ?_⟩
  obtain ⟨c, w0, rfl, C, hP⟩ := h
  have hm := C.most
  have G := C.ok
  refine sg_seq (sg_asg (x := .list ((List.range c.length).map fun p => dIL (reachL c p))) (EvM.d (ev_call (ea_cons ev_var ea_nil) ⟨c, rfl, G, rfl⟩)) ?_)
  refine sg_seq (sg_asgM (ds := zrs c.length) (ev_lcI (ds := c.map dP) (it_list ev_var) (by rw [List.length_map]; omega) (by unfold zrs; rw [rng_len, List.length_map]) fun i x y hx hy => ?_) ?_)
  · obtain ⟨_, rfl⟩ := rng_get hy
    exact ⟨_, _, tg_name, by simp, ev_nought T⟩
  refine sg_seq (sg_asgM (ev_lst (xs := []) ea_nil) ?_)
  have way : ∀ {Γ : List SV} {ta tb : TE} {k : Nat}, k < c.length → EvD (.pure K) E ta Γ (.list ((List.range c.length).map fun p => dIL (reachL c p))) → EvD (.pure K) E tb Γ (.int k) → EvD (.pure K) E (tOp (rIxL K) ta tb) Γ (dIL (reachL c k)) := fun hk h1 h2 => ev_ixL h1 h2 (atI_nat (rng_at hk))
  refine sg_seq (sg_for (ds := intsD 0 c.length) (it_rng1 ((ev_lenL (ev_var (x := dG c))).is (by rw [List.length_map])) (by omega))
    (fun i Γ => ∃ (us : List Nat) (a b d : SV), Γ = [.d (dG c), .d (dNL (c.map Pl.gain)), .d (.list []), .d (.list ((List.range c.length).map fun p => dIL (reachL c p))), .mu (zrs c.length), .mu (us.map dI), a, b, d] ∧ us.length ≤ i ∧ us.Nodup ∧ (∀ u ∈ us, u < i ∧ ∃ j, Reach c u j ∧ cr c j ≠ 0) ∧ ∀ p, p < i → p ∉ us → ∀ j, Reach c p j → cr c j = 0)
    ⟨[], _, _, _, rfl, by simp, by simp, by simp, fun p hp => absurd hp (Nat.not_lt_zero _)⟩ (fun i x Γ1 hx iv => ?_) (fun Γ1 iv => ?_))
  · obtain ⟨us, a, b, d, rfl, hl, hnd, hlt, h0⟩ := iv
    obtain ⟨hi, rfl⟩ := ints_get0 hx
    have hrl := reachL_len (g := c) (p := i)
    refine ⟨_, _, tg_name, ?_⟩
    refine sg_ifF (EvT.is (et_B (ev_any (bs := (reachL c i).map fun j => decide (j ∈ ([] : List Nat))) (EvM.d (ev_lcI (ds := (reachL c i).map dI) (it_list (way hi ev_var ev_vi)) (by rw [List.length_map]; omega) (by simp) fun j x y hx hy => ?_)))) ?_) ?_
    · obtain ⟨t, ht, rfl⟩ := get_map hx
      rw [List.map_map, List.getElem?_map, ht] at hy
      cases hy
      exact ⟨_, _, tg_name, by simp, ev_inN ev_vi ev_var⟩
    · rw [List.any_eq_false]
      intro b hb
      obtain ⟨j, hj, rfl⟩ := List.mem_map.mp hb
      simp
    refine sg_if (Pb := fun b => (b = false → ∀ j, Reach c i j → cr c j = 0) ∧ (b = true → ∃ j, Reach c i j ∧ cr c j ≠ 0)) (EvT.imp (et_B (ev_any (bs := (reachL c i).map fun j => !decide (cr c j = 0)) (EvM.d (ev_lcI (ds := (reachL c i).map dI) (it_list (way hi ev_var ev_vi)) (by rw [List.length_map]; omega) (by simp) fun j x y hx hy => ?_)))) fun r e => ⟨fun h j hj => ?_, fun h => ?_⟩) (fun q => ?_) (fun q => ?_)
    · obtain ⟨t, ht, rfl⟩ := get_map hx
      rw [List.map_map, List.getElem?_map, ht] at hy
      cases hy
      have htl := ((mem_reachL G hi).mp (List.mem_of_getElem? ht)).lt G hi
      refine ⟨_, _, tg_name, by simp, (ev_neD (ev_nat (q := cr c t) ev_var ev_vi ?_) (ev_nought T) (dN_shp _) (dN_shp _)).is ?_⟩
      · rw [List.getElem?_map, gat_get htl]; rfl
      · rw [dN_eqv]; rfl
    · rw [e] at h
      have h1 := List.any_eq_false.mp h (!decide (cr c j = 0)) (List.mem_map.mpr ⟨j, (mem_reachL G hi).mpr hj, rfl⟩)
      simpa using h1
    · rw [e] at h
      obtain ⟨b, hb, eb⟩ := List.any_eq_true.mp h
      obtain ⟨j, hj, rfl⟩ := List.mem_map.mp hb
      exact ⟨j, (mem_reachL G hi).mp hj, by simpa using eb⟩
    · refine sg_append rfl (x := dI i) ev_var (by rw [List.length_map]; omega) ⟨us ++ [i], _, _, _, by rw [List.map_append]; rfl, by rw [List.length_append]; simp; omega, ?_, fun u hu => ?_, fun p hp hn => ?_⟩
      · rw [List.nodup_append]
        refine ⟨hnd, by simp, fun a ha b hb e => ?_⟩
        have h1 := (hlt a ha).1
        rw [List.mem_singleton.mp hb] at e
        omega
      · rcases List.mem_append.mp hu with z | z
        · have := (hlt u z).1; exact ⟨by omega, (hlt u z).2⟩
        · rw [List.mem_singleton.mp z]; exact ⟨by omega, q.2 rfl⟩
      · have h1 : p ≠ i := fun e => hn (by rw [e]; simp)
        exact h0 p (by omega) fun z => hn (List.mem_append_left _ z)
    · refine sg_next ⟨us, _, _, _, rfl, by omega, hnd, fun u hu => ?_, fun p hp hn => ?_⟩
      · have := (hlt u hu).1; exact ⟨by omega, (hlt u hu).2⟩
      · by_cases e : p = i
        · subst e; exact q.1 rfl
        · exact h0 p (by omega) hn
  obtain ⟨us, a, b, d, rfl, hl, hnd, hlt, h0⟩ := iv
  rw [ints_len] at hl hlt h0
  have hrc := fun u hu => (hlt u hu).2
  replace hlt := fun u hu => (hlt u hu).1
  have U : Uok c us := ⟨hnd, hlt, hl⟩
  have L := MU_lin C U
  refine sg_fix (m := 5) rfl ?_
  have e0 : zrs c.length = (List.range c.length).map fun j => dN (if us.idxOf j < 0 then gj us.length (MU c us) (us.idxOf j) us.length else 0) := List.map_congr_left fun j _ => by rw [if_neg (Nat.not_lt_zero _)]
  have hzl : (zipD (us.map dI) ((List.range us.length).map fun a => dN (gj us.length (MU c us) a us.length))).length = us.length := by rw [zip_len, List.length_map, rng_len, Nat.min_self]
  refine sg_seq (sg_for (ds := zipD (us.map dI) ((List.range us.length).map fun a => dN (gj us.length (MU c us) a us.length))) (it_zip ev_var (EvM.d (ev_call (ea_cons ev_var (ea_cons ev_var (ea_cons ev_var (ea_consM rfl ea_nil)))) ⟨c, w0, us, rfl, C, U, rfl⟩)))
    (fun i Γ => ∃ a b d, Γ = [.d (dG c), .d (dNL (c.map Pl.gain)), .d (.list []), .d (.list ((List.range c.length).map fun p => dIL (reachL c p))), .mu ((List.range c.length).map fun j => dN (if us.idxOf j < i then gj us.length (MU c us) (us.idxOf j) us.length else 0)), .d (dIL us), a, b, d])
    ⟨_, _, _, by rw [← e0]; rfl⟩ (fun i x Γ1 hx iv => ?_) (fun Γ1 iv => ?_))
  · obtain ⟨a, b, d, rfl⟩ := iv
    obtain ⟨y, z, hy, hz, rfl⟩ := zip_get hx
    obtain ⟨p, hp, rfl⟩ := get_map hy
    obtain ⟨hi, rfl⟩ := rng_get hz
    have hpl := hlt p (List.mem_of_getElem? hp)
    have hix : us.idxOf p = i := (List.getElem_inj hnd (h₀ := idx_lt (List.mem_of_getElem? hp)) (h₁ := hi)).mp (by rw [List.getElem_idxOf, (List.getElem?_eq_some_iff.mp hp).2])
    refine ⟨_, _, tg_tup (tgs_cons tg_name (tgs_cons tg_name tgs_nil)), sg_setL rfl ev_var ev_vi (by rw [rng_len]; exact hpl) ⟨.d (dI p), .d (dN (gj us.length (MU c us) i us.length)), d, ?_⟩⟩
    have e : ((List.range c.length).map fun j => dN (if us.idxOf j < i then gj us.length (MU c us) (us.idxOf j) us.length else 0)).set p (dN (gj us.length (MU c us) i us.length)) = (List.range c.length).map fun j => dN (if us.idxOf j < i + 1 then gj us.length (MU c us) (us.idxOf j) us.length else 0) := by
      apply List.ext_getElem?
      intro k
      by_cases hk : k < c.length
      · rw [rng_at hk]
        by_cases e : p = k
        · subst e
          rw [List.getElem?_set_self (by rw [rng_len]; exact hk), hix, if_pos (by omega)]
        · rw [List.getElem?_set_ne e, rng_at hk]
          have hne : us.idxOf k ≠ i := fun z => by
            have h1 : us[us.idxOf k]'(by omega) = k := List.getElem_idxOf _
            have h2 := (List.getElem?_eq_some_iff.mp hp).2
            simp only [z] at h1
            exact e (h2.symm.trans h1)
          by_cases c : us.idxOf k < i
          · rw [if_pos c, if_pos (by omega)]
          · rw [if_neg c, if_neg (by omega)]
      · rw [List.getElem?_eq_none (by rw [List.length_set, rng_len]; omega), List.getElem?_eq_none (by rw [rng_len]; omega)]
    rw [← e]; rfl
  · obtain ⟨a, b, d, rfl⟩ := iv
    rw [hzl]
    have hv : ((List.range c.length).map fun j => dN (if us.idxOf j < us.length then gj us.length (MU c us) (us.idxOf j) us.length else 0)) = ((List.range c.length).map fun j => if us.idxOf j < us.length then gj us.length (MU c us) (us.idxOf j) us.length else 0).map dN := by rw [List.map_map]; rfl
    refine sg_retM (m := 4) (ds := ((List.range c.length).map fun j => if us.idxOf j < us.length then gj us.length (MU c us) (us.idxOf j) us.length else 0).map dN) (by rw [← hv]; rfl) (hP _ ⟨by rw [rng_len], fun i hi => ?_, fun q hq => ?_⟩)
    · have vt : ∀ j, j < c.length → vat ((List.range c.length).map fun j => if us.idxOf j < us.length then gj us.length (MU c us) (us.idxOf j) us.length else 0) j = if j ∈ us then gj us.length (MU c us) (us.idxOf j) us.length else 0 := fun j hj => by
        unfold vat
        rw [List.getD_eq_getElem?_getD, rng_at hj]
        show (if us.idxOf j < us.length then _ else _) = _
        by_cases c : j ∈ us
        · rw [if_pos c, if_pos (idx_lt c)]
        · rw [if_neg c, if_neg fun z => c (List.idxOf_lt_length_iff.mp z)]
      have sx : Sol us.length (fun a => rB us (cB c (us.getD a 0))) (fun a => cr c (us.getD a 0)) fun a => gj us.length (MU c us) a us.length := (mat_sol (C.ch.restr U.lt).tg).mp (gj_sol fun t ht z => by
        have := L.ok.piv t ht
        rw [show gj t (MU c us) t t = 0 from z] at this
        exact Rat.lt_irrefl this)
      have h1 := sol_ext U.lt sx (fun i hi hn => ⟨h0 i hi hn i .refl, fun b hb hbu => ?_⟩) i hi
      · rw [vt i hi, bsum_congr (y := fun j => if j ∈ us then gj us.length (MU c us) (us.idxOf j) us.length else 0) fun b hb => vt b.2 (C.ch.tg i hi b hb)]
        exact h1
      · obtain ⟨j, hj, hj0⟩ := hrc b.2 hbu
        refine hj0 (h0 i hi hn j (Reach.trans (.step .refl ?_) hj))
        rw [← brs_tgts (C.kd i hi)]
        exact List.mem_map.mpr ⟨b, hb, rfl⟩
    · obtain ⟨j, hj, rfl⟩ := List.mem_map.mp hq
      by_cases c : us.idxOf j < us.length
      · rw [if_pos c]; exact L.ok.bt11 L.most (Nat.le_refl _) c (by omega)
      · rw [if_neg c]; exact bt01.1.mono (by omega)
theorem sc_expected_rewards : FnScope ["chain", "gains", "endless", "closed", "place"] ["chain"] (defScope (top 32)) := ⟨rfl, rfl, rfl, by decide +kernel, rfl, by decide +kernel, by decide +kernel⟩
theorem d_expected_rewards (T : Txt K mg) (S : Stands K mg "expected_rewards" 32 ["chain"]) (D_closed_classes : DefOk P w K mg base "closed_classes" ["chain"] 4 (SpR (.pure K) A_closed_classes)) (D_expected : DefOk P w K mg base "expected" ["chain", "gains", "endless"] 40 (SpR (.pure K) A_expected)) : DefOk P w K mg base "expected_rewards" ["chain"] 41 (SpR (.pure K) A_expected_rewards) := by
  refine def_pure S sc_expected_rewards (fun ss P h => len_expected_rewards h) (by decide) fun f cdv B outer s H E hr hcd => ?_
  have nd := sc_expected_rewards.nd
  refine ⟨_, (pss_cons (ps_set (i := 1) nd rfl (.inr rfl) (pe_lc (own := [("place", 4)]) rfl nd (pi_list (pv 0)) (blkOk_by (N := ["chain", "gains", "endless", "closed", "place"]) (sc := defScope (top 32)) (by decide +kernel)) (fun _ _ _ _ _ => (pg_name (i := 4) nd rfl (.inl rfl) (.inr (by rfl)))) (fun _ _ _ _ _ => pts_nil) (fun _ _ _ _ _ => (pe_ifExp (pt_cmpR (eqD_K (K := K) hr.units rfl) (pe_ix (ixT_K (K := K) rfl) (pv 4) pe_int (fun _ _ => rfl)) pe_str (nomark _)) (pe_ix (ixT_K (K := K) rfl) (pv 4) pe_int (fun _ _ => rfl)) (pe_glob (v := .ref T.aN) (by rfl) T.gN rfl)))))
    (pss_cons (ps_set (i := 2) nd rfl (.inl rfl) (pe_lst pa_nil))
    (pss_cons (ps_for PassesOwn.never rfl (pi_list (pe_def D_closed_classes (hr.mono (by decide)) (by rfl) (pa_cons (pv 0) pa_nil))) (pg_name (i := 3) nd rfl (.inl rfl)) (pss_one (ps_if (pt_val (pe_callB (cr_any rfl) (by rfl) T.any (by decide +kernel) (pa_cons (pe_lc (own := [("place", 4)]) rfl nd (pi_list (pv 3)) (blkOk_by (N := ["chain", "gains", "endless", "closed", "place"]) (sc := defScope (top 32)) (by decide +kernel)) (fun _ _ _ _ _ => (pg_name (i := 4) nd rfl (.inl rfl) (.inr (by rfl)))) (fun _ _ _ _ _ => pts_nil) (fun _ _ _ _ _ => (pe_cmpR (neD_K (K := K) hr.units rfl) (pe_ix (ixL_K (K := K) rfl) (pv 1) (pv 4) (fun _ _ => rfl)) (pe_glob (v := .ref T.aN) (by rfl) T.gN rfl) (nomark _)))) pa_nil))) pss_never pss_nil)))
    (pss_one (ps_ret (pe_def D_expected (hr.mono (by decide)) (by rfl) (pa_cons (pv 0) (pa_cons (pv 1) (pa_cons (pv 2) pa_nil))))))))), fun ss P E h => ?_⟩
  obtain ⟨c, w0, rfl, C, hP⟩ := h
  have hm := C.most
  have G := C.ok
  refine sg_seq (sg_asg (x := dNL (c.map Pl.gain)) (EvM.d (ev_lcI (ds := c.map dP) (ys := (c.map Pl.gain).map dN) (it_list ev_var) (by rw [List.length_map]; omega) (by simp) fun i x y hx hy => ?_)) ?_)
  · obtain ⟨p, hp, rfl⟩ := get_map hx
    rw [List.map_map, List.getElem?_map, hp] at hy
    cases hy
    refine ⟨_, _, tg_name, by simp, ev_if (ev_kp .reward ev_var) (fun e => ?_) (fun e => ?_)⟩
    · cases p with
      | reward a t => exact ev_ixT ev_var ev_ci rfl
      | _ => cases of_decide_eq_true e
    · cases p with
      | reward a t => exact absurd rfl (of_decide_eq_false e)
      | _ => exact ev_nought T
  refine sg_seq (sg_asg (x := .list []) (EvM.d (ev_lst (xs := []) ea_nil)) ?_)
  refine sg_seq (sg_forP (Pd := fun ds => ∃ cs : List (List Nat), ds = cs.map dIL ∧ ∀ s ∈ cs, s.length ≤ c.length ∧ ∀ p ∈ s, p < c.length ∧ (gat c p).isEnd = true)
    (it_listP (P := fun r => ∃ cs : List (List Nat), r = .d (.list (cs.map dIL)) ∧ ∀ s ∈ cs, s.length ≤ c.length ∧ ∀ p ∈ s, p < c.length ∧ (gat c p).isEnd = true)
      (EvP.fix (P := fun r => ∃ cs : List (List Nat), r = .mu (cs.map dIL) ∧ ∀ s ∈ cs, s.length ≤ c.length ∧ ∀ p ∈ s, p < c.length ∧ (gat c p).isEnd = true)
        (ev_call (ea_cons ev_var ea_nil) ⟨c, w0, rfl, C, fun cs h => ⟨cs, rfl, h⟩⟩) (fun ds ⟨cs, e, h⟩ => ⟨cs, by cases e; rfl, h⟩) fun r ⟨cs, e, h⟩ => ⟨_, e⟩) fun r ⟨cs, e, h⟩ => ⟨_, e, cs, rfl, h⟩)
    (fun ds i Γ => ∃ a b, Γ = [.d (dG c), .d (dNL (c.map Pl.gain)), .d (.list []), a, b]) (fun ds _ => ⟨_, _, rfl⟩) (fun ds hd i x Γ1 hx iv => ?_) (fun ds Γ1 hd iv => ?_))
  · obtain ⟨cs, rfl, hc⟩ := hd
    obtain ⟨a, b, rfl⟩ := iv
    obtain ⟨s, hs, rfl⟩ := get_map hx
    obtain ⟨hsl, hse⟩ := hc s (List.mem_of_getElem? hs)
    refine ⟨_, _, tg_name, sg_ifF (EvT.is (et_B (ev_any (bs := s.map fun j => !decide (cr c j = 0)) (EvM.d (ev_lcI (ds := s.map dI) (it_list ev_var) (by rw [List.length_map]; omega) (by simp) fun j x y hx hy => ?_)))) ?_) (sg_next ⟨_, _, rfl⟩)⟩
    · obtain ⟨t, ht, rfl⟩ := get_map hx
      rw [List.map_map, List.getElem?_map, ht] at hy
      cases hy
      have htl := (hse t (List.mem_of_getElem? ht)).1
      refine ⟨_, _, tg_name, by simp, (ev_neD (ev_nat (q := cr c t) ev_var ev_vi ?_) (ev_nought T) (dN_shp _) (dN_shp _)).is ?_⟩
      · rw [List.getElem?_map, gat_get htl]; rfl
      · rw [dN_eqv]; rfl
    · rw [List.any_eq_false]
      intro b hb
      obtain ⟨j, hj, rfl⟩ := List.mem_map.mp hb
      have : cr c j = 0 := (end_none (hse j hj).2).2.2
      simp [this]
  · obtain ⟨a, b, rfl⟩ := iv
    exact sg_ret (ev_call (ea_cons ev_var (ea_cons ev_var (ea_cons ev_var ea_nil))) ⟨c, w0, rfl, C, hP⟩) fun r h => h
theorem sc_followed : FnScope ["game", "ours", "theirs"] ["game", "ours", "theirs"] (defScope (top 38)) := ⟨rfl, rfl, rfl, by decide +kernel, rfl, by decide +kernel, by decide +kernel⟩
theorem d_followed (T : Txt K mg) (S : Stands K mg "followed" 38 ["game", "ours", "theirs"]) (D_expected_rewards : DefOk P w K mg base "expected_rewards" ["chain"] 41 (SpR (.pure K) A_expected_rewards)) (D_with_strategy : DefOk P w K mg base "with_strategy" ["game", "side", "strategy"] 2 (SpR (.pure K) A_with_strategy)) : DefOk P w K mg base "followed" ["game", "ours", "theirs"] 42 (SpR (.pure K) A_followed) := by
  refine def_pure S sc_followed (fun ss P h => len_followed h) (by decide) fun f cdv B outer s H E hr hcd => ?_
  have nd := sc_followed.nd
  refine ⟨_, (pss_one (ps_ret (pe_def D_expected_rewards (hr.mono (by decide)) (by rfl) (pa_cons (pe_def D_with_strategy (hr.mono (by decide)) (by rfl) (pa_cons (pe_def D_with_strategy (hr.mono (by decide)) (by rfl) (pa_cons (pv 0) (pa_cons pe_str (pa_cons (pv 1) pa_nil)))) (pa_cons pe_str (pa_cons (pv 2) pa_nil)))) pa_nil)))), fun ss P E h => ?_⟩
  obtain ⟨g, σ, τ, w0, rfl, h1, h2, C, hP⟩ := h
  have hm := C.most
  have l1 : (putS g .ours σ).length = g.length := by
    unfold putS
    rw [List.length_zipWith, h1.len, Nat.min_self]
  have l2 : (chn g σ τ).length = g.length := by
    unfold chn
    rw [show putS (putS g .ours σ) .theirs τ = List.zipWith (putP .theirs) (putS g .ours σ) τ from rfl, List.length_zipWith, h2.len, Nat.min_self]; exact l1
  exact sg_ret (ev_call (ea_cons (ev_call (P := fun r => r = .d (dG (chn g σ τ))) (ea_cons (ev_call (P := fun r => r = .d (dG (putS g .ours σ))) (ea_cons ev_var (ea_cons (ev_cs (z := Kd.ours.str)) (ea_cons ev_var ea_nil))) ⟨g, .ours, σ, rfl, .inl rfl, h1, by omega, rfl⟩) (ea_cons (ev_cs (z := Kd.theirs.str)) (ea_cons ev_var ea_nil)))
    ⟨putS g .ours σ, .theirs, τ, rfl, .inr rfl, h2, by omega, rfl⟩) ea_nil) ⟨_, w0, rfl, C, hP⟩) fun r h => h
end
end Odd
/-! two sides: strategies, improvement -/
set_option linter.all false
set_option exponentiation.threshold 1000000
namespace Odd
def so (s : List (Option Nat)) (i : Nat) : Nat := (s.getD i none).getD 0
def tg (g : List Pl) (i b : Nat) : Nat := (gat g i).tgts.getD b 0
def brP (p : Pl) (a b : Nat) : List (Rat × Nat) :=
  match p with
  | .draw bs => bs
  | .reward _ t => [(1, t)]
  | .ours ts => [(1, ts.getD a 0)]
  | .theirs ts => [(1, ts.getD b 0)]
  | _ => []
theorem getD_some {α : Type} {l : List α} {i : Nat} {a d : α} (h : l[i]? = some a) : l.getD i d = a := by rw [List.getD_eq_getElem?_getD, h]; rfl
theorem chn_len {g : List Pl} {σ τ : List (Option Nat)} (h1 : σ.length = g.length) (h2 : τ.length = g.length) : (chn g σ τ).length = g.length := by
  unfold chn putS
  rw [List.length_zipWith, List.length_zipWith, h1, h2, Nat.min_self, Nat.min_self]
theorem chn_gat {g : List Pl} {σ τ : List (Option Nat)} (h1 : σ.length = g.length) (h2 : τ.length = g.length) {i : Nat} (hi : i < g.length) : gat (chn g σ τ) i = putP .theirs (putP .ours (gat g i) (σ.getD i none)) (τ.getD i none) := by
  refine gat_some ?_
  unfold chn putS
  rw [List.getElem?_zipWith, List.getElem?_zipWith, gat_get hi, List.getElem?_eq_getElem (l := σ) (by omega), List.getElem?_eq_getElem (l := τ) (by omega)]
  rw [getD_some (List.getElem?_eq_getElem (l := σ) (by omega)), getD_some (List.getElem?_eq_getElem (l := τ) (by omega))]
theorem chn_br {g : List Pl} {σ τ : List (Option Nat)} (h1 : σ.length = g.length) (h2 : τ.length = g.length) {i : Nat} (hi : i < g.length) : cB (chn g σ τ) i = brP (gat g i) (so σ i) (so τ i) ∧ cr (chn g σ τ) i = (gat g i).gain := by
  unfold cB cr so
  rw [chn_gat h1 h2 hi]
  cases gat g i <;> exact ⟨rfl, rfl⟩
/-- a game that goes on one weight, whatever is chosen -/
structure WG (g : List Pl) (w : Nat → Rat) : Prop where
  fw : Fw g
  most : g.length ≤ 11
  ne : ∀ i, i < g.length → ((gat g i).kd = .ours ∨ (gat g i).kd = .theirs) → (gat g i).tgts ≠ []
  cn : ∀ σ τ, StrOk g .ours σ → StrOk g .theirs τ → Cn (chn g σ τ) w
theorem StrOk.at {g : List Pl} {k : Kd} {s : List (Option Nat)} (h : StrOk g k s) {i : Nat} (hi : i < g.length) : ((gat g i).kd = k → s[i]? = some (some (so s i)) ∧ so s i < (gat g i).tgts.length) ∧ ((gat g i).kd ≠ k → s[i]? = some none) := by
  obtain ⟨o, ho⟩ : ∃ o, s[i]? = some o := ⟨_, List.getElem?_eq_getElem (by rw [h.len]; exact hi)⟩
  have h1 := h.at_ i _ o (gat_get hi) ho
  refine ⟨fun e => ?_, fun e => ?_⟩
  · obtain ⟨b, rfl, hb⟩ := h1.1 e
    have : so s i = b := by unfold so; rw [getD_some ho]; rfl
    rw [this]; exact ⟨ho, hb⟩
  · rw [ho, h1.2 e]
theorem StrOk.put {g : List Pl} {σ τ : List (Option Nat)} (h1 : StrOk g .ours σ) (h2 : StrOk g .theirs τ) : StrOk (putS g .ours σ) .theirs τ := by
  have hl : (putS g .ours σ).length = g.length := by unfold putS; rw [List.length_zipWith, h1.len, Nat.min_self]
  refine ⟨by rw [hl]; exact h2.len, fun i p o hp ho => ?_⟩
  have hi : i < g.length := by rw [← hl]; exact (List.getElem?_eq_some_iff.mp hp).1
  have hσ : σ[i]? = some (σ.getD i none) := by rw [getD_some (List.getElem?_eq_getElem (by rw [h1.len]; exact hi))]; exact List.getElem?_eq_getElem (by rw [h1.len]; exact hi)
  have e : p = putP .ours (gat g i) (σ.getD i none) := by
    unfold putS at hp
    rw [List.getElem?_zipWith, gat_get hi, hσ] at hp
    exact (Option.some.inj hp).symm
  have h3 := h2.at_ i _ o (gat_get hi) ho
  subst e
  cases q : gat g i with
  | ours ts =>
    rw [q] at h3
    exact ⟨fun z => (nomatch z), fun _ => h3.2 (fun z => (nomatch z))⟩
  | _ => rw [q] at h3; exact h3
def OptO (g : List Pl) (σ : List (Option Nat)) (v : List Rat) : Prop := ∀ i, i < g.length → (gat g i).kd = .ours → ∀ t ∈ (gat g i).tgts, vat v t ≤ vat v (tg g i (so σ i))
def OptT (g : List Pl) (τ : List (Option Nat)) (v : List Rat) : Prop := ∀ i, i < g.length → (gat g i).kd = .theirs → ∀ t ∈ (gat g i).tgts, vat v (tg g i (so τ i)) ≤ vat v t
section
variable {g : List Pl} {w : Nat → Rat} {σ σ' τ τ' : List (Option Nat)} {v v' : List Rat}
theorem tg_mem {i b : Nat} (h : b < (gat g i).tgts.length) : tg g i b ∈ (gat g i).tgts := by
  unfold tg
  rw [List.getD_eq_getElem?_getD, List.getElem?_eq_getElem h]
  exact List.getElem_mem h
/-- one step from a place by numbers -/
def stp (g : List Pl) (σ τ : List (Option Nat)) (x : Nat → Rat) (i : Nat) : Rat := (gat g i).gain + bsum (brP (gat g i) (so σ i) (so τ i)) x
theorem stp_ours {x : Nat → Rat} {i : Nat} (h : (gat g i).kd = .ours) : stp g σ τ x i = x (tg g i (so σ i)) := by
  unfold stp tg
  cases q : gat g i with
  | ours ts =>
    show (0 : Rat) + (1 * x (ts.getD (so σ i) 0) + 0) = x (ts.getD (so σ i) 0)
    grind
  | _ => rw [q] at h; cases h
theorem stp_theirs {x : Nat → Rat} {i : Nat} (h : (gat g i).kd = .theirs) : stp g σ τ x i = x (tg g i (so τ i)) := by
  unfold stp tg
  cases q : gat g i with
  | theirs ts =>
    show (0 : Rat) + (1 * x (ts.getD (so τ i) 0) + 0) = x (ts.getD (so τ i) 0)
    grind
  | _ => rw [q] at h; cases h
theorem stp_else {x : Nat → Rat} {i : Nat} (h : (gat g i).kd ≠ .ours) (h2 : (gat g i).kd ≠ .theirs) : stp g σ τ x i = stp g σ' τ' x i := by
  unfold stp
  cases q : gat g i with
  | ours ts => rw [q] at h; exact absurd rfl h
  | theirs ts => rw [q] at h2; exact absurd rfl h2
  | _ => rfl
structure Pos (g : List Pl) (w : Nat → Rat) (σ τ : List (Option Nat)) : Prop where
  W : WG g w
  s : StrOk g .ours σ
  t : StrOk g .theirs τ
theorem Pos.cn (P : Pos g w σ τ) : Cn (chn g σ τ) w := P.W.cn σ τ P.s P.t
theorem Pos.len (P : Pos g w σ τ) : (chn g σ τ).length = g.length := chn_len P.s.len P.t.len
theorem Pos.ch (P : Pos g w σ τ) : Ch g.length (fun i => cB (chn g σ τ) i) w := by
  have := P.cn.ch
  rw [P.len] at this; exact this
theorem Pos.stp (P : Pos g w σ τ) {x : Nat → Rat} {i : Nat} (hi : i < g.length) : cr (chn g σ τ) i + bsum (cB (chn g σ τ) i) x = stp g σ τ x i := by
  obtain ⟨h1, h2⟩ := chn_br P.s.len P.t.len hi
  rw [h1, h2]; rfl
theorem Pos.sol (P : Pos g w σ τ) (h : SolB (chn g σ τ) v) {i : Nat} (hi : i < g.length) : vat v i = Odd.stp g σ τ (vat v) i := by
  rw [← P.stp hi]
  exact h.sol i (by rw [P.len]; exact hi)
/-- numbers that lose at each step lie above -/
theorem Pos.above (P : Pos g w σ τ) (h : SolB (chn g σ τ) v) {x : Nat → Rat} (hx : ∀ i, i < g.length → Odd.stp g σ τ x i ≤ x i) : ∀ i, i < g.length → vat v i ≤ x i :=
  P.ch.above (r := cr (chn g σ τ)) (fun i hi => by rw [P.stp hi]; exact hx i hi) fun i hi => h.sol i (by rw [P.len]; exact hi)
theorem Pos.below (P : Pos g w σ τ) (h : SolB (chn g σ τ) v) {x : Nat → Rat} (hx : ∀ i, i < g.length → x i ≤ Odd.stp g σ τ x i) : ∀ i, i < g.length → x i ≤ vat v i :=
  P.ch.below (r := cr (chn g σ τ)) (fun i hi => by rw [P.stp hi]; exact hx i hi) fun i hi => h.sol i (by rw [P.len]; exact hi)
theorem sm_lt {n : Nat} {f h : Nat → Rat} (hle : ∀ i, i < n → f i ≤ h i) {k : Nat} (hk : k < n) (hlt : f k < h k) : sm n f < sm n h := by
  induction n with
  | zero => omega
  | succ n ih =>
    show sm n f + f n < sm n h + h n
    have h1 := hle n (by omega)
    by_cases e : k = n
    · subst e
      have h2 : sm k f ≤ sm k h := sm_le fun i hi => hle i (by omega)
      grind
    · have h2 := ih (fun i hi => hle i (by omega)) (by omega)
      grind
/-- their improvement -/
theorem less_T (P : Pos g w σ τ) (P' : Pos g w σ τ') (h : SolB (chn g σ τ) v) (h' : SolB (chn g σ τ') v') (hle : ∀ i, i < g.length → (gat g i).kd = .theirs → vat v (tg g i (so τ' i)) ≤ vat v (tg g i (so τ i)))
    {k : Nat} (hk : k < g.length) (kk : (gat g k).kd = .theirs) (hlt : vat v (tg g k (so τ' k)) < vat v (tg g k (so τ k))) : sm g.length (vat v') < sm g.length (vat v) := by
  have h1 := P'.above h' (x := vat v) fun i hi => by
    rw [P.sol h hi]
    by_cases c : (gat g i).kd = .theirs
    · rw [stp_theirs c, stp_theirs c]; exact hle i hi c
    · by_cases c2 : (gat g i).kd = .ours
      · rw [stp_ours c2, stp_ours c2]; exact Rat.le_refl
      · rw [stp_else (σ' := σ) (τ' := τ) c2 c]; exact Rat.le_refl
  refine sm_lt h1 hk ?_
  rw [P'.sol h' hk, P.sol h hk, stp_theirs kk, stp_theirs kk]
  have hm : tg g k (so τ' k) < g.length := P.W.fw.ok.tg k hk _ (tg_mem ((P'.t.at hk).1 kk).2)
  exact Std.lt_of_le_of_lt (h1 _ hm) hlt
/-- our improvement, against their best answers -/
theorem more_O (P : Pos g w σ τ) (P' : Pos g w σ' τ') (h : SolB (chn g σ τ) v) (h' : SolB (chn g σ' τ') v') (ot : OptT g τ v) (hle : ∀ i, i < g.length → (gat g i).kd = .ours → vat v (tg g i (so σ i)) ≤ vat v (tg g i (so σ' i)))
    {k : Nat} (hk : k < g.length) (kk : (gat g k).kd = .ours) (hlt : vat v (tg g k (so σ k)) < vat v (tg g k (so σ' k))) : sm g.length (vat v) < sm g.length (vat v') := by
  have h1 := P'.below h' (x := vat v) fun i hi => by
    rw [P.sol h hi]
    by_cases c : (gat g i).kd = .theirs
    · rw [stp_theirs c, stp_theirs c]; exact ot i hi c _ (tg_mem ((P'.t.at hi).1 c).2)
    · by_cases c2 : (gat g i).kd = .ours
      · rw [stp_ours c2, stp_ours c2]; exact hle i hi c2
      · rw [stp_else (σ' := σ') (τ' := τ') c2 c]; exact Rat.le_refl
  refine sm_lt h1 hk ?_
  rw [P'.sol h' hk, P.sol h hk, stp_ours kk, stp_ours kk]
  have hm : tg g k (so σ' k) < g.length := P.W.fw.ok.tg k hk _ (tg_mem ((P'.s.at hk).1 kk).2)
  exact Std.lt_of_lt_of_le hlt (h1 _ hm)
/-- best answers on both sides: never more than with another answer, never less -/
theorem low_ok (P : Pos g w σ τ) (P' : Pos g w σ τ') (h : SolB (chn g σ τ) v) (h' : SolB (chn g σ τ') v') (ot : OptT g τ v) : ∀ i, i < g.length → vat v i ≤ vat v' i := P'.below h' (x := vat v) fun i hi => by
  rw [P.sol h hi]
  by_cases c : (gat g i).kd = .theirs
  · rw [stp_theirs c, stp_theirs c]; exact ot i hi c _ (tg_mem ((P'.t.at hi).1 c).2)
  · by_cases c2 : (gat g i).kd = .ours
    · rw [stp_ours c2, stp_ours c2]; exact Rat.le_refl
    · rw [stp_else (σ' := σ) (τ' := τ') c2 c]; exact Rat.le_refl
theorem high_ok (P : Pos g w σ τ) (P' : Pos g w σ' τ) (h : SolB (chn g σ τ) v) (h' : SolB (chn g σ' τ) v') (oo : OptO g σ v) : ∀ i, i < g.length → vat v' i ≤ vat v i := P'.above h' (x := vat v) fun i hi => by
  rw [P.sol h hi]
  by_cases c : (gat g i).kd = .theirs
  · rw [stp_theirs c, stp_theirs c]; exact Rat.le_refl
  · by_cases c2 : (gat g i).kd = .ours
    · rw [stp_ours c2, stp_ours c2]; exact oo i hi c2 _ (tg_mem ((P'.s.at hi).1 c2).2)
    · have e : Odd.stp g σ' τ (vat v) i = Odd.stp g σ τ (vat v) i := stp_else c2 c
      rw [e]; exact Rat.le_refl
theorem vat_ext {n : Nat} (h1 : v.length = n) (h2 : v'.length = n) (h : ∀ i, i < n → vat v i = vat v' i) : v = v' := by
  apply List.ext_getElem (by rw [h1, h2])
  intro i a b
  have := h i (by omega)
  unfold vat at this
  rw [getD_some (List.getElem?_eq_getElem a), getD_some (List.getElem?_eq_getElem b)] at this
  exact this
/-- the stakes are one -/
theorem one_value (P : Pos g w σ τ) (P' : Pos g w σ' τ') (h : SolB (chn g σ τ) v) (h' : SolB (chn g σ' τ') v') (oo : OptO g σ v) (ot : OptT g τ v) (oo' : OptO g σ' v') (ot' : OptT g τ' v') : v = v' := by
  have key : ∀ {σ σ' τ τ' : List (Option Nat)} {v v' : List Rat}, Pos g w σ τ → Pos g w σ' τ' → SolB (chn g σ τ) v → SolB (chn g σ' τ') v' → OptT g τ v → OptO g σ' v' → ∀ i, i < g.length → vat v i ≤ vat v' i := fun {σ σ' τ τ' v v'} P P' h h' ot oo i hi => by
    have Q : Pos g w σ τ' := ⟨P.W, P.s, P'.t⟩
    have := Q.ch.nonneg (d := fun i => vat v' i - vat v i) (fun i hi => by
      rw [bsum_sub]
      have h1 : vat v i ≤ Odd.stp g σ τ' (vat v) i := by
        rw [P.sol h hi]
        by_cases c : (gat g i).kd = .theirs
        · rw [stp_theirs c, stp_theirs c]; exact ot i hi c _ (tg_mem ((P'.t.at hi).1 c).2)
        · by_cases c2 : (gat g i).kd = .ours
          · rw [stp_ours c2, stp_ours c2]; exact Rat.le_refl
          · rw [stp_else (σ' := σ) (τ' := τ') c2 c]; exact Rat.le_refl
      have h2 : Odd.stp g σ τ' (vat v') i ≤ vat v' i := by
        rw [P'.sol h' hi]
        by_cases c : (gat g i).kd = .theirs
        · rw [stp_theirs c, stp_theirs c]; exact Rat.le_refl
        · by_cases c2 : (gat g i).kd = .ours
          · rw [stp_ours c2, stp_ours c2]; exact oo i hi c2 _ (tg_mem ((P.s.at hi).1 c2).2)
          · rw [stp_else (σ' := σ') (τ' := τ') c2 c]; exact Rat.le_refl
      rw [← Q.stp hi] at h1 h2
      grind) i hi
    grind
  refine vat_ext (n := g.length) (by rw [h.len, P.len]) (by rw [h'.len, P'.len]) fun i hi => Rat.le_antisymm (key P P' h h' ot oo' i hi) (key P' P h' h ot' oo i hi)
end

/-! ### measures -/
def stgs : List Pl → Kd → List (List (Option Nat))
  | [], _ => [[]]
  | p :: ps, k => ((if p.kd = k then (List.range p.tgts.length).map some else [none]).map fun o => (stgs ps k).map (o :: ·)).flatten
theorem mem_stgs : ∀ {g : List Pl} {k : Kd} {s : List (Option Nat)}, StrOk g k s → s ∈ stgs g k
  | [], k, s, h => by
    have := h.len
    have : s = [] := List.length_eq_zero_iff.mp this
    subst this; exact List.mem_singleton.mpr rfl
  | p :: ps, k, [], h => by cases h.len
  | p :: ps, k, o :: s, h => by
    have h1 : StrOk ps k s := ⟨by have := h.len; simpa using this, fun i q r hq hr => h.at_ (i + 1) q r (by simpa using hq) (by simpa using hr)⟩
    have h2 := h.at_ 0 p o rfl rfl
    refine List.mem_flatten.mpr ⟨(stgs ps k).map (o :: ·), List.mem_map.mpr ⟨o, ?_, rfl⟩, List.mem_map.mpr ⟨s, mem_stgs h1, rfl⟩⟩
    by_cases c : p.kd = k
    · rw [if_pos c]
      obtain ⟨b, rfl, hb⟩ := h2.1 c
      exact List.mem_map.mpr ⟨b, List.mem_range.mpr hb, rfl⟩
    · rw [if_neg c, h2.2 c]; exact List.mem_singleton.mpr rfl
theorem filter_less {α : Type} {l : List α} {p q : α → Bool} (h : ∀ a, a ∈ l → p a = true → q a = true) {a : α} (ha : a ∈ l) (h1 : q a = true) (h2 : p a = false) : (l.filter p).length < (l.filter q).length := by
  induction l with
  | nil => cases ha
  | cons b l ih =>
    have hle : (l.filter p).length ≤ (l.filter q).length := by
      clear ih ha
      have h' : ∀ a, a ∈ l → p a = true → q a = true := fun a ha => h a (List.mem_cons_of_mem _ ha)
      induction l with
      | nil => exact Nat.le_refl _
      | cons c l ih2 =>
        have h3 := ih2 (fun a ha => h a (by rcases List.mem_cons.mp ha with z | z; exact z ▸ List.mem_cons_self; exact List.mem_cons_of_mem _ (List.mem_cons_of_mem _ z))) fun a ha => h' a (List.mem_cons_of_mem _ ha)
        have h4 := h' c List.mem_cons_self
        cases hp : p c <;> cases hq : q c
        · rw [List.filter_cons_of_neg (by simp [hp]), List.filter_cons_of_neg (by simp [hq])]; exact h3
        · rw [List.filter_cons_of_neg (by simp [hp]), List.filter_cons_of_pos hq, List.length_cons]; omega
        · rw [h4 hp] at hq; cases hq
        · rw [List.filter_cons_of_pos hp, List.filter_cons_of_pos hq, List.length_cons, List.length_cons]; omega
    rcases List.mem_cons.mp ha with z | z
    · subst z
      rw [List.filter_cons_of_neg (by simp [h2]), List.filter_cons_of_pos h1, List.length_cons]; omega
    · have h3 := ih (fun a ha => h a (List.mem_cons_of_mem _ ha)) z
      have h4 := h b List.mem_cons_self
      cases hp : p b <;> cases hq : q b
      · rw [List.filter_cons_of_neg (by simp [hp]), List.filter_cons_of_neg (by simp [hq])]; exact h3
      · rw [List.filter_cons_of_neg (by simp [hp]), List.filter_cons_of_pos hq, List.length_cons]; omega
      · rw [h4 hp] at hq; cases hq
      · rw [List.filter_cons_of_pos hp, List.filter_cons_of_pos hq, List.length_cons, List.length_cons]; omega
/-- the sum of the numbers of a pair -/
def val (g : List Pl) (σ τ : List (Option Nat)) : Rat := sm g.length fun i => gj (chn g σ τ).length (mat (chn g σ τ).length (cB (chn g σ τ)) (cr (chn g σ τ))) i (chn g σ τ).length
theorem val_eq {g : List Pl} {w : Nat → Rat} {σ τ : List (Option Nat)} {v : List Rat} (P : Pos g w σ τ) (h : SolB (chn g σ τ) v) : sm g.length (vat v) = val g σ τ := by
  refine sm_congr fun i hi => ?_
  have C := P.cn
  exact C.ch.only h.sol ((mat_sol C.ch.tg).mp (gj_sol fun t ht z => by
    have := (C.ch.gok C.rs (c := (chn g σ τ).length) (Nat.le_refl _)).piv t ht
    rw [z] at this
    exact Rat.lt_irrefl this)) i (by rw [P.len]; exact hi)
def msT (g : List Pl) (σ : List (Option Nat)) (x : Rat) : Nat := ((stgs g .theirs).filter fun τ => decide (val g σ τ < x)).length
def prs (g : List Pl) : List (List (Option Nat) × List (Option Nat)) := ((stgs g .ours).map fun σ => (stgs g .theirs).map fun τ => (σ, τ)).flatten
theorem mem_prs {g : List Pl} {σ τ : List (Option Nat)} (h1 : StrOk g .ours σ) (h2 : StrOk g .theirs τ) : (σ, τ) ∈ prs g :=
  List.mem_flatten.mpr ⟨_, List.mem_map.mpr ⟨σ, mem_stgs h1, rfl⟩, List.mem_map.mpr ⟨τ, mem_stgs h2, rfl⟩⟩
def msO (g : List Pl) (x : Rat) : Nat := ((prs g).filter fun p => decide (x < val g p.1 p.2)).length
theorem msT_less {g : List Pl} {σ τ' : List (Option Nat)} {x : Rat} (h : StrOk g .theirs τ') (hx : val g σ τ' < x) : msT g σ (val g σ τ') < msT g σ x :=
  filter_less (fun a _ h1 => decide_eq_true (Std.lt_trans (of_decide_eq_true h1) hx)) (mem_stgs h) (decide_eq_true hx) (decide_eq_false Rat.lt_irrefl)
theorem msO_less {g : List Pl} {σ' τ' : List (Option Nat)} {x : Rat} (h1 : StrOk g .ours σ') (h2 : StrOk g .theirs τ') (hx : x < val g σ' τ') : msO g (val g σ' τ') < msO g x :=
  filter_less (fun a _ h1 => decide_eq_true (Std.lt_trans hx (of_decide_eq_true h1))) (mem_prs h1 h2) (decide_eq_true hx) (decide_eq_false Rat.lt_irrefl)
end Odd
set_option Elab.async false
set_option linter.all false
set_option maxRecDepth 100000
set_option maxHeartbeats 8000000
set_option exponentiation.threshold 1000000
namespace Odd
open PySem L2
def bt (k : Kd) (x y : Rat) : Prop := if k = .ours then x ≤ y else y ≤ x
/-- an improvement at one place -/
def ImpAt (g : List Pl) (k : Kd) (s : List (Option Nat)) (v : List Rat) (i : Nat) (o : Option Nat) : Prop :=
  ((gat g i).kd = k → ∃ b, o = some b ∧ b < (gat g i).tgts.length ∧ (∀ t ∈ (gat g i).tgts, bt k (vat v t) (vat v (tg g i b))) ∧ (vat v (tg g i (so s i)) = vat v (tg g i b) → b = so s i)) ∧ ((gat g i).kd ≠ k → o = none)
structure Impr (g : List Pl) (k : Kd) (s : List (Option Nat)) (v : List Rat) (s' : List (Option Nat)) : Prop where
  len : s'.length = g.length
  at_ : ∀ i o, i < g.length → s'[i]? = some o → ImpAt g k s v i o
theorem Impr.ok {g : List Pl} {k : Kd} {s s' : List (Option Nat)} {v : List Rat} (h : Impr g k s v s') : StrOk g k s' := by
  refine ⟨h.len, fun i p o hp ho => ?_⟩
  have hi := (List.getElem?_eq_some_iff.mp hp).1
  have := h.at_ i o hi ho
  rw [← gat_some hp]
  exact ⟨fun e => by obtain ⟨b, h1, h2, _⟩ := this.1 e; exact ⟨b, h1, h2⟩, this.2⟩
theorem Impr.so {g : List Pl} {k : Kd} {s s' : List (Option Nat)} {v : List Rat} (h : Impr g k s v s') {i : Nat} (hi : i < g.length) (e : (gat g i).kd = k) :
    so s' i < (gat g i).tgts.length ∧ (∀ t ∈ (gat g i).tgts, bt k (vat v t) (vat v (tg g i (so s' i)))) ∧ (vat v (tg g i (Odd.so s i)) = vat v (tg g i (Odd.so s' i)) → Odd.so s' i = Odd.so s i) := by
  have h1 := ((h.ok.at hi).1 e).1
  obtain ⟨b, h2, h3, h4, h5⟩ := (h.at_ i _ hi h1).1 e
  have := Option.some.inj h2
  rw [this]; exact ⟨h3, h4, h5⟩
theorem Impr.diff {g : List Pl} {k : Kd} {s s' : List (Option Nat)} {v : List Rat} (h : Impr g k s v s') (hs : StrOk g k s) (hne : s' ≠ s) : ∃ i, i < g.length ∧ (gat g i).kd = k ∧ vat v (tg g i (Odd.so s i)) ≠ vat v (tg g i (Odd.so s' i)) := by
  refine Classical.byContradiction fun hn => hne ?_
  apply List.ext_getElem?
  intro i
  by_cases hi : i < g.length
  · have h1 := h.ok.at hi
    have h2 := hs.at hi
    by_cases c : (gat g i).kd = k
    · rw [(h1.1 c).1, (h2.1 c).1]
      have h3 : vat v (tg g i (Odd.so s i)) = vat v (tg g i (Odd.so s' i)) := Classical.byContradiction fun z => hn ⟨i, hi, c, z⟩
      rw [(h.so hi c).2.2 h3]
    · rw [h1.2 c, h2.2 c]
  · rw [List.getElem?_eq_none (by rw [h.len]; omega), List.getElem?_eq_none (by rw [hs.len]; omega)]
def A_improved_by (ss : List SV) (P : SV → Prop) : Prop := ∃ (g : List Pl) (k : Kd) (s : List (Option Nat)) (v : List Rat), ss = [.d (dG g), .d (.str k.str), .d (dS s), .d (dNL v)] ∧ (k = .ours ∨ k = .theirs) ∧ GOk g ∧ StrOk g k s ∧ v.length = g.length ∧ (∀ q ∈ v, Bd q) ∧
  ∀ s', Impr g k s v s' → P (.mu (s'.map dO))
def A_answer_to (ss : List SV) (P : SV → Prop) : Prop := ∃ (g : List Pl) (σ : List (Option Nat)) (w : Nat → Rat), ss = [.d (dG g), .d (dS σ)] ∧ WG g w ∧ StrOk g .ours σ ∧
  ∀ v τ, StrOk g .theirs τ → SolB (chn g σ τ) v → OptT g τ v → P (.mt [v.map dN, τ.map dO])
def A_stakes_paper (ss : List SV) (P : SV → Prop) : Prop := ∃ (g : List Pl) (w : Nat → Rat), ss = [.d (dG g)] ∧ WG g w ∧
  ∀ v σ τ, StrOk g .ours σ → StrOk g .theirs τ → SolB (chn g σ τ) v → OptO g σ v → OptT g τ v → P (.mt [v.map dN, σ.map dO, τ.map dO])
def A_stakes (ss : List SV) (P : SV → Prop) : Prop := ∃ (g : List Pl) (w : Nat → Rat), ss = [.d (dG g)] ∧ WG g w ∧
  ∀ v σ τ, StrOk g .ours σ → StrOk g .theirs τ → SolB (chn g σ τ) v → OptO g σ v → OptT g τ v → P (.mu (v.map dN))
theorem lf_dN (q : Rat) : LF (dN q) := .tup fun d hd => by
  rcases List.mem_cons.mp hd with z | z
  · rw [z]; exact .int _
  · rw [List.mem_singleton.mp z]; exact .int _
theorem lf_dO (o : Option Nat) : LF (dO o) := by
  cases o with
  | none => exact .none
  | some n => exact .int _
theorem lf_NL (v : List Rat) : ∀ d, d ∈ v.map dN → LF d := fun d hd => by
  obtain ⟨q, _, rfl⟩ := List.mem_map.mp hd
  exact lf_dN q
theorem lf_S (s : List (Option Nat)) : ∀ d, d ∈ s.map dO → LF d := fun d hd => by
  obtain ⟨q, _, rfl⟩ := List.mem_map.mp hd
  exact lf_dO q
theorem vat_get {v : List Rat} {i : Nat} (h : i < v.length) : v[i]? = some (vat v i) := by
  unfold vat
  rw [getD_some (List.getElem?_eq_getElem h)]
  exact List.getElem?_eq_getElem h
theorem first_ok {g : List Pl} {k : Kd} (h : ∀ i, i < g.length → (gat g i).kd = k → (gat g i).tgts ≠ []) : StrOk g k (g.map fun p => if p.kd = k then some 0 else none) := by
  refine ⟨by rw [List.length_map], fun i p o hp ho => ?_⟩
  rw [List.getElem?_map, hp] at ho
  cases ho
  refine ⟨fun e => ⟨0, if_pos e, ?_⟩, fun e => if_neg e⟩
  have h1 := h i (List.getElem?_eq_some_iff.mp hp).1
  rw [gat_some hp] at h1
  exact List.length_pos_iff.mpr (h1 e)
theorem len_improved_by {ss : List SV} {P : SV → Prop} (h : A_improved_by ss P) : ss.length = 4 := by obtain ⟨_, _, _, _, rfl, _⟩ := h; rfl
theorem len_answer_to {ss : List SV} {P : SV → Prop} (h : A_answer_to ss P) : ss.length = 2 := by obtain ⟨_, _, _, rfl, _⟩ := h; rfl
theorem len_stakes_paper {ss : List SV} {P : SV → Prop} (h : A_stakes_paper ss P) : ss.length = 1 := by obtain ⟨_, _, rfl, _⟩ := h; rfl
theorem len_stakes {ss : List SV} {P : SV → Prop} (h : A_stakes ss P) : ss.length = 1 := by obtain ⟨_, _, rfl, _⟩ := h; rfl
section
variable {P : Program} {w : World} {K : PySem.W.Frag} {mg : Str → Option Value} {base : Heap}
theorem sc_improved_by : FnScope ["game", "side", "strategy", "numbers", "found", "place", "here", "behind", "best", "target"] ["game", "side", "strategy", "numbers"] (defScope (top 40)) := ⟨rfl, rfl, rfl, by decide +kernel, rfl, by decide +kernel, by decide +kernel⟩
theorem d_improved_by (T : Txt K mg) (S : Stands K mg "improved_by" 40 ["game", "side", "strategy", "numbers"]) (D_greatest : DefOk P w K mg base "greatest" ["numbers"] 2 (SpR (.pure K) A_greatest)) (D_least : DefOk P w K mg base "least" ["numbers"] 2 (SpR (.pure K) A_least)) : DefOk P w K mg base "improved_by" ["game", "side", "strategy", "numbers"] 3 (SpR (.pure K) A_improved_by) := by
  refine def_pure S sc_improved_by (fun ss P h => len_improved_by h) (by decide) fun f cdv B outer s H E hr hcd => ?_
  have nd := sc_improved_by.nd
  refine ⟨_, (pss_cons (ps_set (i := 4) nd rfl (.inl rfl) (pe_callTy call_list_of (by rfl) T.list (by decide +kernel) (pa_cons (pv 2) pa_nil)))
    (pss_cons (ps_for PassesOwn.never rfl (pi_enum (by rfl) T.enumerate (pa_cons (pv 0) pa_nil)) (pg_tup rfl (pgs_cons (pg_name (i := 5) nd rfl (.inl rfl)) (pgs_cons (pg_name (i := 6) nd rfl (.inl rfl)) pgs_nil))) (pss_one (ps_if (pt_cmpR (op_eqD hr.units) (pe_ix ix_tup (pv 6) pe_int (fun _ _ => rfl)) (pv 1) (nomark _)) (pss_cons (ps_setLc (i := 7) (own := [("target", 9)]) rfl nd rfl rfl (sw_true rfl rfl rfl (by decide +kernel)) (pi_list (pe_ix ix_tup (pv 6) pe_int (fun _ _ => rfl))) (blkOk_by (N := ["game", "side", "strategy", "numbers", "found", "place", "here", "behind", "best", "target"]) (sc := defScope (top 40)) (by decide +kernel)) (fun _ _ _ _ _ => (pg_name (i := 9) nd rfl (.inl rfl) (.inr (by rfl)))) (fun _ _ _ _ _ => pts_nil) (fun _ _ _ _ _ => (pe_ix (ixL_K (K := K) rfl) (pv 3) (pv 9) (fun _ _ => rfl))))
    (pss_cons (ps_set (i := 8) nd rfl (.inl rfl) (pe_ifExp (pt_cmpR (op_eqD hr.units) (pv 1) pe_str (nomark _)) (pe_def D_greatest (hr.mono (by decide)) (by rfl) (pa_cons (pv 7) pa_nil)) (pe_def D_least (hr.mono (by decide)) (by rfl) (pa_cons (pv 7) pa_nil))))
    (pss_one (ps_if (pt_cmpR (op_neD hr.units) (pe_ix ix_list (pv 7) (pe_ix ix_list (pv 2) (pv 5) (fun _ _ => rfl)) (fun _ _ => rfl)) (pv 8) (nomark _)) (pss_one (ps_asg (pe_bm PySem.F.plainAttrs_list PySem.F.slot_list_index PySem.F.type_list_index (mt_indexD (hu65 hr)) (pv 7) (pa_cons (pv 8) pa_nil)) (pg_sub (pv 4) (pv 5) set_list))) pss_nil)))) pss_nil)))
    (pss_one (ps_ret (pv 4))))), fun ss P E h => ?_⟩
  obtain ⟨g, k, s, v, rfl, hk, G, hs, hv, hb, hP⟩ := h
  have hm := G.most
  refine sg_seq (sg_asgM (ds := s.map dO) (ev_listL (ev_var (x := dS s))) ?_)
  refine sg_seq (sg_for (ds := enumD (g.map dP)) (it_enum ev_var) (fun i Γ => ∃ (f : List (Option Nat)) (a b c d e : SV), Γ = [.d (dG g), .d (.str k.str), .d (dS s), .d (dNL v), .mu (f.map dO), a, b, c, d, e] ∧ f.length = g.length ∧ (∀ j, i ≤ j → f[j]? = s[j]?) ∧ ∀ j o, j < i → f[j]? = some o → ImpAt g k s v j o)
    ⟨s, _, _, _, _, _, rfl, hs.len, fun _ _ => rfl, fun j o h => absurd h (Nat.not_lt_zero _)⟩ (fun i x Γ1 hx iv => ?_) (fun Γ1 iv => ?_))
  · obtain ⟨f, a, b, c, d, e, rfl, hf, hsame, hdone⟩ := iv
    obtain ⟨y, hy, rfl⟩ := enum_get hx
    obtain ⟨p, hp, rfl⟩ := get_map hy
    have hi : i < g.length := (List.getElem?_eq_some_iff.mp hp).1
    have ep : gat g i = p := gat_some hp
    refine ⟨_, _, tg_tup (tgs_cons tg_name (tgs_cons tg_name tgs_nil)), ?_⟩
    refine sg_if (ev_kpv (b := k) ev_var ev_var) (fun q => ?_) (fun q => ?_)
    · have q' : p.kd = k := of_decide_eq_true q.symm
      have tl : ∀ t ∈ p.tgts, t < g.length := by rw [← ep]; exact G.tg i hi
      obtain ⟨hsi, hsb⟩ := (hs.at hi).1 (by rw [ep]; exact q')
      rw [ep] at hsb
      have hlen := G.len i
      rw [ep] at hlen
      refine sg_seq (sg_asg (x := dNL (p.tgts.map (vat v))) (EvM.d (ev_lcI (ds := p.tgts.map dI) (it_list (ev_p1s ev_var (q' ▸ hk))) (by rw [List.length_map]; exact hlen) (by simp) fun j x y hx hy => ?_)) ?_)
      · obtain ⟨t, ht, rfl⟩ := get_map hx
        rw [List.map_map, List.getElem?_map, ht] at hy
        cases hy
        exact ⟨_, _, tg_name, by simp, ev_nat ev_var ev_vi (vat_get (by rw [hv]; exact tl t (List.mem_of_getElem? ht)))⟩
      have hb2 : ∀ q ∈ p.tgts.map (vat v), Bd q := fun q hq => by
        obtain ⟨t, ht, rfl⟩ := List.mem_map.mp hq
        exact hb _ (List.mem_of_getElem? (vat_get (by rw [hv]; exact tl t ht)))
      have hne : p.tgts.map (vat v) ≠ [] := fun z => by
        have := congrArg List.length z
        rw [List.length_map] at this
        simp at this
        rw [this] at hsb
        exact absurd hsb (Nat.not_lt_zero _)
      refine sg_seq (sg_asgP (P := fun r => ∃ q, r = .d (dN q) ∧ q ∈ p.tgts.map (vat v) ∧ ∀ x ∈ p.tgts.map (vat v), bt k x q) (ev_if (b := decide (k = .ours)) (et_test ((ev_eqD ev_var (ev_cs (z := Kd.ours.str)) (kd_shp k) (kd_shp .ours)).is (by rw [eqv_kd]))) (fun z => ?_) (fun z => ?_)) fun r hr => ?_)
      · have z' : k = .ours := of_decide_eq_true z
        refine ev_call (ea_cons ev_var ea_nil) ⟨_, rfl, hne, hb2, fun q hq hle => ⟨q, rfl, hq, fun x hx => ?_⟩⟩
        unfold bt; rw [if_pos z']; exact hle x hx
      · have z' : ¬ k = .ours := of_decide_eq_false z
        refine ev_call (ea_cons ev_var ea_nil) ⟨_, rfl, hne, hb2, fun q hq hle => ⟨q, rfl, hq, fun x hx => ?_⟩⟩
        unfold bt; rw [if_neg z']; exact hle x hx
      obtain ⟨bq, rfl, hbq, hbest⟩ := hr
      refine ⟨_, rfl, ?_⟩
      have hst : ∀ {Γ : List SV} {ta tb : TE}, EvD (.pure K) E ta Γ (dS s) → EvD (.pure K) E tb Γ (.int i) → EvD (.pure K) E (tOp (rIxL K) ta tb) Γ (.int (so s i : Nat)) := fun h1 h2 => (ev_sat h1 h2 hsi).is rfl
      have cur : vat v (tg g i (so s i)) = vat v (p.tgts.getD (so s i) 0) := by unfold tg; rw [ep]
      have fin : ∀ b : Nat, b < p.tgts.length → vat v (p.tgts.getD b 0) = bq → (vat v (p.tgts.getD (so s i) 0) = bq → b = so s i) → ImpAt g k s v i (some b) := fun b hbl hbe hbs => by
        refine ⟨fun _ => ⟨b, rfl, by rw [ep]; exact hbl, fun t ht => ?_, fun z => ?_⟩, fun z => absurd (by rw [ep]; exact q') z⟩
        · have : vat v (tg g i b) = bq := by unfold tg; rw [ep]; exact hbe
          rw [this]
          rw [ep] at ht
          exact hbest _ (List.mem_map.mpr ⟨t, ht, rfl⟩)
        · have : vat v (tg g i b) = bq := by unfold tg; rw [ep]; exact hbe
          rw [this, cur] at z
          exact hbs z
      have hfi : i < f.length := by rw [hf]; exact hi
      refine sg_if (Pb := fun r => r = !decide (vat v (p.tgts.getD (so s i) 0) = bq)) (et_test ((ev_neD (ev_nat (q := vat v (p.tgts.getD (so s i) 0)) ev_var (hst ev_var ev_vi) ?_) ev_var (dN_shp _) (dN_shp _)).is (by rw [dN_eqv]))) (fun z => ?_) (fun z => ?_)
      · rw [List.getElem?_map, List.getElem?_eq_getElem hsb, getD_some (List.getElem?_eq_getElem hsb)]; rfl
      · have hjl : (p.tgts.map (vat v)).idxOf bq < (p.tgts.map (vat v)).length := List.idxOf_lt_length_iff.mpr hbq
        have hjg : (p.tgts.map (vat v))[(p.tgts.map (vat v)).idxOf bq]? = some bq := by rw [List.getElem?_eq_getElem hjl, List.getElem_idxOf]
        refine sg_setL (m := 4) (j := i) (x := dO (some ((p.tgts.map (vat v)).idxOf bq))) rfl (ev_indexD (ds := (p.tgts.map (vat v)).map dN) (d := dN bq) ev_var ev_var (dNL_shp _) (dN_shp _) (z := dN bq) (by rw [List.getElem?_map, hjg]; rfl) (by rw [dN_eqv]; simp) fun m z' hm' hz' => ?_) ev_vi (by rw [List.length_map]; exact hfi) ?_
        · obtain ⟨u, hu, rfl⟩ := get_map hz'
          have h3 := List.not_of_lt_findIdx (p := (· == bq)) (xs := p.tgts.map (vat v)) (i := m) hm'
          rw [dN_eqv, decide_eq_false]
          intro e
          have h4 := (List.getElem?_eq_some_iff.mp hu).2
          rw [h4, e] at h3
          simp at h3
        · have hlt : (p.tgts.map (vat v)).idxOf bq < p.tgts.length := by rw [List.length_map] at hjl; exact hjl
          refine ⟨f.set i (some ((p.tgts.map (vat v)).idxOf bq)), _, _, _, _, _, by rw [List.map_set]; rfl, by rw [List.length_set]; exact hf, fun j hj => ?_, fun j o hj ho => ?_⟩
          · rw [List.getElem?_set_ne (by omega)]; exact hsame j (by omega)
          · by_cases e : i = j
            · subst e
              rw [List.getElem?_set_self hfi] at ho
              cases ho
              refine fin _ hlt ?_ fun z2 => ?_
              · rw [List.getElem?_map, List.getElem?_eq_getElem hlt] at hjg
                rw [getD_some (List.getElem?_eq_getElem hlt)]
                exact Option.some.inj hjg
              · rw [decide_eq_true z2] at z; cases z
            · rw [List.getElem?_set_ne e] at ho
              exact hdone j o (by omega) ho
      · have z' : vat v (p.tgts.getD (so s i) 0) = bq := by simpa using z.symm
        refine sg_next ⟨f, _, _, _, _, _, rfl, hf, fun j hj => hsame j (by omega), fun j o hj ho => ?_⟩
        by_cases e : i = j
        · subst e
          rw [hsame i (Nat.le_refl _), hsi] at ho
          cases ho
          exact fin _ hsb z' fun _ => rfl
        · exact hdone j o (by omega) ho
    · have q' : ¬ p.kd = k := of_decide_eq_false q.symm
      refine sg_next ⟨f, _, _, _, _, _, rfl, hf, fun j hj => hsame j (by omega), fun j o hj ho => ?_⟩
      by_cases e : i = j
      · subst e
        rw [hsame i (Nat.le_refl _), (hs.at hi).2 (by rw [ep]; exact q')] at ho
        cases ho
        exact ⟨fun z => absurd (by rw [← ep]; exact z) q', fun _ => rfl⟩
      · exact hdone j o (by omega) ho
  · obtain ⟨f, a, b, c, d, e, rfl, hf, hsame, hdone⟩ := iv
    refine sg_retM (m := 4) rfl (hP f ⟨hf, fun i o hi ho => hdone i o ?_ ho⟩)
    rw [enum_len, List.length_map]; exact hi
theorem sc_answer_to : FnScope ["game", "ours", "theirs", "numbers", "better"] ["game", "ours"] (defScope (top 41)) := ⟨rfl, rfl, rfl, by decide +kernel, rfl, by decide +kernel, by decide +kernel⟩
theorem d_answer_to (T : Txt K mg) (S : Stands K mg "answer_to" 41 ["game", "ours"]) (D_first_strategy : DefOk P w K mg base "first_strategy" ["game", "side"] 1 (SpR (.pure K) A_first_strategy)) (D_followed : DefOk P w K mg base "followed" ["game", "ours", "theirs"] 42 (SpR (.pure K) A_followed)) (D_improved_by : DefOk P w K mg base "improved_by" ["game", "side", "strategy", "numbers"] 3 (SpR (.pure K) A_improved_by)) : DefOk P w K mg base "answer_to" ["game", "ours"] 43 (SpR (.pure K) A_answer_to) := by
  refine def_pure S sc_answer_to (fun ss P h => len_answer_to h) (by decide) fun f cdv B outer s H E hr hcd => ?_
  have nd := sc_answer_to.nd
  refine ⟨_, (pss_cons (ps_set (i := 2) nd rfl (.inl rfl) (pe_def D_first_strategy (hr.mono (by decide)) (by rfl) (pa_cons (pv 0) (pa_cons pe_str pa_nil))))
    (pss_cons (ps_set (i := 3) nd rfl (.inl rfl) (pe_def D_followed (hr.mono (by decide)) (by rfl) (pa_cons (pv 0) (pa_cons (pv 1) (pa_cons (pv 2) pa_nil)))))
    (pss_cons (ps_set (i := 4) nd rfl (.inl rfl) (pe_def D_improved_by (hr.mono (by decide)) (by rfl) (pa_cons (pv 0) (pa_cons pe_str (pa_cons (pv 2) (pa_cons (pv 3) pa_nil))))))
    (pss_cons (ps_while PassesOwn.never (pt_cmpR (op_neD hr.units) (pv 4) (pv 2) (nomark _)) (pss_cons (ps_set (i := 2) nd rfl (.inl rfl) (pv 4))
    (pss_cons (ps_set (i := 3) nd rfl (.inl rfl) (pe_def D_followed (hr.mono (by decide)) (by rfl) (pa_cons (pv 0) (pa_cons (pv 1) (pa_cons (pv 2) pa_nil)))))
    (pss_one (ps_set (i := 4) nd rfl (.inl rfl) (pe_def D_improved_by (hr.mono (by decide)) (by rfl) (pa_cons (pv 0) (pa_cons pe_str (pa_cons (pv 2) (pa_cons (pv 3) pa_nil))))))))))
    (pss_one (ps_ret (pe_tup (pa_cons (pv 3) (pa_cons (pv 2) pa_nil))))))))), fun ss P E h => ?_⟩
  obtain ⟨g, σ, w0, rfl, W, hσ, hP⟩ := h
  have G := W.fw.ok
  have hm := W.most
  have foll : ∀ (Γ : List SV) (τ : List (Option Nat)), Γ[0]? = some (.d (dG g)) → Γ[1]? = some (.d (dS σ)) → Γ[2]? = some (.mu (τ.map dO)) → StrOk g .theirs τ →
      EvP (.pure K) E (tCall (SpR (.pure K) A_followed) [] E0 (tCons (tVar 0) (tCons (tVar 1) (tCons (tVar 2) tNil)))) Γ fun r => ∃ v, r = .mu (v.map dN) ∧ SolB (chn g σ τ) v := fun Γ τ h0 h1 h2 ht => by
    have hl : 2 < Γ.length := (List.getElem?_eq_some_iff.mp h2).1
    refine ev_tmp (m := 2) h2 (ev_call (ea_cons (ev_var (x := dG g) (by rw [List.getElem?_set_ne (by decide)]; exact h0)) (ea_cons (ev_var (x := dS σ) (by rw [List.getElem?_set_ne (by decide)]; exact h1)) (ea_cons (ev_var (x := dS τ) (by rw [List.getElem?_set_self hl]; rfl)) ea_nil))) ⟨g, σ, τ, w0, rfl, hσ, hσ.put ht, W.cn σ τ hσ ht, fun v hv => ⟨v, rfl, hv⟩⟩) ?_
    rintro r ⟨v, rfl, _⟩
    exact lf_NL v
  have impr : ∀ (Γ : List SV) (τ : List (Option Nat)) (v : List Rat), Γ[0]? = some (.d (dG g)) → Γ[2]? = some (.mu (τ.map dO)) → Γ[3]? = some (.mu (v.map dN)) → StrOk g .theirs τ → SolB (chn g σ τ) v →
      EvP (.pure K) E (tCall (SpR (.pure K) A_improved_by) [] E0 (tCons (tVar 0) (tCons (tC (.str Kd.theirs.str)) (tCons (tVar 2) (tCons (tVar 3) tNil))))) Γ fun r => ∃ τ', r = .mu (τ'.map dO) ∧ Impr g .theirs τ v τ' := fun Γ τ v h0 h2 h3 ht hv => by
    have hl : 2 < Γ.length := (List.getElem?_eq_some_iff.mp h2).1
    have hl3 : 3 < Γ.length := (List.getElem?_eq_some_iff.mp h3).1
    have P : Pos g w0 σ τ := ⟨W, hσ, ht⟩
    refine ev_tmp (m := 2) h2 (ev_tmp (m := 3) (by rw [List.getElem?_set_ne (by decide)]; exact h3) (ev_call (ea_cons (ev_var (x := dG g) (by rw [List.getElem?_set_ne (by decide), List.getElem?_set_ne (by decide)]; exact h0)) (ea_cons (ev_cs (z := Kd.theirs.str)) (ea_cons (ev_var (x := dS τ) (by rw [List.getElem?_set_ne (by decide), List.getElem?_set_self hl]; rfl)) (ea_cons (ev_var (x := dNL v) (by rw [List.getElem?_set_self (by rw [List.length_set]; exact hl3)]; rfl)) ea_nil))))
      ⟨g, .theirs, τ, v, rfl, .inr rfl, G, ht, by rw [hv.len, P.len], fun q hq => (hv.bt q hq).bd (by decide), fun s' hs' => ⟨s', rfl, hs'⟩⟩) ?_) ?_
    · rintro r ⟨s', rfl, _⟩
      exact lf_S s'
    · rintro r ⟨s', rfl, _⟩
      exact lf_S s'
  have f0 : StrOk g .theirs (g.map fun p => if p.kd = .theirs then some 0 else none) := first_ok fun i hi e => W.ne i hi (.inr e)
  refine sg_seq (sg_asgM (ds := (g.map fun p => if p.kd = .theirs then some 0 else none).map dO) (ev_call (ea_cons ev_var (ea_cons (ev_cs (z := Kd.theirs.str)) ea_nil)) ⟨g, .theirs, rfl, by omega, rfl⟩) ?_)
  refine sg_seq (sg_asgMP (foll _ _ rfl rfl rfl f0) fun r hr => ?_)
  obtain ⟨v0, rfl, hv0⟩ := hr
  refine ⟨_, rfl, sg_seq (sg_asgMP (impr _ _ v0 rfl rfl rfl f0 hv0) fun r hr => ?_)⟩
  obtain ⟨τ0, rfl, hi0⟩ := hr
  refine ⟨_, rfl, sg_seq (sg_while (fun m Γ => ∃ (τ : List (Option Nat)) (v : List Rat) (τ' : List (Option Nat)), Γ = [.d (dG g), .d (dS σ), .mu (τ.map dO), .mu (v.map dN), .mu (τ'.map dO)] ∧ StrOk g .theirs τ ∧ SolB (chn g σ τ) v ∧ Impr g .theirs τ v τ' ∧ m = msT g σ (val g σ τ)) _ ⟨_, v0, τ0, rfl, f0, hv0, hi0, rfl⟩ fun m Γ1 iv => ?_)⟩
  obtain ⟨τ, v, τ', rfl, ht, hv, him, rfl⟩ := iv
  have Po : Pos g w0 σ τ := ⟨W, hσ, ht⟩
  refine ⟨!decide (τ' = τ), et_tmp (m := 4) rfl (et_tmp (m := 2) rfl (et_test ((ev_neD (ev_var (x := dS τ')) (ev_var (x := dS τ)) (dS_shp _) (dS_shp _)).is (by rw [dS_eqv])))), fun z => ?_, fun z => ?_⟩
  · have hne : τ' ≠ τ := by simpa using z
    obtain ⟨k, hk, kk, hk2⟩ := him.diff ht hne
    have ht' := him.ok
    have Po' : Pos g w0 σ τ' := ⟨W, hσ, ht'⟩
    have hle : ∀ i, i < g.length → (gat g i).kd = .theirs → vat v (tg g i (so τ' i)) ≤ vat v (tg g i (so τ i)) := fun i hi e => by
      have := (him.so hi e).2.1 _ (tg_mem ((ht.at hi).1 e).2)
      unfold bt at this
      rw [if_neg (fun z => nomatch z)] at this
      exact this
    have hlt := Std.lt_of_le_of_ne (hle k hk kk) (Ne.symm hk2)
    refine sg_seq (sg_move (i := 2) (j := 4) rfl ?_)
    refine sg_seq (sg_asgMP (foll _ τ' rfl rfl rfl ht') fun r hr => ?_)
    obtain ⟨v1, rfl, hv1⟩ := hr
    refine ⟨_, rfl, sg_asgMP (impr _ τ' v1 rfl rfl rfl ht' hv1) fun r hr => ?_⟩
    obtain ⟨τ2, rfl, hi2⟩ := hr
    refine ⟨_, rfl, _, ?_, τ', v1, τ2, rfl, ht', hv1, hi2, rfl⟩
    have h1 := less_T Po Po' hv hv1 hle hk kk hlt
    rw [val_eq Po hv, val_eq Po' hv1] at h1
    exact msT_less ht' h1
  · have he : τ' = τ := by simpa using z
    subst he
    refine sg_retMT2 (m1 := 3) (m2 := 2) rfl rfl (by decide) (hP v τ' ht hv fun i hi e t ht2 => ?_)
    have := (him.so hi e).2.1 t ht2
    unfold bt at this
    rw [if_neg (fun z => nomatch z)] at this
    exact this
theorem sc_stakes_paper : FnScope ["game", "ours", "numbers", "theirs", "better"] ["game"] (defScope (top 42)) := ⟨rfl, rfl, rfl, by decide +kernel, rfl, by decide +kernel, by decide +kernel⟩
theorem d_stakes_paper (T : Txt K mg) (S : Stands K mg "stakes_paper" 42 ["game"]) (D_check_ending : DefOk P w K mg base "check_ending" ["game"] 3 (SpR (.pure K) A_check_ending)) (D_first_strategy : DefOk P w K mg base "first_strategy" ["game", "side"] 1 (SpR (.pure K) A_first_strategy)) (D_answer_to : DefOk P w K mg base "answer_to" ["game", "ours"] 43 (SpR (.pure K) A_answer_to)) (D_improved_by : DefOk P w K mg base "improved_by" ["game", "side", "strategy", "numbers"] 3 (SpR (.pure K) A_improved_by)) : DefOk P w K mg base "stakes_paper" ["game"] 44 (SpR (.pure K) A_stakes_paper) := by
  refine def_pure S sc_stakes_paper (fun ss P h => len_stakes_paper h) (by decide) fun f cdv B outer s H E hr hcd => ?_
  have nd := sc_stakes_paper.nd
  refine ⟨_, (pss_cons (ps_expr (pe_def D_check_ending (hr.mono (by decide)) (by rfl) (pa_cons (pv 0) pa_nil)))
    (pss_cons (ps_set (i := 1) nd rfl (.inl rfl) (pe_def D_first_strategy (hr.mono (by decide)) (by rfl) (pa_cons (pv 0) (pa_cons pe_str pa_nil))))
    (pss_cons (ps_asg (pe_def D_answer_to (hr.mono (by decide)) (by rfl) (pa_cons (pv 0) (pa_cons (pv 1) pa_nil))) (pg_tup rfl (pgs_cons (pg_name (i := 2) nd rfl (.inl rfl)) (pgs_cons (pg_name (i := 3) nd rfl (.inl rfl)) pgs_nil))))
    (pss_cons (ps_set (i := 4) nd rfl (.inl rfl) (pe_def D_improved_by (hr.mono (by decide)) (by rfl) (pa_cons (pv 0) (pa_cons pe_str (pa_cons (pv 1) (pa_cons (pv 2) pa_nil))))))
    (pss_cons (ps_while PassesOwn.never (pt_cmpR (op_neD hr.units) (pv 4) (pv 1) (nomark _)) (pss_cons (ps_set (i := 1) nd rfl (.inl rfl) (pv 4))
    (pss_cons (ps_asg (pe_def D_answer_to (hr.mono (by decide)) (by rfl) (pa_cons (pv 0) (pa_cons (pv 1) pa_nil))) (pg_tup rfl (pgs_cons (pg_name (i := 2) nd rfl (.inl rfl)) (pgs_cons (pg_name (i := 3) nd rfl (.inl rfl)) pgs_nil))))
    (pss_one (ps_set (i := 4) nd rfl (.inl rfl) (pe_def D_improved_by (hr.mono (by decide)) (by rfl) (pa_cons (pv 0) (pa_cons pe_str (pa_cons (pv 1) (pa_cons (pv 2) pa_nil))))))))))
    (pss_one (ps_ret (pe_tup (pa_cons (pv 2) (pa_cons (pv 1) (pa_cons (pv 3) pa_nil))))))))))), fun ss P E h => ?_⟩
  obtain ⟨g, w0, rfl, W, hP⟩ := h
  have G := W.fw.ok
  have hm := W.most
  have answ : ∀ (Γ : List SV) (σ : List (Option Nat)), Γ[0]? = some (.d (dG g)) → Γ[1]? = some (.mu (σ.map dO)) → StrOk g .ours σ →
      EvP (.pure K) E (tCall (SpR (.pure K) A_answer_to) [] E0 (tCons (tVar 0) (tCons (tVar 1) tNil))) Γ fun r => ∃ v τ, r = .mt [v.map dN, τ.map dO] ∧ StrOk g .theirs τ ∧ SolB (chn g σ τ) v ∧ OptT g τ v := fun Γ σ h0 h1 hσ => by
    have hl : 1 < Γ.length := (List.getElem?_eq_some_iff.mp h1).1
    refine ev_tmp (m := 1) h1 (ev_call (ea_cons (ev_var (x := dG g) (by rw [List.getElem?_set_ne (by decide)]; exact h0)) (ea_cons (ev_var (x := dS σ) (by rw [List.getElem?_set_self hl]; rfl)) ea_nil)) ⟨g, σ, w0, rfl, W, hσ, fun v τ a b c => ⟨v, τ, rfl, a, b, c⟩⟩) ?_
    rintro r ⟨v, τ, rfl, _⟩ ds hds
    rcases List.mem_cons.mp hds with z | z
    · rw [z]; exact lf_NL v
    · rw [List.mem_singleton.mp z]; exact lf_S τ
  have impr : ∀ (Γ : List SV) (σ τ : List (Option Nat)) (v : List Rat), Γ[0]? = some (.d (dG g)) → Γ[1]? = some (.mu (σ.map dO)) → Γ[2]? = some (.mu (v.map dN)) → StrOk g .ours σ → StrOk g .theirs τ → SolB (chn g σ τ) v →
      EvP (.pure K) E (tCall (SpR (.pure K) A_improved_by) [] E0 (tCons (tVar 0) (tCons (tC (.str Kd.ours.str)) (tCons (tVar 1) (tCons (tVar 2) tNil))))) Γ fun r => ∃ σ', r = .mu (σ'.map dO) ∧ Impr g .ours σ v σ' := fun Γ σ τ v h0 h1 h2 hs ht hv => by
    have hl : 1 < Γ.length := (List.getElem?_eq_some_iff.mp h1).1
    have hl2 : 2 < Γ.length := (List.getElem?_eq_some_iff.mp h2).1
    have P : Pos g w0 σ τ := ⟨W, hs, ht⟩
    refine ev_tmp (m := 1) h1 (ev_tmp (m := 2) (by rw [List.getElem?_set_ne (by decide)]; exact h2) (ev_call (ea_cons (ev_var (x := dG g) (by rw [List.getElem?_set_ne (by decide), List.getElem?_set_ne (by decide)]; exact h0)) (ea_cons (ev_cs (z := Kd.ours.str)) (ea_cons (ev_var (x := dS σ) (by rw [List.getElem?_set_ne (by decide), List.getElem?_set_self hl]; rfl)) (ea_cons (ev_var (x := dNL v) (by rw [List.getElem?_set_self (by rw [List.length_set]; exact hl2)]; rfl)) ea_nil))))
      ⟨g, .ours, σ, v, rfl, .inl rfl, G, hs, by rw [hv.len, P.len], fun q hq => (hv.bt q hq).bd (by decide), fun s' hs' => ⟨s', rfl, hs'⟩⟩) ?_) ?_
    · rintro r ⟨s', rfl, _⟩
      exact lf_S s'
    · rintro r ⟨s', rfl, _⟩
      exact lf_S s'
  have f0 : StrOk g .ours (g.map fun p => if p.kd = .ours then some 0 else none) := first_ok fun i hi e => W.ne i hi (.inl e)
  refine sg_seq (sg_drop1 (P := fun r => r = .d .none) (ev_call (ea_cons ev_var ea_nil) ⟨g, rfl, W.fw, rfl⟩) ?_)
  refine sg_seq (sg_asgM (ds := (g.map fun p => if p.kd = .ours then some 0 else none).map dO) (ev_call (ea_cons ev_var (ea_cons (ev_cs (z := Kd.ours.str)) ea_nil)) ⟨g, .ours, rfl, by omega, rfl⟩) ?_)
  refine sg_seq (sg_unpack (i := 2) (j := 3) (by decide) (answ _ _ rfl rfl f0) fun r hr => ?_)
  obtain ⟨v0, τ0, rfl, ht0, hv0, ho0⟩ := hr
  refine ⟨_, _, rfl, sg_seq (sg_asgMP (impr _ _ τ0 v0 rfl rfl rfl f0 ht0 hv0) fun r hr => ?_)⟩
  obtain ⟨σ1, rfl, hi1⟩ := hr
  refine ⟨_, rfl, sg_seq (sg_while (fun m Γ => ∃ (σ : List (Option Nat)) (v : List Rat) (τ σ' : List (Option Nat)), Γ = [.d (dG g), .mu (σ.map dO), .mu (v.map dN), .mu (τ.map dO), .mu (σ'.map dO)] ∧ StrOk g .ours σ ∧ StrOk g .theirs τ ∧ SolB (chn g σ τ) v ∧ OptT g τ v ∧ Impr g .ours σ v σ' ∧ m = msO g (val g σ τ)) _ ⟨_, v0, τ0, σ1, rfl, f0, ht0, hv0, ho0, hi1, rfl⟩ fun m Γ1 iv => ?_)⟩
  obtain ⟨σ, v, τ, σ', rfl, hs, ht, hv, ho, him, rfl⟩ := iv
  have Po : Pos g w0 σ τ := ⟨W, hs, ht⟩
  refine ⟨!decide (σ' = σ), et_tmp (m := 4) rfl (et_tmp (m := 1) rfl (et_test ((ev_neD (ev_var (x := dS σ')) (ev_var (x := dS σ)) (dS_shp _) (dS_shp _)).is (by rw [dS_eqv])))), fun z => ?_, fun z => ?_⟩
  · have hne : σ' ≠ σ := by simpa using z
    obtain ⟨k, hk, kk, hk2⟩ := him.diff hs hne
    have hs' := him.ok
    have hle : ∀ i, i < g.length → (gat g i).kd = .ours → vat v (tg g i (so σ i)) ≤ vat v (tg g i (so σ' i)) := fun i hi e => by
      have := (him.so hi e).2.1 _ (tg_mem ((hs.at hi).1 e).2)
      unfold bt at this
      rw [if_pos rfl] at this
      exact this
    have hlt := Std.lt_of_le_of_ne (hle k hk kk) hk2
    refine sg_seq (sg_move (i := 1) (j := 4) rfl ?_)
    refine sg_seq (sg_unpack (i := 2) (j := 3) (by decide) (answ _ σ' rfl rfl hs') fun r hr => ?_)
    obtain ⟨v1, τ1, rfl, ht1, hv1, ho1⟩ := hr
    refine ⟨_, _, rfl, sg_asgMP (impr _ σ' τ1 v1 rfl rfl rfl hs' ht1 hv1) fun r hr => ?_⟩
    obtain ⟨σ2, rfl, hi2⟩ := hr
    have Po' : Pos g w0 σ' τ1 := ⟨W, hs', ht1⟩
    refine ⟨_, rfl, _, ?_, σ', v1, τ1, σ2, rfl, hs', ht1, hv1, ho1, hi2, rfl⟩
    have h1 := more_O Po Po' hv hv1 ho hle hk kk hlt
    rw [val_eq Po hv, val_eq Po' hv1] at h1
    exact msO_less hs' ht1 h1
  · have he : σ' = σ := by simpa using z
    subst he
    refine sg_retMT3 (m1 := 2) (m2 := 1) (m3 := 3) rfl rfl rfl (by decide) (by decide) (by decide) (hP v σ' τ hs ht hv (fun i hi e t ht2 => ?_) ho)
    have := (him.so hi e).2.1 t ht2
    unfold bt at this
    rw [if_pos rfl] at this
    exact this
theorem sc_stakes : FnScope ["game"] ["game"] (defScope (top 43)) := ⟨rfl, rfl, rfl, by decide +kernel, rfl, by decide +kernel, by decide +kernel⟩
theorem d_stakes (T : Txt K mg) (S : Stands K mg "stakes" 43 ["game"]) (D_stakes_paper : DefOk P w K mg base "stakes_paper" ["game"] 44 (SpR (.pure K) A_stakes_paper)) : DefOk P w K mg base "stakes" ["game"] 45 (SpR (.pure K) A_stakes) := by
  refine def_pure S sc_stakes (fun ss P h => len_stakes h) (by decide) fun f cdv B outer s H E hr hcd => ?_
  have nd := sc_stakes.nd
  refine ⟨_, (pss_one (ps_ret (pe_ix ix_tup (pe_def D_stakes_paper (hr.mono (by decide)) (by rfl) (pa_cons (pv 0) pa_nil)) pe_int (fun _ _ => rfl)))), fun ss P E h => ?_⟩
  obtain ⟨g, w0, rfl, W, hP⟩ := h
  exact sg_ret (ev_mt0 (P := fun r => ∃ v σ τ, r = .mt [v.map dN, σ.map dO, τ.map dO] ∧ P (.mu (v.map dN))) (ev_call (ea_cons ev_var ea_nil) ⟨g, w0, rfl, W, fun v σ τ a b c d e => ⟨v, σ, τ, rfl, hP v σ τ a b c d e⟩⟩) fun r ⟨v, σ, τ, e, h⟩ => ⟨_, _, e, h⟩) fun r h => h
end
end Odd
set_option Elab.async false
set_option linter.all false
set_option maxRecDepth 100000
set_option maxHeartbeats 4000000
/-! tuples walked, isinstance -/
namespace Odd
open PySem L2
def dty : PyData → String
  | .none => "NoneType"
  | .bool _ => "bool"
  | .int _ => "int"
  | .str _ => "str"
  | .list _ => "list"
  | _ => "tuple"
theorem ty_dp {K : PySem.W.Frag} {H : Hp} {v : V} {x : PyData} (h : Dp K H v x) : TyX K H v (.type (dty x)) := by
  cases h with
  | non => exact .base .non
  | bl b => exact .base (.bl b)
  | int i => exact .base (.int i)
  | str z => exact .base (.str z)
  | lst s a =>
    rcases s with (s | ⟨o, s⟩) | ⟨o, its, n, s, c, _⟩
    · exact .base (.lst s)
    · exact .base (.frz s)
    · exact .kList s c
  | tup s a =>
    rcases s with (s | ⟨o, s⟩) | ⟨o, its, n, s, c, _⟩
    · exact .base (.tup s)
    · exact .fTuple s
    · exact .kTuple s c
section
variable {X : Fx} {E : En} {Γ : List SV} {te ta tb : TE}
theorem ev_isi {x : PyData} {T : String} {b : Bool} (h : EvD X E te Γ x) (hb : PySem.W.kitOne X.K (.type (dty x)) (.type T) = some b) : EvD X E (tCB (rIsi X.K) (tCons te (tCons (tC (.ty T)) tNil))) Γ (.bool b) := fun F H σ s Q q => h F H σ s _ fun r v F1 H1 e s1 rv => by
  subst e
  exact ⟨v, .ty T, _, _, b, rfl, .ty T, ty_dp (dp_mono s1.ok.up rv), hb, q _ _ F1 H1 rfl s1 (.bl b)⟩
theorem io_tup {F : Hp} {a : Addr} {vs : List V} {ds : List PyData} (s : SqT X.K F a vs) (al : DpAll X.K F vs ds) : IterOk X (Itt X.K a) F ds := fun F2 H2 e o => by
  have s2 := sqt_mono o.up (sqt_mono e s)
  refine ⟨fun i x hx => ?_, fun i hi => ⟨vs, s2, by rw [dpa_len al]; exact hi⟩⟩
  obtain ⟨v, hv, dv⟩ := dpa_get al hx
  refine ⟨⟨vs, v, s2, hv⟩, fun w H' y => ?_⟩
  obtain ⟨rfl, y⟩ := y
  have := y vs s2
  rw [hv] at this
  cases this
  exact ⟨F2, .refl o, dp_mono e dv⟩
theorem it_tup {ds : List PyData} (h : EvD X E ta Γ (.tuple ds)) : ItD X E (iTup X.K ta) Γ ds := fun F H σ s R q => h F H σ s _ fun r v F1 H1 e s1 rv => by
  subst e
  obtain ⟨a, vs, rfl, sq, al⟩ := dp_tup rv
  exact ⟨a, rfl, ⟨vs, sqt_mono s1.ok.up sq⟩, q ds _ F1 H1 rfl s1 (io_tup sq al)⟩
theorem kit_same {K : PySem.W.Frag} (T : String) : PySem.W.kitOne K (.type T) (.type T) = some true := by
  unfold PySem.W.kitOne
  rw [if_pos (by simp)]
theorem kit_ib {K : PySem.W.Frag} : PySem.W.kitOne K (.type "int") (.type "bool") = some false := by
  unfold PySem.W.kitOne
  rw [if_neg (by decide +kernel)]
  unfold PySem.W.kitCls
  dsimp only
  rw [if_pos (by decide +kernel)]
  rfl
variable {tj ti : TE} {t u : TS} {G : GE}
theorem sg_seqI (Iv : List SV → Prop) (h : SG X E t Γ { G with nx := Iv }) (k : ∀ Γ', Iv Γ' → SG X E u Γ' G) : SG X E (tSeq t u) Γ G := fun Fa D sm F H σ e s =>
  h Fa { D with nx := u D } ⟨fun Γ' σ' F' H' g e' s' => k Γ' g Fa D sm F' H' σ' e' s', sm.rt, sm.bk, sm.ct⟩ F H σ e s
theorem ev_eqZ {i j : Int} (ha : EvD X E ta Γ (.int i)) (hb : EvD X E tb Γ (.int j)) : EvD X E (tOp (rEqD X.K) ta tb) Γ (.bool (decide (i = j))) := by
  have sh : ∀ i : Int, SeqAt.shaped (.int i) = true := fun i => by unfold SeqAt.shaped; simp [PyData.canLay0, PyData.depth]
  refine (ev_eqD ha hb (sh i) (sh j)).is ?_
  have e : PyData.eqv (.int i) (.int j) = (i == j) := by simp only [PyData.eqv]
  rw [e]
  by_cases h : i = j
  · subst h; simp
  · rw [decide_eq_false h, beq_eq_false_iff_ne.mpr h]
theorem ev_neZ {i j : Int} (ha : EvD X E ta Γ (.int i)) (hb : EvD X E tb Γ (.int j)) : EvD X E (tOp (rNeD X.K) ta tb) Γ (.bool (!decide (i = j))) := by
  have sh : ∀ i : Int, SeqAt.shaped (.int i) = true := fun i => by unfold SeqAt.shaped; simp [PyData.canLay0, PyData.depth]
  refine (ev_neD ha hb (sh i) (sh j)).is ?_
  have e : PyData.eqv (.int i) (.int j) = (i == j) := by simp only [PyData.eqv]
  rw [e]
  by_cases h : i = j
  · subst h; simp
  · rw [decide_eq_false h, beq_eq_false_iff_ne.mpr h]
/-- a target xs[i] of an own list -/
theorem sub_own {m : Nat} {ds : List PyData} {i : Nat} {x : PyData} {F H : Hp} {σ : St} {v : V} (hm : Γ[m]? = some (.mu ds)) (hi : EvD X E ti Γ (.int i)) (hj : i < ds.length) (s : Sta X E F H σ Γ) (dv : Dp X.K F v x) {Q : St → Hp → Prop}
    (q : ∀ F' H', Exs F F' → Sta X E F' H' σ (Γ.set m (.mu (ds.set i x))) → Q σ H') : gSub (tVar m) ti rSetL v σ H Q := by
  obtain ⟨l, vs, e, f, h0, n, hH, al⟩ := s.slot m _ hm
  refine ⟨_, e, hi F H σ s _ fun r2 v2 F2 H2 p2 s3 ro2 => ?_⟩
  subst p2
  have s4 := s.step s3
  obtain ⟨l', vs', e', f', h0', n', hH', al'⟩ := s4.slot m _ hm
  rw [e] at e'
  cases e'
  refine ⟨l, vs', i, i, rfl, dp_int ro2, hH', ?_, ?_⟩
  · unfold ixN
    rw [dpa_len al', if_pos (by omega), if_pos (by omega)]; simp
  · exact q F2 _ s3.up (s4.chg hm rfl e rfl ⟨l, _, rfl, f', h0', n', upd_same, dpa_set (dp_mono s3.up dv) i al'⟩)
/-- xs[i], xs[j] = a, b -/
theorem sg_swap {m : Nat} {ds : List PyData} {x y : PyData} {i j : Nat} (hm : Γ[m]? = some (.mu ds)) (ha : EvD X E ta Γ x) (hb : EvD X E tb Γ y) (hi : EvD X E ti Γ (.int i)) (hj : EvD X E tj (Γ.set m (.mu (ds.set i x))) (.int j)) (li : i < ds.length) (lj : j < ds.length)
    (k : G.nx (Γ.set m (.mu ((ds.set i x).set j y)))) : SG X E (tAsg (tTup (tCons ta (tCons tb tNil))) (gTup X.K 2 (gCons (gSub (tVar m) ti rSetL) (gCons (gSub (tVar m) tj rSetL) gNil)))) Γ G := fun Fa D sm F H σ e s =>
  (show EvD X E _ Γ (.tuple [x, y]) from ev_tup (xs := [x, y]) (ea_cons ha (ea_cons hb ea_nil))) F H σ s _ fun r v F1 H1 p s1 ro => by
    subst p
    have s2 := s.step s1
    obtain ⟨p, vs, rfl, sq, al⟩ := dp_tup ro
    obtain ⟨v1, ws, rfl, d1, al⟩ := dpa_cons al
    obtain ⟨v2, ws, rfl, d2, al⟩ := dpa_cons al
    cases dpa_nil al
    refine ⟨p, _, rfl, sqt_mono s2.ok.up sq, rfl, _, _, rfl, sub_own hm hi li s2 d1 fun F2 H2 up2 s3 => ⟨_, _, rfl, sub_own (ds := ds.set i x) ?_ hj (by rw [List.length_set]; exact lj) s3 (dp_mono up2 d2) fun F3 H3 up3 s4 => ⟨rfl, sm.nx _ _ F3 H3 k (((e.trans s1.up).trans up2).trans up3) ?_⟩⟩⟩
    · rw [List.getElem?_set_self (List.getElem?_eq_some_iff.mp hm).1]
    · have : (Γ.set m (.mu (ds.set i x))).set m (.mu ((ds.set i x).set j y)) = Γ.set m (.mu ((ds.set i x).set j y)) := by rw [List.set_set]
      rw [← this]; exact s4
end
end Odd
set_option Elab.async false
set_option linter.all false
set_option maxRecDepth 100000
set_option maxHeartbeats 8000000
set_option exponentiation.threshold 1000000
namespace Odd
open PySem L2
def A_law_number (ss : List SV) (P : SV → Prop) : Prop := ∃ n d : Int, ss = [.d (.int n), .d (.int d)] ∧ d ≠ 0 ∧ P (.d (dN (Rat.divInt n d)))
def A_law_plus (ss : List SV) (P : SV → Prop) : Prop := ∃ a b : Rat, ss = [.d (dN a), .d (dN b)] ∧ Bd a ∧ Bd b ∧ P (.d (dN (a + b)))
def A_law_minus (ss : List SV) (P : SV → Prop) : Prop := ∃ a b : Rat, ss = [.d (dN a), .d (dN b)] ∧ Bd a ∧ Bd b ∧ P (.d (dN (a - b)))
def A_law_times (ss : List SV) (P : SV → Prop) : Prop := ∃ a b : Rat, ss = [.d (dN a), .d (dN b)] ∧ Bd a ∧ Bd b ∧ P (.d (dN (a * b)))
def A_law_divided (ss : List SV) (P : SV → Prop) : Prop := ∃ a b : Rat, ss = [.d (dN a), .d (dN b)] ∧ Bd a ∧ Bd b ∧ 0 < b ∧ P (.d (dN (a / b)))
def A_law_less (ss : List SV) (P : SV → Prop) : Prop := ∃ a b : Rat, ss = [.d (dN a), .d (dN b)] ∧ Bd a ∧ Bd b ∧ P (.d (.bool (decide (a < b))))
def A_law_is_number (ss : List SV) (P : SV → Prop) : Prop := ∃ a : Rat, ss = [.d (dN a)] ∧ P (.d (.bool true))
def A_law_are_numbers (ss : List SV) (P : SV → Prop) : Prop := ∃ (v : List Rat) (n : Nat), ss = [.d (dNL v), .d (.int n)] ∧ v.length = n ∧ n ≤ 60 ∧ P (.d (.bool true))
def A_law_targets (ss : List SV) (P : SV → Prop) : Prop := ∃ p : Pl, ss = [.d (dP p)] ∧ p.tgts.length ≤ 1000 ∧ P (.d (dIL p.tgts))
theorem len_law_number {ss : List SV} {P : SV → Prop} (h : A_law_number ss P) : ss.length = 2 := by obtain ⟨_, _, rfl, _⟩ := h; rfl
theorem len_law_plus {ss : List SV} {P : SV → Prop} (h : A_law_plus ss P) : ss.length = 2 := by obtain ⟨_, _, rfl, _⟩ := h; rfl
theorem len_law_minus {ss : List SV} {P : SV → Prop} (h : A_law_minus ss P) : ss.length = 2 := by obtain ⟨_, _, rfl, _⟩ := h; rfl
theorem len_law_times {ss : List SV} {P : SV → Prop} (h : A_law_times ss P) : ss.length = 2 := by obtain ⟨_, _, rfl, _⟩ := h; rfl
theorem len_law_divided {ss : List SV} {P : SV → Prop} (h : A_law_divided ss P) : ss.length = 2 := by obtain ⟨_, _, rfl, _⟩ := h; rfl
theorem len_law_less {ss : List SV} {P : SV → Prop} (h : A_law_less ss P) : ss.length = 2 := by obtain ⟨_, _, rfl, _⟩ := h; rfl
theorem len_law_are_numbers {ss : List SV} {P : SV → Prop} (h : A_law_are_numbers ss P) : ss.length = 2 := by obtain ⟨_, _, rfl, _⟩ := h; rfl
theorem len_law_is_number {ss : List SV} {P : SV → Prop} (h : A_law_is_number ss P) : ss.length = 1 := by obtain ⟨_, rfl, _⟩ := h; rfl
theorem len_law_targets {ss : List SV} {P : SV → Prop} (h : A_law_targets ss P) : ss.length = 1 := by obtain ⟨_, rfl, _⟩ := h; rfl
theorem bd_neg {b : Rat} (h : Bd b) : Bd (-b) := ⟨by rw [Rat.neg_num, Int.natAbs_neg]; exact h.1, by rw [Rat.neg_den]; exact h.2⟩
section
variable {P : Program} {w : World} {K : PySem.W.Frag} {mg : Str → Option Value} {base : Heap}
theorem sc_law_number : FnScope ["_law_n", "_law_d", "_law_one", "_law_other"] ["_law_n", "_law_d"] (defScope (top 46)) := ⟨rfl, rfl, rfl, by decide +kernel, rfl, by decide +kernel, by decide +kernel⟩
theorem d_law_number (T : Txt K mg) (S : Stands K mg "_law_number" 46 ["_law_n", "_law_d"]) (hN : base.NoSeer) (ht : P.given.tree = none) : DefOk P w K mg base "_law_number" ["_law_n", "_law_d"] 33 (SpR (.pure K) A_law_number) := by
  refine def_pure S sc_law_number (fun ss P h => len_law_number h) (by decide) fun f cdv B outer s H E hr hcd => ?_
  have nd := sc_law_number.nd
  refine ⟨_, (pss_cons (ps_if (pt_cmpR op_lt (pv 1) pe_int (nomark _)) (pss_one (ps_par (i := 0) (j := 1) rfl nd rfl rfl (by decide) rfl rfl (pa_cons (pe_op op_sub pe_int (pv 0)) (pa_cons (pe_op op_sub pe_int (pv 1)) pa_nil)) (by rfl))) pss_nil)
    (pss_cons (ps_par (i := 2) (j := 3) rfl nd rfl rfl (by decide) rfl rfl (pa_cons (pe_callB call_abs (by rfl) T.abs (by decide +kernel) (pa_cons (pv 0) pa_nil)) (pa_cons (pv 1) pa_nil)) (by rfl))
    (pss_cons (ps_while PassesOwn.never (pt_cmpR (op_neD hr.units) (pv 3) pe_int (nomark _)) (pss_one (ps_par (i := 2) (j := 3) rfl nd rfl rfl (by decide) rfl rfl (pa_cons (pv 3) (pa_cons (pe_op op_mod (pe_callTy call_int1 (by rfl) T.int (by decide +kernel) (pa_cons (pv 2) pa_nil)) (pv 3)) pa_nil)) (by rfl))))
    (pss_one (ps_ret (pe_tup (pa_cons (pe_op (op_fdivR hN ht rfl rfl rfl (room100 hr (by decide))) (pv 0) (pv 2)) (pa_cons (pe_op (op_fdivR hN ht rfl rfl rfl (room100 hr (by decide))) (pv 1) (pv 2)) pa_nil)))))))), fun ss P E h => ?_⟩
  obtain ⟨n, d, rfl, hd, hP⟩ := h
  refine sg_seqI (fun Γ => ∃ n' d' : Int, Γ = [.d (.int n'), .d (.int d'), .no, .no] ∧ 0 < d' ∧ Rat.divInt n' d' = Rat.divInt n d) (sg_if (et_test (ev_lt ev_var ev_ci)) (fun h => ?_) (fun h => ?_)) fun Γ h => ?_
  · have h0 : d < 0 := of_decide_eq_true h.symm
    refine sg_par (ea_cons (ev_sub ev_ci ev_var) (ea_cons (ev_sub ev_ci ev_var) ea_nil)) ⟨0 - n, 0 - d, rfl, by omega, ?_⟩
    rw [Int.zero_sub, Int.zero_sub]; exact Rat.neg_divInt_neg n d
  · have h0 : ¬ d < 0 := of_decide_eq_false h.symm
    exact sg_next ⟨n, d, rfl, by omega, rfl⟩
  obtain ⟨n', d', rfl, hp, e⟩ := h
  refine sg_seq (sg_par (x := .int (n'.natAbs : Nat)) (y := .int (d'.natAbs : Nat)) (ea_cons ((ev_abs ev_var).is ?_) (ea_cons (EvP.is ev_var ?_) ea_nil)) ?_)
  · congr 1
    by_cases c : n' < 0
    · rw [if_pos c]; omega
    · rw [if_neg c]; omega
  · congr 1; omega
  refine sg_seq (sg_while (fun m Γ => ∃ a b : Nat, Γ = [.d (.int n'), .d (.int d'), .d (.int a), .d (.int b)] ∧ Nat.gcd a b = Nat.gcd n'.natAbs d'.natAbs ∧ m = b) _ ⟨_, _, rfl, rfl, rfl⟩ fun m Γ iv => ?_)
  obtain ⟨a, b, rfl, hg, rfl⟩ := iv
  refine ⟨_, et_test (ev_neZ ev_var ev_ci), fun z => ?_, fun z => ?_⟩
  · have hb : 0 < m := by
      have : ¬ ((m : Nat) : Int) = 0 := by simpa using z
      omega
    refine sg_par (y := .int ((a % m : Nat) : Int)) (ea_cons ev_var (ea_cons ((ev_mod (ev_intI ev_var) ev_var (by omega)).is (by rw [Int.natCast_emod])) ea_nil)) ⟨a % m, Nat.mod_lt _ hb, m, a % m, rfl, ?_, rfl⟩
    rw [← hg, Nat.gcd_comm a m, Nat.gcd_rec m a, Nat.gcd_comm]
  · have hb : m = 0 := by
      have : ((m : Nat) : Int) = 0 := by simpa using z
      omega
    subst hb
    rw [Nat.gcd_zero_right] at hg
    have hpos : 0 < Nat.gcd n'.natAbs d'.natAbs := Nat.gcd_pos_of_pos_right _ (by omega)
    have hc : (0 : Int) < ((a : Nat) : Int) := by omega
    refine sg_retD (ev_tup (xs := [_, _]) (ea_cons (ev_fdivR ev_var ev_var hc) (ea_cons (ev_fdivR ev_var ev_var hc) ea_nil))) ?_
    rw [hg, ← dN_pos n' d' hp, e]; exact hP
theorem sc_law_plus : FnScope ["_law_a", "_law_b"] ["_law_a", "_law_b"] (defScope (top 47)) := ⟨rfl, rfl, rfl, by decide +kernel, rfl, by decide +kernel, by decide +kernel⟩
theorem d_law_plus (T : Txt K mg) (S : Stands K mg "_law_plus" 47 ["_law_a", "_law_b"]) (D_law_number : DefOk P w K mg base "_law_number" ["_law_n", "_law_d"] 33 (SpR (.pure K) A_law_number)) : DefOk P w K mg base "_law_plus" ["_law_a", "_law_b"] 34 (SpR (.pure K) A_law_plus) := by
  refine def_pure S sc_law_plus (fun ss P h => len_law_plus h) (by decide) fun f cdv B outer s H E hr hcd => ?_
  have nd := sc_law_plus.nd
  refine ⟨_, (pss_one (ps_ret (pe_def D_law_number (hr.mono (by decide)) (by rfl) (pa_cons (pe_op op_add (pe_op op_mulW (pe_ix ix_tup (pv 0) pe_int (fun _ _ => rfl)) (pe_ix ix_tup (pv 1) pe_int (fun _ _ => rfl))) (pe_op op_mulW (pe_ix ix_tup (pv 1) pe_int (fun _ _ => rfl)) (pe_ix ix_tup (pv 0) pe_int (fun _ _ => rfl)))) (pa_cons (pe_op op_mulW (pe_ix ix_tup (pv 0) pe_int (fun _ _ => rfl)) (pe_ix ix_tup (pv 1) pe_int (fun _ _ => rfl))) pa_nil))))), fun ss P E h => ?_⟩
  obtain ⟨a, b, rfl, ha, hb, hP⟩ := h
  refine sg_ret (ev_call (ea_cons (ev_add (ev_mulW (ev_num0 ev_var) (ev_num1 ev_var) (mulW ha.num_log hb.den_log (by decide))) (ev_mulW (ev_num0 ev_var) (ev_num1 ev_var) (mulW hb.num_log ha.den_log (by decide)))) (ea_cons (ev_mulW (ev_num1 ev_var) (ev_num1 ev_var) (mulW ha.den_log hb.den_log (by decide))) ea_nil))
    ⟨_, _, rfl, Bd.den_ne a b, ?_⟩) fun r h => h
  rw [add_divInt]; exact hP
theorem sc_law_times : FnScope ["_law_a", "_law_b"] ["_law_a", "_law_b"] (defScope (top 48)) := ⟨rfl, rfl, rfl, by decide +kernel, rfl, by decide +kernel, by decide +kernel⟩
theorem d_law_times (T : Txt K mg) (S : Stands K mg "_law_times" 48 ["_law_a", "_law_b"]) (D_law_number : DefOk P w K mg base "_law_number" ["_law_n", "_law_d"] 33 (SpR (.pure K) A_law_number)) : DefOk P w K mg base "_law_times" ["_law_a", "_law_b"] 34 (SpR (.pure K) A_law_times) := by
  refine def_pure S sc_law_times (fun ss P h => len_law_times h) (by decide) fun f cdv B outer s H E hr hcd => ?_
  have nd := sc_law_times.nd
  refine ⟨_, (pss_one (ps_ret (pe_def D_law_number (hr.mono (by decide)) (by rfl) (pa_cons (pe_op op_mulW (pe_ix ix_tup (pv 0) pe_int (fun _ _ => rfl)) (pe_ix ix_tup (pv 1) pe_int (fun _ _ => rfl))) (pa_cons (pe_op op_mulW (pe_ix ix_tup (pv 0) pe_int (fun _ _ => rfl)) (pe_ix ix_tup (pv 1) pe_int (fun _ _ => rfl))) pa_nil))))), fun ss P E h => ?_⟩
  obtain ⟨a, b, rfl, ha, hb, hP⟩ := h
  refine sg_ret (ev_call (ea_cons (ev_mulW (ev_num0 ev_var) (ev_num0 ev_var) (mulW ha.num_log hb.num_log (by decide))) (ea_cons (ev_mulW (ev_num1 ev_var) (ev_num1 ev_var) (mulW ha.den_log hb.den_log (by decide))) ea_nil))
    ⟨_, _, rfl, Bd.den_ne a b, ?_⟩) fun r h => h
  rw [mul_divInt]; exact hP
theorem sc_law_minus : FnScope ["_law_a", "_law_b"] ["_law_a", "_law_b"] (defScope (top 49)) := ⟨rfl, rfl, rfl, by decide +kernel, rfl, by decide +kernel, by decide +kernel⟩
theorem d_law_minus (T : Txt K mg) (S : Stands K mg "_law_minus" 49 ["_law_a", "_law_b"]) (D_law_plus : DefOk P w K mg base "_law_plus" ["_law_a", "_law_b"] 34 (SpR (.pure K) A_law_plus)) : DefOk P w K mg base "_law_minus" ["_law_a", "_law_b"] 35 (SpR (.pure K) A_law_minus) := by
  refine def_pure S sc_law_minus (fun ss P h => len_law_minus h) (by decide) fun f cdv B outer s H E hr hcd => ?_
  have nd := sc_law_minus.nd
  refine ⟨_, (pss_one (ps_ret (pe_def D_law_plus (hr.mono (by decide)) (by rfl) (pa_cons (pv 0) (pa_cons (pe_tup (pa_cons (pe_op op_sub pe_int (pe_ix ix_tup (pv 1) pe_int (fun _ _ => rfl))) (pa_cons (pe_ix ix_tup (pv 1) pe_int (fun _ _ => rfl)) pa_nil))) pa_nil))))), fun ss P E h => ?_⟩
  obtain ⟨a, b, rfl, ha, hb, hP⟩ := h
  refine sg_ret (ev_call (ea_cons ev_var (ea_cons (EvP.is (ev_tup (xs := [.int (0 - b.num), .int (b.den : Int)]) (ea_cons (ev_sub ev_ci (ev_num0 ev_var)) (ea_cons (ev_num1 ev_var) ea_nil))) (show _ = dN (-b) from ?_)) ea_nil)) ⟨a, -b, rfl, ha, bd_neg hb, ?_⟩) fun r h => h
  · unfold dN; rw [Rat.neg_num, Rat.neg_den, Int.zero_sub]
  · rw [← Rat.sub_eq_add_neg]; exact hP
theorem sc_law_divided : FnScope ["_law_a", "_law_b"] ["_law_a", "_law_b"] (defScope (top 59)) := ⟨rfl, rfl, rfl, by decide +kernel, rfl, by decide +kernel, by decide +kernel⟩
theorem d_law_divided (T : Txt K mg) (S : Stands K mg "_law_divided" 59 ["_law_a", "_law_b"]) (D_law_number : DefOk P w K mg base "_law_number" ["_law_n", "_law_d"] 33 (SpR (.pure K) A_law_number)) : DefOk P w K mg base "_law_divided" ["_law_a", "_law_b"] 34 (SpR (.pure K) A_law_divided) := by
  refine def_pure S sc_law_divided (fun ss P h => len_law_divided h) (by decide) fun f cdv B outer s H E hr hcd => ?_
  have nd := sc_law_divided.nd
  refine ⟨_, (pss_one (ps_ret (pe_def D_law_number (hr.mono (by decide)) (by rfl) (pa_cons (pe_op op_mulW (pe_ix ix_tup (pv 0) pe_int (fun _ _ => rfl)) (pe_ix ix_tup (pv 1) pe_int (fun _ _ => rfl))) (pa_cons (pe_op op_mulW (pe_ix ix_tup (pv 0) pe_int (fun _ _ => rfl)) (pe_ix ix_tup (pv 1) pe_int (fun _ _ => rfl))) pa_nil))))), fun ss P E h => ?_⟩
  obtain ⟨a, b, rfl, ha, hb, hp, hP⟩ := h
  have hbn : 0 < b.num := by
    have h1 : 0 ≤ b.num := Rat.num_nonneg.mpr (Rat.le_of_lt hp)
    have h2 : b.num ≠ 0 := fun z => absurd hp (by rw [Rat.num_eq_zero.mp z]; exact Rat.lt_irrefl)
    omega
  have had := a.den_pos
  refine sg_ret (ev_call (ea_cons (ev_mulW (ev_num0 ev_var) (ev_num1 ev_var) (mulW ha.num_log hb.den_log (by decide))) (ea_cons (ev_mulW (ev_num1 ev_var) (ev_num0 ev_var) (mulW ha.den_log hb.num_log (by decide))) ea_nil))
    ⟨_, _, rfl, ?_, ?_⟩) fun r h => h
  · have := Int.mul_pos (show (0 : Int) < a.den by omega) hbn
    omega
  · rw [div_divInt]; exact hP
theorem sc_law_less : FnScope ["_law_a", "_law_b"] ["_law_a", "_law_b"] (defScope (top 50)) := ⟨rfl, rfl, rfl, by decide +kernel, rfl, by decide +kernel, by decide +kernel⟩
theorem d_law_less (T : Txt K mg) (S : Stands K mg "_law_less" 50 ["_law_a", "_law_b"]) : DefOk P w K mg base "_law_less" ["_law_a", "_law_b"] 1 (SpR (.pure K) A_law_less) := by
  refine def_pure S sc_law_less (fun ss P h => len_law_less h) (by decide) fun f cdv B outer s H E hr hcd => ?_
  have nd := sc_law_less.nd
  refine ⟨_, (pss_one (ps_ret (pe_cmpR op_lt (pe_op op_mulW (pe_ix ix_tup (pv 0) pe_int (fun _ _ => rfl)) (pe_ix ix_tup (pv 1) pe_int (fun _ _ => rfl))) (pe_op op_mulW (pe_ix ix_tup (pv 1) pe_int (fun _ _ => rfl)) (pe_ix ix_tup (pv 0) pe_int (fun _ _ => rfl))) (nomark _)))), fun ss P E h => ?_⟩
  obtain ⟨a, b, rfl, ha, hb, hP⟩ := h
  refine sg_retD (ev_lt (ev_mulW (ev_num0 ev_var) (ev_num1 ev_var) (mulW ha.num_log hb.den_log (by decide))) (ev_mulW (ev_num0 ev_var) (ev_num1 ev_var) (mulW hb.num_log ha.den_log (by decide)))) ?_
  rw [lt_num]; exact hP
theorem sc_law_is_number : FnScope ["_law_actual", "_law_one"] ["_law_actual"] (defScope (top 52)) := ⟨rfl, rfl, rfl, by decide +kernel, rfl, by decide +kernel, by decide +kernel⟩
theorem d_law_is_number (T : Txt K mg) (S : Stands K mg "_law_is_number" 52 ["_law_actual"]) (D_law_number : DefOk P w K mg base "_law_number" ["_law_n", "_law_d"] 33 (SpR (.pure K) A_law_number)) : DefOk P w K mg base "_law_is_number" ["_law_actual"] 34 (SpR (.pure K) A_law_is_number) := by
  refine def_pure S sc_law_is_number (fun ss P h => len_law_is_number h) (by decide) fun f cdv B outer s H E hr hcd => ?_
  have nd := sc_law_is_number.nd
  refine ⟨_, (pss_cons (ps_if (PW.pt (pw_or (pt_not (pt_val (pe_callB call_isi (by rfl) T.isinstance (by decide +kernel) (pa_cons (pv 0) (pa_cons (pe_bltn (v := .ty "tuple") (by rfl) T.tuple (by decide +kernel) rfl) pa_nil))))) (pw_or1 (pt_cmpR (op_neD hr.units) (pe_callB call_len_seq (by rfl) T.len (by decide +kernel) (pa_cons (pv 0) pa_nil)) pe_int (nomark _))))) (pss_one (ps_ret pe_bl)) pss_nil)
    (pss_cons (ps_for PassesOwn.never rfl (pi_tup (pv 0)) (pg_name (i := 1) nd rfl (.inl rfl)) (pss_one (ps_if (PW.pt (pw_or (pt_not (pt_val (pe_callB call_isi (by rfl) T.isinstance (by decide +kernel) (pa_cons (pv 1) (pa_cons (pe_bltn (v := .ty "int") (by rfl) T.int (by decide +kernel) rfl) pa_nil))))) (pw_or1 (pt_val (pe_callB call_isi (by rfl) T.isinstance (by decide +kernel) (pa_cons (pv 1) (pa_cons (pe_bltn (v := .ty "bool") (by rfl) T.bool (by decide +kernel) rfl) pa_nil))))))) (pss_one (ps_ret pe_bl)) pss_nil)))
    (pss_one (ps_ret (pe_and (pe_cmpR op_gt (pe_ix ix_tup (pv 0) pe_int (fun _ _ => rfl)) pe_int (nomark _)) (pe_one (pe_cmpR (op_eqD hr.units) (pe_def D_law_number (hr.mono (by decide)) (by rfl) (pa_cons (pe_ix ix_tup (pv 0) pe_int (fun _ _ => rfl)) (pa_cons (pe_ix ix_tup (pv 0) pe_int (fun _ _ => rfl)) pa_nil))) (pv 0) (nomark _)))))))), fun ss P E h => ?_⟩
  obtain ⟨a, rfl, hP⟩ := h
  refine sg_seq (sg_ifF (et_orF (et_not (b := true) (et_B (ev_isi ev_var (kit_same _)))) (et_test ((ev_neZ (ev_lenT (ev_var (x := dN a))) ev_ci).is rfl))) (sg_next ?_))
  refine sg_seq (sg_for (ds := [.int a.num, .int (a.den : Int)]) (it_tup (ev_var (x := dN a))) (fun i Γ => ∃ b, Γ = [.d (dN a), b]) ⟨_, rfl⟩ (fun i x Γ1 hx iv => ?_) (fun Γ1 iv => ?_))
  · obtain ⟨b, rfl⟩ := iv
    have hx2 : ∃ z : Int, x = .int z := by
      have := List.mem_of_getElem? hx
      rcases List.mem_cons.mp this with z | z
      · exact ⟨_, z⟩
      · exact ⟨_, List.mem_singleton.mp z⟩
    obtain ⟨z, rfl⟩ := hx2
    exact ⟨_, _, tg_name, sg_ifF (et_orF (et_not (b := true) (et_B (ev_isi ev_var (kit_same _)))) (et_B (ev_isi ev_var kit_ib))) (sg_next ⟨_, rfl⟩)⟩
  · obtain ⟨b, rfl⟩ := iv
    have hd := a.den_pos
    refine sg_retD (EvP.is (ev_andV (ev_gt (ev_num1 (ev_var (x := dN a))) ev_ci) fun _ => ev_eqD (ev_call (P := fun r => r = .d (dN a)) (ea_cons (ev_num0 (ev_var (x := dN a))) (ea_cons (ev_num1 (ev_var (x := dN a))) ea_nil)) ⟨_, _, rfl, by omega, by rw [Rat.num_divInt_den]⟩) (ev_var (x := dN a)) (dN_shp _) (dN_shp _)) ?_) hP
    rw [dN_eqv]
    have : (0 : Int) < (a.den : Int) := by omega
    simp [this, hd]
theorem sc_law_are_numbers : FnScope ["_law_actual", "_law_many", "_law_one"] ["_law_actual", "_law_many"] (defScope (top 53)) := ⟨rfl, rfl, rfl, by decide +kernel, rfl, by decide +kernel, by decide +kernel⟩
theorem d_law_are_numbers (T : Txt K mg) (S : Stands K mg "_law_are_numbers" 53 ["_law_actual", "_law_many"]) (D_law_is_number : DefOk P w K mg base "_law_is_number" ["_law_actual"] 34 (SpR (.pure K) A_law_is_number)) : DefOk P w K mg base "_law_are_numbers" ["_law_actual", "_law_many"] 35 (SpR (.pure K) A_law_are_numbers) := by
  refine def_pure S sc_law_are_numbers (fun ss P h => len_law_are_numbers h) (by decide) fun f cdv B outer s H E hr hcd => ?_
  have nd := sc_law_are_numbers.nd
  refine ⟨_, (pss_one (ps_ret (pe_and (pe_callB call_isi (by rfl) T.isinstance (by decide +kernel) (pa_cons (pv 0) (pa_cons (pe_bltn (v := .ty "list") (by rfl) T.list (by decide +kernel) rfl) pa_nil))) (pe_and (pe_cmpR (op_eqD hr.units) (pe_callB call_len_seq (by rfl) T.len (by decide +kernel) (pa_cons (pv 0) pa_nil)) (pv 1) (nomark _)) (pe_one (pe_callB (cr_all rfl) (by rfl) T.all (by decide +kernel) (pa_cons (pe_lc (own := [("_law_one", 2)]) rfl nd (pi_list (pv 0)) (blkOk_by (N := ["_law_actual", "_law_many", "_law_one"]) (sc := defScope (top 53)) (by decide +kernel)) (fun _ _ _ _ _ => (pg_name (i := 2) nd rfl (.inl rfl) (.inr (by rfl)))) (fun _ _ _ _ _ => pts_nil) (fun _ _ _ _ _ => (pe_def D_law_is_number (hr.mono (by decide)) (by rfl) (pa_cons (pv 2) pa_nil)))) pa_nil))))))), fun ss P E h => ?_⟩
  obtain ⟨v, n, rfl, hv, hn, hP⟩ := h
  refine sg_retD (EvP.is (ev_andV (ev_isi (ev_var (x := dNL v)) (kit_same _)) fun _ => ev_andV (ev_eqZ (ev_lenL (ev_var (x := dNL v))) ev_var) fun _ => ev_all (bs := v.map fun _ => true) (EvM.d (ev_lcI (ds := v.map dN) (it_list (ev_var (x := dNL v))) (by rw [List.length_map]; omega) (by simp) fun i x y hx hy => ?_))) ?_) hP
  · obtain ⟨q, hq, rfl⟩ := get_map hx
    rw [List.map_map, List.getElem?_map, hq] at hy
    cases hy
    exact ⟨_, _, tg_name, by simp, ev_call (ea_cons ev_var ea_nil) ⟨q, rfl, rfl⟩⟩
  · rw [List.length_map, hv]
    have : (v.map fun _ => true).all id = true := List.all_eq_true.mpr fun b hb => by
      obtain ⟨_, _, rfl⟩ := List.mem_map.mp hb
      rfl
    rw [this]; simp
theorem sc_law_targets : FnScope ["_law_place_here", "_law_branch"] ["_law_place_here"] (defScope (top 57)) := ⟨rfl, rfl, rfl, by decide +kernel, rfl, by decide +kernel, by decide +kernel⟩
theorem d_law_targets (T : Txt K mg) (S : Stands K mg "_law_targets" 57 ["_law_place_here"]) : DefOk P w K mg base "_law_targets" ["_law_place_here"] 1 (SpR (.pure K) A_law_targets) := by
  refine def_pure S sc_law_targets (fun ss P h => len_law_targets h) (by decide) fun f cdv B outer s H E hr hcd => ?_
  have nd := sc_law_targets.nd
  refine ⟨_, (pss_cons (ps_if (pt_cmpR (op_eqD hr.units) (pe_ix ix_tup (pv 0) pe_int (fun _ _ => rfl)) pe_str (nomark _)) (pss_one (ps_ret (pe_lc (own := [("_law_branch", 1)]) rfl nd (pi_list (pe_ix ix_tup (pv 0) pe_int (fun _ _ => rfl))) (blkOk_by (N := ["_law_place_here", "_law_branch"]) (sc := defScope (top 57)) (by decide +kernel)) (fun _ _ _ _ _ => (pg_name (i := 1) nd rfl (.inl rfl) (.inr (by rfl)))) (fun _ _ _ _ _ => pts_nil) (fun _ _ _ _ _ => (pe_ix (ixT_K (K := K) rfl) (pv 1) pe_int (fun _ _ => rfl)))))) pss_nil)
    (pss_cons (ps_if (pt_cmpR (op_eqD hr.units) (pe_ix ix_tup (pv 0) pe_int (fun _ _ => rfl)) pe_str (nomark _)) (pss_one (ps_ret (pe_lst (pa_cons (pe_ix ix_tup (pv 0) pe_int (fun _ _ => rfl)) pa_nil)))) pss_nil)
    (pss_cons (ps_if (PW.pt (pw_or (pt_cmpR (op_eqD hr.units) (pe_ix ix_tup (pv 0) pe_int (fun _ _ => rfl)) pe_str (nomark _)) (pw_or1 (pt_cmpR (op_eqD hr.units) (pe_ix ix_tup (pv 0) pe_int (fun _ _ => rfl)) pe_str (nomark _))))) (pss_one (ps_ret (pe_callTy call_list_of (by rfl) T.list (by decide +kernel) (pa_cons (pe_ix ix_tup (pv 0) pe_int (fun _ _ => rfl)) pa_nil)))) pss_nil)
    (pss_one (ps_ret (pe_lst pa_nil)))))), fun ss P E h => ?_⟩
  obtain ⟨p, rfl, hl, hP⟩ := h
  cases p with
  | draw bs =>
    refine sg_seq (sg_ifT ((ev_kp (p := .draw bs) .draw ev_var).is rfl) (sg_retD (EvM.d (ev_lcI (ds := bs.map dBr) (ys := (Pl.draw bs).tgts.map dI) (it_list (ev_ixT (ev_var (x := dP (.draw bs))) ev_ci rfl)) (by simpa [Pl.tgts] using hl) (by simp [Pl.tgts]) fun j x y hx hy => ?_)) hP))
    obtain ⟨b, hb, rfl⟩ := get_map hx
    have e : (Pl.draw bs).tgts.map dI = bs.map fun b => dI b.2 := by
      show (bs.map (·.2)).map dI = _
      rw [List.map_map]; rfl
    rw [e, List.getElem?_map, hb] at hy
    cases hy
    exact ⟨_, _, tg_name, by simp, ev_ixT (ev_var (x := dBr b)) ev_ci rfl⟩
  | reward a t =>
    refine sg_seq (sg_ifF ((ev_kp (p := .reward a t) .draw ev_var).is rfl) (sg_next ?_))
    exact sg_seq (sg_ifT ((ev_kp (p := .reward a t) .reward ev_var).is rfl) (sg_retD (ev_lst (xs := [dI t]) (ea_cons (ev_ixT (ev_var (x := dP (.reward a t))) ev_ci rfl) ea_nil)).d hP))
  | ours ts =>
    refine sg_seq (sg_ifF ((ev_kp (p := .ours ts) .draw ev_var).is rfl) (sg_next ?_))
    refine sg_seq (sg_ifF ((ev_kp (p := .ours ts) .reward ev_var).is rfl) (sg_next ?_))
    exact sg_seq (sg_ifT (et_orT ((ev_kp (p := .ours ts) .ours ev_var).is rfl)) (sg_retD (ev_listL (ev_ixT (ev_var (x := dP (.ours ts))) ev_ci rfl)).d hP))
  | theirs ts =>
    refine sg_seq (sg_ifF ((ev_kp (p := .theirs ts) .draw ev_var).is rfl) (sg_next ?_))
    refine sg_seq (sg_ifF ((ev_kp (p := .theirs ts) .reward ev_var).is rfl) (sg_next ?_))
    exact sg_seq (sg_ifT (et_orF ((ev_kp (p := .theirs ts) .ours ev_var).is rfl) ((ev_kp (p := .theirs ts) .theirs ev_var).is rfl)) (sg_retD (ev_listL (ev_ixT (ev_var (x := dP (.theirs ts))) ev_ci rfl)).d hP))
  | finish =>
    refine sg_seq (sg_ifF ((ev_kp (p := .finish) .draw ev_var).is rfl) (sg_next ?_))
    refine sg_seq (sg_ifF ((ev_kp (p := .finish) .reward ev_var).is rfl) (sg_next ?_))
    exact sg_seq (sg_ifF (et_orF ((ev_kp (p := .finish) .ours ev_var).is rfl) ((ev_kp (p := .finish) .theirs ev_var).is rfl)) (sg_next (sg_retD (ev_lst (xs := []) ea_nil).d hP)))
  | lose =>
    refine sg_seq (sg_ifF ((ev_kp (p := .lose) .draw ev_var).is rfl) (sg_next ?_))
    refine sg_seq (sg_ifF ((ev_kp (p := .lose) .reward ev_var).is rfl) (sg_next ?_))
    exact sg_seq (sg_ifF (et_orF ((ev_kp (p := .lose) .ours ev_var).is rfl) ((ev_kp (p := .lose) .theirs ev_var).is rfl)) (sg_next (sg_retD (ev_lst (xs := []) ea_nil).d hP)))
end
end Odd
set_option Elab.async false
set_option linter.all false
set_option maxRecDepth 100000
set_option maxHeartbeats 8000000
set_option exponentiation.threshold 1000000
namespace Odd
open PySem L2
theorem set_self {α : Type} {ds : List α} {k : Nat} {x : α} (h : ds[k]? = some x) : ds.set k x = ds := by
  obtain ⟨h1, h2⟩ := List.getElem?_eq_some_iff.mp h
  rw [← h2, List.set_getElem_self]
def dRw (n : Nat) (f : Nat → Rat) : PyData := dNL (cl f 0 (n + 1))
def A_law_solved (ss : List SV) (P : SV → Prop) : Prop := ∃ (n : Nat) (M : Nat → Nat → Rat), ss = [.d (.list ((List.range n).map fun i => dRw n (M i)))] ∧ Gok n (n + 1) M ∧ n ≤ 11 ∧ P (.mu ((List.range n).map fun i => dN (gj n M i n)))
def A_law_row (ss : List SV) (P : SV → Prop) : Prop := ∃ (c : List Pl) (w : Nat → Rat) (i : Nat), ss = [.d (dG c), .d (.int i), .d (.int c.length)] ∧ Cn c w ∧ i < c.length ∧ P (.mu ((cl (mat c.length (cB c) (fun _ => 0) i) 0 (c.length + 1)).map dN))
def A_law_put_in (ss : List SV) (P : SV → Prop) : Prop := ∃ (g : List Pl) (k : Kd) (s : List (Option Nat)), ss = [.d (dG g), .d (.str k.str), .d (dS s)] ∧ (k = .ours ∨ k = .theirs) ∧ StrOk g k s ∧ g.length ≤ 1000 ∧ P (.d (dG (putS g k s)))
def A_law_expected (ss : List SV) (P : SV → Prop) : Prop := ∃ (g : List Pl) (σ τ : List (Option Nat)) (w : Nat → Rat), ss = [.d (dG g), .d (dS σ), .d (dS τ)] ∧ WG g w ∧ StrOk g .ours σ ∧ StrOk g .theirs τ ∧ ∀ v, SolB (chn g σ τ) v → P (.mu (v.map dN))
theorem pr_out {bs : List (Rat × Nat)} {j : Nat} (h : ∀ b ∈ bs, b.2 ≠ j) : pr bs j = 0 := by
  unfold pr
  rw [bsum_congr (y := fun _ => 0 * 0) fun b hb => by
    show (if b.2 = j then (1 : Rat) else 0) = 0 * 0
    rw [if_neg (h b hb)]; grind, bsum_mul bs 0 fun _ => 0]; grind
theorem pr_one (b : Rat × Nat) (j : Nat) : pr [b] j = if b.2 = j then b.1 else 0 := by
  show b.1 * (if b.2 = j then 1 else 0) + 0 = _
  by_cases c : b.2 = j
  · rw [if_pos c, if_pos c]; grind
  · rw [if_neg c, if_neg c]; grind
/-- what a place is due -/
def dues (g : List Pl) (i : Nat) (v : List Rat) (k : Kd) (s : List (Option Nat)) : List Rat :=
  match gat g i with
  | .draw bs => [bsum bs (vat v)]
  | .reward a t => [a + vat v t]
  | .ours ts => if k = .ours then [vat v (ts.getD (so s i) 0)] else ts.map (vat v)
  | .theirs ts => if k = .theirs then [vat v (ts.getD (so s i) 0)] else ts.map (vat v)
  | _ => [0]
def PlB : Pl → Prop
  | .draw bs => bs.length ≤ 6 ∧ ∀ b ∈ bs, Bt 6 b.1
  | .reward a _ => Bt 6 a
  | _ => True
structure Dg (g : List Pl) (v : List Rat) (k : Kd) (s : List (Option Nat)) : Prop where
  ok : GOk g
  kk : k = .ours ∨ k = .theirs
  s : StrOk g k s
  len : v.length = g.length
  bt : ∀ q ∈ v, Bt 16384 q
  pl : ∀ i, i < g.length → PlB (gat g i)
theorem bsum_bt {v : List Rat} : ∀ {bs : List (Rat × Nat)}, (∀ b ∈ bs, Bt 6 b.1 ∧ Bt 16384 (vat v b.2)) → Bt (1 + 16391 * bs.length) (bsum bs (vat v))
  | [], _ => bt01.1
  | b :: bs, h => by
    have h1 := h b List.mem_cons_self
    have h2 := bsum_bt (bs := bs) fun c hc => h c (List.mem_cons_of_mem _ hc)
    rw [bsum_cons]
    refine ((h1.1.mul h1.2).add h2).mono ?_
    rw [List.length_cons]; omega
theorem hk_at {g : List Pl} {v : List Rat} {k : Kd} {s : List (Option Nat)} (D : Dg g v k s) {i : Nat} (hi : i < g.length) : (gat g i).kd = k → s[i]? = some (some (so s i)) ∧ so s i < (gat g i).tgts.length := (D.s.at hi).1
theorem dues_bt {g : List Pl} {v : List Rat} {k : Kd} {s : List (Option Nat)} (D : Dg g v k s) {i : Nat} (hi : i < g.length) : ∀ d ∈ dues g i v k s, Bt 190000 d := fun d hd => by
  have nb : ∀ t, t < g.length → Bt 16384 (vat v t) := fun t ht => D.bt _ (List.mem_of_getElem? (vat_get (by rw [D.len]; exact ht)))
  have tl := D.ok.tg i hi
  have hpl := D.pl i hi
  have hs := hk_at D hi
  unfold dues at hd
  have list1 : ∀ {ts : List Nat}, (∀ t ∈ ts, t < g.length) → d ∈ ts.map (vat v) → Bt 190000 d := fun {ts} h h2 => by
    obtain ⟨t, ht, rfl⟩ := List.mem_map.mp h2
    exact (nb t (h t ht)).mono (by omega)
  cases q : gat g i with
  | draw bs =>
    rw [q] at hd tl hpl
    rw [List.mem_singleton.mp hd]
    refine (bsum_bt fun b hb => ⟨hpl.2 b hb, nb _ (tl _ (List.mem_map.mpr ⟨b, hb, rfl⟩))⟩).mono ?_
    have := hpl.1
    omega
  | reward a0 t =>
    rw [q] at hd tl hpl
    rw [List.mem_singleton.mp hd]
    exact (Bt.add (m := 6) hpl (nb t (tl t (List.mem_singleton.mpr rfl)))).mono (by omega)
  | ours ts =>
    rw [q] at hd tl hs
    dsimp only at hd
    by_cases c : k = .ours
    · rw [show (if k = Kd.ours then [vat v (ts.getD (so s i) 0)] else ts.map (vat v)) = [vat v (ts.getD (so s i) 0)] from if_pos c] at hd
      rw [List.mem_singleton.mp hd]
      have hb : so s i < ts.length := (hs c.symm).2
      refine (nb _ (tl _ ?_)).mono (by omega)
      rw [getD_some (List.getElem?_eq_getElem hb)]; exact List.getElem_mem (l := ts) hb
    · rw [show (if k = Kd.ours then [vat v (ts.getD (so s i) 0)] else ts.map (vat v)) = ts.map (vat v) from if_neg c] at hd
      exact list1 tl hd
  | theirs ts =>
    rw [q] at hd tl hs
    dsimp only at hd
    by_cases c : k = .theirs
    · rw [show (if k = Kd.theirs then [vat v (ts.getD (so s i) 0)] else ts.map (vat v)) = [vat v (ts.getD (so s i) 0)] from if_pos c] at hd
      rw [List.mem_singleton.mp hd]
      have hb : so s i < ts.length := (hs c.symm).2
      refine (nb _ (tl _ ?_)).mono (by omega)
      rw [getD_some (List.getElem?_eq_getElem hb)]; exact List.getElem_mem (l := ts) hb
    · rw [show (if k = Kd.theirs then [vat v (ts.getD (so s i) 0)] else ts.map (vat v)) = ts.map (vat v) from if_neg c] at hd
      exact list1 tl hd
  | finish => rw [q] at hd; rw [List.mem_singleton.mp hd]; exact bt01.1.mono (by omega)
  | lose => rw [q] at hd; rw [List.mem_singleton.mp hd]; exact bt01.1.mono (by omega)
def A_law_dues (ss : List SV) (P : SV → Prop) : Prop := ∃ (g : List Pl) (i : Nat) (v : List Rat) (k : Kd) (s : List (Option Nat)), ss = [.d (dG g), .d (.int i), .d (dNL v), .d (.str k.str), .d (dS s)] ∧ i < g.length ∧ Dg g v k s ∧ P (.mu ((dues g i v k s).map dN))
def A_law_is_strategy (ss : List SV) (P : SV → Prop) : Prop := ∃ (g : List Pl) (k : Kd) (s : List (Option Nat)), ss = [.d (dG g), .d (.str k.str), .d (dS s)] ∧ (k = .ours ∨ k = .theirs) ∧ GOk g ∧ StrOk g k s ∧ P (.d (.bool true))
def A_law_are_upper (ss : List SV) (P : SV → Prop) : Prop := ∃ (g : List Pl) (v : List Rat) (s : List (Option Nat)), ss = [.d (dG g), .d (dNL v), .d (dS s)] ∧ Dg g v .theirs s ∧ (∀ i, i < g.length → ∀ d ∈ dues g i v .theirs s, d ≤ vat v i) ∧ P (.d (.bool true))
def A_law_are_lower (ss : List SV) (P : SV → Prop) : Prop := ∃ (g : List Pl) (v : List Rat) (s : List (Option Nat)), ss = [.d (dG g), .d (dNL v), .d (dS s)] ∧ Dg g v .ours s ∧ (∀ i, i < g.length → ∀ d ∈ dues g i v .ours s, vat v i ≤ d) ∧ P (.d (.bool true))
def A_law_is_paper (ss : List SV) (P : SV → Prop) : Prop := ∃ (g : List Pl) (v : List Rat) (σ τ : List (Option Nat)), ss = [.d (dG g), .d (.tuple [dNL v, dS σ, dS τ])] ∧ Dg g v .theirs τ ∧ (∀ i, i < g.length → ∀ d ∈ dues g i v .theirs τ, d ≤ vat v i) ∧ Dg g v .ours σ ∧ (∀ i, i < g.length → ∀ d ∈ dues g i v .ours σ, vat v i ≤ d) ∧ P (.d (.bool true))
theorem len_law_solved {ss : List SV} {P : SV → Prop} (h : A_law_solved ss P) : ss.length = 1 := by obtain ⟨_, _, rfl, _⟩ := h; rfl
theorem len_law_row {ss : List SV} {P : SV → Prop} (h : A_law_row ss P) : ss.length = 3 := by obtain ⟨_, _, _, rfl, _⟩ := h; rfl
theorem len_law_put_in {ss : List SV} {P : SV → Prop} (h : A_law_put_in ss P) : ss.length = 3 := by obtain ⟨_, _, _, rfl, _⟩ := h; rfl
theorem len_law_expected {ss : List SV} {P : SV → Prop} (h : A_law_expected ss P) : ss.length = 3 := by obtain ⟨_, _, _, _, rfl, _⟩ := h; rfl
theorem len_law_dues {ss : List SV} {P : SV → Prop} (h : A_law_dues ss P) : ss.length = 5 := by obtain ⟨_, _, _, _, _, rfl, _⟩ := h; rfl
theorem len_law_is_strategy {ss : List SV} {P : SV → Prop} (h : A_law_is_strategy ss P) : ss.length = 3 := by obtain ⟨_, _, _, rfl, _⟩ := h; rfl
theorem len_law_are_upper {ss : List SV} {P : SV → Prop} (h : A_law_are_upper ss P) : ss.length = 3 := by obtain ⟨_, _, _, rfl, _⟩ := h; rfl
theorem len_law_are_lower {ss : List SV} {P : SV → Prop} (h : A_law_are_lower ss P) : ss.length = 3 := by obtain ⟨_, _, _, rfl, _⟩ := h; rfl
theorem len_law_is_paper {ss : List SV} {P : SV → Prop} (h : A_law_is_paper ss P) : ss.length = 2 := by obtain ⟨_, _, _, _, rfl, _⟩ := h; rfl
section
variable {P : Program} {w : World} {K : PySem.W.Frag} {mg : Str → Option Value} {base : Heap}
theorem sc_law_solved : FnScope ["_law_rows", "_law_many", "_law_table", "_law_column", "_law_at", "_law_head", "_law_place_here", "_law_factor", "_law_row_here", "_law_one", "_law_k"] ["_law_rows"] (defScope (top 60)) := ⟨rfl, rfl, rfl, by decide +kernel, rfl, by decide +kernel, by decide +kernel⟩
theorem d_law_solved (T : Txt K mg) (S : Stands K mg "_law_solved" 60 ["_law_rows"]) (D_law_divided : DefOk P w K mg base "_law_divided" ["_law_a", "_law_b"] 34 (SpR (.pure K) A_law_divided)) (D_law_minus : DefOk P w K mg base "_law_minus" ["_law_a", "_law_b"] 35 (SpR (.pure K) A_law_minus)) (D_law_times : DefOk P w K mg base "_law_times" ["_law_a", "_law_b"] 34 (SpR (.pure K) A_law_times)) : DefOk P w K mg base "_law_solved" ["_law_rows"] 36 (SpR (.pure K) A_law_solved) := by
  refine def_pure S sc_law_solved (fun ss P h => len_law_solved h) (by decide) fun f cdv B outer s H E hr hcd => ?_
  have nd := sc_law_solved.nd
  refine ⟨_, (pss_cons (ps_set (i := 1) nd rfl (.inr rfl) (pe_callB call_len_seq (by rfl) T.len (by decide +kernel) (pa_cons (pv 0) pa_nil)))
    (pss_cons (ps_set (i := 2) nd rfl (.inr rfl) (pe_lc (own := [("_law_row_here", 8)]) rfl nd (pi_list (pv 0)) (blkOk_by (N := ["_law_rows", "_law_many", "_law_table", "_law_column", "_law_at", "_law_head", "_law_place_here", "_law_factor", "_law_row_here", "_law_one", "_law_k"]) (sc := defScope (top 60)) (by decide +kernel)) (fun _ _ _ _ _ => (pg_name (i := 8) nd rfl (.inl rfl) (.inr (by rfl)))) (fun _ _ _ _ _ => pts_nil) (fun _ _ _ _ _ => (pe_callTy (lof_K (K := K) rfl) (by rfl) T.list (by decide +kernel) (pa_cons (pv 8) pa_nil)))))
    (pss_cons (ps_for PassesOwn.never rfl (pi_range1 (by rfl) T.range (pa_cons (pv 1) pa_nil)) (pg_name (i := 3) nd rfl (.inr rfl)) (pss_cons (ps_set (i := 4) nd rfl (.inl rfl) (pe_ix ix_list (pe_lc (own := [("_law_place_here", 6)]) rfl nd (pi_range2 (by rfl) T.range (pa_cons (pv 3) (pa_cons (pv 1) pa_nil))) (blkOk_by (N := ["_law_rows", "_law_many", "_law_table", "_law_column", "_law_at", "_law_head", "_law_place_here", "_law_factor", "_law_row_here", "_law_one", "_law_k"]) (sc := defScope (top 60)) (by decide +kernel)) (fun _ _ _ _ _ => (pg_name (i := 6) nd rfl (.inl rfl) (.inr (by rfl)))) (fun _ _ _ _ _ => (pts_one (pt_cmpR (neD_K (K := K) hr.units rfl) (pe_ix (ixL_K (K := K) rfl) (pe_ix (ixL_K (K := K) rfl) (pv 2) (pv 6) (fun _ _ => rfl)) (pv 3) (fun _ _ => rfl)) (pe_tup (pa_cons pe_int (pa_cons pe_int pa_nil))) (nomark _)))) (fun _ _ _ _ _ => (pv 6))) pe_int (fun _ _ => rfl)))
    (pss_cons (ps_asg (pe_tup (pa_cons (pe_ix ix_list (pv 2) (pv 4) (fun _ _ => rfl)) (pa_cons (pe_ix ix_list (pv 2) (pv 3) (fun _ _ => rfl)) pa_nil))) (pg_tup rfl (pgs_cons (pg_sub (pv 2) (pv 3) set_list) (pgs_cons (pg_sub (pv 2) (pv 4) set_list) pgs_nil))))
    (pss_cons (ps_set (i := 5) nd rfl (.inr rfl) (pe_ix ix_list (pv 2) (pv 3) (fun _ _ => rfl)))
    (pss_cons (ps_set (i := 5) nd rfl (.inr rfl) (pe_lc (own := [("_law_one", 9)]) rfl nd (pi_list (pv 5)) (blkOk_by (N := ["_law_rows", "_law_many", "_law_table", "_law_column", "_law_at", "_law_head", "_law_place_here", "_law_factor", "_law_row_here", "_law_one", "_law_k"]) (sc := defScope (top 60)) (by decide +kernel)) (fun _ _ _ _ _ => (pg_name (i := 9) nd rfl (.inl rfl) (.inr (by rfl)))) (fun _ _ _ _ _ => pts_nil) (fun _ _ _ _ _ => (pe_def D_law_divided (hr.mono (by decide)) (by rfl) (pa_cons (pv 9) (pa_cons (pe_ix (ixL_K (K := K) rfl) (pv 5) (pv 3) (fun _ _ => rfl)) pa_nil))))))
    (pss_cons (ps_asg (pv 5) (pg_sub (pv 2) (pv 3) set_list))
    (pss_one (ps_for PassesOwn.never rfl (pi_range1 (by rfl) T.range (pa_cons (pv 1) pa_nil)) (pg_name (i := 6) nd rfl (.inl rfl)) (pss_cons (ps_set (i := 7) nd rfl (.inr rfl) (pe_ix ix_list (pe_ix ix_list (pv 2) (pv 6) (fun _ _ => rfl)) (pv 3) (fun _ _ => rfl)))
    (pss_one (ps_if (PW.pt (pw_and (pt_cmpR (op_neD hr.units) (pv 6) (pv 3) (nomark _)) (pw_and1 (pt_cmpR (op_neD hr.units) (pv 7) (pe_tup (pa_cons pe_int (pa_cons pe_int pa_nil))) (nomark _))))) (pss_cons (ps_set (i := 8) nd rfl (.inr rfl) (pe_ix ix_list (pv 2) (pv 6) (fun _ _ => rfl)))
    (pss_one (ps_asg (pe_lc (own := [("_law_k", 10)]) rfl nd (pi_range1 (by rfl) T.range (pa_cons (pe_op op_add (pv 1) pe_int) pa_nil)) (blkOk_by (N := ["_law_rows", "_law_many", "_law_table", "_law_column", "_law_at", "_law_head", "_law_place_here", "_law_factor", "_law_row_here", "_law_one", "_law_k"]) (sc := defScope (top 60)) (by decide +kernel)) (fun _ _ _ _ _ => (pg_name (i := 10) nd rfl (.inl rfl) (.inr (by rfl)))) (fun _ _ _ _ _ => pts_nil) (fun _ _ _ _ _ => (pe_def D_law_minus (hr.mono (by decide)) (by rfl) (pa_cons (pe_ix (ixL_K (K := K) rfl) (pv 8) (pv 10) (fun _ _ => rfl)) (pa_cons (pe_def D_law_times (hr.mono (by decide)) (by rfl) (pa_cons (pv 7) (pa_cons (pe_ix (ixL_K (K := K) rfl) (pv 5) (pv 10) (fun _ _ => rfl)) pa_nil))) pa_nil))))) (pg_sub (pv 2) (pv 6) set_list)))) pss_nil)))))))))))
    (pss_one (ps_ret (pe_lc (own := [("_law_row_here", 8)]) rfl nd (pi_list (pv 2)) (blkOk_by (N := ["_law_rows", "_law_many", "_law_table", "_law_column", "_law_at", "_law_head", "_law_place_here", "_law_factor", "_law_row_here", "_law_one", "_law_k"]) (sc := defScope (top 60)) (by decide +kernel)) (fun _ _ _ _ _ => (pg_name (i := 8) nd rfl (.inl rfl) (.inr (by rfl)))) (fun _ _ _ _ _ => pts_nil) (fun _ _ _ _ _ => (pe_ix (ixL_K (K := K) rfl) (pv 8) (pv 1) (fun _ _ => rfl))))))))), fun ss P E h => ?_⟩
  obtain ⟨n, M, rfl, G, hn, hP⟩ := h
  refine sg_seq (sg_asg (x := .int n) ((ev_lenL ev_var).is (by rw [rng_len])) ?_)
  refine sg_seq (sg_asgM (ds := (List.range n).map fun i => dRw n (M i)) (ev_lcI (it_list ev_var) (by rw [rng_len]; omega) rfl fun i x y hx hy => ?_) ?_)
  · rw [hx] at hy
    cases hy
    obtain ⟨hi, rfl⟩ := rng_get hx
    exact ⟨_, _, tg_name, by simp, (ev_listL (ev_var (x := dRw n (M i)))).d⟩
  refine sg_seq (sg_for (ds := intsD 0 n) (it_rng1 (n := n) ev_var (by omega)) (fun k Γ => ∃ a b c d e f g h, Γ = [.d (.list ((List.range n).map fun i => dRw n (M i))), .d (.int n), .mu ((List.range n).map fun i => dRw n (gj k M i)), a, b, c, d, e, f, g, h])
    ⟨_, _, _, _, _, _, _, _, rfl⟩ (fun k x Γ1 hx iv => ?_) (fun Γ1 iv => ?_))
  · obtain ⟨a, b, c, d, e, f, g, h, rfl⟩ := iv
    obtain ⟨hk, rfl⟩ := ints_get0 hx
    have hp : 0 < gj k M k k := G.piv k hk
    have hp0 : gj k M k k ≠ 0 := fun z => by rw [z] at hp; exact Rat.lt_irrefl hp
    have bT : ∀ t i q, t ≤ n → i < n → q < n + 1 → Bt 16384 (gj t M i q) := fun t i q ht hi hq => G.bt11 hn ht hi hq
    refine ⟨_, _, tg_name, ?_⟩
    have at0 : ((List.range (intsD k (n - k)).length).filter fun i => decide (gj k M (k + i) k ≠ 0)).map (fun i => dI (k + i)) = dI (k + 0) :: ((((List.range (n - k - 1)).map Nat.succ).filter fun i => decide (gj k M (k + i) k ≠ 0)).map fun i => dI (k + i)) := by
      rw [ints_len, show n - k = (n - k - 1) + 1 by omega, List.range_succ_eq_map, List.filter_cons_of_pos (by simpa using hp0)]
      simp
    have S0 : ∀ {t i q : Nat} {Γ : List SV} {te tb : TE}, i < n → q < n + 1 → EvD (.pure K) E te Γ (dRw n (gj t M i)) → EvD (.pure K) E tb Γ (.int q) → EvD (.pure K) E (tOp (rIxL K) te tb) Γ (dN (gj t M i q)) := fun hi hq h1 h2 => (ev_nat h1 h2 (cl_at hq)).is (by rw [Nat.zero_add])
    refine sg_seq (sg_asg (x := dI k) (EvP.is (ev_ixL (EvM.d (ev_lcF (fun i => decide (gj k M (k + i) k ≠ 0)) (fun i => dI (k + i)) (it_rng2 (m := k) (n := n) ev_vi ev_var (by omega) (by omega)) (by rw [ints_len]; omega) fun i x hx => ?_)) ev_ci (atI_nat (j := 0) (v := dI (k + 0)) (by rw [at0]; rfl))) rfl) ?_)
    · obtain ⟨hi, rfl⟩ := ints_get hx
      have hki : k + i < n := by omega
      have eki : PyData.int ((k : Nat) + (i : Nat) : Int) = dI (k + i) := by unfold dI; rw [Int.natCast_add]
      rw [eki]
      refine ⟨_, _, tg_name, by simp, et_test ((ev_neD (S0 (q := k) hki (by omega) (ev_ixM (m := 2) rfl (ev_vi (n := k + i)) (atI_nat (rng_at hki))) (ev_vi (n := k))) (ev_tup (xs := [.int 0, .int 1]) (ea_cons ev_ci (ea_cons ev_ci ea_nil))) (dN_shp _) (dN_shp 0)).is ?_), fun _ => ev_vi⟩
      have : PyData.eqv (dN (gj k M (k + i) k)) (.tuple [.int 0, .int 1]) = decide (gj k M (k + i) k = 0) := dN_eqv _ 0
      rw [this]
      by_cases c : gj k M (k + i) k = 0 <;> simp [c]
    have hset : ∀ {ds : List PyData} {x : PyData}, ds[k]? = some x → (ds.set k x).set k x = ds := fun {ds x} h => by
      rw [List.set_set]
      obtain ⟨h1, h2⟩ := List.getElem?_eq_some_iff.mp h
      rw [← h2, List.set_getElem_self]
    refine sg_seq (sg_swap (m := 2) (x := dRw n (gj k M k)) (y := dRw n (gj k M k)) (i := k) (j := k) rfl (ev_ixM (m := 2) rfl (ev_vi (n := k)) (atI_nat (rng_at hk))) (ev_ixM (m := 2) rfl (ev_vi (n := k)) (atI_nat (rng_at hk))) (ev_vi (n := k)) (ev_vi (n := k)) (by rw [rng_len]; exact hk) (by rw [rng_len]; exact hk) ?_)
    rw [hset (rng_at hk)]
    refine sg_seq (sg_asg (x := dRw n (gj k M k)) (ev_ixM (m := 2) rfl (ev_vi (n := k)) (atI_nat (rng_at hk))) ?_)
    refine sg_seq (sg_asg (x := dRw n (gj (k + 1) M k)) (EvM.d (ev_lcI (ds := (cl (gj k M k) 0 (n + 1)).map dN) (ys := (cl (gj (k + 1) M k) 0 (n + 1)).map dN) (it_list (ev_var (x := dRw n (gj k M k)))) (by rw [List.length_map, cl_len]; omega) (by rw [List.length_map, List.length_map, cl_len, cl_len]) fun i x y hx hy => ?_)) ?_)
    · obtain ⟨q, hq, rfl⟩ := get_map hx
      obtain ⟨z, hz, rfl⟩ := get_map hy
      obtain ⟨hi, rfl⟩ := cl_get hq
      obtain ⟨_, rfl⟩ := cl_get hz
      rw [Nat.zero_add]
      have e : gj (k + 1) M k i = gj k M k i / gj k M k k := by
        show (if k = k then gj k M k i / gj k M k k else _) = _
        rw [if_pos rfl]
      rw [e]
      exact ⟨_, _, tg_name, by simp, ev_call (ea_cons ev_var (ea_cons (S0 hk (by omega) ev_var (ev_vi (n := k))) ea_nil)) ⟨_, _, rfl, (bT k k i (by omega) hk hi).bd (by decide), (bT k k k (by omega) hk (by omega)).bd (by decide), hp, rfl⟩⟩
    refine sg_seq (sg_setL (m := 2) (j := k) (x := dRw n (gj (k + 1) M k)) rfl ev_var ev_vi (by rw [rng_len]; exact hk) ?_)
    have t0 : ((List.range n).map fun i => dRw n (gj k M i)).set k (dRw n (gj (k + 1) M k)) = (List.range n).map fun i => dRw n (gj (if i = k ∨ i < 0 then k + 1 else k) M i) := by
      apply List.ext_getElem?
      intro j
      by_cases hj : j < n
      · rw [rng_at hj]
        by_cases e : k = j
        · subst e
          rw [List.getElem?_set_self (by rw [rng_len]; exact hk), if_pos (.inl rfl)]
        · rw [List.getElem?_set_ne e, rng_at hj, if_neg (by omega)]
      · rw [List.getElem?_eq_none (by rw [List.length_set, rng_len]; omega), List.getElem?_eq_none (by rw [rng_len]; omega)]
    rw [t0]
    refine sg_for (ds := intsD 0 n) (it_rng1 (n := n) ev_var (by omega)) (fun p Γ => ∃ c e f h1 h2, Γ = [.d (.list ((List.range n).map fun i => dRw n (M i))), .d (.int n), .mu ((List.range n).map fun i => dRw n (gj (if i = k ∨ i < p then k + 1 else k) M i)), .d (dI k), .d (dI k), .d (dRw n (gj (k + 1) M k)), c, e, f, h1, h2])
      ⟨_, _, _, _, _, rfl⟩ (fun p x Γ1 hx iv => ?_) (fun Γ1 iv => ?_)
    · obtain ⟨c, e, f, h1, h2, rfl⟩ := iv
      obtain ⟨hpn, rfl⟩ := ints_get0 hx
      refine ⟨_, _, tg_name, ?_⟩
      have step : ∀ {ds : List PyData}, ds = ((List.range n).map fun i => dRw n (gj (if i = k ∨ i < p then k + 1 else k) M i)) → ∀ x, x = dRw n (gj (k + 1) M p) → ds.set p x = (List.range n).map fun i => dRw n (gj (if i = k ∨ i < p + 1 then k + 1 else k) M i) := fun {ds} hds x hx => by
        subst hds hx
        apply List.ext_getElem?
        intro j
        by_cases hj : j < n
        · rw [rng_at hj]
          by_cases e : p = j
          · subst e
            rw [List.getElem?_set_self (by rw [rng_len]; exact hpn), if_pos (.inr (by omega))]
          · rw [List.getElem?_set_ne e, rng_at hj]
            by_cases c : j = k ∨ j < p
            · rw [if_pos c, if_pos (by omega)]
            · rw [if_neg c, if_neg (by omega)]
        · rw [List.getElem?_eq_none (by rw [List.length_set, rng_len]; omega), List.getElem?_eq_none (by rw [rng_len]; omega)]
      have stay : dRw n (gj (if p = k ∨ p < p then k + 1 else k) M p) = dRw n (gj (k + 1) M p) → ((List.range n).map fun i => dRw n (gj (if i = k ∨ i < p then k + 1 else k) M i)) = (List.range n).map fun i => dRw n (gj (if i = k ∨ i < p + 1 then k + 1 else k) M i) := fun h => by
        rw [← step rfl _ h]; exact (set_self (rng_at hpn)).symm
      have row : ∀ q, p ≠ k → gj (k + 1) M p q = gj k M p q - gj k M p k * gj (k + 1) M k q := fun q hne => by
        show (if p = k then _ else gj k M p q - gj k M p k * (gj k M k q / gj k M k k)) = gj k M p q - gj k M p k * (if k = k then gj k M k q / gj k M k k else _)
        rw [if_neg hne, if_pos rfl]
      by_cases epk : p = k
      · subst epk
        refine sg_seq (sg_asg (x := dN (gj (p + 1) M p p)) (S0 (q := p) hpn (by omega) (EvP.is (ev_ixM (m := 2) rfl (ev_vi (n := p)) (atI_nat (rng_at hpn))) (by rw [if_pos (.inl rfl)])) (ev_vi (n := p))) ?_)
        refine sg_if (Pb := fun b => b = false) (et_andP (Pa := fun b => b = false) (Pb := fun _ => True) ((et_test (ev_neZ (ev_vi (n := p)) (ev_vi (n := p)))).imp fun r e => by rw [e]; simp) (fun h => by cases h) fun a b ha _ hf => hf ha) (fun h => by cases h) (fun _ => sg_next ⟨_, _, _, _, _, by rw [← stay (by rw [if_pos (.inl rfl)])]; rfl⟩)
      · refine sg_seq (sg_asg (x := dN (gj k M p k)) (S0 (q := k) hpn (by omega) (EvP.is (ev_ixM (m := 2) rfl (ev_vi (n := p)) (atI_nat (rng_at hpn))) (by rw [if_neg (by omega)])) (ev_vi (n := k))) ?_)
        refine sg_if (Pb := fun b => b = false → gj k M p k = 0) (et_andP (Pa := fun b => b = true) (Pb := fun b => b = !decide (gj k M p k = 0)) ((et_test (ev_neZ (ev_vi (n := p)) (ev_vi (n := k)))).imp fun r e => ?_) (fun _ => et_test ((ev_neD (ev_var (x := dN (gj k M p k))) (ev_tup (xs := [.int 0, .int 1]) (ea_cons ev_ci (ea_cons ev_ci ea_nil))) (dN_shp _) (dN_shp 0)).is ?_)) fun a b ha hb _ e => ?_) (fun _ => ?_) (fun h => ?_)
        · rw [e]
          have : ¬ ((p : Nat) : Int) = ((k : Nat) : Int) := by omega
          simp [this]
        · have : PyData.eqv (dN (gj k M p k)) (.tuple [.int 0, .int 1]) = decide (gj k M p k = 0) := dN_eqv _ 0
          rw [this]
        · have := hb ha
          rw [e] at this
          simpa using this.symm
        · refine sg_seq (sg_asg (x := dRw n (gj k M p)) (EvP.is (ev_ixM (m := 2) rfl (ev_vi (n := p)) (atI_nat (rng_at hpn))) (by rw [if_neg (by omega)])) ?_)
          refine sg_setL (m := 2) (j := p) (x := dRw n (gj (k + 1) M p)) rfl (EvM.d (ev_lcI (ds := intsD 0 (n + 1)) (ys := (cl (gj (k + 1) M p) 0 (n + 1)).map dN) (it_rng1 (n := n + 1) ((ev_add ev_var ev_ci).is (by rw [Int.natCast_add]; rfl)) (by omega)) (by rw [ints_len]; omega) (by rw [List.length_map, cl_len, ints_len]) fun q x y hx hy => ?_)) ev_vi (by rw [rng_len]; exact hpn) ⟨_, _, _, _, _, by rw [← step rfl _ rfl]; rfl⟩
          obtain ⟨hq, rfl⟩ := ints_get0 hx
          obtain ⟨z, hz, rfl⟩ := get_map hy
          obtain ⟨_, rfl⟩ := cl_get hz
          rw [Nat.zero_add, row q epk]
          have b1 := bT k p q (by omega) hpn hq
          have b2 := bT k p k (by omega) hpn (by omega)
          have b3 := bT (k + 1) k q (by omega) hk hq
          exact ⟨_, _, tg_name, by simp, ev_call (ea_cons (S0 hpn hq ev_var (ev_vi (n := q))) (ea_cons (ev_call (P := fun r => r = .d (dN (gj k M p k * gj (k + 1) M k q))) (ea_cons ev_var (ea_cons (S0 hk hq ev_var (ev_vi (n := q))) ea_nil)) ⟨_, _, rfl, b2.bd (by decide), b3.bd (by decide), rfl⟩) ea_nil)) ⟨_, _, rfl, b1.bd (by decide), (b2.mul b3).bd (by decide), rfl⟩⟩
        · have hz : gj k M p k = 0 := h rfl
          have hst := stay (by
            rw [if_neg (by omega)]
            unfold dRw
            rw [cl_congr (f := gj k M p) (g := gj (k + 1) M p) fun j hj => by rw [row _ epk, hz]; grind])
          exact sg_next ⟨_, _, _, _, _, by rw [← hst]; rfl⟩
    · obtain ⟨c, e, f, h1, h2, rfl⟩ := iv
      rw [ints_len]
      have : ((List.range n).map fun i => dRw n (gj (if i = k ∨ i < n then k + 1 else k) M i)) = (List.range n).map fun i => dRw n (gj (k + 1) M i) := List.map_congr_left fun i hi => by rw [if_pos (.inr (List.mem_range.mp hi))]
      exact ⟨_, _, _, _, _, _, _, _, by rw [this]⟩
  · obtain ⟨a, b, c, d, e, f, g, h, rfl⟩ := iv
    rw [ints_len]
    refine sg_fix (m := 2) rfl (sg_ret (ev_lcI (ds := (List.range n).map fun i => dRw n (gj n M i)) (ys := (List.range n).map fun i => dN (gj n M i n)) (it_list ev_var) (by rw [rng_len]; omega) (by rw [rng_len, rng_len]) fun i x y hx hy => ?_) fun r er => er ▸ hP)
    obtain ⟨hi, rfl⟩ := rng_get hx
    obtain ⟨_, rfl⟩ := rng_get hy
    exact ⟨_, _, tg_name, by simp, (ev_nat (ev_var (x := dRw n (gj n M i))) ev_var (cl_at (by omega))).is (by rw [Nat.zero_add])⟩
theorem sc_law_row : FnScope ["_law_game_here", "_law_place_here", "_law_many", "_law_row_here", "_law_target", "_law_chance", "_law_other"] ["_law_game_here", "_law_place_here", "_law_many"] (defScope (top 61)) := ⟨rfl, rfl, rfl, by decide +kernel, rfl, by decide +kernel, by decide +kernel⟩
theorem d_law_row (T : Txt K mg) (S : Stands K mg "_law_row" 61 ["_law_game_here", "_law_place_here", "_law_many"]) (D_law_targets : DefOk P w K mg base "_law_targets" ["_law_place_here"] 1 (SpR (.pure K) A_law_targets)) (D_law_minus : DefOk P w K mg base "_law_minus" ["_law_a", "_law_b"] 35 (SpR (.pure K) A_law_minus)) : DefOk P w K mg base "_law_row" ["_law_game_here", "_law_place_here", "_law_many"] 36 (SpR (.pure K) A_law_row) := by
  refine def_pure S sc_law_row (fun ss P h => len_law_row h) (by decide) fun f cdv B outer s H E hr hcd => ?_
  have nd := sc_law_row.nd
  refine ⟨_, (pss_cons (ps_setLc (i := 3) (own := [("_law_other", 6)]) rfl nd rfl rfl (sw_true rfl rfl rfl (by decide +kernel)) (pi_range1 (by rfl) T.range (pa_cons (pe_op op_add (pv 2) pe_int) pa_nil)) (blkOk_by (N := ["_law_game_here", "_law_place_here", "_law_many", "_law_row_here", "_law_target", "_law_chance", "_law_other"]) (sc := defScope (top 61)) (by decide +kernel)) (fun _ _ _ _ _ => (pg_name (i := 6) nd rfl (.inl rfl) (.inr (by rfl)))) (fun _ _ _ _ _ => pts_nil) (fun _ _ _ _ _ => (pe_tup (pa_cons pe_int (pa_cons pe_int pa_nil)))))
    (pss_cons (ps_asg (pe_tup (pa_cons pe_int (pa_cons pe_int pa_nil))) (pg_sub (pv 3) (pv 1) set_list))
    (pss_cons (ps_for PassesOwn.never rfl (pi_list (pe_def D_law_targets (hr.mono (by decide)) (by rfl) (pa_cons (pe_ix ix_list (pv 0) (pv 1) (fun _ _ => rfl)) pa_nil))) (pg_name (i := 4) nd rfl (.inl rfl)) (pss_one (ps_if (pt_cmpR (op_eqD hr.units) (pe_ix ix_tup (pe_ix ix_list (pv 0) (pv 1) (fun _ _ => rfl)) pe_int (fun _ _ => rfl)) pe_str (nomark _)) (pss_one (ps_asg (pe_def D_law_minus (hr.mono (by decide)) (by rfl) (pa_cons (pe_ix ix_list (pv 3) (pv 4) (fun _ _ => rfl)) (pa_cons (pe_tup (pa_cons pe_int (pa_cons pe_int pa_nil))) pa_nil))) (pg_sub (pv 3) (pv 4) set_list))) pss_nil)))
    (pss_cons (ps_if (pt_cmpR (op_eqD hr.units) (pe_ix ix_tup (pe_ix ix_list (pv 0) (pv 1) (fun _ _ => rfl)) pe_int (fun _ _ => rfl)) pe_str (nomark _)) (pss_one (ps_for PassesOwn.never rfl (pi_list (pe_ix ix_tup (pe_ix ix_list (pv 0) (pv 1) (fun _ _ => rfl)) pe_int (fun _ _ => rfl))) (pg_tup rfl (pgs_cons (pg_name (i := 5) nd rfl (.inl rfl)) (pgs_cons (pg_name (i := 4) nd rfl (.inl rfl)) pgs_nil))) (pss_one (ps_asg (pe_def D_law_minus (hr.mono (by decide)) (by rfl) (pa_cons (pe_ix ix_list (pv 3) (pv 4) (fun _ _ => rfl)) (pa_cons (pv 5) pa_nil))) (pg_sub (pv 3) (pv 4) set_list))))) pss_nil)
    (pss_one (ps_ret (pv 3))))))), fun ss P E h => ?_⟩
  obtain ⟨c, w0, i, rfl, C, hi, hP⟩ := h
  have hm := C.most
  have hgat : ∀ {Γ : List SV} {ta tb : TE}, EvD (.pure K) E ta Γ (dG c) → EvD (.pure K) E tb Γ (.int i) → EvD (.pure K) E (tOp (rIxL K) ta tb) Γ (dP (gat c i)) := fun h1 h2 => ev_gat h1 h2 (gat_get hi)
  obtain ⟨D, d0, d1, hb, h1, N, hN, er⟩ := C.rs.row i hi
  have pos := C.ch.pos i hi
  have bnd : ∀ m j, Bt 8 ((if i = j then (1 : Rat) else 0) - pr ((cB c i).take m) j) := fun m j => by
    have h2 : Bt 6 (pr ((cB c i).take m) j) := pr_bt d0 d1 (fun b hb' => hb b (List.mem_of_mem_take hb')) (Rat.le_trans (by
      have := bsum_one_le (bs := (cB c i).take m) (cs := (cB c i).drop m) fun b hb => pos b (List.mem_of_mem_drop hb)
      rw [List.take_append_drop] at this
      exact this) h1) j
    by_cases e : i = j
    · rw [if_pos e]; exact bt01.2.sub h2
    · rw [if_neg e]; exact bt01.1.sub h2
  have one : ∀ {m : Nat} {b : Rat × Nat}, (cB c i)[m]? = some b → ((cl (fun j => (if i = j then (1 : Rat) else 0) - pr ((cB c i).take m) j) 0 (c.length + 1)).map dN).set b.2 (dN ((if i = b.2 then (1 : Rat) else 0) - pr ((cB c i).take m) b.2 - b.1)) = (cl (fun j => (if i = j then (1 : Rat) else 0) - pr ((cB c i).take (m + 1)) j) 0 (c.length + 1)).map dN := fun {m b} h => by
    have htk : (cB c i).take (m + 1) = (cB c i).take m ++ [b] := by rw [List.take_add_one, h]; rfl
    have hbt := C.ch.tg i hi b (List.mem_of_getElem? h)
    rw [htk]
    refine cl_set (by omega) ?_ fun j hj hne => ?_
    · rw [pr_app, pr_one, if_pos rfl]; grind
    · rw [pr_app, pr_one, if_neg (Ne.symm hne)]; grind
  have fin : (cl (fun j => (if i = j then (1 : Rat) else 0) - pr (cB c i) j) 0 (c.length + 1)) = cl (mat c.length (cB c) (fun _ => 0) i) 0 (c.length + 1) := cl_congr fun j hj => by
    rw [Nat.zero_add]
    show _ = if j < c.length then (if i = j then (1 : Rat) else 0) - pr (cB c i) j else if j = c.length then 0 else _
    by_cases h : j < c.length
    · rw [if_pos h]
    · have e : j = c.length := by omega
      rw [if_neg h, if_pos e, e, pr_out fun b hb => by have := C.ch.tg i hi b hb; omega, if_neg (by omega)]; grind
  have z0 : (List.range (c.length + 1)).map (fun _ => dN 0) = (cl (fun _ => 0) 0 (c.length + 1)).map dN := by unfold cl; rw [List.map_map]; rfl
  have z1 : ((cl (fun _ => 0) 0 (c.length + 1)).map dN).set i (dN 1) = (cl (fun j => (if i = j then (1 : Rat) else 0) - pr ((cB c i).take 0) j) 0 (c.length + 1)).map dN := cl_set (by omega) (by
    rw [if_pos rfl]; show (1 : Rat) - 0 = 1; grind) fun j hj hne => by
    rw [if_neg (Ne.symm hne)]; show (0 : Rat) - 0 = 0; grind
  refine sg_seq (sg_asgM (ds := (cl (fun _ => 0) 0 (c.length + 1)).map dN) (ev_lcI (ds := intsD 0 (c.length + 1)) (it_rng1 (n := c.length + 1) ((ev_add ev_var ev_ci).is (by rw [Int.natCast_add]; rfl)) (by omega)) (by rw [ints_len]; omega) (by rw [List.length_map, cl_len, ints_len]) fun q x y hx hy => ?_) ?_)
  · obtain ⟨z, hz, rfl⟩ := get_map hy
    obtain ⟨_, rfl⟩ := cl_get hz
    exact ⟨_, _, tg_name, by simp, ev_tup (xs := [.int 0, .int 1]) (ea_cons ev_ci (ea_cons ev_ci ea_nil))⟩
  refine sg_seq (sg_setL (m := 3) (j := i) (x := dN 1) rfl (ev_tup (xs := [.int 1, .int 1]) (ea_cons ev_ci (ea_cons ev_ci ea_nil))) (ev_vi (n := i)) (by rw [List.length_map, cl_len]; omega) ?_)
  rw [z1]
  have tl := C.ok.len i
  have tgE : ∀ {Γ : List SV}, Γ[0]? = some (.d (dG c)) → Γ[1]? = some (.d (dI i)) → EvD (.pure K) E (tCall (SpR (.pure K) A_law_targets) [] E0 (tCons (tOp (rIxL K) (tVar 0) (tVar 1)) tNil)) Γ (dIL (gat c i).tgts) := fun h0 h1 => ev_call (ea_cons (hgat (ev_var h0) (ev_vi h1)) ea_nil) ⟨gat c i, rfl, tl, rfl⟩
  cases q : gat c i with
  | ours ts => exact absurd (by rw [q]; rfl) (C.kd i hi).1
  | theirs ts => exact absurd (by rw [q]; rfl) (C.kd i hi).2
  | draw bs =>
    have eB : cB c i = bs := by unfold cB; rw [q]; rfl
    refine sg_seq (sg_for (ds := (gat c i).tgts.map dI) (it_list (tgE rfl rfl)) (fun m Γ => ∃ a b d, Γ = [.d (dG c), .d (.int i), .d (.int c.length), .mu ((cl (fun j => (if i = j then (1 : Rat) else 0) - pr ((cB c i).take 0) j) 0 (c.length + 1)).map dN), a, b, d]) ⟨_, _, _, rfl⟩ (fun m x Γ1 hx iv => ?_) (fun Γ1 iv => ?_))
    · obtain ⟨a, b, d, rfl⟩ := iv
      exact ⟨_, _, tg_name, sg_ifF ((ev_kp (p := gat c i) .reward (hgat ev_var (ev_vi (n := i)))).is (by rw [q]; rfl)) (sg_next ⟨_, _, _, rfl⟩)⟩
    obtain ⟨a, b, d, rfl⟩ := iv
    refine sg_seq (sg_ifT ((ev_kp (p := gat c i) .draw (hgat ev_var (ev_vi (n := i)))).is (by rw [q]; rfl)) ?_)
    refine sg_for (ds := bs.map dBr) (it_list (ev_ixT (EvP.is (hgat ev_var (ev_vi (n := i))) (by rw [q]; rfl)) ev_ci rfl)) (fun m Γ => ∃ a b d, Γ = [.d (dG c), .d (.int i), .d (.int c.length), .mu ((cl (fun j => (if i = j then (1 : Rat) else 0) - pr ((cB c i).take m) j) 0 (c.length + 1)).map dN), a, b, d]) ⟨_, _, _, rfl⟩ (fun m x Γ1 hx iv => ?_) (fun Γ1 iv => ?_)
    · obtain ⟨a, b, d, rfl⟩ := iv
      obtain ⟨br, hbr, rfl⟩ := get_map hx
      rw [← eB] at hbr
      have hmem := List.mem_of_getElem? hbr
      have hbt := C.ch.tg i hi br hmem
      refine ⟨_, _, tg_tup (tgs_cons tg_name (tgs_cons tg_name tgs_nil)), sg_setL (m := 3) (j := br.2) (x := dN ((if i = br.2 then (1 : Rat) else 0) - pr ((cB c i).take m) br.2 - br.1)) rfl (ev_call (ea_cons (ev_ixM (m := 3) rfl (ev_vi (n := br.2)) (at_mapN (cl_at (by omega)))) (ea_cons ev_var ea_nil)) ⟨_, br.1, rfl, ?_, (ch_bt d0 d1 hb h1 hmem).bd (by decide), ?_⟩) (ev_vi (n := br.2)) (by rw [List.length_map, cl_len]; omega) ⟨_, _, _, by rw [← one hbr]; rfl⟩⟩
      · rw [Nat.zero_add]; exact (bnd m _).bd (by decide)
      · rw [Nat.zero_add]
    · obtain ⟨a, b, d, rfl⟩ := iv
      rw [List.length_map, ← eB, List.take_length, fin]
      exact sg_retM (m := 3) rfl hP
  | reward a0 t =>
    have eB : cB c i = [(1, t)] := by unfold cB; rw [q]; rfl
    have eT : (gat c i).tgts = [t] := by rw [q]; rfl
    refine sg_seq (sg_for (ds := (gat c i).tgts.map dI) (it_list (tgE rfl rfl)) (fun m Γ => ∃ a b d, Γ = [.d (dG c), .d (.int i), .d (.int c.length), .mu ((cl (fun j => (if i = j then (1 : Rat) else 0) - pr ((cB c i).take m) j) 0 (c.length + 1)).map dN), a, b, d]) ⟨_, _, _, rfl⟩ (fun m x Γ1 hx iv => ?_) (fun Γ1 iv => ?_))
    · obtain ⟨a, b, d, rfl⟩ := iv
      obtain ⟨u, hu, rfl⟩ := get_map hx
      rw [eT] at hu
      have hm0 : m = 0 := by
        have := (List.getElem?_eq_some_iff.mp hu).1
        simpa using this
      subst hm0
      cases hu
      have hbr : (cB c i)[0]? = some (1, t) := by rw [eB]; rfl
      have hmem := List.mem_of_getElem? hbr
      have hbt : t < c.length := C.ch.tg i hi _ hmem
      refine ⟨_, _, tg_name, sg_ifT ((ev_kp (p := gat c i) .reward (hgat ev_var (ev_vi (n := i)))).is (by rw [q]; rfl)) (sg_setL (m := 3) (j := t) (x := dN ((if i = t then (1 : Rat) else 0) - pr ((cB c i).take 0) t - 1)) rfl (ev_call (ea_cons (ev_ixM (m := 3) rfl (ev_vi (n := t)) (at_mapN (cl_at (by omega)))) (ea_cons (ev_tup (xs := [.int 1, .int 1]) (ea_cons ev_ci (ea_cons ev_ci ea_nil))) ea_nil)) ⟨_, 1, rfl, ?_, bd01.2, ?_⟩) (ev_vi (n := t)) (by rw [List.length_map, cl_len]; omega) ⟨_, _, _, by rw [← one hbr]; rfl⟩)⟩
      · rw [Nat.zero_add]; exact (bnd 0 _).bd (by decide)
      · rw [Nat.zero_add]
    obtain ⟨a, b, d, rfl⟩ := iv
    refine sg_seq (sg_ifF ((ev_kp (p := gat c i) .draw (hgat ev_var (ev_vi (n := i)))).is (by rw [q]; rfl)) (sg_next ?_))
    have : ((gat c i).tgts.map dI).length = (cB c i).length := by rw [eT, eB]; rfl
    rw [this, List.take_length, fin]
    exact sg_retM (m := 3) rfl hP
  | finish =>
    have eB : cB c i = [] := by unfold cB; rw [q]; rfl
    have eT : (gat c i).tgts = [] := by rw [q]; rfl
    refine sg_seq (sg_for (ds := (gat c i).tgts.map dI) (it_list (tgE rfl rfl)) (fun m Γ => ∃ a b d, Γ = [.d (dG c), .d (.int i), .d (.int c.length), .mu ((cl (fun j => (if i = j then (1 : Rat) else 0) - pr ((cB c i).take 0) j) 0 (c.length + 1)).map dN), a, b, d]) ⟨_, _, _, rfl⟩ (fun m x Γ1 hx iv => ?_) (fun Γ1 iv => ?_))
    · rw [eT] at hx; simp at hx
    obtain ⟨a, b, d, rfl⟩ := iv
    refine sg_seq (sg_ifF ((ev_kp (p := gat c i) .draw (hgat ev_var (ev_vi (n := i)))).is (by rw [q]; rfl)) (sg_next ?_))
    have : (cB c i).take 0 = cB c i := by rw [eB]; rfl
    rw [this, fin]
    exact sg_retM (m := 3) rfl hP
  | lose =>
    have eB : cB c i = [] := by unfold cB; rw [q]; rfl
    have eT : (gat c i).tgts = [] := by rw [q]; rfl
    refine sg_seq (sg_for (ds := (gat c i).tgts.map dI) (it_list (tgE rfl rfl)) (fun m Γ => ∃ a b d, Γ = [.d (dG c), .d (.int i), .d (.int c.length), .mu ((cl (fun j => (if i = j then (1 : Rat) else 0) - pr ((cB c i).take 0) j) 0 (c.length + 1)).map dN), a, b, d]) ⟨_, _, _, rfl⟩ (fun m x Γ1 hx iv => ?_) (fun Γ1 iv => ?_))
    · rw [eT] at hx; simp at hx
    obtain ⟨a, b, d, rfl⟩ := iv
    refine sg_seq (sg_ifF ((ev_kp (p := gat c i) .draw (hgat ev_var (ev_vi (n := i)))).is (by rw [q]; rfl)) (sg_next ?_))
    have : (cB c i).take 0 = cB c i := by rw [eB]; rfl
    rw [this, fin]
    exact sg_retM (m := 3) rfl hP
theorem sc_law_put_in : FnScope ["_law_game_here", "_law_side", "_law_strategy_here", "_law_found", "_law_place_here", "_law_here"] ["_law_game_here", "_law_side", "_law_strategy_here"] (defScope (top 66)) := ⟨rfl, rfl, rfl, by decide +kernel, rfl, by decide +kernel, by decide +kernel⟩
theorem d_law_put_in (T : Txt K mg) (S : Stands K mg "_law_put_in" 66 ["_law_game_here", "_law_side", "_law_strategy_here"]) : DefOk P w K mg base "_law_put_in" ["_law_game_here", "_law_side", "_law_strategy_here"] 1 (SpR (.pure K) A_law_put_in) := by
  refine def_pure S sc_law_put_in (fun ss P h => len_law_put_in h) (by decide) fun f cdv B outer s H E hr hcd => ?_
  have nd := sc_law_put_in.nd
  refine ⟨_, (pss_cons (ps_set (i := 3) nd rfl (.inl rfl) (pe_lst pa_nil))
    (pss_cons (ps_for PassesOwn.never rfl (pi_range1 (by rfl) T.range (pa_cons (pe_callB call_len_seq (by rfl) T.len (by decide +kernel) (pa_cons (pv 0) pa_nil)) pa_nil)) (pg_name (i := 4) nd rfl (.inl rfl)) (pss_cons (ps_set (i := 5) nd rfl (.inl rfl) (pe_ix ix_list (pv 0) (pv 4) (fun _ _ => rfl)))
    (pss_cons (ps_if (pt_cmpR (op_eqD hr.units) (pe_ix ix_tup (pv 5) pe_int (fun _ _ => rfl)) (pv 1) (nomark _)) (pss_one (ps_set (i := 5) nd rfl (.inl rfl) (pe_tup (pa_cons pe_str (pa_cons (pe_lst (pa_cons (pe_tup (pa_cons (pe_tup (pa_cons pe_int (pa_cons pe_int pa_nil))) (pa_cons (pe_ix ix_list (pe_ix ix_tup (pv 5) pe_int (fun _ _ => rfl)) (pe_ix ix_list (pv 2) (pv 4) (fun _ _ => rfl)) (fun _ _ => rfl)) pa_nil))) pa_nil)) pa_nil))))) pss_nil)
    (pss_one (ps_expr (pe_bm PySem.F.plainAttrs_list PySem.F.slot_list_append PySem.F.type_list_append mt_append (pv 3) (pa_cons (pv 5) pa_nil)))))))
    (pss_one (ps_ret (pv 3))))), fun ss P E h => ?_⟩
  obtain ⟨g, k, s, rfl, hk, hs, hl, hP⟩ := h
  refine sg_seq (sg_asgM (ev_lst (xs := []) ea_nil) ?_)
  have pl : (putS g k s).length = g.length := by
    unfold putS
    rw [List.length_zipWith, hs.len, Nat.min_self]
  refine sg_seq (sg_for (ds := intsD 0 g.length) (it_rng1 ((ev_lenL (ev_var (x := dG g))).is (by rw [List.length_map])) (by omega)) (fun i Γ => ∃ a b, Γ = [.d (dG g), .d (.str k.str), .d (dS s), .mu (((putS g k s).take i).map dP), a, b]) ⟨_, _, rfl⟩ (fun i x Γ1 hx iv => ?_) (fun Γ1 iv => ?_))
  · obtain ⟨a, b, rfl⟩ := iv
    obtain ⟨hi, rfl⟩ := ints_get0 hx
    obtain ⟨oi, hsi⟩ : ∃ o, s[i]? = some o := ⟨_, List.getElem?_eq_getElem (by rw [hs.len]; exact hi)⟩
    have hput : (putS g k s)[i]? = some (putP k (gat g i) oi) := by
      unfold putS
      rw [List.getElem?_zipWith, gat_get hi, hsi]
    have hlen : ((putS g k s).take i).length ≤ 1000 := by rw [List.length_take]; omega
    have htk : (putS g k s).take (i + 1) = (putS g k s).take i ++ [putP k (gat g i) oi] := by rw [List.take_add_one, hput]; rfl
    refine ⟨_, _, tg_name, ?_⟩
    refine sg_seq (sg_asg (ev_gat ev_var (ev_vi (n := i)) (gat_get hi)) ?_)
    refine sg_seqI (fun Γ => Γ = [.d (dG g), .d (.str k.str), .d (dS s), .mu (((putS g k s).take i).map dP), .d (dI i), .d (dP (putP k (gat g i) oi))]) (sg_if (ev_kpv (b := k) (p := gat g i) ev_var ev_var) (fun c => ?_) (fun c => ?_)) fun Γ e => ?_
    · have c' : (gat g i).kd = k := of_decide_eq_true c.symm
      obtain ⟨b', eb, hb'⟩ := (hs.at_ i _ oi (gat_get hi) hsi).1 c'
      refine sg_asg (ev_tup (xs := [.str Kd.draw.str, .list [.tuple [dN 1, dI ((gat g i).tgts.getD b' 0)]]]) (ea_cons (ev_cs (z := Kd.draw.str)) (ea_cons (ev_lst (xs := [_]) (ea_cons (ev_tup (xs := [dN 1, dI ((gat g i).tgts.getD b' 0)]) (ea_cons (ev_tup (xs := [.int 1, .int 1]) (ea_cons ev_ci (ea_cons ev_ci ea_nil))) (ea_cons (ev_iat (ns := (gat g i).tgts) (i := b') (ev_p1s (p := gat g i) ev_var (c' ▸ hk)) ((ev_sat ev_var (ev_vi (n := i)) hsi).is (by rw [eb]; rfl)) ?_) ea_nil))) ea_nil)).d ea_nil))) ?_
      · rw [List.getD_eq_getElem?_getD, List.getElem?_eq_getElem hb']; rfl
      · unfold putP
        rw [if_pos c', eb]
        rfl
    · have c' : ¬ (gat g i).kd = k := of_decide_eq_false c.symm
      refine sg_next ?_
      unfold putP
      rw [if_neg c']
      rfl
    · subst e
      refine sg_append rfl ev_var (by rw [List.length_map]; exact hlen) ⟨_, _, by rw [htk, List.map_append]; rfl⟩
  · obtain ⟨a, b, rfl⟩ := iv
    refine sg_fix (m := 3) rfl (sg_retD ev_var ?_)
    have e : (putS g k s).take (intsD 0 g.length).length = putS g k s := by
      rw [ints_len]
      exact List.take_of_length_le (by omega)
    rw [e]; exact hP
theorem sc_law_expected : FnScope ["_law_game_here", "_law_ours", "_law_theirs", "_law_chain", "_law_rows", "_law_place_here", "_law_row_here"] ["_law_game_here", "_law_ours", "_law_theirs"] (defScope (top 67)) := ⟨rfl, rfl, rfl, by decide +kernel, rfl, by decide +kernel, by decide +kernel⟩
theorem d_law_expected (T : Txt K mg) (S : Stands K mg "_law_expected" 67 ["_law_game_here", "_law_ours", "_law_theirs"]) (D_law_put_in : DefOk P w K mg base "_law_put_in" ["_law_game_here", "_law_side", "_law_strategy_here"] 1 (SpR (.pure K) A_law_put_in)) (D_law_solved : DefOk P w K mg base "_law_solved" ["_law_rows"] 36 (SpR (.pure K) A_law_solved)) (D_law_row : DefOk P w K mg base "_law_row" ["_law_game_here", "_law_place_here", "_law_many"] 36 (SpR (.pure K) A_law_row)) : DefOk P w K mg base "_law_expected" ["_law_game_here", "_law_ours", "_law_theirs"] 37 (SpR (.pure K) A_law_expected) := by
  refine def_pure S sc_law_expected (fun ss P h => len_law_expected h) (by decide) fun f cdv B outer s H E hr hcd => ?_
  have nd := sc_law_expected.nd
  refine ⟨_, (pss_cons (ps_set (i := 3) nd rfl (.inl rfl) (pe_def D_law_put_in (hr.mono (by decide)) (by rfl) (pa_cons (pe_def D_law_put_in (hr.mono (by decide)) (by rfl) (pa_cons (pv 0) (pa_cons pe_str (pa_cons (pv 1) pa_nil)))) (pa_cons pe_str (pa_cons (pv 2) pa_nil)))))
    (pss_cons (ps_set (i := 4) nd rfl (.inl rfl) (pe_lst pa_nil))
    (pss_cons (ps_for PassesOwn.never rfl (pi_range1 (by rfl) T.range (pa_cons (pe_callB call_len_seq (by rfl) T.len (by decide +kernel) (pa_cons (pv 3) pa_nil)) pa_nil)) (pg_name (i := 5) nd rfl (.inl rfl)) (pss_cons (ps_set (i := 6) nd rfl (.inl rfl) (pe_def D_law_row (hr.mono (by decide)) (by rfl) (pa_cons (pv 3) (pa_cons (pv 5) (pa_cons (pe_callB call_len_seq (by rfl) T.len (by decide +kernel) (pa_cons (pv 3) pa_nil)) pa_nil)))))
    (pss_cons (ps_if (pt_cmpR (op_eqD hr.units) (pe_ix ix_tup (pe_ix ix_list (pv 3) (pv 5) (fun _ _ => rfl)) pe_int (fun _ _ => rfl)) pe_str (nomark _)) (pss_one (ps_asg (pe_ix ix_tup (pe_ix ix_list (pv 3) (pv 5) (fun _ _ => rfl)) pe_int (fun _ _ => rfl)) (pg_sub (pv 6) (pe_callB call_len_seq (by rfl) T.len (by decide +kernel) (pa_cons (pv 3) pa_nil)) set_list))) pss_nil)
    (pss_one (ps_expr (pe_bm PySem.F.plainAttrs_list PySem.F.slot_list_append PySem.F.type_list_append mt_append (pv 4) (pa_cons (pv 6) pa_nil)))))))
    (pss_one (ps_ret (pe_def D_law_solved (hr.mono (by decide)) (by rfl) (pa_cons (pv 4) pa_nil))))))), fun ss P E h => ?_⟩
  obtain ⟨g, σ, τ, w0, rfl, W, hs, ht, hP⟩ := h
  have hm := W.most
  have C := W.cn σ τ hs ht
  have hcm := C.most
  have l1 : (putS g .ours σ).length = g.length := by
    unfold putS
    rw [List.length_zipWith, hs.len, Nat.min_self]
  refine sg_seq (sg_asg (x := dG (chn g σ τ)) (ev_call (ea_cons (ev_call (P := fun r => r = .d (dG (putS g .ours σ))) (ea_cons ev_var (ea_cons (ev_cs (z := Kd.ours.str)) (ea_cons ev_var ea_nil))) ⟨g, .ours, σ, rfl, .inl rfl, hs, by omega, rfl⟩) (ea_cons (ev_cs (z := Kd.theirs.str)) (ea_cons ev_var ea_nil)))
    ⟨putS g .ours σ, .theirs, τ, rfl, .inr rfl, hs.put ht, by omega, rfl⟩) ?_)
  generalize chn g σ τ = c at C hcm hP
  have Gk := C.ch.gok C.rs (c := c.length + 1) (by omega)
  refine sg_seq (sg_asgM (ev_lst (xs := []) ea_nil) ?_)
  refine sg_seq (sg_for (ds := intsD 0 c.length) (it_rng1 ((ev_lenL (ev_var (x := dG c))).is (by rw [List.length_map])) (by omega)) (fun i Γ => ∃ a b, Γ = [.d (dG g), .d (dS σ), .d (dS τ), .d (dG c), .mu ((List.range i).map fun i => dRw c.length (mat c.length (cB c) (cr c) i)), a, b]) ⟨_, _, rfl⟩ (fun i x Γ1 hx iv => ?_) (fun Γ1 iv => ?_))
  · obtain ⟨a, b, rfl⟩ := iv
    obtain ⟨hi, rfl⟩ := ints_get0 hx
    have hgat : ∀ {Γ : List SV} {ta tb : TE}, EvD (.pure K) E ta Γ (dG c) → EvD (.pure K) E tb Γ (.int i) → EvD (.pure K) E (tOp (rIxL K) ta tb) Γ (dP (gat c i)) := fun h1 h2 => ev_gat h1 h2 (gat_get hi)
    refine ⟨_, _, tg_name, ?_⟩
    refine sg_seq (sg_asgM (ds := (cl (mat c.length (cB c) (fun _ => 0) i) 0 (c.length + 1)).map dN) (ev_call (ea_cons ev_var (ea_cons (ev_vi (n := i)) (ea_cons (EvP.is (ev_lenL (ev_var (x := dG c))) (by rw [List.length_map])) ea_nil))) ⟨c, w0, i, rfl, C, hi, rfl⟩) ?_)
    have ms : (cl (mat c.length (cB c) (fun _ => 0) i) 0 (c.length + 1)).map dN = (cl (mat c.length (cB c) (fun _ => 0) i) 0 (c.length + 1)).map dN := rfl
    have m1 : ∀ q, cr c i = q → ((cl (mat c.length (cB c) (fun _ => 0) i) 0 (c.length + 1)).map dN).set c.length (dN q) = (cl (mat c.length (cB c) (cr c) i) 0 (c.length + 1)).map dN := fun q hq => cl_set (by omega) (by
      show (if c.length < c.length then _ else if c.length = c.length then cr c i else _) = _
      rw [if_neg (by omega), if_pos rfl, hq]) fun j hj hne => by
      show (if j < c.length then _ else if j = c.length then _ else _) = (if j < c.length then _ else if j = c.length then _ else _)
      rw [if_pos (show j < c.length by omega), if_pos (show j < c.length by omega)]
    have m2 : cr c i = 0 → (cl (mat c.length (cB c) (fun _ => 0) i) 0 (c.length + 1)) = cl (mat c.length (cB c) (cr c) i) 0 (c.length + 1) := fun hq => cl_congr fun j hj => by
      rw [Nat.zero_add]
      show (if j < c.length then _ else if j = c.length then (0 : Rat) else _) = (if j < c.length then _ else if j = c.length then cr c i else _)
      rw [hq]
    refine sg_seqI (fun Γ => Γ = [.d (dG g), .d (dS σ), .d (dS τ), .d (dG c), .mu ((List.range i).map fun i => dRw c.length (mat c.length (cB c) (cr c) i)), .d (dI i), .mu ((cl (mat c.length (cB c) (cr c) i) 0 (c.length + 1)).map dN)]) (sg_if (ev_kp .reward (hgat ev_var (ev_vi (n := i)))) (fun z => ?_) (fun z => ?_)) fun Γ e => ?_
    · have z' : (gat c i).kd = .reward := of_decide_eq_true z.symm
      cases q : gat c i with
      | reward a0 t =>
        refine sg_setL (m := 6) (j := c.length) (x := dN a0) rfl (ev_ixT (EvP.is (hgat ev_var (ev_vi (n := i))) (by rw [q]; rfl)) ev_ci rfl) (EvP.is (ev_lenL (ev_var (x := dG c))) (by rw [List.length_map])) (by rw [List.length_map, cl_len]; omega) ?_
        rw [m1 a0 (by unfold cr; rw [q]; rfl)]; rfl
      | _ => rw [q] at z'; cases z'
    · have z' : ¬ (gat c i).kd = .reward := of_decide_eq_false z.symm
      refine sg_next ?_
      rw [← m2 (by
        unfold cr
        cases q : gat c i with
        | reward a0 t => rw [q] at z'; exact absurd rfl z'
        | _ => rfl)]
      rfl
    · subst e
      exact sg_fix (m := 6) rfl (sg_append (x := dRw c.length (mat c.length (cB c) (cr c) i)) rfl ev_var (by rw [rng_len]; omega) ⟨_, _, by rw [rng_succ]; rfl⟩)
  · obtain ⟨a, b, rfl⟩ := iv
    rw [ints_len]
    have hv : ((List.range c.length).map fun i => dN (gj c.length (mat c.length (cB c) (cr c)) i c.length)) = ((List.range c.length).map fun i => gj c.length (mat c.length (cB c) (cr c)) i c.length).map dN := by rw [List.map_map]; rfl
    refine sg_fix (m := 4) rfl (sg_ret (ev_call (ea_cons ev_var ea_nil) ⟨c.length, mat c.length (cB c) (cr c), rfl, Gk, hcm, ?_⟩) fun r h => h)
    rw [hv]
    have sx : Sol c.length (cB c) (cr c) fun a => gj c.length (mat c.length (cB c) (cr c)) a c.length := (mat_sol C.ch.tg).mp (gj_sol fun t ht z => by
      have := Gk.piv t ht
      rw [z] at this
      exact Rat.lt_irrefl this)
    have vt : ∀ j, j < c.length → vat ((List.range c.length).map fun i => gj c.length (mat c.length (cB c) (cr c)) i c.length) j = gj c.length (mat c.length (cB c) (cr c)) j c.length := fun j hj => by
      unfold vat
      rw [List.getD_eq_getElem?_getD, rng_at hj]; rfl
    refine hP _ ⟨by rw [rng_len], fun i hi => ?_, fun q hq => ?_⟩
    · rw [vt i hi, bsum_congr (y := fun j => gj c.length (mat c.length (cB c) (cr c)) j c.length) fun b hb => vt b.2 (C.ch.tg i hi b hb)]
      exact sx i hi
    · obtain ⟨i, hi, rfl⟩ := List.mem_map.mp hq
      exact Gk.bt11 hcm (Nat.le_refl _) (List.mem_range.mp hi) (by omega)
theorem sc_law_is_strategy : FnScope ["_law_game_here", "_law_side", "_law_strategy_here", "_law_place_here", "_law_branch"] ["_law_game_here", "_law_side", "_law_strategy_here"] (defScope (top 69)) := ⟨rfl, rfl, rfl, by decide +kernel, rfl, by decide +kernel, by decide +kernel⟩
theorem d_law_is_strategy (T : Txt K mg) (S : Stands K mg "_law_is_strategy" 69 ["_law_game_here", "_law_side", "_law_strategy_here"]) : DefOk P w K mg base "_law_is_strategy" ["_law_game_here", "_law_side", "_law_strategy_here"] 1 (SpR (.pure K) A_law_is_strategy) := by
  refine def_pure S sc_law_is_strategy (fun ss P h => len_law_is_strategy h) (by decide) fun f cdv B outer s H E hr hcd => ?_
  have nd := sc_law_is_strategy.nd
  refine ⟨_, (pss_cons (ps_if (PW.pt (pw_or (pt_not (pt_val (pe_callB call_isi (by rfl) T.isinstance (by decide +kernel) (pa_cons (pv 2) (pa_cons (pe_bltn (v := .ty "list") (by rfl) T.list (by decide +kernel) rfl) pa_nil))))) (pw_or1 (pt_cmpR (op_neD hr.units) (pe_callB call_len_seq (by rfl) T.len (by decide +kernel) (pa_cons (pv 2) pa_nil)) (pe_callB call_len_seq (by rfl) T.len (by decide +kernel) (pa_cons (pv 0) pa_nil)) (nomark _))))) (pss_one (ps_ret pe_bl)) pss_nil)
    (pss_cons (ps_for PassesOwn.never rfl (pi_range1 (by rfl) T.range (pa_cons (pe_callB call_len_seq (by rfl) T.len (by decide +kernel) (pa_cons (pv 0) pa_nil)) pa_nil)) (pg_name (i := 3) nd rfl (.inl rfl)) (pss_cons (ps_set (i := 4) nd rfl (.inl rfl) (pe_ix ix_list (pv 2) (pv 3) (fun _ _ => rfl)))
    (pss_one (ps_if (pt_cmpR (op_neD hr.units) (pe_ix ix_tup (pe_ix ix_list (pv 0) (pv 3) (fun _ _ => rfl)) pe_int (fun _ _ => rfl)) (pv 1) (nomark _)) (pss_one (ps_if (pt_cmpR op_notN (pv 4) pe_non (nomark _)) (pss_one (ps_ret pe_bl)) pss_nil)) (pss_one (ps_if (PW.pt (pw_or (pt_not (pt_val (pe_callB call_isi (by rfl) T.isinstance (by decide +kernel) (pa_cons (pv 4) (pa_cons (pe_bltn (v := .ty "int") (by rfl) T.int (by decide +kernel) rfl) pa_nil))))) (pw_or (pt_val (pe_callB call_isi (by rfl) T.isinstance (by decide +kernel) (pa_cons (pv 4) (pa_cons (pe_bltn (v := .ty "bool") (by rfl) T.bool (by decide +kernel) rfl) pa_nil)))) (pw_or1 (pt_not (pt_chain op_le op_lt pe_int (pv 4) (pe_callB call_len_seq (by rfl) T.len (by decide +kernel) (pa_cons (pe_ix ix_tup (pe_ix ix_list (pv 0) (pv 3) (fun _ _ => rfl)) pe_int (fun _ _ => rfl)) pa_nil)))))))) (pss_one (ps_ret pe_bl)) pss_nil))))))
    (pss_one (ps_ret pe_bl)))), fun ss P E h => ?_⟩
  obtain ⟨g, k, s, rfl, hk, G, hs, hP⟩ := h
  have hm := G.most
  refine sg_seq (sg_ifF (et_orF (et_not (b := true) (et_B (ev_isi (ev_var (x := dS s)) (kit_same _)))) (et_test ((ev_neZ (ev_lenL (ev_var (x := dS s))) (ev_lenL (ev_var (x := dG g)))).is (by rw [List.length_map, List.length_map, hs.len]; simp)))) (sg_next ?_))
  refine sg_seq (sg_for (ds := intsD 0 g.length) (it_rng1 ((ev_lenL (ev_var (x := dG g))).is (by rw [List.length_map])) (by omega)) (fun i Γ => ∃ a b, Γ = [.d (dG g), .d (.str k.str), .d (dS s), a, b]) ⟨_, _, rfl⟩ (fun i x Γ1 hx iv => ?_) (fun Γ1 iv => ?_))
  · obtain ⟨a, b, rfl⟩ := iv
    obtain ⟨hi, rfl⟩ := ints_get0 hx
    have hgat : ∀ {Γ : List SV} {ta tb : TE}, EvD (.pure K) E ta Γ (dG g) → EvD (.pure K) E tb Γ (.int i) → EvD (.pure K) E (tOp (rIxL K) ta tb) Γ (dP (gat g i)) := fun h1 h2 => ev_gat h1 h2 (gat_get hi)
    refine ⟨_, _, tg_name, ?_⟩
    by_cases c : (gat g i).kd = k
    · obtain ⟨hsi, hsb⟩ := (hs.at hi).1 c
      refine sg_seq (sg_asg (x := dI (so s i)) ((ev_sat ev_var (ev_vi (n := i)) hsi).is rfl) ?_)
      refine sg_ifF ((ev_kpvn (b := k) (hgat ev_var (ev_vi (n := i))) ev_var).is (by rw [decide_eq_true c]; rfl)) ?_
      refine sg_ifF (et_orF (et_not (b := true) (et_B (ev_isi (ev_vi (n := so s i)) (kit_same _)))) (et_orF (et_B (ev_isi (ev_vi (n := so s i)) kit_ib)) (et_not (b := true) (EvT.is (et_chain ev_ci (ev_vi (n := so s i)) (ev_lenL (ev_p1s (p := gat g i) (hgat ev_var (ev_vi (n := i))) (c ▸ hk)))) ?_)))) (sg_next ⟨_, _, rfl⟩)
      rw [List.length_map]
      have h1 : (0 : Int) ≤ (so s i : Nat) := by omega
      have h2 : ((so s i : Nat) : Int) < ((gat g i).tgts.length : Nat) := by omega
      rw [decide_eq_true h1, decide_eq_true h2]; rfl
    · have hsi := (hs.at hi).2 c
      refine sg_seq (sg_asg (x := .none) ((ev_sat ev_var (ev_vi (n := i)) hsi).is rfl) ?_)
      refine sg_ifT ((ev_kpvn (b := k) (hgat ev_var (ev_vi (n := i))) ev_var).is (by rw [decide_eq_false c]; rfl)) ?_
      exact sg_ifF (et_test (ev_notN (ev_var (x := .none)))) (sg_next ⟨_, _, rfl⟩)
  · obtain ⟨a, b, rfl⟩ := iv
    exact sg_retD ev_cb hP
theorem sc_law_dues : FnScope ["_law_game_here", "_law_place_here", "_law_numbers", "_law_side", "_law_strategy_here", "_law_here", "_law_total", "_law_chance", "_law_target"] ["_law_game_here", "_law_place_here", "_law_numbers", "_law_side", "_law_strategy_here"] (defScope (top 68)) := ⟨rfl, rfl, rfl, by decide +kernel, rfl, by decide +kernel, by decide +kernel⟩
theorem d_law_dues (T : Txt K mg) (S : Stands K mg "_law_dues" 68 ["_law_game_here", "_law_place_here", "_law_numbers", "_law_side", "_law_strategy_here"]) (D_law_plus : DefOk P w K mg base "_law_plus" ["_law_a", "_law_b"] 34 (SpR (.pure K) A_law_plus)) (D_law_times : DefOk P w K mg base "_law_times" ["_law_a", "_law_b"] 34 (SpR (.pure K) A_law_times)) : DefOk P w K mg base "_law_dues" ["_law_game_here", "_law_place_here", "_law_numbers", "_law_side", "_law_strategy_here"] 35 (SpR (.pure K) A_law_dues) := by
  refine def_pure S sc_law_dues (fun ss P h => len_law_dues h) (by decide) fun f cdv B outer s H E hr hcd => ?_
  have nd := sc_law_dues.nd
  refine ⟨_, (pss_cons (ps_set (i := 5) nd rfl (.inl rfl) (pe_ix ix_list (pv 0) (pv 1) (fun _ _ => rfl)))
    (pss_cons (ps_if (pt_cmpR (op_eqD hr.units) (pe_ix ix_tup (pv 5) pe_int (fun _ _ => rfl)) pe_str (nomark _)) (pss_cons (ps_set (i := 6) nd rfl (.inl rfl) (pe_tup (pa_cons pe_int (pa_cons pe_int pa_nil))))
    (pss_cons (ps_for PassesOwn.never rfl (pi_list (pe_ix ix_tup (pv 5) pe_int (fun _ _ => rfl))) (pg_tup rfl (pgs_cons (pg_name (i := 7) nd rfl (.inl rfl)) (pgs_cons (pg_name (i := 8) nd rfl (.inl rfl)) pgs_nil))) (pss_one (ps_set (i := 6) nd rfl (.inl rfl) (pe_def D_law_plus (hr.mono (by decide)) (by rfl) (pa_cons (pv 6) (pa_cons (pe_def D_law_times (hr.mono (by decide)) (by rfl) (pa_cons (pv 7) (pa_cons (pe_ix ix_list (pv 2) (pv 8) (fun _ _ => rfl)) pa_nil))) pa_nil))))))
    (pss_one (ps_ret (pe_lst (pa_cons (pv 6) pa_nil)))))) pss_nil)
    (pss_cons (ps_if (pt_cmpR (op_eqD hr.units) (pe_ix ix_tup (pv 5) pe_int (fun _ _ => rfl)) pe_str (nomark _)) (pss_one (ps_ret (pe_lst (pa_cons (pe_def D_law_plus (hr.mono (by decide)) (by rfl) (pa_cons (pe_ix ix_tup (pv 5) pe_int (fun _ _ => rfl)) (pa_cons (pe_ix ix_list (pv 2) (pe_ix ix_tup (pv 5) pe_int (fun _ _ => rfl)) (fun _ _ => rfl)) pa_nil))) pa_nil)))) pss_nil)
    (pss_cons (ps_if (pt_cmpR (op_eqD hr.units) (pe_ix ix_tup (pv 5) pe_int (fun _ _ => rfl)) (pv 3) (nomark _)) (pss_one (ps_ret (pe_lst (pa_cons (pe_ix ix_list (pv 2) (pe_ix ix_list (pe_ix ix_tup (pv 5) pe_int (fun _ _ => rfl)) (pe_ix ix_list (pv 4) (pv 1) (fun _ _ => rfl)) (fun _ _ => rfl)) (fun _ _ => rfl)) pa_nil)))) pss_nil)
    (pss_cons (ps_if (PW.pt (pw_or (pt_cmpR (op_eqD hr.units) (pe_ix ix_tup (pv 5) pe_int (fun _ _ => rfl)) pe_str (nomark _)) (pw_or1 (pt_cmpR (op_eqD hr.units) (pe_ix ix_tup (pv 5) pe_int (fun _ _ => rfl)) pe_str (nomark _))))) (pss_one (ps_ret (pe_lc (own := [("_law_target", 8)]) rfl nd (pi_list (pe_ix ix_tup (pv 5) pe_int (fun _ _ => rfl))) (blkOk_by (N := ["_law_game_here", "_law_place_here", "_law_numbers", "_law_side", "_law_strategy_here", "_law_here", "_law_total", "_law_chance", "_law_target"]) (sc := defScope (top 68)) (by decide +kernel)) (fun _ _ _ _ _ => (pg_name (i := 8) nd rfl (.inl rfl) (.inr (by rfl)))) (fun _ _ _ _ _ => pts_nil) (fun _ _ _ _ _ => (pe_ix (ixL_K (K := K) rfl) (pv 2) (pv 8) (fun _ _ => rfl)))))) pss_nil)
    (pss_one (ps_ret (pe_lst (pa_cons (pe_tup (pa_cons pe_int (pa_cons pe_int pa_nil))) pa_nil))))))))), fun ss P E h => ?_⟩
  obtain ⟨g, i, v, k, s, rfl, hi, D, hP⟩ := h
  have G := D.ok
  have hm := G.most
  have num : ∀ {Γ : List SV} {ta tb : TE} {t : Nat}, t < g.length → EvD (.pure K) E ta Γ (dNL v) → EvD (.pure K) E tb Γ (.int t) → EvD (.pure K) E (tOp (rIxL K) ta tb) Γ (dN (vat v t)) := fun ht h1 h2 => ev_nat h1 h2 (vat_get (by rw [D.len]; exact ht))
  have nb : ∀ t, t < g.length → Bt 16384 (vat v t) := fun t ht => D.bt _ (List.mem_of_getElem? (vat_get (by rw [D.len]; exact ht)))
  have tl := G.tg i hi
  have hpl := D.pl i hi
  have hlen := G.len i
  refine sg_seq (sg_asg (ev_gat ev_var (ev_vi (n := i)) (gat_get hi)) ?_)
  unfold dues at hP
  have hstr := hk_at D hi
  cases q : gat g i with
  | draw bs =>
    rw [q] at tl hpl hP
    have tlb : ∀ b ∈ bs, b.2 < g.length := fun b hb => tl b.2 (List.mem_map.mpr ⟨b, hb, rfl⟩)
    refine sg_seq (sg_ifT ((ev_kp (p := .draw bs) .draw ev_var).is rfl) ?_)
    refine sg_seq (sg_asg (x := dN (bsum (bs.take 0) (vat v))) (ev_tup (xs := [.int 0, .int 1]) (ea_cons ev_ci (ea_cons ev_ci ea_nil))) ?_)
    refine sg_seq (sg_for (ds := bs.map dBr) (it_list (ev_ixT (ev_var (x := dP (.draw bs))) ev_ci rfl)) (fun m Γ => ∃ a b, Γ = [.d (dG g), .d (.int i), .d (dNL v), .d (.str k.str), .d (dS s), .d (dP (.draw bs)), .d (dN (bsum (bs.take m) (vat v))), a, b]) ⟨_, _, rfl⟩ (fun m x Γ1 hx iv => ?_) (fun Γ1 iv => ?_))
    · obtain ⟨a, b, rfl⟩ := iv
      obtain ⟨br, hbr, rfl⟩ := get_map hx
      have hmem := List.mem_of_getElem? hbr
      have hml : m < bs.length := (List.getElem?_eq_some_iff.mp hbr).1
      have htk : bs.take (m + 1) = bs.take m ++ [br] := by rw [List.take_add_one, hbr]; rfl
      have e : bsum (bs.take (m + 1)) (vat v) = bsum (bs.take m) (vat v) + br.1 * vat v br.2 := by
        rw [htk, bsum_app]
        show _ + (br.1 * vat v br.2 + 0) = _
        grind
      have h6 := hpl.1
      refine ⟨_, _, tg_tup (tgs_cons tg_name (tgs_cons tg_name tgs_nil)), sg_asg (x := dN (bsum (bs.take (m + 1)) (vat v))) (ev_call (ea_cons ev_var (ea_cons (ev_call (P := fun r => r = .d (dN (br.1 * vat v br.2))) (ea_cons ev_var (ea_cons (num (tlb br hmem) ev_var (ev_vi (n := br.2))) ea_nil)) ⟨_, _, rfl, (hpl.2 br hmem).bd (by decide), (nb _ (tlb br hmem)).bd (by decide), rfl⟩) ea_nil)) ⟨_, _, rfl, ?_, ((hpl.2 br hmem).mul (nb _ (tlb br hmem))).bd (by decide), by rw [e]⟩) ⟨_, _, rfl⟩⟩
      refine (bsum_bt (v := v) (bs := bs.take m) fun b hb => ⟨hpl.2 b (List.mem_of_mem_take hb), nb _ (tlb b (List.mem_of_mem_take hb))⟩).bd ?_
      rw [List.length_take]
      have : min m bs.length ≤ 6 := by omega
      omega
    · obtain ⟨a, b, rfl⟩ := iv
      rw [List.length_map, List.take_length]
      exact sg_ret (ev_lst (xs := [_]) (ea_cons ev_var ea_nil)) fun r er => er ▸ hP
  | reward a0 t =>
    rw [q] at tl hpl hP
    have ht := tl t (List.mem_singleton.mpr rfl)
    refine sg_seq (sg_ifF ((ev_kp (p := .reward a0 t) .draw ev_var).is rfl) (sg_next ?_))
    exact sg_seq (sg_ifT ((ev_kp (p := .reward a0 t) .reward ev_var).is rfl) (sg_ret (ev_lst (xs := [dN (a0 + vat v t)]) (ea_cons (ev_call (ea_cons (ev_ixT (ev_var (x := dP (.reward a0 t))) ev_ci rfl) (ea_cons (num ht ev_var (ev_ixT (ev_var (x := dP (.reward a0 t))) ev_ci rfl)) ea_nil)) ⟨_, _, rfl, Bt.bd (m := 6) hpl (by decide), (nb t ht).bd (by decide), rfl⟩) ea_nil)) fun r er => er ▸ hP))
  | ours ts =>
    rw [q] at tl hP hlen hstr
    dsimp only at hP
    refine sg_seq (sg_ifF ((ev_kp (p := .ours ts) .draw ev_var).is rfl) (sg_next ?_))
    refine sg_seq (sg_ifF ((ev_kp (p := .ours ts) .reward ev_var).is rfl) (sg_next ?_))
    refine sg_seq (sg_if (ev_kpv (p := .ours ts) (b := k) ev_var ev_var) (fun c => ?_) (fun c => sg_next ?_))
    · have c' : k = .ours := (of_decide_eq_true c.symm : Kd.ours = k).symm
      obtain ⟨hsi, hsb'⟩ := hstr c'.symm
      have hsb : so s i < ts.length := hsb'
      rw [show (if k = Kd.ours then [vat v (ts.getD (so s i) 0)] else ts.map (vat v)) = [vat v (ts.getD (so s i) 0)] from if_pos c'] at hP
      have hg : ts[so s i]? = some (ts.getD (so s i) 0) := by rw [List.getElem?_eq_getElem hsb, getD_some (List.getElem?_eq_getElem hsb)]
      exact sg_ret (ev_lst (xs := [dN (vat v (ts.getD (so s i) 0))]) (ea_cons (num (tl _ (List.mem_of_getElem? hg)) ev_var (ev_iat (ns := ts) (i := so s i) (ev_ixT (ev_var (x := dP (.ours ts))) ev_ci rfl) ((ev_sat ev_var (ev_vi (n := i)) hsi).is rfl) hg)) ea_nil)) fun r er => er ▸ hP
    · have c' : ¬ k = .ours := fun z => of_decide_eq_false c.symm z.symm
      rw [show (if k = Kd.ours then [vat v (ts.getD (so s i) 0)] else ts.map (vat v)) = ts.map (vat v) from if_neg c'] at hP
      refine sg_seq (sg_ifT (et_orT ((ev_kp (p := .ours ts) .ours ev_var).is rfl)) (sg_ret (ev_lcI (ds := ts.map dI) (ys := (ts.map (vat v)).map dN) (it_list (ev_ixT (ev_var (x := dP (.ours ts))) ev_ci rfl)) (by rw [List.length_map]; exact hlen) (by simp) fun j x y hx hy => ?_) fun r er => er ▸ hP))
      obtain ⟨t, ht, rfl⟩ := get_map hx
      rw [List.map_map, List.getElem?_map, ht] at hy
      cases hy
      exact ⟨_, _, tg_name, by simp, num (tl t (List.mem_of_getElem? ht)) ev_var (ev_vi (n := t))⟩
  | theirs ts =>
    rw [q] at tl hP hlen hstr
    dsimp only at hP
    refine sg_seq (sg_ifF ((ev_kp (p := .theirs ts) .draw ev_var).is rfl) (sg_next ?_))
    refine sg_seq (sg_ifF ((ev_kp (p := .theirs ts) .reward ev_var).is rfl) (sg_next ?_))
    refine sg_seq (sg_if (ev_kpv (p := .theirs ts) (b := k) ev_var ev_var) (fun c => ?_) (fun c => sg_next ?_))
    · have c' : k = .theirs := (of_decide_eq_true c.symm : Kd.theirs = k).symm
      obtain ⟨hsi, hsb'⟩ := hstr c'.symm
      have hsb : so s i < ts.length := hsb'
      rw [show (if k = Kd.theirs then [vat v (ts.getD (so s i) 0)] else ts.map (vat v)) = [vat v (ts.getD (so s i) 0)] from if_pos c'] at hP
      have hg : ts[so s i]? = some (ts.getD (so s i) 0) := by rw [List.getElem?_eq_getElem hsb, getD_some (List.getElem?_eq_getElem hsb)]
      exact sg_ret (ev_lst (xs := [dN (vat v (ts.getD (so s i) 0))]) (ea_cons (num (tl _ (List.mem_of_getElem? hg)) ev_var (ev_iat (ns := ts) (i := so s i) (ev_ixT (ev_var (x := dP (.theirs ts))) ev_ci rfl) ((ev_sat ev_var (ev_vi (n := i)) hsi).is rfl) hg)) ea_nil)) fun r er => er ▸ hP
    · have c' : ¬ k = .theirs := fun z => of_decide_eq_false c.symm z.symm
      rw [show (if k = Kd.theirs then [vat v (ts.getD (so s i) 0)] else ts.map (vat v)) = ts.map (vat v) from if_neg c'] at hP
      refine sg_seq (sg_ifT (et_orF ((ev_kp (p := .theirs ts) .ours ev_var).is rfl) ((ev_kp (p := .theirs ts) .theirs ev_var).is rfl)) (sg_ret (ev_lcI (ds := ts.map dI) (ys := (ts.map (vat v)).map dN) (it_list (ev_ixT (ev_var (x := dP (.theirs ts))) ev_ci rfl)) (by rw [List.length_map]; exact hlen) (by simp) fun j x y hx hy => ?_) fun r er => er ▸ hP))
      obtain ⟨t, ht, rfl⟩ := get_map hx
      rw [List.map_map, List.getElem?_map, ht] at hy
      cases hy
      exact ⟨_, _, tg_name, by simp, num (tl t (List.mem_of_getElem? ht)) ev_var (ev_vi (n := t))⟩
  | finish =>
    rw [q] at hP
    refine sg_seq (sg_ifF ((ev_kp (p := .finish) .draw ev_var).is rfl) (sg_next ?_))
    refine sg_seq (sg_ifF ((ev_kp (p := .finish) .reward ev_var).is rfl) (sg_next ?_))
    refine sg_seq (sg_ifF ((ev_kpv (p := .finish) (b := k) ev_var ev_var).is (by rcases D.kk with e | e <;> (rw [e]; rfl))) (sg_next ?_))
    refine sg_seq (sg_ifF (et_orF ((ev_kp (p := .finish) .ours ev_var).is rfl) ((ev_kp (p := .finish) .theirs ev_var).is rfl)) (sg_next ?_))
    exact sg_ret (ev_lst (xs := [dN 0]) (ea_cons (ev_tup (xs := [.int 0, .int 1]) (ea_cons ev_ci (ea_cons ev_ci ea_nil))) ea_nil)) fun r er => er ▸ hP
  | lose =>
    rw [q] at hP
    refine sg_seq (sg_ifF ((ev_kp (p := .lose) .draw ev_var).is rfl) (sg_next ?_))
    refine sg_seq (sg_ifF ((ev_kp (p := .lose) .reward ev_var).is rfl) (sg_next ?_))
    refine sg_seq (sg_ifF ((ev_kpv (p := .lose) (b := k) ev_var ev_var).is (by rcases D.kk with e | e <;> (rw [e]; rfl))) (sg_next ?_))
    refine sg_seq (sg_ifF (et_orF ((ev_kp (p := .lose) .ours ev_var).is rfl) ((ev_kp (p := .lose) .theirs ev_var).is rfl)) (sg_next ?_))
    exact sg_ret (ev_lst (xs := [dN 0]) (ea_cons (ev_tup (xs := [.int 0, .int 1]) (ea_cons ev_ci (ea_cons ev_ci ea_nil))) ea_nil)) fun r er => er ▸ hP
theorem sc_law_are_upper : FnScope ["_law_game_here", "_law_numbers", "_law_theirs", "_law_place_here", "_law_due"] ["_law_game_here", "_law_numbers", "_law_theirs"] (defScope (top 70)) := ⟨rfl, rfl, rfl, by decide +kernel, rfl, by decide +kernel, by decide +kernel⟩
theorem d_law_are_upper (T : Txt K mg) (S : Stands K mg "_law_are_upper" 70 ["_law_game_here", "_law_numbers", "_law_theirs"]) (D_law_dues : DefOk P w K mg base "_law_dues" ["_law_game_here", "_law_place_here", "_law_numbers", "_law_side", "_law_strategy_here"] 35 (SpR (.pure K) A_law_dues)) (D_law_are_numbers : DefOk P w K mg base "_law_are_numbers" ["_law_actual", "_law_many"] 35 (SpR (.pure K) A_law_are_numbers)) (D_law_is_strategy : DefOk P w K mg base "_law_is_strategy" ["_law_game_here", "_law_side", "_law_strategy_here"] 1 (SpR (.pure K) A_law_is_strategy)) (D_law_less : DefOk P w K mg base "_law_less" ["_law_a", "_law_b"] 1 (SpR (.pure K) A_law_less)) : DefOk P w K mg base "_law_are_upper" ["_law_game_here", "_law_numbers", "_law_theirs"] 36 (SpR (.pure K) A_law_are_upper) := by
  refine def_pure S sc_law_are_upper (fun ss P h => len_law_are_upper h) (by decide) fun f cdv B outer s H E hr hcd => ?_
  have nd := sc_law_are_upper.nd
  refine ⟨_, (pss_cons (ps_if (PW.pt (pw_or (pt_not (pt_val (pe_def D_law_are_numbers (hr.mono (by decide)) (by rfl) (pa_cons (pv 1) (pa_cons (pe_callB call_len_seq (by rfl) T.len (by decide +kernel) (pa_cons (pv 0) pa_nil)) pa_nil))))) (pw_or1 (pt_not (pt_val (pe_def D_law_is_strategy (hr.mono (by decide)) (by rfl) (pa_cons (pv 0) (pa_cons pe_str (pa_cons (pv 2) pa_nil))))))))) (pss_one (ps_ret pe_bl)) pss_nil)
    (pss_cons (ps_for PassesOwn.never rfl (pi_range1 (by rfl) T.range (pa_cons (pe_callB call_len_seq (by rfl) T.len (by decide +kernel) (pa_cons (pv 0) pa_nil)) pa_nil)) (pg_name (i := 3) nd rfl (.inl rfl)) (pss_one (ps_for PassesOwn.never rfl (pi_list (pe_def D_law_dues (hr.mono (by decide)) (by rfl) (pa_cons (pv 0) (pa_cons (pv 3) (pa_cons (pv 1) (pa_cons pe_str (pa_cons (pv 2) pa_nil))))))) (pg_name (i := 4) nd rfl (.inl rfl)) (pss_one (ps_if (pt_val (pe_def D_law_less (hr.mono (by decide)) (by rfl) (pa_cons (pe_ix ix_list (pv 1) (pv 3) (fun _ _ => rfl)) (pa_cons (pv 4) pa_nil)))) (pss_one (ps_ret pe_bl)) pss_nil)))))
    (pss_one (ps_ret pe_bl)))), fun ss P E h => ?_⟩
  obtain ⟨g, v, s, rfl, D, hdue, hP⟩ := h
  have hm := D.ok.most
  refine sg_seq (sg_ifF (et_orF (et_not (b := true) (et_B (ev_call (ea_cons ev_var (ea_cons (EvP.is (ev_lenL (ev_var (x := dG g))) (by rw [List.length_map])) ea_nil)) ⟨v, g.length, rfl, D.len, hm, rfl⟩))) (et_not (b := true) (et_B (ev_call (ea_cons ev_var (ea_cons (ev_cs (z := Kd.theirs.str)) (ea_cons ev_var ea_nil))) ⟨g, .theirs, s, rfl, D.kk, D.ok, D.s, rfl⟩)))) (sg_next ?_))
  refine sg_seq (sg_for (ds := intsD 0 g.length) (it_rng1 ((ev_lenL (ev_var (x := dG g))).is (by rw [List.length_map])) (by omega)) (fun i Γ => ∃ a b, Γ = [.d (dG g), .d (dNL v), .d (dS s), a, b]) ⟨_, _, rfl⟩ (fun i x Γ1 hx iv => ?_) (fun Γ1 iv => ?_))
  · obtain ⟨a, b, rfl⟩ := iv
    obtain ⟨hi, rfl⟩ := ints_get0 hx
    refine ⟨_, _, tg_name, ?_⟩
    refine sg_for (ds := (dues g i v .theirs s).map dN) (it_list (EvM.d (ev_call (ea_cons ev_var (ea_cons (ev_vi (n := i)) (ea_cons ev_var (ea_cons (ev_cs (z := Kd.theirs.str)) (ea_cons ev_var ea_nil))))) ⟨g, i, v, .theirs, s, rfl, hi, D, rfl⟩))) (fun j Γ => ∃ b, Γ = [.d (dG g), .d (dNL v), .d (dS s), .d (dI i), b]) ⟨_, rfl⟩ (fun j x Γ1 hx iv => ?_) (fun Γ1 iv => ?_)
    · obtain ⟨b, rfl⟩ := iv
      obtain ⟨d, hd, rfl⟩ := get_map hx
      have hmem := List.mem_of_getElem? hd
      have hb1 : Bd (vat v i) := (D.bt _ (List.mem_of_getElem? (vat_get (by rw [D.len]; exact hi)))).bd (by decide)
      have hb2 : Bd d := (dues_bt D hi d hmem).bd (by decide)
      exact ⟨_, _, tg_name, sg_ifF (EvT.is (et_B (ev_call (P := fun r => r = .d (.bool (decide (vat v i < d)))) (ea_cons (ev_nat ev_var (ev_vi (n := i)) (vat_get (by rw [D.len]; exact hi))) (ea_cons ev_var ea_nil)) ⟨_, _, rfl, hb1, hb2, rfl⟩)) (decide_eq_false (Rat.not_lt.mpr (hdue i hi d hmem)))) (sg_next ⟨_, rfl⟩)⟩
    · obtain ⟨b, rfl⟩ := iv
      exact ⟨_, _, rfl⟩
  · obtain ⟨a, b, rfl⟩ := iv
    exact sg_retD ev_cb hP
theorem sc_law_are_lower : FnScope ["_law_game_here", "_law_numbers", "_law_ours", "_law_place_here", "_law_due"] ["_law_game_here", "_law_numbers", "_law_ours"] (defScope (top 71)) := ⟨rfl, rfl, rfl, by decide +kernel, rfl, by decide +kernel, by decide +kernel⟩
theorem d_law_are_lower (T : Txt K mg) (S : Stands K mg "_law_are_lower" 71 ["_law_game_here", "_law_numbers", "_law_ours"]) (D_law_dues : DefOk P w K mg base "_law_dues" ["_law_game_here", "_law_place_here", "_law_numbers", "_law_side", "_law_strategy_here"] 35 (SpR (.pure K) A_law_dues)) (D_law_are_numbers : DefOk P w K mg base "_law_are_numbers" ["_law_actual", "_law_many"] 35 (SpR (.pure K) A_law_are_numbers)) (D_law_is_strategy : DefOk P w K mg base "_law_is_strategy" ["_law_game_here", "_law_side", "_law_strategy_here"] 1 (SpR (.pure K) A_law_is_strategy)) (D_law_less : DefOk P w K mg base "_law_less" ["_law_a", "_law_b"] 1 (SpR (.pure K) A_law_less)) : DefOk P w K mg base "_law_are_lower" ["_law_game_here", "_law_numbers", "_law_ours"] 36 (SpR (.pure K) A_law_are_lower) := by
  refine def_pure S sc_law_are_lower (fun ss P h => len_law_are_lower h) (by decide) fun f cdv B outer s H E hr hcd => ?_
  have nd := sc_law_are_lower.nd
  refine ⟨_, (pss_cons (ps_if (PW.pt (pw_or (pt_not (pt_val (pe_def D_law_are_numbers (hr.mono (by decide)) (by rfl) (pa_cons (pv 1) (pa_cons (pe_callB call_len_seq (by rfl) T.len (by decide +kernel) (pa_cons (pv 0) pa_nil)) pa_nil))))) (pw_or1 (pt_not (pt_val (pe_def D_law_is_strategy (hr.mono (by decide)) (by rfl) (pa_cons (pv 0) (pa_cons pe_str (pa_cons (pv 2) pa_nil))))))))) (pss_one (ps_ret pe_bl)) pss_nil)
    (pss_cons (ps_for PassesOwn.never rfl (pi_range1 (by rfl) T.range (pa_cons (pe_callB call_len_seq (by rfl) T.len (by decide +kernel) (pa_cons (pv 0) pa_nil)) pa_nil)) (pg_name (i := 3) nd rfl (.inl rfl)) (pss_one (ps_for PassesOwn.never rfl (pi_list (pe_def D_law_dues (hr.mono (by decide)) (by rfl) (pa_cons (pv 0) (pa_cons (pv 3) (pa_cons (pv 1) (pa_cons pe_str (pa_cons (pv 2) pa_nil))))))) (pg_name (i := 4) nd rfl (.inl rfl)) (pss_one (ps_if (pt_val (pe_def D_law_less (hr.mono (by decide)) (by rfl) (pa_cons (pv 4) (pa_cons (pe_ix ix_list (pv 1) (pv 3) (fun _ _ => rfl)) pa_nil)))) (pss_one (ps_ret pe_bl)) pss_nil)))))
    (pss_one (ps_ret pe_bl)))), fun ss P E h => ?_⟩
  obtain ⟨g, v, s, rfl, D, hdue, hP⟩ := h
  have hm := D.ok.most
  refine sg_seq (sg_ifF (et_orF (et_not (b := true) (et_B (ev_call (ea_cons ev_var (ea_cons (EvP.is (ev_lenL (ev_var (x := dG g))) (by rw [List.length_map])) ea_nil)) ⟨v, g.length, rfl, D.len, hm, rfl⟩))) (et_not (b := true) (et_B (ev_call (ea_cons ev_var (ea_cons (ev_cs (z := Kd.ours.str)) (ea_cons ev_var ea_nil))) ⟨g, .ours, s, rfl, D.kk, D.ok, D.s, rfl⟩)))) (sg_next ?_))
  refine sg_seq (sg_for (ds := intsD 0 g.length) (it_rng1 ((ev_lenL (ev_var (x := dG g))).is (by rw [List.length_map])) (by omega)) (fun i Γ => ∃ a b, Γ = [.d (dG g), .d (dNL v), .d (dS s), a, b]) ⟨_, _, rfl⟩ (fun i x Γ1 hx iv => ?_) (fun Γ1 iv => ?_))
  · obtain ⟨a, b, rfl⟩ := iv
    obtain ⟨hi, rfl⟩ := ints_get0 hx
    refine ⟨_, _, tg_name, ?_⟩
    refine sg_for (ds := (dues g i v .ours s).map dN) (it_list (EvM.d (ev_call (ea_cons ev_var (ea_cons (ev_vi (n := i)) (ea_cons ev_var (ea_cons (ev_cs (z := Kd.ours.str)) (ea_cons ev_var ea_nil))))) ⟨g, i, v, .ours, s, rfl, hi, D, rfl⟩))) (fun j Γ => ∃ b, Γ = [.d (dG g), .d (dNL v), .d (dS s), .d (dI i), b]) ⟨_, rfl⟩ (fun j x Γ1 hx iv => ?_) (fun Γ1 iv => ?_)
    · obtain ⟨b, rfl⟩ := iv
      obtain ⟨d, hd, rfl⟩ := get_map hx
      have hmem := List.mem_of_getElem? hd
      have hb1 : Bd (vat v i) := (D.bt _ (List.mem_of_getElem? (vat_get (by rw [D.len]; exact hi)))).bd (by decide)
      have hb2 : Bd d := (dues_bt D hi d hmem).bd (by decide)
      exact ⟨_, _, tg_name, sg_ifF (EvT.is (et_B (ev_call (P := fun r => r = .d (.bool (decide (d < vat v i)))) (ea_cons ev_var (ea_cons (ev_nat ev_var (ev_vi (n := i)) (vat_get (by rw [D.len]; exact hi))) ea_nil)) ⟨_, _, rfl, hb2, hb1, rfl⟩)) (decide_eq_false (Rat.not_lt.mpr (hdue i hi d hmem)))) (sg_next ⟨_, rfl⟩)⟩
    · obtain ⟨b, rfl⟩ := iv
      exact ⟨_, _, rfl⟩
  · obtain ⟨a, b, rfl⟩ := iv
    exact sg_retD ev_cb hP
theorem sc_law_is_paper : FnScope ["_law_game_here", "_law_paper"] ["_law_game_here", "_law_paper"] (defScope (top 72)) := ⟨rfl, rfl, rfl, by decide +kernel, rfl, by decide +kernel, by decide +kernel⟩
theorem d_law_is_paper (T : Txt K mg) (S : Stands K mg "_law_is_paper" 72 ["_law_game_here", "_law_paper"]) (D_law_are_upper : DefOk P w K mg base "_law_are_upper" ["_law_game_here", "_law_numbers", "_law_theirs"] 36 (SpR (.pure K) A_law_are_upper)) (D_law_are_lower : DefOk P w K mg base "_law_are_lower" ["_law_game_here", "_law_numbers", "_law_ours"] 36 (SpR (.pure K) A_law_are_lower)) : DefOk P w K mg base "_law_is_paper" ["_law_game_here", "_law_paper"] 37 (SpR (.pure K) A_law_is_paper) := by
  refine def_pure S sc_law_is_paper (fun ss P h => len_law_is_paper h) (by decide) fun f cdv B outer s H E hr hcd => ?_
  have nd := sc_law_is_paper.nd
  refine ⟨_, (pss_cons (ps_if (PW.pt (pw_or (pt_not (pt_val (pe_callB call_isi (by rfl) T.isinstance (by decide +kernel) (pa_cons (pv 1) (pa_cons (pe_bltn (v := .ty "tuple") (by rfl) T.tuple (by decide +kernel) rfl) pa_nil))))) (pw_or1 (pt_cmpR (op_neD hr.units) (pe_callB call_len_seq (by rfl) T.len (by decide +kernel) (pa_cons (pv 1) pa_nil)) pe_int (nomark _))))) (pss_one (ps_ret pe_bl)) pss_nil)
    (pss_one (ps_ret (pe_and (pe_def D_law_are_upper (hr.mono (by decide)) (by rfl) (pa_cons (pv 0) (pa_cons (pe_ix ix_tup (pv 1) pe_int (fun _ _ => rfl)) (pa_cons (pe_ix ix_tup (pv 1) pe_int (fun _ _ => rfl)) pa_nil)))) (pe_one (pe_def D_law_are_lower (hr.mono (by decide)) (by rfl) (pa_cons (pv 0) (pa_cons (pe_ix ix_tup (pv 1) pe_int (fun _ _ => rfl)) (pa_cons (pe_ix ix_tup (pv 1) pe_int (fun _ _ => rfl)) pa_nil))))))))), fun ss P E h => ?_⟩
  obtain ⟨g, v, σ, τ, rfl, D1, h1, D2, h2, hP⟩ := h
  refine sg_seq (sg_ifF (et_orF (et_not (b := true) (et_B (ev_isi (ev_var (x := .tuple [dNL v, dS σ, dS τ])) (kit_same _)))) (et_test ((ev_neZ (ev_lenT (ev_var (x := .tuple [dNL v, dS σ, dS τ]))) ev_ci).is rfl))) (sg_next ?_))
  have pap : ∀ {Γ : List SV} {te : TE}, EvD (.pure K) E te Γ (.tuple [dNL v, dS σ, dS τ]) → EvD (.pure K) E (tOp (rIxT K) te (tC (.int 0))) Γ (dNL v) ∧ EvD (.pure K) E (tOp (rIxT K) te (tC (.int 1))) Γ (dS σ) ∧ EvD (.pure K) E (tOp (rIxT K) te (tC (.int 2))) Γ (dS τ) := fun h => ⟨ev_ixT h ev_ci rfl, ev_ixT h ev_ci rfl, ev_ixT h ev_ci rfl⟩
  exact sg_retD (EvP.is (ev_andV (a := true) (b := true) (ev_call (ea_cons ev_var (ea_cons (pap ev_var).1 (ea_cons (pap ev_var).2.2 ea_nil))) ⟨g, v, τ, rfl, D1, h1, rfl⟩) fun _ => ev_call (ea_cons ev_var (ea_cons (pap ev_var).1 (ea_cons (pap ev_var).2.1 ea_nil))) ⟨g, v, σ, rfl, D2, h2, rfl⟩) rfl) hP
end
end Odd
set_option Elab.async false
set_option linter.all false
set_option maxRecDepth 100000
set_option maxHeartbeats 4000000
/-! calls that change the stream -/
namespace Odd
open PySem L2
def strX (K : PySem.W.Frag) (SA L : Addr) (cs : List Int) : Fx where
  K := K
  S := fun b => b = SA ∨ b = L
  I := fun H => SA ≠ L ∧ ∃ (a : Nat) (b : Int), H SA = some (.lst [.ref L, .int a, .int b]) ∧ H L = some (.lst (cs.map V.int))
  st := fun H H' h ⟨ne, a, b, h1, h2⟩ => ⟨ne, a, b, by rw [h SA (.inl rfl)]; exact h1, by rw [h L (.inr rfl)]; exact h2⟩
  ex := fun H b ⟨ne, a, c, h1, h2⟩ hb => by
    rcases hb with e | e
    · rw [e, h1]; exact fun z => nomatch z
    · rw [e, h2]; exact fun z => nomatch z
def spS (K : PySem.W.Frag) (A : Addr → List SV → (SV → Prop) → Prop) : Sp := fun vs H Q E => ∃ SA L cs, SpR (strX K SA L cs) (A SA) vs H Q E
section
variable {P : Program} {w : World} {K : PySem.W.Frag} {mg : Str → Option Value} {base : Heap} {x : Str} {i k : Nat} {ps N : List Str}
theorem def_str (S : Stands K mg x i ps) {A : Addr → List SV → (SV → Prop) → Prop} (sc : FnScope N ps (defScope (top i))) (hA : ∀ SA ss P, A SA ss P → ss.length = ps.length) (hN : ps.length ≤ N.length)
    (hbody : ∀ (f : Addr) (cdv : Value) (B : Around) (outer : List Env) (s : Shared) (H : Hp) (E : XK), Room k (B.deeper (PyProof.Rows.envOfC x (defScope (top i)) s.heap.objs.size f cdv)) → PySem.W.codeIn K cdv x = true →
      ∃ t, PSs (cxOf CX0 P w K mg base N x (defScope (top i)) f cdv B outer s H E).nox (defBody (top i)) t ∧ ∀ SA L cs ss P E, A SA ss P → SG (strX K SA L cs) E t (startG ss N.length) { nx := fun _ => P (.d .none), rt := P }) : DefOk P w K mg base x ps (k + 1) (spS K A) := by
  refine def_ok S sc (fun vs H Q E h => ?_) fun f cdv B outer s H vs Q E hr hcd h => ?_
  · obtain ⟨SA, L, cs, F, ss, P, o, a, hh, q⟩ := h
    rw [a.len]; exact hA SA ss P hh
  · obtain ⟨t, h1, h2⟩ := hbody f cdv B outer s H E hr hcd
    obtain ⟨SA, L, cs, h⟩ := h
    refine ⟨t, h1, sg_run h (fun ss P E hh _ => h2 SA L cs ss P E hh) ?_⟩
    obtain ⟨F, ss, P, o, a, hh, q⟩ := h
    rw [a.len, hA SA ss P hh]; exact hN
end
section
variable {K : PySem.W.Frag} {SA L : Addr} {cs : List Int} {E : En} {Γ : List SV} {tl : TA} {Er : XK} {svs : List SV} {P : SV → Prop} {A : Addr → List SV → (SV → Prop) → Prop}
theorem ev_callXP {Pl : List SV → Prop} (h : EvA (strX K SA L cs) E tl Γ Pl) (k : ∀ rs, Pl rs → A SA rs P) : EvP (strX K SA L cs) E (tCall (spS K A) [] Er tl) Γ P := fun F H σ s Q q => by
  have h2 := ev_callSP (A := A SA) (Er := Er) h k F H σ s Q q
  refine h F H σ s _ fun rs vs F1 H1 p s1 r1 => ?_
  refine ⟨SA, L, cs, F1, rs, P, s1.ok, by rw [List.append_nil]; exact r1, k rs p, fun r v F' H' pr st ro => q r v F' H' pr (s1.trans st) (ro.old fun b hb => s1.fresh hb)⟩
theorem ev_callX (h : EvAD (strX K SA L cs) E tl Γ svs) (k : A SA svs P) : EvP (strX K SA L cs) E (tCall (spS K A) [] Er tl) Γ P := ev_callXP h fun rs e => e ▸ k
end
section
variable {X : Fx} {E : En} {Γ : List SV} {te ta tb : TE} {P P' Pb : SV → Prop}
theorem ev_addP {i : Int} (ha : EvD X E ta Γ (.int i)) (hb : EvP X E tb Γ Pb) (k : ∀ r, Pb r → ∃ j : Int, r = .d (.int j) ∧ P (.d (.int (i + j)))) : EvP X E (tOp (rI0 fun i j => .int (i + j)) ta tb) Γ P :=
  ev_two (Pa := fun r => r = .d (.int i)) ha hb fun a b ea eb => by
    obtain ⟨j, rfl, p⟩ := k b eb
    exact ⟨_, _, ea, rfl, fun F H u v o du dv Q q => ⟨i, j, dp_int du, dp_int dv, q _ _ F H p (.refl o) (.int _)⟩⟩
theorem ev_ixLP {ds : List PyData} (ha : EvD X E ta Γ (.list ds)) (hb : EvP X E tb Γ Pb) (k : ∀ r, Pb r → ∃ j z, r = .d (.int j) ∧ atI ds j = some z ∧ P (.d z)) : EvP X E (tOp (rIxL X.K) ta tb) Γ P :=
  ev_two (Pa := fun r => r = .d (.list ds)) ha hb fun a b ea eb => by
    obtain ⟨j, z, rfl, hj, p⟩ := k b eb
    refine ⟨_, _, ea, rfl, fun F H u v o du dv Q q => ?_⟩
    obtain ⟨a, vs, rfl, s, al⟩ := dp_list du
    obtain ⟨w, hw, dw⟩ := at_map al hj
    exact ⟨a, vs, j, w, rfl, dp_int dv, sql_mono o.up s, hw, q _ w F H p (.refl o) dw⟩
theorem ev_eqZP {j : Int} (ha : EvP X E ta Γ Pb) (hb : EvD X E tb Γ (.int j)) (k : ∀ r, Pb r → ∃ i : Int, r = .d (.int i) ∧ P (.d (.bool (decide (i = j))))) : EvP X E (tOp (rEqD X.K) ta tb) Γ P :=
  ev_two (Pb := fun r => r = .d (.int j)) ha hb fun a b ea eb => by
    obtain ⟨i, rfl, p⟩ := k a ea
    have sh : ∀ i : Int, SeqAt.shaped (.int i) = true := fun i => by unfold SeqAt.shaped; simp [PyData.canLay0, PyData.depth]
    refine ⟨_, _, rfl, eb, fun F H u v o du dv Q q => ⟨.int i, .int j, dp_mono o.up du, dp_mono o.up dv, sh i, sh j, ?_⟩⟩
    have e : PyData.eqv (.int i) (.int j) = decide (i = j) := by
      have e : PyData.eqv (.int i) (.int j) = (i == j) := by simp only [PyData.eqv]
      rw [e]
      by_cases h : i = j
      · subst h; simp
      · rw [decide_eq_false h, beq_eq_false_iff_ne.mpr h]
    rw [e]
    exact q _ _ F H p (.refl o) (.bl _)
/-! the stream itself -/
structure Hs (SA L : Addr) (cs : List Int) (H H' : Hp) (a : Nat) (b : Int) : Prop where
  at_ : H' SA = some (.lst [.ref L, .int a, .int b])
  l : H' L = some (.lst (cs.map V.int))
  ne : SA ≠ L
  out : ∀ b, b ≠ SA → H' b = H b
theorem Hs.upd {SA L : Addr} {cs : List Int} {H H' : Hp} {a : Nat} {b : Int} (h : Hs SA L cs H H' a b) (a' : Nat) (b' : Int) : Hs SA L cs H (upd H' SA (.lst [.ref L, .int a', .int b'])) a' b' :=
  ⟨upd_same, by rw [upd_ne (Ne.symm h.ne)]; exact h.l, h.ne, fun c hc => by rw [upd_ne hc]; exact h.out c hc⟩
section
variable {K : PySem.W.Frag} {SA L : Addr} {cs : List Int} {H H' : Hp} {σ : St} {a : Nat} {b : Int} {Q : VK}
theorem st_1 (h0 : σ[0]? = some (some (.ref SA))) (h : Hs SA L cs H H' a b) (q : Q (.int a) H') : tOp (rIxL K) (tVar 0) (tC (.int 1)) σ H' Q := ⟨_, h0, SA, _, 1, _, rfl, rfl, SqL.of h.at_, rfl, q⟩
theorem st_2 (h0 : σ[0]? = some (some (.ref SA))) (h : Hs SA L cs H H' a b) (q : Q (.int b) H') : tOp (rIxL K) (tVar 0) (tC (.int 2)) σ H' Q := ⟨_, h0, SA, _, 2, _, rfl, rfl, SqL.of h.at_, rfl, q⟩
theorem st_0 (h0 : σ[0]? = some (some (.ref SA))) (h : Hs SA L cs H H' a b) (q : Q (.ref L) H') : tOp (rIxL K) (tVar 0) (tC (.int 0)) σ H' Q := ⟨_, h0, SA, _, 0, _, rfl, rfl, SqL.of h.at_, rfl, q⟩
theorem st_set1 {i : Nat} {Q : St → Hp → Prop} (h0 : σ[0]? = some (some (.ref SA))) (h : Hs SA L cs H H' a b) (q : ∀ H'', Hs SA L cs H H'' i b → Q σ H'') : gSub (tVar 0) (tC (.int 1)) rSetL (.int i) σ H' Q :=
  ⟨_, h0, SA, _, 1, 1, rfl, rfl, h.at_, rfl, q _ (h.upd i b)⟩
theorem st_set2 {i : Int} {Q : St → Hp → Prop} (h0 : σ[0]? = some (some (.ref SA))) (h : Hs SA L cs H H' a b) (q : ∀ H'', Hs SA L cs H H'' a i → Q σ H'') : gSub (tVar 0) (tC (.int 2)) rSetL (.int i) σ H' Q :=
  ⟨_, h0, SA, _, 2, 2, rfl, rfl, h.at_, rfl, q _ (h.upd a i)⟩
theorem Hs.step {F : Hp} (h : Hs SA L cs H H' a b) (o : Ok (strX K SA L cs) F H) : Step (strX K SA L cs) F H F H' := by
  have hF : F SA = none := o.out SA (.inl rfl)
  refine ⟨Exs.refl F, ⟨fun b u e => ?_, ⟨h.ne, a, b, h.at_, h.l⟩, o.out⟩, fun b u n e => ?_, fun b h1 _ => h1⟩
  · rw [h.out b fun z => by rw [z, hF] at e; cases e]; exact o.up b u e
  · rw [h.out b fun z => n (.inl z)]; exact e
end
end
end Odd
set_option Elab.async false
set_option linter.all false
set_option maxRecDepth 100000
set_option maxHeartbeats 8000000
set_option exponentiation.threshold 1000000
namespace Odd
open PySem L2
def A_law_draw (SA : Addr) (ss : List SV) (P : SV → Prop) : Prop := ∃ m : Nat, ss = [.raw (.ref SA), .d (.int m)] ∧ 0 < m ∧ m < 1000 ∧ ∀ v : Nat, v < m → P (.d (.int v))
abbrev rInt : List V → Hp → VK → Prop := fun xs H Q => (∃ i, xs = [.int i] ∧ Q (.int i) H) ∨ ∃ k, xs = [.bl k] ∧ Q (.int (if k then 1 else 0)) H
abbrev tS (K : PySem.W.Frag) (i : Int) : TE := tOp (rIxL K) (tVar 0) (tC (.int i))
abbrev rMod : R2 := rI (fun _ j => 0 < j) fun i j => .int (i % j)
abbrev rAdd : R2 := rI0 fun i j => .int (i + j)
abbrev rMul : R2 := rI CMul fun i j => .int (i * j)
abbrev rLtI : R2 := rI0 fun i j => .bl (decide (i < j))
abbrev rPow : R2 := rI CPow fun i j => .int (i ^ j.toNat)
section
variable {K : PySem.W.Frag} {SA L : Addr} {cs : List Int} {H H' : Hp} {σ : St} {a : Nat} {b : Int} {D : Ends} {m : Nat} {Q : VK}
theorem if_go {b : Bool} {A B : Prop} (h1 : b = true → A) (h2 : b = false → B) : if b = true then A else B := by
  cases b with
  | true => exact h1 rfl
  | false => exact h2 rfl
theorem int_of {te : TE} {i : Int} (h : ∀ Q : VK, Q (.int i) H' → te σ H' Q) (q : Q (.int i) H') : tCB rInt (tCons te tNil) σ H' Q := h _ (Or.inl ⟨i, rfl, q⟩)
theorem draw_fin (h0 : σ[0]? = some (some (.ref SA))) (h1 : σ[1]? = some (some (.int m))) (hl : σ.length = 6) (hs : Hs SA L cs H H' a b) (hm : 0 < m) (hm2 : m < 1000) (q : ∀ H'' b', Hs SA L cs H H'' a b' → D.rt (.int (b % m)) H'') :
    tSeq (tAsg (tOp rMod (tCB rInt (tCons (tS K 2) tNil)) (tVar 1)) (gName 5)) (tSeq (tAsg (tOp (rI CDiv fun i j => .int (i / j)) (tCB rInt (tCons (tS K 2) tNil)) (tVar 1)) (gSub (tVar 0) (tC (.int 2)) rSetL)) (tRet (tVar 5))) D σ H' := by
  refine int_of (fun Q q => st_2 h0 hs q) ⟨_, h1, b, m, rfl, rfl, by show (0 : Int) < m; omega, ?_⟩
  have h0' : (σ.set 5 (some (.int (b % m))))[0]? = some (some (.ref SA)) := by rw [List.getElem?_set_ne (by decide)]; exact h0
  have h1' : (σ.set 5 (some (.int (b % m))))[1]? = some (some (.int m)) := by rw [List.getElem?_set_ne (by decide)]; exact h1
  have h5' : (σ.set 5 (some (.int (b % m))))[5]? = some (some (.int (b % m))) := List.getElem?_set_self (by omega)
  refine int_of (σ := σ.set 5 (some (.int (b % m)))) (fun Q q => st_2 h0' hs q) ⟨_, h1', b, m, rfl, rfl, ⟨by omega, by omega⟩, ?_⟩
  exact st_set2 h0' hs fun H'' hs' => ⟨_, h5', q H'' _ hs'⟩
theorem draw_mid {c : Int} (h0 : σ[0]? = some (some (.ref SA))) (h1 : σ[1]? = some (some (.int m))) (h2 : σ[2]? = some (some (.int c))) (hl : σ.length = 6) (hs : Hs SA L cs H H' a b)
    (q : ∀ σ' H'' b', σ'[0]? = some (some (.ref SA)) → σ'[1]? = some (some (.int m)) → σ'.length = 6 → Hs SA L cs H H'' (a + 1) b' → D.nx σ' H'') :
    tSeq (tAsg (tOp rAdd (tS K 1) (tC (.int 1))) (gSub (tVar 0) (tC (.int 1)) rSetL)) (tSeq (tAsg (tVar 2) (gSub (tVar 0) (tC (.int 2)) rSetL)) (tIfS (tTest (tOp rLtI (tVar 2) (tOp rPow (tC (.int 10)) (tC (.int 18)))))
      (tSeq (tAsg (tOp rMod (tCB rInt (tCons (tOp rAdd (tOp rMul (tVar 2) (tC (.int 48271))) (tOp rMul (tS K 1) (tC (.int 69621)))) tNil)) (tC (.int 2147483647))) (gName 3))
      (tSeq (tAsg (tOp rMod (tCB rInt (tCons (tOp rAdd (tOp rAdd (tOp rMul (tVar 3) (tC (.int 40692))) (tOp rMul (tVar 2) (tC (.int 7)))) (tC (.int 5))) tNil)) (tC (.int 2147483399))) (gName 4))
        (tAsg (tOp rAdd (tOp rAdd (tOp rMul (tVar 4) (tC (.int 2147483563))) (tVar 3)) (tOp rPow (tC (.int 10)) (tC (.int 18)))) (gSub (tVar 0) (tC (.int 2)) rSetL)))) tNext)) D σ H' := by
  refine st_1 h0 hs ⟨a, 1, rfl, rfl, ?_⟩
  refine st_set1 (i := a + 1) h0 hs fun H2 hs2 => ?_
  refine ⟨_, h2, st_set2 h0 hs2 fun H3 hs3 => ?_⟩
  refine ⟨_, h2, ⟨10, 18, rfl, rfl, ⟨by decide, by decide, by decide⟩, c, _, rfl, rfl, _, rfl, ?_⟩⟩
  refine if_go (fun _ => ?_) (fun _ => ?_)
  · have cm : ∀ i j : Int, -(2 ^ 64) < j → j < 2 ^ 64 → CMul i j := fun i j h1 h2 => .inr ⟨h1, h2⟩
    refine int_of (i := c * 48271 + ((a + 1 : Nat) : Int) * 69621) (fun Q q => ⟨_, h2, c, 48271, rfl, rfl, cm _ _ (by decide) (by decide), st_1 h0 hs3 ⟨_, 69621, rfl, rfl, cm _ _ (by decide) (by decide), _, _, rfl, rfl, q⟩⟩) ⟨_, 2147483647, rfl, rfl, by show (0 : Int) < 2147483647; decide, ?_⟩
    show tSeq _ _ _ (σ.set 3 (some (.int ((c * 48271 + ((a + 1 : Nat) : Int) * 69621) % 2147483647)))) H3
    generalize (c * 48271 + ((a + 1 : Nat) : Int) * 69621) % 2147483647 = e
    have k0 : (σ.set 3 (some (.int e)))[0]? = some (some (.ref SA)) := by rw [List.getElem?_set_ne (by decide)]; exact h0
    have k1 : (σ.set 3 (some (.int e)))[1]? = some (some (.int m)) := by rw [List.getElem?_set_ne (by decide)]; exact h1
    have k2 : (σ.set 3 (some (.int e)))[2]? = some (some (.int c)) := by rw [List.getElem?_set_ne (by decide)]; exact h2
    have k3 : (σ.set 3 (some (.int e)))[3]? = some (some (.int e)) := List.getElem?_set_self (by omega)
    have kl : (σ.set 3 (some (.int e))).length = 6 := by rw [List.length_set]; exact hl
    generalize σ.set 3 (some (.int e)) = σ2 at k0 k1 k2 k3 kl
    have hx : ∀ Q : VK, Q (.int (e * 40692 + c * 7 + 5)) H3 → tOp rAdd (tOp rAdd (tOp rMul (tVar 3) (tC (.int 40692))) (tOp rMul (tVar 2) (tC (.int 7)))) (tC (.int 5)) σ2 H3 Q := fun Q q => ⟨_, k3, e, 40692, rfl, rfl, cm _ _ (by decide) (by decide), ⟨_, k2, c, 7, rfl, rfl, cm _ _ (by decide) (by decide), _, _, rfl, rfl, _, 5, rfl, rfl, q⟩⟩
    refine int_of hx ⟨_, 2147483399, rfl, rfl, by show (0 : Int) < 2147483399; decide, ?_⟩
    show tAsg (tOp rAdd (tOp rAdd (tOp rMul (tVar 4) (tC (.int 2147483563))) (tVar 3)) (tOp rPow (tC (.int 10)) (tC (.int 18)))) (gSub (tVar 0) (tC (.int 2)) rSetL) D (σ2.set 4 (some (.int ((e * 40692 + c * 7 + 5) % 2147483399)))) H3
    generalize (e * 40692 + c * 7 + 5) % 2147483399 = e2
    have j0 : (σ2.set 4 (some (.int e2)))[0]? = some (some (.ref SA)) := by rw [List.getElem?_set_ne (by decide)]; exact k0
    have j1 : (σ2.set 4 (some (.int e2)))[1]? = some (some (.int m)) := by rw [List.getElem?_set_ne (by decide)]; exact k1
    have j3 : (σ2.set 4 (some (.int e2)))[3]? = some (some (.int e)) := by rw [List.getElem?_set_ne (by decide)]; exact k3
    have j4 : (σ2.set 4 (some (.int e2)))[4]? = some (some (.int e2)) := List.getElem?_set_self (by omega)
    have jl : (σ2.set 4 (some (.int e2))).length = 6 := by rw [List.length_set]; exact kl
    generalize σ2.set 4 (some (.int e2)) = σ3 at j0 j1 j3 j4 jl
    refine ⟨_, j4, e2, 2147483563, rfl, rfl, cm _ _ (by decide) (by decide), ⟨_, j3, _, _, rfl, rfl, ⟨10, 18, rfl, rfl, ⟨by decide, by decide, by decide⟩, _, _, rfl, rfl, ?_⟩⟩⟩
    exact st_set2 j0 hs3 fun H4 hs4 => q σ3 H4 _ j0 j1 jl hs4
  · exact q σ H3 c h0 h1 hl hs3
end
section
variable {P : Program} {w : World} {K : PySem.W.Frag} {mg : Str → Option Value} {base : Heap}
theorem sc_law_draw : FnScope ["_law_stream", "_law_many", "_law_cell", "_law_mixed", "_law_other", "_law_value"] ["_law_stream", "_law_many"] (defScope (top 45)) := ⟨rfl, rfl, rfl, by decide +kernel, rfl, by decide +kernel, by decide +kernel⟩
theorem d_law_draw (T : Txt K mg) (S : Stands K mg "_law_draw" 45 ["_law_stream", "_law_many"]) : DefOk P w K mg base "_law_draw" ["_law_stream", "_law_many"] 1 (spS K A_law_draw) := by
  refine def_ok S sc_law_draw (fun vs H Q E h => ?_) fun f cdv B outer s H vs Q E hr hcd h => ?_
  · obtain ⟨SA, L, cs, F, ss, P, o, a, ⟨m, rfl, _⟩, q⟩ := h
    rw [a.len]; rfl
  have nd := sc_law_draw.nd
  refine ⟨_, (pss_cons (ps_if (pt_cmpR op_lt (pe_ix ix_list (pv 0) pe_int (fun _ _ => rfl)) (pv 1) (nomark _)) (pss_cons (ps_set (i := 2) nd rfl (.inl rfl) pe_int)
    (pss_cons (ps_if (pt_cmpR op_lt (pe_ix ix_list (pv 0) pe_int (fun _ _ => rfl)) (pe_callB call_len_seq (by rfl) T.len (by decide +kernel) (pa_cons (pe_ix ix_list (pv 0) pe_int (fun _ _ => rfl)) pa_nil)) (nomark _)) (pss_one (ps_set (i := 2) nd rfl (.inl rfl) (pe_ix ix_list (pe_ix ix_list (pv 0) pe_int (fun _ _ => rfl)) (pe_ix ix_list (pv 0) pe_int (fun _ _ => rfl)) (fun _ _ => rfl)))) pss_nil)
    (pss_cons (ps_asg (pe_op op_add (pe_ix ix_list (pv 0) pe_int (fun _ _ => rfl)) pe_int) (pg_sub (pv 0) pe_int set_list))
    (pss_cons (ps_asg (pv 2) (pg_sub (pv 0) pe_int set_list))
    (pss_one (ps_if (pt_cmpR op_lt (pv 2) (pe_op op_pow pe_int pe_int) (nomark _)) (pss_cons (ps_set (i := 3) nd rfl (.inl rfl) (pe_op op_mod (pe_callTy call_int1 (by rfl) T.int (by decide +kernel) (pa_cons (pe_op op_add (pe_op op_mul (pv 2) pe_int) (pe_op op_mul (pe_ix ix_list (pv 0) pe_int (fun _ _ => rfl)) pe_int)) pa_nil)) pe_int))
    (pss_cons (ps_set (i := 4) nd rfl (.inl rfl) (pe_op op_mod (pe_callTy call_int1 (by rfl) T.int (by decide +kernel) (pa_cons (pe_op op_add (pe_op op_add (pe_op op_mul (pv 3) pe_int) (pe_op op_mul (pv 2) pe_int)) pe_int) pa_nil)) pe_int))
    (pss_one (ps_asg (pe_op op_add (pe_op op_add (pe_op op_mul (pv 4) pe_int) (pv 3)) (pe_op op_pow pe_int pe_int)) (pg_sub (pv 0) pe_int set_list))))) pss_nil)))))) pss_nil)
    (pss_cons (ps_set (i := 5) nd rfl (.inl rfl) (pe_op op_mod (pe_callTy call_int1 (by rfl) T.int (by decide +kernel) (pa_cons (pe_ix ix_list (pv 0) pe_int (fun _ _ => rfl)) pa_nil)) (pv 1)))
    (pss_cons (ps_asg (pe_op op_fdiv (pe_callTy call_int1 (by rfl) T.int (by decide +kernel) (pa_cons (pe_ix ix_list (pv 0) pe_int (fun _ _ => rfl)) pa_nil)) (pv 1)) (pg_sub (pv 0) pe_int set_list))
    (pss_one (ps_ret (pv 5)))))), ?_⟩
  obtain ⟨SA, L, cs, F, ss, P, o, a, ⟨m, rfl, hm, hm2, hP⟩, q⟩ := h
  cases a with
  | @cons v1 vs s1 ss a1 a =>
    cases a with
    | @cons v2 vs s2 ss a2 a =>
      cases a
      have e1 : v1 = .ref SA := a1
      have e2 : v2 = .int m := dp_int a2
      subst e1 e2
      obtain ⟨ne, ai, b, h1, h2⟩ := o.inv
      have hs : Hs SA L cs H H ai b := ⟨h1, h2, ne, fun _ _ => rfl⟩
      have fin : ∀ {a' b' : Int} {H' : Hp} {a : Nat}, Hs SA L cs H H' a b' → ∀ v : Int, v = b' % m → ∀ H'' b2, Hs SA L cs H H'' a b2 → Q (.int v) H'' := fun {a' b' H' a} _ v e H'' b2 h3 => by
        have h4 : 0 ≤ b' % (m : Int) := Int.emod_nonneg _ (by omega)
        have h5 : b' % (m : Int) < m := Int.emod_lt_of_pos _ (by omega)
        have h6 : v = ((v.toNat : Nat) : Int) := by omega
        have h7 := hP v.toNat (by omega)
        rw [← h6] at h7
        exact q (.d (.int v)) (.int v) F H'' h7 (h3.step o) (.int v)
      have h0 : (L2.start ["_law_stream", "_law_many", "_law_cell", "_law_mixed", "_law_other", "_law_value"] [.ref SA, .int m])[0]? = some (some (.ref SA)) := rfl
      have h1 : (L2.start ["_law_stream", "_law_many", "_law_cell", "_law_mixed", "_law_other", "_law_value"] [.ref SA, .int m])[1]? = some (some (.int m)) := rfl
      have hl : (L2.start ["_law_stream", "_law_many", "_law_cell", "_law_mixed", "_law_other", "_law_value"] [.ref SA, .int m]).length = 6 := rfl
      generalize L2.start ["_law_stream", "_law_many", "_law_cell", "_law_mixed", "_law_other", "_law_value"] [.ref SA, .int m] = σ at h0 h1 hl
      refine st_2 h0 hs ⟨_, h1, b, m, rfl, rfl, _, rfl, ?_⟩
      refine if_go (fun _ => ?_) (fun _ => ?_)
      · have k0 : (σ.set 2 (some (.int 0)))[0]? = some (some (.ref SA)) := by rw [List.getElem?_set_ne (by decide)]; exact h0
        have k1 : (σ.set 2 (some (.int 0)))[1]? = some (some (.int m)) := by rw [List.getElem?_set_ne (by decide)]; exact h1
        have k2 : (σ.set 2 (some (.int 0)))[2]? = some (some (.int 0)) := List.getElem?_set_self (by omega)
        have kl : (σ.set 2 (some (.int 0))).length = 6 := by rw [List.length_set]; exact hl
        show tSeq _ _ _ (σ.set 2 (some (.int 0))) H
        generalize σ.set 2 (some (.int 0)) = σ2 at k0 k1 k2 kl
        refine st_1 k0 hs (st_0 k0 hs ⟨L, _, rfl, .inl (SqL.of h2), ai, _, rfl, rfl, _, rfl, ?_⟩)
        refine if_go (fun hlt => ?_) (fun _ => ?_)
        · have hlt2 : ai < cs.length := by
            have := of_decide_eq_true hlt
            rw [List.length_map] at this
            omega
          refine st_0 k0 hs (st_1 k0 hs ⟨L, _, ai, _, rfl, rfl, SqL.of h2, atI_nat (by rw [List.getElem?_map, List.getElem?_eq_getElem hlt2]; rfl), ?_⟩)
          have j0 : (σ2.set 2 (some (.int cs[ai])))[0]? = some (some (.ref SA)) := by rw [List.getElem?_set_ne (by decide)]; exact k0
          have j1 : (σ2.set 2 (some (.int cs[ai])))[1]? = some (some (.int m)) := by rw [List.getElem?_set_ne (by decide)]; exact k1
          have j2 : (σ2.set 2 (some (.int cs[ai])))[2]? = some (some (.int cs[ai])) := List.getElem?_set_self (by omega)
          have jl : (σ2.set 2 (some (.int cs[ai]))).length = 6 := by rw [List.length_set]; exact kl
          exact draw_mid j0 j1 j2 jl hs fun σ' H'' b' a1 a2 a3 hs' => draw_fin a1 a2 a3 hs' hm hm2 fun H3 b3 h3 => fin (a' := 0) hs' _ rfl H3 b3 h3
        · exact draw_mid k0 k1 k2 kl hs fun σ' H'' b' a1 a2 a3 hs' => draw_fin a1 a2 a3 hs' hm hm2 fun H3 b3 h3 => fin (a' := 0) hs' _ rfl H3 b3 h3
      · exact draw_fin h0 h1 hl hs hm hm2 fun H3 b3 h3 => fin (a' := 0) hs _ rfl H3 b3 h3
end
end Odd
set_option Elab.async false
set_option linter.all false
set_option maxRecDepth 100000
set_option maxHeartbeats 8000000
set_option exponentiation.threshold 1000000
namespace Odd
open PySem L2
def shr (ps : List Nat) : List Rat := ps.map fun (p : Nat) => (p : Rat) / ((ps.sum : Nat) : Rat)
def A_law_shares (SA : Addr) (ss : List SV) (P : SV → Prop) : Prop := ∃ m : Nat, ss = [.raw (.ref SA), .d (.int m)] ∧ 1 ≤ m ∧ m ≤ 6 ∧ ∀ ps : List Nat, ps.length = m → (∀ p ∈ ps, 1 ≤ p ∧ p ≤ 3) → P (.mu ((shr ps).map dN))
theorem sum_cast : ∀ l : List Nat, (l.map fun (n : Nat) => (n : Int)).sum = ((l.sum : Nat) : Int)
  | [] => rfl
  | a :: l => by rw [List.map_cons, List.sum_cons, List.sum_cons, Int.natCast_add, sum_cast l]
theorem dN_inj {p q : Rat} (h : dN p = dN q) : p = q := by
  unfold dN at h
  injection h with h
  injection h with h1 h
  injection h with h2 _
  injection h1 with h1
  injection h2 with h2
  exact Rat.ext h1 (by omega)
theorem map_dN : ∀ {l m : List Rat}, l.map dN = m.map dN → l = m
  | [], [], _ => rfl
  | [], _ :: _, h => by cases h
  | _ :: _, [], h => by cases h
  | a :: l, b :: m, h => by
    injection h with h1 h2
    rw [dN_inj h1, map_dN h2]
def PlOk (n i : Nat) (p : Pl) : Prop :=
  match p with
  | .draw bs => (∃ ps : List Nat, 1 ≤ ps.length ∧ ps.length ≤ 6 ∧ (∀ p ∈ ps, 1 ≤ p ∧ p ≤ 3) ∧ bs.map (·.1) = shr ps) ∧ (∀ b ∈ bs, b.2 < n) ∧ ∃ b, bs[0]? = some b ∧ i < b.2
  | .ours ts => ts ≠ [] ∧ ts.length ≤ 6 ∧ ∀ t ∈ ts, i < t ∧ t < n
  | .theirs ts => ts ≠ [] ∧ ts.length ≤ 6 ∧ ∀ t ∈ ts, i < t ∧ t < n
  | .reward a t => i < t ∧ t < n ∧ ∃ x y : Nat, x ≤ 5 ∧ 1 ≤ y ∧ y ≤ 3 ∧ a = (x : Rat) / (y : Rat)
  | _ => True
def A_law_ending_place (SA : Addr) (ss : List SV) (P : SV → Prop) : Prop := ∃ i n : Nat, ss = [.raw (.ref SA), .d (.int i), .d (.int n)] ∧ i < n ∧ n ≤ 11 ∧ ∀ p, PlOk n i p → P (.d (dP p))
structure GmOk (g : List Pl) : Prop where
  pos : 0 < g.length
  most : g.length ≤ 11
  at_ : ∀ i p, g[i]? = some p → PlOk g.length i p
def A_law_ending_game (SA : Addr) (ss : List SV) (P : SV → Prop) : Prop := ss = [.raw (.ref SA), .d (.int 7)] ∧ ∀ g, GmOk g → P (.mu (g.map dP))
def A_law_strategy (SA : Addr) (ss : List SV) (P : SV → Prop) : Prop := ∃ (g : List Pl) (k : Kd), ss = [.raw (.ref SA), .d (dG g), .d (.str k.str)] ∧ (k = .ours ∨ k = .theirs) ∧ g.length ≤ 60 ∧ (∀ p ∈ g, p.kd = k → 0 < p.tgts.length ∧ p.tgts.length < 1000) ∧ ∀ s, StrOk g k s → P (.mu (s.map dO))
theorem len_law_shares {SA : Addr} {ss : List SV} {P : SV → Prop} (h : A_law_shares SA ss P) : ss.length = 2 := by obtain ⟨_, rfl, _⟩ := h; rfl
theorem len_law_ending_place {SA : Addr} {ss : List SV} {P : SV → Prop} (h : A_law_ending_place SA ss P) : ss.length = 3 := by obtain ⟨_, _, rfl, _⟩ := h; rfl
theorem len_law_ending_game {SA : Addr} {ss : List SV} {P : SV → Prop} (h : A_law_ending_game SA ss P) : ss.length = 2 := by obtain ⟨rfl, _⟩ := h; rfl
theorem len_law_strategy {SA : Addr} {ss : List SV} {P : SV → Prop} (h : A_law_strategy SA ss P) : ss.length = 3 := by obtain ⟨_, _, rfl, _⟩ := h; rfl
section
variable {K : PySem.W.Frag} {SA L : Addr} {cs : List Int} {E : En} {Γ : List SV} {tb te : TE} {Er : XK}
theorem ev_draw {i m : Nat} (ha : Γ[i]? = some (.raw (.ref SA))) (hb : EvD (strX K SA L cs) E tb Γ (.int m)) (hm : 0 < m) (hm2 : m < 1000) : EvP (strX K SA L cs) E (tCall (spS K A_law_draw) [] Er (tCons (tVar i) (tCons tb tNil))) Γ fun r => ∃ v : Nat, r = .d (.int v) ∧ v < m :=
  ev_callX (ea_consR (ev_raw ha) (ea_cons hb ea_nil)) ⟨m, rfl, hm, hm2, fun v hv => ⟨v, rfl, hv⟩⟩
theorem ev_kdeq {X : Fx} {a : Kd} (b : Kd) (h : EvD X E te Γ (.str a.str)) : EvB X E (tTest (tOp (rEqD X.K) te (tC (.str b.str)))) Γ (decide (a = b)) :=
  et_test ((ev_eqD h ev_cs (kd_shp a) (kd_shp b)).is (by rw [eqv_kd]))
end
section
variable {P : Program} {w : World} {K : PySem.W.Frag} {mg : Str → Option Value} {base : Heap}
theorem sc_law_shares : FnScope ["_law_stream", "_law_many", "_law_parts", "_law_turn", "_law_part"] ["_law_stream", "_law_many"] (defScope (top 54)) := ⟨rfl, rfl, rfl, by decide +kernel, rfl, by decide +kernel, by decide +kernel⟩
theorem d_law_shares (T : Txt K mg) (S : Stands K mg "_law_shares" 54 ["_law_stream", "_law_many"]) (D_law_number : DefOk P w K mg base "_law_number" ["_law_n", "_law_d"] 33 (SpR (.pure K) A_law_number)) (D_law_draw : DefOk P w K mg base "_law_draw" ["_law_stream", "_law_many"] 1 (spS K A_law_draw)) : DefOk P w K mg base "_law_shares" ["_law_stream", "_law_many"] 34 (spS K A_law_shares) := by
  refine def_str S sc_law_shares (fun SA ss P h => len_law_shares h) (by decide) fun f cdv B outer s H E hr hcd => ?_
  have nd := sc_law_shares.nd
  refine ⟨_, (pss_cons (ps_set (i := 2) nd rfl (.inr rfl) (pe_lc (own := [("_law_turn", 3)]) rfl nd (pi_range1 (by rfl) T.range (pa_cons (pv 1) pa_nil)) (blkOk_by (N := ["_law_stream", "_law_many", "_law_parts", "_law_turn", "_law_part"]) (sc := defScope (top 54)) (by decide +kernel)) (fun _ _ _ _ _ => (pg_name (i := 3) nd rfl (.inl rfl) (.inr (by rfl)))) (fun _ _ _ _ _ => pts_nil) (fun _ _ _ _ _ => (pe_op op_add pe_int (pe_def D_law_draw (hr.mono (by decide)) (by rfl) (pa_cons (pv 0) (pa_cons pe_int pa_nil)))))))
    (pss_one (ps_ret (pe_lc (own := [("_law_part", 4)]) rfl nd (pi_list (pv 2)) (blkOk_by (N := ["_law_stream", "_law_many", "_law_parts", "_law_turn", "_law_part"]) (sc := defScope (top 54)) (by decide +kernel)) (fun _ _ _ _ _ => (pg_name (i := 4) nd rfl (.inl rfl) (.inr (by rfl)))) (fun _ _ _ _ _ => pts_nil) (fun _ _ _ _ _ => (pe_def D_law_number (hr.mono (by decide)) (by rfl) (pa_cons (pv 4) (pa_cons (pe_callB (id := "sum") (sum_K (K := K) rfl rfl) (by rfl) T.sum (by decide +kernel) (pa_cons (pv 2) pa_nil)) pa_nil)))))))), fun SA L cs ss P E h => ?_⟩
  obtain ⟨m, rfl, hm1, hm6, hP⟩ := h
  refine sg_seq (sg_asgP (P := fun r => ∃ ps : List Nat, r = .d (.list (ps.map dI)) ∧ ps.length = m ∧ ∀ p ∈ ps, 1 ≤ p ∧ p ≤ 3) (EvP.fix (P := fun r => ∃ ps : List Nat, r = .mu (ps.map dI) ∧ ps.length = m ∧ ∀ p ∈ ps, 1 ≤ p ∧ p ≤ 3)
    (ev_lcP (Pd := fun ds => ds = intsD 0 m) (it_rng1 (n := m) ev_var (by omega)) (fun ds e => by rw [e, ints_len]; omega) (fun xs acc => ∃ ps : List Nat, acc = ps.map dI ∧ ps.length = xs.length ∧ ∀ p ∈ ps, 1 ≤ p ∧ p ≤ 3) (fun _ _ => ⟨[], rfl, rfl, by simp⟩) (fun ds e i x hx => ?_) fun ds acc e ⟨ps, h1, h2, h3⟩ _ => ⟨ps, by rw [h1], by rw [h2, e, ints_len], h3⟩)
    (fun ds ⟨ps, e, h⟩ => ⟨ps, by cases e; rfl, h⟩) fun r ⟨ps, e, _⟩ => ⟨_, e⟩) fun r ⟨ps, e, h1, h2⟩ => ⟨_, e, ?_⟩)
  · subst e
    obtain ⟨hi, rfl⟩ := ints_get0 hx
    refine ⟨_, _, tg_name, by simp, true, et_yes, fun _ => ev_addP ev_ci (ev_draw (i := 0) (m := 3) rfl ev_ci (by decide) (by decide)) fun r ⟨v, e, hv⟩ => ⟨v, e, dI (1 + v), by unfold dI; rw [Int.natCast_add]; rfl, fun acc ⟨ps, h1, h2, h3⟩ => ⟨ps ++ [1 + v], by rw [h1, List.map_append]; rfl, ?_, fun p hp => ?_⟩⟩, fun z => nomatch z⟩
    · rw [List.length_append, h2, List.length_take, List.length_take, ints_len, Nat.min_eq_left (by omega), Nat.min_eq_left (by omega)]; rfl
    · rcases List.mem_append.mp hp with z | z
      · exact h3 p z
      · rw [List.mem_singleton.mp z]; omega
  · have hsum : 0 < ps.sum := by
      cases ps with
      | nil => simp at h1; omega
      | cons a l =>
        have := (h2 a List.mem_cons_self).1
        rw [List.sum_cons]; omega
    refine sg_ret (ev_lcI (ds := ps.map dI) (ys := (shr ps).map dN) (it_list ev_var) (by rw [List.length_map]; omega) (by unfold shr; simp) fun i x y hx hy => ?_) fun r er => er ▸ hP ps h1 h2
    obtain ⟨p, hp, rfl⟩ := get_map hx
    unfold shr at hy
    rw [List.map_map, List.getElem?_map, hp] at hy
    cases hy
    refine ⟨_, _, tg_name, by simp, ev_call (ea_cons (ev_vi (n := p)) (ea_cons (EvP.is (ev_sum (ns := ps.map fun (n : Nat) => (n : Int)) (EvP.is ev_var (by rw [dIL_ints]))) (show _ = PyData.int ((ps.sum : Nat) : Int) from ?_)) ea_nil)) ⟨_, _, rfl, by omega, ?_⟩⟩
    · rw [sum_cast]
    · show SV.d (dN (Rat.divInt (p : Int) ((ps.sum : Nat) : Int))) = .d (dN ((p : Rat) / ((ps.sum : Nat) : Rat)))
      rw [Rat.divInt_eq_div, Rat.intCast_natCast, Rat.intCast_natCast]
theorem sc_law_ending_place : FnScope ["_law_stream", "_law_place_here", "_law_many", "_law_kind", "_law_later", "_law_branches", "_law_share", "_law_target", "_law_amount", "_law_turn"] ["_law_stream", "_law_place_here", "_law_many"] (defScope (top 62)) := ⟨rfl, rfl, rfl, by decide +kernel, rfl, by decide +kernel, by decide +kernel⟩
theorem d_law_ending_place (T : Txt K mg) (S : Stands K mg "_law_ending_place" 62 ["_law_stream", "_law_place_here", "_law_many"]) (D_law_draw : DefOk P w K mg base "_law_draw" ["_law_stream", "_law_many"] 1 (spS K A_law_draw)) (D_law_shares : DefOk P w K mg base "_law_shares" ["_law_stream", "_law_many"] 34 (spS K A_law_shares)) (D_law_number : DefOk P w K mg base "_law_number" ["_law_n", "_law_d"] 33 (SpR (.pure K) A_law_number)) : DefOk P w K mg base "_law_ending_place" ["_law_stream", "_law_place_here", "_law_many"] 35 (spS K A_law_ending_place) := by
  refine def_str S sc_law_ending_place (fun SA ss P h => len_law_ending_place h) (by decide) fun f cdv B outer s H E hr hcd => ?_
  have nd := sc_law_ending_place.nd
  refine ⟨_, (pss_cons (ps_set (i := 3) nd rfl (.inl rfl) (pe_ix ix_list (pe_lst (pa_cons pe_str (pa_cons pe_str (pa_cons pe_str (pa_cons pe_str (pa_cons pe_str (pa_cons pe_str (pa_cons pe_str (pa_cons pe_str (pa_cons pe_str (pa_cons pe_str pa_nil))))))))))) (pe_def D_law_draw (hr.mono (by decide)) (by rfl) (pa_cons (pv 0) (pa_cons pe_int pa_nil))) (fun _ _ => rfl)))
    (pss_cons (ps_set (i := 4) nd rfl (.inr rfl) (pe_op op_sub (pe_op op_sub (pv 2) pe_int) (pv 1)))
    (pss_cons (ps_if (pt_cmpR (op_eqD hr.units) (pv 4) pe_int (nomark _)) (pss_one (ps_ret (pe_tup (pa_cons (pe_ix ix_list (pe_lst (pa_cons pe_str (pa_cons pe_str pa_nil))) (pe_def D_law_draw (hr.mono (by decide)) (by rfl) (pa_cons (pv 0) (pa_cons pe_int pa_nil))) (fun _ _ => rfl)) pa_nil)))) pss_nil)
    (pss_cons (ps_if (pt_cmpR (op_eqD hr.units) (pv 3) pe_str (nomark _)) (pss_cons (ps_set (i := 5) nd rfl (.inl rfl) (pe_lst pa_nil))
    (pss_cons (ps_for PassesOwn.never rfl (pi_list (pe_def D_law_shares (hr.mono (by decide)) (by rfl) (pa_cons (pv 0) (pa_cons (pe_ix ix_list (pe_lst (pa_cons pe_int (pa_cons pe_int (pa_cons pe_int (pa_cons pe_int (pa_cons pe_int (pa_cons pe_int pa_nil))))))) (pe_def D_law_draw (hr.mono (by decide)) (by rfl) (pa_cons (pv 0) (pa_cons pe_int pa_nil))) (fun _ _ => rfl)) pa_nil)))) (pg_name (i := 6) nd rfl (.inl rfl)) (pss_cons (ps_set (i := 7) nd rfl (.inl rfl) (pe_op op_add (pe_op op_add (pv 1) pe_int) (pe_def D_law_draw (hr.mono (by decide)) (by rfl) (pa_cons (pv 0) (pa_cons (pv 4) pa_nil)))))
    (pss_cons (ps_if (PW.pt (pw_and (pt_cmpR op_gt (pe_callB call_len_seq (by rfl) T.len (by decide +kernel) (pa_cons (pv 5) pa_nil)) pe_int (nomark _)) (pw_and1 (pt_cmpR (op_eqD hr.units) (pe_def D_law_draw (hr.mono (by decide)) (by rfl) (pa_cons (pv 0) (pa_cons pe_int pa_nil))) pe_int (nomark _))))) (pss_one (ps_set (i := 7) nd rfl (.inl rfl) (pe_def D_law_draw (hr.mono (by decide)) (by rfl) (pa_cons (pv 0) (pa_cons (pv 2) pa_nil))))) pss_nil)
    (pss_one (ps_expr (pe_bm PySem.F.plainAttrs_list PySem.F.slot_list_append PySem.F.type_list_append mt_append (pv 5) (pa_cons (pe_tup (pa_cons (pv 6) (pa_cons (pv 7) pa_nil))) pa_nil)))))))
    (pss_one (ps_ret (pe_tup (pa_cons pe_str (pa_cons (pv 5) pa_nil))))))) pss_nil)
    (pss_cons (ps_if (PW.pt (pw_or (pt_cmpR (op_eqD hr.units) (pv 3) pe_str (nomark _)) (pw_or1 (pt_cmpR (op_eqD hr.units) (pv 3) pe_str (nomark _))))) (pss_one (ps_ret (pe_tup (pa_cons (pv 3) (pa_cons (pe_lc (own := [("_law_turn", 9)]) rfl nd (pi_range1 (by rfl) T.range (pa_cons (pe_ix ix_list (pe_lst (pa_cons pe_int (pa_cons pe_int (pa_cons pe_int (pa_cons pe_int (pa_cons pe_int (pa_cons pe_int pa_nil))))))) (pe_def D_law_draw (hr.mono (by decide)) (by rfl) (pa_cons (pv 0) (pa_cons pe_int pa_nil))) (fun _ _ => rfl)) pa_nil)) (blkOk_by (N := ["_law_stream", "_law_place_here", "_law_many", "_law_kind", "_law_later", "_law_branches", "_law_share", "_law_target", "_law_amount", "_law_turn"]) (sc := defScope (top 62)) (by decide +kernel)) (fun _ _ _ _ _ => (pg_name (i := 9) nd rfl (.inl rfl) (.inr (by rfl)))) (fun _ _ _ _ _ => pts_nil) (fun _ _ _ _ _ => (pe_op op_add (pe_op op_add (pv 1) pe_int) (pe_def D_law_draw (hr.mono (by decide)) (by rfl) (pa_cons (pv 0) (pa_cons (pv 4) pa_nil)))))) pa_nil))))) pss_nil)
    (pss_cons (ps_if (pt_cmpR (op_eqD hr.units) (pv 3) pe_str (nomark _)) (pss_cons (ps_set (i := 8) nd rfl (.inl rfl) (pe_def D_law_number (hr.mono (by decide)) (by rfl) (pa_cons (pe_def D_law_draw (hr.mono (by decide)) (by rfl) (pa_cons (pv 0) (pa_cons pe_int pa_nil))) (pa_cons (pe_op op_add pe_int (pe_def D_law_draw (hr.mono (by decide)) (by rfl) (pa_cons (pv 0) (pa_cons pe_int pa_nil)))) pa_nil))))
    (pss_one (ps_ret (pe_tup (pa_cons pe_str (pa_cons (pv 8) (pa_cons (pe_op op_add (pe_op op_add (pv 1) pe_int) (pe_def D_law_draw (hr.mono (by decide)) (by rfl) (pa_cons (pv 0) (pa_cons (pv 4) pa_nil)))) pa_nil))))))) pss_nil)
    (pss_one (ps_ret (pe_tup (pa_cons (pv 3) pa_nil)))))))))), fun SA L cs ss P E h => ?_⟩
  obtain ⟨i, n, rfl, hi, hn, hP⟩ := h
  refine sg_seq (sg_asgP (ev_ixLP (P := fun r => ∃ k : Kd, r = .d (.str k.str)) (EvM.d (ev_lst (xs := [Kd.draw, .draw, .ours, .ours, .theirs, .theirs, .reward, .reward, .finish, .lose].map fun k => .str k.str)
    (ea_cons (ev_cs (z := Kd.draw.str)) (ea_cons (ev_cs (z := Kd.draw.str)) (ea_cons (ev_cs (z := Kd.ours.str)) (ea_cons (ev_cs (z := Kd.ours.str)) (ea_cons (ev_cs (z := Kd.theirs.str)) (ea_cons (ev_cs (z := Kd.theirs.str)) (ea_cons (ev_cs (z := Kd.reward.str)) (ea_cons (ev_cs (z := Kd.reward.str)) (ea_cons (ev_cs (z := Kd.finish.str)) (ea_cons (ev_cs (z := Kd.lose.str)) ea_nil))))))))))))
    (ev_draw (i := 0) (m := 10) rfl ev_ci (by decide) (by decide)) fun r ⟨v, e, hv⟩ => ⟨v, _, e, at_mapN (f := fun k : Kd => PyData.str k.str) (List.getElem?_eq_getElem (by simpa using hv)), _, rfl⟩) fun r ⟨k, e⟩ => ⟨_, e, ?_⟩)
  refine sg_seq (sg_asg (x := dI (n - 1 - i)) ((ev_sub (ev_sub (ev_vi (n := n)) ev_ci) (ev_vi (n := i))).is (by
    unfold dI
    congr 1
    omega)) ?_)
  refine sg_seq (sg_if (Pb := fun b => b = decide (((n - 1 - i : Nat) : Int) = 0)) (et_test (ev_eqZ (ev_vi (n := n - 1 - i)) ev_ci)) (fun c => ?_) (fun c => sg_next ?_))
  · refine sg_ret (ev_tupP (P := fun r => ∃ k : Kd, (k = .finish ∨ k = .lose) ∧ r = .d (.tuple [.str k.str])) (ea_consP (Ps := fun rs => ∃ k : Kd, (k = .finish ∨ k = .lose) ∧ rs = [.d (.str k.str)]) (ev_ixLP (P := fun r => ∃ k : Kd, (k = .finish ∨ k = .lose) ∧ r = .d (.str k.str)) (EvM.d (ev_lst (xs := [Kd.finish, .lose].map fun k => .str k.str) (ea_cons (ev_cs (z := Kd.finish.str)) (ea_cons (ev_cs (z := Kd.lose.str)) ea_nil))))
      (ev_draw (i := 0) (m := 2) rfl ev_ci (by decide) (by decide)) fun r ⟨v, e, hv⟩ => ⟨v, _, e, at_mapN (f := fun k : Kd => PyData.str k.str) (List.getElem?_eq_getElem (by simpa using hv)), _, ?_, rfl⟩) ea_nil fun r rs ⟨k, hk, e⟩ e2 => ⟨by rw [e]; rfl, k, hk, by rw [e, e2]⟩) fun rs ⟨k, hk, e⟩ => ⟨[.str k.str], e, by simp, k, hk, rfl⟩) fun r ⟨k, hk, e⟩ => ?_
    · have : ∀ v : Fin 2, [Kd.finish, Kd.lose][v.1] = .finish ∨ [Kd.finish, Kd.lose][v.1] = .lose := by decide
      exact this ⟨v, hv⟩
    · rw [e]
      rcases hk with z | z
      · rw [z]; exact hP .finish trivial
      · rw [z]; exact hP .lose trivial
  have hlater : i + 1 < n := by
    have : ¬ ((n - 1 - i : Nat) : Int) = 0 := of_decide_eq_false c.symm
    omega
  have fwd : ∀ {Γ : List SV}, Γ[0]? = some (.raw (.ref SA)) → Γ[1]? = some (.d (dI i)) → Γ[4]? = some (.d (dI (n - 1 - i))) →
      EvP (strX K SA L cs) E (tOp rAdd (tOp rAdd (tVar 1) (tC (.int 1))) (tCall (spS K A_law_draw) [] E0 (tCons (tVar 0) (tCons (tVar 4) tNil)))) Γ fun r => ∃ t : Nat, r = .d (.int t) ∧ i < t ∧ t < n := fun h0 h1 h4 =>
    ev_addP (ev_add (ev_vi (n := i) h1) ev_ci) (ev_draw (i := 0) (m := n - 1 - i) h0 (ev_vi h4) (by omega) (by omega)) fun r ⟨v, e, hv⟩ => ⟨v, e, i + 1 + v, by rw [Int.natCast_add, Int.natCast_add]; rfl, by omega, by omega⟩
  have cnt : ∀ {Γ : List SV} (c6 : List Nat) (te : TE), c6.length = 6 → (∀ c ∈ c6, 1 ≤ c ∧ c ≤ 6) → Γ[0]? = some (.raw (.ref SA)) → EvD (strX K SA L cs) E te Γ (dIL c6) →
      EvP (strX K SA L cs) E (tOp (rIxL K) te (tCall (spS K A_law_draw) [] E0 (tCons (tVar 0) (tCons (tC (.int 6)) tNil)))) Γ fun r => ∃ m : Nat, r = .d (.int m) ∧ 1 ≤ m ∧ m ≤ 6 := fun c6 te hl hc h0 hte =>
    ev_ixLP (X := strX K SA L cs) hte (ev_draw (i := 0) (m := 6) h0 ev_ci (by decide) (by decide)) fun r ⟨v, e, hv⟩ => ⟨v, _, e, at_mapN (f := dI) (List.getElem?_eq_getElem (by omega)), _, rfl, hc _ (List.getElem_mem _)⟩
  have l6 : ∀ {Γ : List SV} (a b c d e f : Int), EvM (strX K SA L cs) E (tLst (tCons (tC (.int a)) (tCons (tC (.int b)) (tCons (tC (.int c)) (tCons (tC (.int d)) (tCons (tC (.int e)) (tCons (tC (.int f)) tNil))))))) Γ [.int a, .int b, .int c, .int d, .int e, .int f] := fun a b c d e f =>
    ev_lst (xs := [.int a, .int b, .int c, .int d, .int e, .int f]) (ea_cons ev_ci (ea_cons ev_ci (ea_cons ev_ci (ea_cons ev_ci (ea_cons ev_ci (ea_cons ev_ci ea_nil))))))
  cases k with
  | ours =>
    refine sg_seq (sg_ifF (EvT.is (ev_kdeq (a := .ours) .draw ev_var) rfl) (sg_next ?_))
    refine sg_seq (sg_ifT (et_orT (EvT.is (ev_kdeq (a := .ours) .ours ev_var) rfl)) (sg_ret (ev_tupP (P := fun r => ∃ ts : List Nat, r = .d (dP (.ours ts)) ∧ ts ≠ [] ∧ ts.length ≤ 6 ∧ ∀ t ∈ ts, i < t ∧ t < n) (ea_consP (Pa := fun r => r = .d (.str Kd.ours.str)) (Pl := fun rs => ∃ ts : List Nat, rs = [.d (dIL ts)] ∧ ts ≠ [] ∧ ts.length ≤ 6 ∧ ∀ t ∈ ts, i < t ∧ t < n) (Ps := fun rs => ∃ ts : List Nat, rs = [.d (.str Kd.ours.str), .d (dIL ts)] ∧ ts ≠ [] ∧ ts.length ≤ 6 ∧ ∀ t ∈ ts, i < t ∧ t < n) ev_var
      (ea_consP (Pa := fun r => ∃ ts : List Nat, r = .d (dIL ts) ∧ ts ≠ [] ∧ ts.length ≤ 6 ∧ ∀ t ∈ ts, i < t ∧ t < n) (EvP.fix (P := fun r => ∃ ts : List Nat, r = .mu (ts.map dI) ∧ ts ≠ [] ∧ ts.length ≤ 6 ∧ ∀ t ∈ ts, i < t ∧ t < n)
        (ev_lcP (Pd := fun ds => ∃ m : Nat, ds = intsD 0 m ∧ 1 ≤ m ∧ m ≤ 6) (it_rng1P (cnt [1, 2, 2, 3, 2, 6] _ rfl (by decide) rfl (l6 1 2 2 3 2 6).d) fun r ⟨m, e, h1, h2⟩ => ⟨m, e, by omega, m, rfl, h1, h2⟩) (fun ds ⟨m, e, h1, h2⟩ => by rw [e, ints_len]; omega)
          (fun xs acc => ∃ ts : List Nat, acc = ts.map dI ∧ ts.length = xs.length ∧ ∀ t ∈ ts, i < t ∧ t < n) (fun _ _ => ⟨[], rfl, rfl, by simp⟩) (fun ds hd q x hx => ?_) fun ds acc ⟨m, e, h1, h2⟩ ⟨ts, a1, a2, a3⟩ _ => ⟨ts, by rw [a1], fun z => ?_, by rw [a2, e, ints_len]; omega, a3⟩)
        (fun ds ⟨ts, e, h⟩ => ⟨ts, by cases e; rfl, h⟩) fun r ⟨ts, e, _⟩ => ⟨_, e⟩) ea_nil fun r rs ⟨ts, e, h⟩ e2 => ⟨by rw [e]; rfl, ts, by rw [e, e2], h⟩) fun r rs e ⟨ts, e2, h⟩ => ⟨by rw [e]; rfl, ts, by rw [e, e2], h⟩) fun rs ⟨ts, e, h⟩ => ⟨[.str Kd.ours.str, dIL ts], e, by simp, ts, rfl, h⟩) fun r ⟨ts, e, h⟩ => ?_))
    · obtain ⟨m, rfl, h1, h2⟩ := hd
      obtain ⟨hq, rfl⟩ := ints_get0 hx
      refine ⟨_, _, tg_name, by simp, true, et_yes, fun _ => (fwd rfl rfl rfl).imp fun r ⟨t, e, b1, b2⟩ => ⟨dI t, e, fun acc ⟨ts, a1, a2, a3⟩ => ⟨ts ++ [t], by rw [a1, List.map_append]; rfl, ?_, fun u hu => ?_⟩⟩, fun z => nomatch z⟩
      · rw [List.length_append, a2, List.length_take, List.length_take, ints_len, Nat.min_eq_left (by omega), Nat.min_eq_left (by omega)]; rfl
      · rcases List.mem_append.mp hu with z | z
        · exact a3 u z
        · rw [List.mem_singleton.mp z]; exact ⟨b1, b2⟩
    · rw [z, e, ints_len] at a2
      simp at a2
      omega
    · rw [e]; exact hP (.ours ts) h
  | theirs =>
    refine sg_seq (sg_ifF (EvT.is (ev_kdeq (a := .theirs) .draw ev_var) rfl) (sg_next ?_))
    refine sg_seq (sg_ifT (et_orF (EvT.is (ev_kdeq (a := .theirs) .ours ev_var) rfl) (EvT.is (ev_kdeq (a := .theirs) .theirs ev_var) rfl)) (sg_ret (ev_tupP (P := fun r => ∃ ts : List Nat, r = .d (dP (.theirs ts)) ∧ ts ≠ [] ∧ ts.length ≤ 6 ∧ ∀ t ∈ ts, i < t ∧ t < n) (ea_consP (Pa := fun r => r = .d (.str Kd.theirs.str)) (Pl := fun rs => ∃ ts : List Nat, rs = [.d (dIL ts)] ∧ ts ≠ [] ∧ ts.length ≤ 6 ∧ ∀ t ∈ ts, i < t ∧ t < n) (Ps := fun rs => ∃ ts : List Nat, rs = [.d (.str Kd.theirs.str), .d (dIL ts)] ∧ ts ≠ [] ∧ ts.length ≤ 6 ∧ ∀ t ∈ ts, i < t ∧ t < n) ev_var
      (ea_consP (Pa := fun r => ∃ ts : List Nat, r = .d (dIL ts) ∧ ts ≠ [] ∧ ts.length ≤ 6 ∧ ∀ t ∈ ts, i < t ∧ t < n) (EvP.fix (P := fun r => ∃ ts : List Nat, r = .mu (ts.map dI) ∧ ts ≠ [] ∧ ts.length ≤ 6 ∧ ∀ t ∈ ts, i < t ∧ t < n)
        (ev_lcP (Pd := fun ds => ∃ m : Nat, ds = intsD 0 m ∧ 1 ≤ m ∧ m ≤ 6) (it_rng1P (cnt [1, 2, 2, 3, 2, 6] _ rfl (by decide) rfl (l6 1 2 2 3 2 6).d) fun r ⟨m, e, h1, h2⟩ => ⟨m, e, by omega, m, rfl, h1, h2⟩) (fun ds ⟨m, e, h1, h2⟩ => by rw [e, ints_len]; omega)
          (fun xs acc => ∃ ts : List Nat, acc = ts.map dI ∧ ts.length = xs.length ∧ ∀ t ∈ ts, i < t ∧ t < n) (fun _ _ => ⟨[], rfl, rfl, by simp⟩) (fun ds hd q x hx => ?_) fun ds acc ⟨m, e, h1, h2⟩ ⟨ts, a1, a2, a3⟩ _ => ⟨ts, by rw [a1], fun z => ?_, by rw [a2, e, ints_len]; omega, a3⟩)
        (fun ds ⟨ts, e, h⟩ => ⟨ts, by cases e; rfl, h⟩) fun r ⟨ts, e, _⟩ => ⟨_, e⟩) ea_nil fun r rs ⟨ts, e, h⟩ e2 => ⟨by rw [e]; rfl, ts, by rw [e, e2], h⟩) fun r rs e ⟨ts, e2, h⟩ => ⟨by rw [e]; rfl, ts, by rw [e, e2], h⟩) fun rs ⟨ts, e, h⟩ => ⟨[.str Kd.theirs.str, dIL ts], e, by simp, ts, rfl, h⟩) fun r ⟨ts, e, h⟩ => ?_))
    · obtain ⟨m, rfl, h1, h2⟩ := hd
      obtain ⟨hq, rfl⟩ := ints_get0 hx
      refine ⟨_, _, tg_name, by simp, true, et_yes, fun _ => (fwd rfl rfl rfl).imp fun r ⟨t, e, b1, b2⟩ => ⟨dI t, e, fun acc ⟨ts, a1, a2, a3⟩ => ⟨ts ++ [t], by rw [a1, List.map_append]; rfl, ?_, fun u hu => ?_⟩⟩, fun z => nomatch z⟩
      · rw [List.length_append, a2, List.length_take, List.length_take, ints_len, Nat.min_eq_left (by omega), Nat.min_eq_left (by omega)]; rfl
      · rcases List.mem_append.mp hu with z | z
        · exact a3 u z
        · rw [List.mem_singleton.mp z]; exact ⟨b1, b2⟩
    · rw [z, e, ints_len] at a2
      simp at a2
      omega
    · rw [e]; exact hP (.theirs ts) h
  | finish =>
    refine sg_seq (sg_ifF (EvT.is (ev_kdeq (a := .finish) .draw ev_var) rfl) (sg_next ?_))
    refine sg_seq (sg_ifF (et_orF (EvT.is (ev_kdeq (a := .finish) .ours ev_var) rfl) (EvT.is (ev_kdeq (a := .finish) .theirs ev_var) rfl)) (sg_next ?_))
    refine sg_seq (sg_ifF (EvT.is (ev_kdeq (a := .finish) .reward ev_var) rfl) (sg_next ?_))
    exact sg_retD (ev_tup (xs := [.str Kd.finish.str]) (ea_cons ev_var ea_nil)) (hP .finish trivial)
  | lose =>
    refine sg_seq (sg_ifF (EvT.is (ev_kdeq (a := .lose) .draw ev_var) rfl) (sg_next ?_))
    refine sg_seq (sg_ifF (et_orF (EvT.is (ev_kdeq (a := .lose) .ours ev_var) rfl) (EvT.is (ev_kdeq (a := .lose) .theirs ev_var) rfl)) (sg_next ?_))
    refine sg_seq (sg_ifF (EvT.is (ev_kdeq (a := .lose) .reward ev_var) rfl) (sg_next ?_))
    exact sg_retD (ev_tup (xs := [.str Kd.lose.str]) (ea_cons ev_var ea_nil)) (hP .lose trivial)
  | reward =>
    refine sg_seq (sg_ifF (EvT.is (ev_kdeq (a := .reward) .draw ev_var) rfl) (sg_next ?_))
    refine sg_seq (sg_ifF (et_orF (EvT.is (ev_kdeq (a := .reward) .ours ev_var) rfl) (EvT.is (ev_kdeq (a := .reward) .theirs ev_var) rfl)) (sg_next ?_))
    refine sg_seq (sg_ifT (EvT.is (ev_kdeq (a := .reward) .reward ev_var) rfl) ?_)
    refine sg_seq (sg_asgP (P := fun r => ∃ x y : Nat, r = .d (dN ((x : Rat) / (y : Rat))) ∧ x ≤ 5 ∧ 1 ≤ y ∧ y ≤ 3) (ev_callP (A := A_law_number) (Pl := fun rs => ∃ x y : Nat, rs = [.d (.int x), .d (.int y)] ∧ x ≤ 5 ∧ 1 ≤ y ∧ y ≤ 3)
      (ea_consP (Pl := fun rs => ∃ y : Nat, rs = [.d (.int y)] ∧ 1 ≤ y ∧ y ≤ 3) (ev_draw (i := 0) (m := 6) rfl ev_ci (by decide) (by decide)) (ea_consP (Pa := fun r => ∃ y : Nat, r = .d (.int y) ∧ 1 ≤ y ∧ y ≤ 3) (ev_addP ev_ci (ev_draw (i := 0) (m := 3) rfl ev_ci (by decide) (by decide)) fun r ⟨v, e, hv⟩ => ⟨v, e, 1 + v, by rw [Int.natCast_add]; rfl, by omega, by omega⟩) ea_nil fun r rs ⟨y, e, h1, h2⟩ e2 => ⟨by rw [e]; rfl, y, by rw [e, e2], h1, h2⟩)
        fun r rs ⟨x, e, hx⟩ ⟨y, e2, h1, h2⟩ => ⟨by rw [e]; rfl, x, y, by rw [e, e2], by omega, h1, h2⟩)
      fun rs ⟨x, y, e, h0, h1, h2⟩ => ⟨x, y, e, by omega, x, y, by rw [Rat.divInt_eq_div, Rat.intCast_natCast, Rat.intCast_natCast], h0, h1, h2⟩) fun r ⟨x, y, e, h0, h1, h2⟩ => ⟨_, e, ?_⟩)
    refine sg_ret (ev_tupP (P := fun r => ∃ t : Nat, r = .d (dP (.reward ((x : Rat) / (y : Rat)) t)) ∧ i < t ∧ t < n) (ea_consP (Pa := fun r => r = .d (.str Kd.reward.str)) (Pl := fun rs => ∃ t : Nat, rs = [.d (dN ((x : Rat) / (y : Rat))), .d (dI t)] ∧ i < t ∧ t < n) (Ps := fun rs => ∃ t : Nat, rs = [.d (.str Kd.reward.str), .d (dN ((x : Rat) / (y : Rat))), .d (dI t)] ∧ i < t ∧ t < n) (ev_cs (z := Kd.reward.str))
      (ea_consP (Pa := fun r => r = .d (dN ((x : Rat) / (y : Rat)))) (Pl := fun rs => ∃ t : Nat, rs = [.d (dI t)] ∧ i < t ∧ t < n) ev_var (ea_consP (fwd rfl rfl rfl) ea_nil fun r rs ⟨t, e, h⟩ e2 => ⟨by rw [e]; rfl, t, by rw [e, e2]; rfl, h⟩) fun r rs e ⟨t, e2, h⟩ => ⟨by rw [e]; rfl, t, by rw [e, e2], h⟩) fun r rs e ⟨t, e2, h⟩ => ⟨by rw [e]; rfl, t, by rw [e, e2], h⟩)
      fun rs ⟨t, e, h⟩ => ⟨[.str Kd.reward.str, dN ((x : Rat) / (y : Rat)), dI t], e, by simp, t, rfl, h⟩) fun r ⟨t, e, a1, a2⟩ => ?_
    rw [e]
    exact hP (.reward ((x : Rat) / (y : Rat)) t) ⟨a1, a2, x, y, h0, h1, h2, rfl⟩
  | draw =>
    refine sg_seq (sg_ifT (EvT.is (ev_kdeq (a := .draw) .draw ev_var) rfl) ?_)
    refine sg_seq (sg_asgM (ev_lst (xs := []) ea_nil) ?_)
    refine sg_seq (sg_forP (Pd := fun ds => ∃ ps : List Nat, ds = (shr ps).map dN ∧ 1 ≤ ps.length ∧ ps.length ≤ 6 ∧ ∀ p ∈ ps, 1 ≤ p ∧ p ≤ 3) (it_listP (P := fun r => ∃ ps : List Nat, r = .d (.list ((shr ps).map dN)) ∧ 1 ≤ ps.length ∧ ps.length ≤ 6 ∧ ∀ p ∈ ps, 1 ≤ p ∧ p ≤ 3)
      (EvP.fix (P := fun r => ∃ ps : List Nat, r = .mu ((shr ps).map dN) ∧ 1 ≤ ps.length ∧ ps.length ≤ 6 ∧ ∀ p ∈ ps, 1 ≤ p ∧ p ≤ 3) (ev_callXP (A := A_law_shares) (Pl := fun rs => ∃ m : Nat, rs = [.raw (.ref SA), .d (.int m)] ∧ 1 ≤ m ∧ m ≤ 6)
        (ea_consP (Pa := fun r => r = .raw (.ref SA)) (Pl := fun rs => ∃ m : Nat, rs = [.d (.int m)] ∧ 1 ≤ m ∧ m ≤ 6) (ev_raw rfl) (ea_consP (cnt [1, 2, 3, 2, 3, 6] _ rfl (by decide) rfl (l6 1 2 3 2 3 6).d) ea_nil fun r rs ⟨m, e, h⟩ e2 => ⟨by rw [e]; rfl, m, by rw [e, e2], h⟩) fun r rs e ⟨m, e2, h⟩ => ⟨by rw [e]; rfl, m, by rw [e, e2], h⟩)
        fun rs ⟨m, e, h1, h2⟩ => ⟨m, e, h1, h2, fun ps hl hp => ⟨ps, rfl, by omega, by omega, hp⟩⟩)
        (fun ds ⟨ps, e, h⟩ => ⟨ps, by cases e; rfl, h⟩) fun r ⟨ps, e, _⟩ => ⟨_, e⟩) fun r ⟨ps, e, h⟩ => ⟨_, e, ps, rfl, h⟩)
      (fun ds j Γ => ∃ (bs : List (Rat × Nat)) (a b c d : SV), Γ = [.raw (.ref SA), .d (dI i), .d (dI n), .d (.str Kd.draw.str), .d (dI (n - 1 - i)), .mu (bs.map dBr), a, b, c, d] ∧ (bs.map (·.1)).map dN = ds.take j ∧ bs.length = j ∧ (∀ b ∈ bs, b.2 < n) ∧ (0 < j → ∃ b, bs[0]? = some b ∧ i < b.2))
      (fun ds _ => ⟨[], _, _, _, _, rfl, rfl, rfl, by simp, fun z => absurd z (Nat.lt_irrefl _)⟩) (fun ds hd j x Γ1 hx iv => ?_) (fun ds Γ1 hd iv => ?_))
    · obtain ⟨ps, rfl, hp1, hp2, hp3⟩ := hd
      obtain ⟨bs, a, b, c, d, rfl, hbs, hbl, hbt, hb0⟩ := iv
      obtain ⟨q, hq, rfl⟩ := get_map hx
      have hj : j < (shr ps).length := (List.getElem?_eq_some_iff.mp hq).1
      have hshl : (shr ps).length = ps.length := by unfold shr; rw [List.length_map]
      refine ⟨_, _, tg_name, ?_⟩
      refine sg_seq (sg_asgP (fwd rfl rfl rfl) fun r ⟨t, e, h1, h2⟩ => ⟨_, e, ?_⟩)
      refine sg_seqI (fun Γ => ∃ t : Nat, Γ = [.raw (.ref SA), .d (dI i), .d (dI n), .d (.str Kd.draw.str), .d (dI (n - 1 - i)), .mu (bs.map dBr), .d (dN q), .d (dI t), c, d] ∧ t < n ∧ (bs = [] → i < t))
        (sg_if (Pb := fun b => b = true → 0 < bs.length) (et_andP (Pa := fun b => b = decide ((0 : Int) < ((bs.map dBr).length : Nat))) (Pb := fun _ => True) (et_test (ev_gt (ev_lenM (m := 5) rfl) ev_ci)) (fun _ => et_testP (P := fun r => ∃ b, r = .d (.bool b)) (ev_eqZP (ev_draw (i := 0) (m := 2) rfl ev_ci (by decide) (by decide)) ev_ci fun r ⟨v, e, hv⟩ => ⟨v, e, _, rfl⟩) fun r ⟨b, e⟩ => ⟨b, e, trivial⟩) fun a b ha _ hf e => ?_) (fun hb => ?_) (fun hb => ?_)) fun Γ hΓ => ?_
      · cases a with
        | true =>
          have := of_decide_eq_true ha.symm
          rw [List.length_map] at this
          omega
        | false => rw [hf rfl] at e; cases e
      · refine sg_asgP (ev_draw (i := 0) (m := n) rfl (ev_vi (n := n)) (by omega) (by omega)) fun r ⟨v, e, hv⟩ => ⟨_, e, v, rfl, hv, fun z => ?_⟩
        have := hb rfl
        rw [z] at this
        exact absurd this (Nat.lt_irrefl _)
      · exact sg_next ⟨t, rfl, h2, fun _ => h1⟩
      · obtain ⟨t, rfl, ht, ht0⟩ := hΓ
        refine sg_append rfl (x := dBr (q, t)) (ev_tup (xs := [dN q, dI t]) (ea_cons ev_var (ea_cons ev_var ea_nil))) (by rw [List.length_map]; omega) ⟨bs ++ [(q, t)], _, _, _, _, by rw [List.map_append]; rfl, ?_, by rw [List.length_append, hbl]; rfl, fun b hb => ?_, fun _ => ?_⟩
        · rw [List.map_append, List.map_append, hbs, List.take_add_one, hx]; rfl
        · rcases List.mem_append.mp hb with z | z
          · exact hbt b z
          · rw [List.mem_singleton.mp z]; exact ht
        · cases bs with
          | nil => exact ⟨(q, t), rfl, ht0 rfl⟩
          | cons b0 l =>
            obtain ⟨b1, e1, h1⟩ := hb0 (by rw [← hbl]; simp)
            exact ⟨b1, by rw [List.cons_append]; exact e1, h1⟩
    · obtain ⟨ps, rfl, hp1, hp2, hp3⟩ := hd
      obtain ⟨bs, a, b, c, d, rfl, hbs, hbl, hbt, hb0⟩ := iv
      rw [List.take_length] at hbs
      have hshl : (shr ps).length = ps.length := by unfold shr; rw [List.length_map]
      refine sg_fix (m := 5) rfl (sg_retD (ev_tup (xs := [_, _]) (ea_cons (ev_cs (z := Kd.draw.str)) (ea_cons ev_var ea_nil))) (hP (.draw bs) ⟨⟨ps, hp1, hp2, hp3, map_dN hbs⟩, hbt, hb0 ?_⟩))
      rw [List.length_map, hshl]; omega
theorem sc_law_ending_game : FnScope ["_law_stream", "_law_most", "_law_many", "_law_place_here"] ["_law_stream", "_law_most"] (defScope (top 63)) := ⟨rfl, rfl, rfl, by decide +kernel, rfl, by decide +kernel, by decide +kernel⟩
theorem d_law_ending_game (T : Txt K mg) (S : Stands K mg "_law_ending_game" 63 ["_law_stream", "_law_most"]) (D_law_draw : DefOk P w K mg base "_law_draw" ["_law_stream", "_law_many"] 1 (spS K A_law_draw)) (D_law_ending_place : DefOk P w K mg base "_law_ending_place" ["_law_stream", "_law_place_here", "_law_many"] 35 (spS K A_law_ending_place)) : DefOk P w K mg base "_law_ending_game" ["_law_stream", "_law_most"] 36 (spS K A_law_ending_game) := by
  refine def_str S sc_law_ending_game (fun SA ss P h => len_law_ending_game h) (by decide) fun f cdv B outer s H E hr hcd => ?_
  have nd := sc_law_ending_game.nd
  refine ⟨_, (pss_cons (ps_set (i := 2) nd rfl (.inr rfl) (pe_op op_add pe_int (pe_def D_law_draw (hr.mono (by decide)) (by rfl) (pa_cons (pv 0) (pa_cons (pv 1) pa_nil)))))
    (pss_cons (ps_if (pt_cmpR (op_eqD hr.units) (pe_def D_law_draw (hr.mono (by decide)) (by rfl) (pa_cons (pv 0) (pa_cons pe_int pa_nil))) pe_int (nomark _)) (pss_one (ps_set (i := 2) nd rfl (.inr rfl) (pe_op op_add (pv 1) pe_int))) pss_nil)
    (pss_one (ps_ret (pe_lc (own := [("_law_place_here", 3)]) rfl nd (pi_range1 (by rfl) T.range (pa_cons (pv 2) pa_nil)) (blkOk_by (N := ["_law_stream", "_law_most", "_law_many", "_law_place_here"]) (sc := defScope (top 63)) (by decide +kernel)) (fun _ _ _ _ _ => (pg_name (i := 3) nd rfl (.inl rfl) (.inr (by rfl)))) (fun _ _ _ _ _ => pts_nil) (fun _ _ _ _ _ => (pe_def D_law_ending_place (hr.mono (by decide)) (by rfl) (pa_cons (pv 0) (pa_cons (pv 3) (pa_cons (pv 2) pa_nil)))))))))), fun SA L cs ss P E h => ?_⟩
  obtain ⟨rfl, hP⟩ := h
  refine sg_seq (sg_asgP (ev_addP (P := fun r => ∃ n : Nat, r = .d (dI n) ∧ 1 ≤ n ∧ n ≤ 7) ev_ci (ev_draw (i := 0) (m := 7) rfl ev_var (by decide) (by decide)) fun r ⟨v, e, hv⟩ => ⟨v, e, 1 + v, by unfold dI; rw [Int.natCast_add]; rfl, by omega, by omega⟩) fun r ⟨n, e, h1, h2⟩ => ⟨_, e, ?_⟩)
  refine sg_seqI (fun Γ => ∃ n : Nat, Γ = [.raw (.ref SA), .d (.int 7), .d (dI n), .no] ∧ 1 ≤ n ∧ n ≤ 11) (sg_if (Pb := fun _ => True) (et_testP (P := fun r => ∃ b, r = .d (.bool b)) (ev_eqZP (ev_draw (i := 0) (m := 16) rfl ev_ci (by decide) (by decide)) ev_ci fun r ⟨v, e, hv⟩ => ⟨v, e, _, rfl⟩) fun r ⟨b, e⟩ => ⟨b, e, trivial⟩) (fun _ => sg_asg (ev_add ev_var ev_ci) ⟨11, rfl, by decide, by decide⟩) (fun _ => sg_next ⟨n, rfl, h1, by omega⟩)) fun Γ hΓ => ?_
  obtain ⟨n, rfl, h1, h2⟩ := hΓ
  refine sg_ret (ev_lcP (P := fun r => ∃ g, GmOk g ∧ r = .mu (g.map dP)) (Pd := fun ds => ds = intsD 0 n) (it_rng1 (n := n) ev_var (by omega)) (fun ds e => by rw [e, ints_len]; omega) (fun xs acc => ∃ ps : List Pl, acc = ps.map dP ∧ ps.length = xs.length ∧ ∀ i p, ps[i]? = some p → PlOk n i p) (fun _ _ => ⟨[], rfl, rfl, by simp⟩) (fun ds e i x hx => ?_) fun ds acc e ⟨ps, a1, a2, a3⟩ _ => ?_) fun r ⟨g, hg, e⟩ => e ▸ hP g hg
  · subst e
    obtain ⟨hi, rfl⟩ := ints_get0 hx
    refine ⟨_, _, tg_name, by simp, true, et_yes, fun _ => (ev_callX (A := A_law_ending_place) (P := fun r => ∃ p, PlOk n i p ∧ r = .d (dP p)) (ea_consR (ev_raw (i := 0) rfl) (ea_cons (ev_vi (n := i)) (ea_cons (ev_vi (n := n)) ea_nil))) ⟨i, n, rfl, hi, h2, fun p hp => ⟨p, hp, rfl⟩⟩).imp fun r ⟨p, hp, e⟩ => ⟨dP p, e, fun acc ⟨ps, a1, a2, a3⟩ => ⟨ps ++ [p], by rw [a1, List.map_append]; rfl, ?_, fun j q hq => ?_⟩⟩, fun z => nomatch z⟩
    · rw [List.length_append, a2, List.length_take, List.length_take, ints_len, Nat.min_eq_left (by omega), Nat.min_eq_left (by omega)]; rfl
    · rw [List.length_take, ints_len, Nat.min_eq_left (by omega)] at a2
      by_cases c : j < ps.length
      · rw [List.getElem?_append_left c] at hq
        exact a3 j q hq
      · rw [List.getElem?_append_right (by omega)] at hq
        have : j - ps.length = 0 := by
          have := (List.getElem?_eq_some_iff.mp hq).1
          simp at this
          omega
        rw [this] at hq
        cases hq
        have e2 : j = i := by omega
        rw [e2]; exact hp
  · rw [e, ints_len] at a2
    refine ⟨ps, ⟨by omega, by omega, ?_⟩, by rw [a1]⟩
    rw [a2]; exact a3
theorem sc_law_strategy : FnScope ["_law_stream", "_law_game_here", "_law_side", "_law_found", "_law_place_here", "_law_branch"] ["_law_stream", "_law_game_here", "_law_side"] (defScope (top 65)) := ⟨rfl, rfl, rfl, by decide +kernel, rfl, by decide +kernel, by decide +kernel⟩
theorem d_law_strategy (T : Txt K mg) (S : Stands K mg "_law_strategy" 65 ["_law_stream", "_law_game_here", "_law_side"]) (D_law_draw : DefOk P w K mg base "_law_draw" ["_law_stream", "_law_many"] 1 (spS K A_law_draw)) : DefOk P w K mg base "_law_strategy" ["_law_stream", "_law_game_here", "_law_side"] 2 (spS K A_law_strategy) := by
  refine def_str S sc_law_strategy (fun SA ss P h => len_law_strategy h) (by decide) fun f cdv B outer s H E hr hcd => ?_
  have nd := sc_law_strategy.nd
  refine ⟨_, (pss_cons (ps_set (i := 3) nd rfl (.inl rfl) (pe_lst pa_nil))
    (pss_cons (ps_for PassesOwn.never rfl (pi_list (pv 1)) (pg_name (i := 4) nd rfl (.inl rfl)) (pss_cons (ps_set (i := 5) nd rfl (.inl rfl) pe_non)
    (pss_cons (ps_if (pt_cmpR (op_eqD hr.units) (pe_ix ix_tup (pv 4) pe_int (fun _ _ => rfl)) (pv 2) (nomark _)) (pss_one (ps_set (i := 5) nd rfl (.inl rfl) (pe_def D_law_draw (hr.mono (by decide)) (by rfl) (pa_cons (pv 0) (pa_cons (pe_callB call_len_seq (by rfl) T.len (by decide +kernel) (pa_cons (pe_ix ix_tup (pv 4) pe_int (fun _ _ => rfl)) pa_nil)) pa_nil))))) pss_nil)
    (pss_one (ps_expr (pe_bm PySem.F.plainAttrs_list PySem.F.slot_list_append PySem.F.type_list_append mt_append (pv 3) (pa_cons (pv 5) pa_nil)))))))
    (pss_one (ps_ret (pv 3))))), fun SA L cs ss P E h => ?_⟩
  obtain ⟨g, k, rfl, hk, hg, ht, hP⟩ := h
  refine sg_seq (sg_asgM (ev_lst (xs := []) ea_nil) ?_)
  refine sg_seq (sg_for (ds := g.map dP) (it_list ev_var) (fun i Γ => ∃ (ss : List (Option Nat)) (a b : SV), Γ = [.raw (.ref SA), .d (dG g), .d (.str k.str), .mu (ss.map dO), a, b] ∧ ss.length = i ∧ ∀ (j : Nat) (p : Pl) (o : Option Nat), g[j]? = some p → ss[j]? = some o → (p.kd = k → ∃ b, o = some b ∧ b < p.tgts.length) ∧ (p.kd ≠ k → o = none))
    ⟨[], _, _, rfl, rfl, by simp⟩ (fun i x Γ1 hx iv => ?_) (fun Γ1 iv => ?_))
  · obtain ⟨ss, a, b, rfl, hl, hs⟩ := iv
    obtain ⟨p, hp, rfl⟩ := get_map hx
    have hpm := List.mem_of_getElem? hp
    have hi : i < g.length := (List.getElem?_eq_some_iff.mp hp).1
    refine ⟨_, _, tg_name, ?_⟩
    refine sg_seq (sg_asg ev_cn ?_)
    refine sg_seqI (fun Γ => ∃ o : Option Nat, Γ = [.raw (.ref SA), .d (dG g), .d (.str k.str), .mu (ss.map dO), .d (dP p), .d (dO o)] ∧ (p.kd = k → ∃ b, o = some b ∧ b < p.tgts.length) ∧ (p.kd ≠ k → o = none)) (sg_if (ev_kpv (b := k) (p := p) ev_var ev_var) (fun c => ?_) (fun c => ?_)) fun Γ hΓ => ?_
    · have c' : p.kd = k := of_decide_eq_true c.symm
      obtain ⟨t1, t2⟩ := ht p hpm c'
      refine sg_asgP (ev_draw (i := 0) (m := p.tgts.length) rfl (EvP.is (ev_lenL (ev_p1s (p := p) ev_var (c' ▸ hk))) (by rw [List.length_map])) t1 t2) fun r ⟨v, e, hv⟩ => ⟨_, e, some v, rfl, fun _ => ⟨v, rfl, hv⟩, fun z => absurd c' z⟩
    · have c' : ¬ p.kd = k := of_decide_eq_false c.symm
      exact sg_next ⟨none, rfl, fun z => absurd z c', fun _ => rfl⟩
    · obtain ⟨o, rfl, h1, h2⟩ := hΓ
      refine sg_append rfl (x := dO o) ev_var (by rw [List.length_map]; omega) ⟨ss ++ [o], _, _, by rw [List.map_append]; rfl, by rw [List.length_append, hl]; rfl, fun j q r hq hr => ?_⟩
      by_cases c : j < ss.length
      · rw [List.getElem?_append_left c] at hr
        exact hs j q r hq hr
      · rw [List.getElem?_append_right (by omega)] at hr
        have h0 : j - ss.length = 0 := by
          have := (List.getElem?_eq_some_iff.mp hr).1
          simp at this
          omega
        rw [h0] at hr
        cases hr
        have e2 : j = i := by omega
        subst e2
        rw [hp] at hq
        cases hq
        exact ⟨h1, h2⟩
  · obtain ⟨ss, a, b, rfl, hl, hs⟩ := iv
    rw [List.length_map] at hl
    exact sg_retM (m := 3) rfl (hP ss ⟨hl, hs⟩)
end
end Odd
set_option Elab.async false
set_option linter.all false
set_option maxRecDepth 100000
set_option maxHeartbeats 8000000
set_option exponentiation.threshold 1000000
/-! the drawn games go on one weight -/
namespace Odd
def pw (i : Nat) : Rat := ((19 ^ i : Nat) : Rat)
def wt (i : Nat) : Rat := pw 12 - pw i
theorem pw_succ (i : Nat) : pw (i + 1) = 19 * pw i := by
  unfold pw
  rw [Nat.pow_succ, Rat.natCast_mul]
  have : ((19 : Nat) : Rat) = 19 := rfl
  rw [this]; grind
theorem pw_mono {i j : Nat} (h : i ≤ j) : pw i ≤ pw j := Rat.natCast_le_natCast.mpr (Nat.pow_le_pow_right (by omega) h)
theorem pw_pos (i : Nat) : 0 < pw i := Rat.natCast_pos.mpr (Nat.pow_pos (by omega))
theorem wt_pos {i : Nat} (h : i < 12) : 0 < wt i := by
  have h1 := pw_mono (show i + 1 ≤ 12 by omega)
  have h2 := pw_succ i
  have h3 := pw_pos i
  unfold wt
  grind
theorem wt_le (i : Nat) : wt i ≤ pw 12 := by
  have := pw_pos i
  unfold wt
  grind
structure PC (n i : Nat) (q : Pl) : Prop where
  kd : q.kd ≠ .ours ∧ q.kd ≠ .theirs
  tg : ∀ t ∈ q.tgts, t < n
  len : q.tgts.length ≤ 1000
  fw : q.isEnd = false → ∃ t, t ∈ q.tgts ∧ i < t
  pos : ∀ b ∈ q.brs, 0 ≤ b.1
  w1 : bsum q.brs wt < wt i
  rs : ∃ D : Nat, 0 < D ∧ D < 32 ∧ (∀ b ∈ q.brs, ∃ k : Nat, b.1 = (k : Rat) / (D : Rat)) ∧ bsum q.brs (fun _ => 1) ≤ 1 ∧ ∃ N : Nat, N < 32 ∧ q.gain = (N : Rat) / (D : Rat)
theorem wt_fwd {i t : Nat} (h : i < t) : wt t < wt i := by
  have h1 := pw_mono (show i + 1 ≤ t by omega)
  have h2 := pw_succ i
  have h3 := pw_pos i
  unfold wt
  grind
theorem one_sum (t : Nat) (x : Nat → Rat) : bsum [(1, t)] x = x t := by
  show 1 * x t + 0 = x t
  grind
theorem zero_div (D : Nat) : (0 : Rat) = ((0 : Nat) : Rat) / (D : Rat) := by
  have : ((0 : Nat) : Rat) = 0 := rfl
  rw [this, Rat.div_def]; grind
theorem pc_one {n i t : Nat} (h : i < t) (hn : t < n) : PC n i (.draw [(1, t)]) where
  kd := ⟨fun z => (nomatch z), fun z => (nomatch z)⟩
  tg := fun u hu => by
    have : u = t := by simpa [Pl.tgts] using hu
    omega
  len := by simp [Pl.tgts]
  fw := fun _ => ⟨t, by simp [Pl.tgts], h⟩
  pos := fun b hb => by
    have : b = (1, t) := by simpa [Pl.brs] using hb
    rw [this]; show (0 : Rat) ≤ 1; grind
  w1 := by
    show bsum [(1, t)] wt < wt i
    rw [one_sum]; exact wt_fwd h
  rs := ⟨1, by omega, by omega, fun b hb => ⟨1, by
    have : b = (1, t) := by simpa [Pl.brs] using hb
    rw [this]; show (1 : Rat) = ((1 : Nat) : Rat) / ((1 : Nat) : Rat); grind⟩, by
    show bsum [(1, t)] (fun _ => 1) ≤ 1
    rw [one_sum]; exact Rat.le_refl, 0, by omega, zero_div 1⟩
theorem pc_end {n i : Nat} {q : Pl} (h : q.isEnd = true) (hi : i < 12) : PC n i q where
  kd := by
    cases q with
    | finish => exact ⟨fun z => (nomatch z), fun z => (nomatch z)⟩
    | lose => exact ⟨fun z => (nomatch z), fun z => (nomatch z)⟩
    | draw _ => cases h
    | ours _ => cases h
    | theirs _ => cases h
    | reward _ _ => cases h
  tg := fun t ht => by rw [(end_none h).1] at ht; cases ht
  len := by rw [(end_none h).1]; simp
  fw := fun z => by rw [h] at z; cases z
  pos := fun b hb => by rw [(end_none h).2.1] at hb; cases hb
  w1 := by rw [(end_none h).2.1]; exact wt_pos hi
  rs := ⟨1, by omega, by omega, (fun b hb => by rw [(end_none h).2.1] at hb; cases hb), by rw [(end_none h).2.1]; show (0 : Rat) ≤ 1; grind, 0, by omega, by rw [(end_none h).2.2]; exact zero_div 1⟩
theorem pc_reward {n i t : Nat} {x y : Nat} (h : i < t) (hn : t < n) (hx : x ≤ 5) (hy : 1 ≤ y) (hy3 : y ≤ 3) : PC n i (.reward ((x : Rat) / (y : Rat)) t) where
  kd := ⟨fun z => (nomatch z), fun z => (nomatch z)⟩
  tg := fun u hu => by
    have : u = t := by simpa [Pl.tgts] using hu
    omega
  len := by simp [Pl.tgts]
  fw := fun _ => ⟨t, by simp [Pl.tgts], h⟩
  pos := fun b hb => by
    have : b = (1, t) := by simpa [Pl.brs] using hb
    rw [this]; show (0 : Rat) ≤ 1; grind
  w1 := by
    show bsum [(1, t)] wt < wt i
    rw [one_sum]; exact wt_fwd h
  rs := ⟨y, by omega, by omega, fun b hb => ⟨y, by
    have : b = (1, t) := by simpa [Pl.brs] using hb
    have hy0 := cast_ne (show 0 < y by omega)
    rw [this]; show (1 : Rat) = (y : Rat) / (y : Rat); grind⟩, by
    show bsum [(1, t)] (fun _ => 1) ≤ 1
    rw [one_sum]; exact Rat.le_refl, x, by omega, rfl⟩
theorem sum_shr (S : Rat) : ∀ {bs : List (Rat × Nat)} {ps : List Nat}, bs.map (·.1) = ps.map (fun (p : Nat) => (p : Rat) / S) → bsum bs (fun _ => 1) = ((ps.sum : Nat) : Rat) / S
  | [], [], _ => by
    show (0 : Rat) = ((0 : Nat) : Rat) / S
    have : ((0 : Nat) : Rat) = 0 := rfl
    rw [this, Rat.div_def]; grind
  | [], _ :: _, h => by cases h
  | _ :: _, [], h => by cases h
  | b :: bs, p :: ps, h => by
    rw [List.map_cons, List.map_cons] at h
    injection h with h1 h2
    rw [bsum_cons, sum_shr S h2, h1, List.sum_cons, Rat.natCast_add]
    rw [Rat.div_def, Rat.div_def, Rat.div_def]; grind
theorem sum_le3 : ∀ {ps : List Nat}, (∀ p ∈ ps, 1 ≤ p ∧ p ≤ 3) → ps.length ≤ ps.sum ∧ ps.sum ≤ 3 * ps.length
  | [], _ => by simp
  | p :: ps, h => by
    have h1 := h p List.mem_cons_self
    have h2 := sum_le3 (ps := ps) fun q hq => h q (List.mem_cons_of_mem _ hq)
    rw [List.sum_cons, List.length_cons]; omega
theorem pc_draw {n i : Nat} {bs : List (Rat × Nat)} (h : PlOk n i (.draw bs)) : PC n i (.draw bs) ∧ PlB (.draw bs) := by
  obtain ⟨⟨ps, hp1, hp2, hp3, hmap⟩, ht, b0, hb0, hf⟩ := h
  obtain ⟨s1, s2⟩ := sum_le3 hp3
  have hS : 0 < ps.sum := by omega
  have hS0 := cast_ne hS
  have hSp : (0 : Rat) < ((ps.sum : Nat) : Rat) := Rat.natCast_pos.mpr hS
  have hlen : bs.length = ps.length := by
    have := congrArg List.length hmap
    unfold shr at this
    simpa using this
  have hsum : bsum bs (fun _ => 1) = 1 := by
    rw [sum_shr _ hmap]; grind
  have hb : ∀ b ∈ bs, ∃ k : Nat, 1 ≤ k ∧ b.1 = (k : Rat) / ((ps.sum : Nat) : Rat) := fun b hb => by
    have : b.1 ∈ shr ps := by rw [← hmap]; exact List.mem_map.mpr ⟨b, hb, rfl⟩
    obtain ⟨p, hp, e⟩ := List.mem_map.mp this
    exact ⟨p, (hp3 p hp).1, e.symm⟩
  have hpos : ∀ b ∈ bs, 0 ≤ b.1 := fun b hb' => by
    obtain ⟨k, _, e⟩ := hb b hb'
    rw [e, Rat.div_def]
    exact Rat.mul_nonneg Rat.natCast_nonneg (Rat.le_of_lt (Rat.inv_pos.mpr hSp))
  have hk : ∀ b ∈ bs, ∃ k : Nat, b.1 = (k : Rat) / ((ps.sum : Nat) : Rat) := fun b hb' => by
    obtain ⟨k, _, e⟩ := hb b hb'
    exact ⟨k, e⟩
  have hbm := List.mem_of_getElem? hb0
  refine ⟨⟨⟨fun z => (nomatch z), fun z => (nomatch z)⟩, fun t htt => ?_, ?_, fun _ => ⟨b0.2, List.mem_map.mpr ⟨b0, hbm, rfl⟩, hf⟩, hpos, ?_, ps.sum, hS, by omega, hk, by show bsum bs _ ≤ 1; rw [hsum]; exact Rat.le_refl, 0, by omega, zero_div _⟩, by omega, fun b hb' => ch_bt hS (by omega) hk (by rw [hsum]; exact Rat.le_refl) hb'⟩
  · obtain ⟨b, hb', e⟩ := List.mem_map.mp htt
    rw [← e]; exact ht b hb'
  · show (bs.map (·.2)).length ≤ 1000
    rw [List.length_map]; omega
  · show bsum bs wt < wt i
    cases bs with
    | nil => cases hb0
    | cons b rest =>
      cases hb0
      obtain ⟨k, hk1, ek⟩ := hb b0 List.mem_cons_self
      rw [bsum_cons] at hsum ⊢
      have h1 : bsum rest wt ≤ bsum rest fun _ => pw 12 * 1 := bsum_le (fun c hc => hpos c (List.mem_cons_of_mem _ hc)) fun c _ => by
        have := wt_le c.2
        grind
      rw [bsum_mul rest (pw 12) fun _ => 1] at h1
      have h2 : wt b0.2 ≤ pw 12 - 19 * pw i := by
        have := pw_mono (show i + 1 ≤ b0.2 by omega)
        have := pw_succ i
        unfold wt
        grind
      have h3 : b0.1 * wt b0.2 ≤ b0.1 * (pw 12 - 19 * pw i) := Rat.mul_le_mul_of_nonneg_left h2 (hpos b0 List.mem_cons_self)
      have h4 : (1 : Rat) / 18 ≤ b0.1 := by
        rw [ek]
        have e1 : (1 : Rat) / 18 * ((ps.sum : Nat) : Rat) ≤ (k : Rat) := by
          have a1 : ((ps.sum : Nat) : Rat) ≤ ((18 : Nat) : Rat) := Rat.natCast_le_natCast.mpr (by omega)
          have a2 : ((1 : Nat) : Rat) ≤ (k : Rat) := Rat.natCast_le_natCast.mpr hk1
          have a3 : ((18 : Nat) : Rat) = 18 := rfl
          have a4 : ((1 : Nat) : Rat) = 1 := rfl
          rw [a3] at a1
          rw [a4] at a2
          grind
        have e2 := Rat.mul_le_mul_of_nonneg_right e1 (Rat.le_of_lt (Rat.inv_pos.mpr hSp))
        have e3 : (1 : Rat) / 18 * ((ps.sum : Nat) : Rat) * (((ps.sum : Nat) : Rat))⁻¹ = 1 / 18 := by grind
        rw [e3] at e2
        rw [Rat.div_def (k : Rat)]
        exact e2
      have h5 := pw_pos i
      have h6 : (1 : Rat) / 18 * pw i ≤ b0.1 * pw i := Rat.mul_le_mul_of_nonneg_right h4 (Rat.le_of_lt h5)
      have h7 : bsum rest (fun _ => 1) = 1 - b0.1 := by grind
      rw [h7] at h1
      show _ < pw 12 - pw i
      grind
theorem gm_wg {g : List Pl} (G : GmOk g) : WG g wt ∧ ∀ i, i < g.length → PlB (gat g i) := by
  have at_ : ∀ i, i < g.length → PlOk g.length i (gat g i) := fun i hi => G.at_ i _ (gat_get hi)
  have hm := G.most
  have out : ∀ i, ¬ i < g.length → gat g i = .lose := fun i hi => by
    unfold gat
    rw [List.getD_eq_getElem?_getD, List.getElem?_eq_none (by omega)]; rfl
  have tl : ∀ i, i < g.length → (∀ t ∈ (gat g i).tgts, t < g.length) ∧ (gat g i).tgts.length ≤ 1000 ∧ ((gat g i).isEnd = false → ∃ t, t ∈ (gat g i).tgts ∧ i < t) ∧ (((gat g i).kd = .ours ∨ (gat g i).kd = .theirs) → (∀ t ∈ (gat g i).tgts, i < t) ∧ (gat g i).tgts ≠ []) := fun i hi => by
    have h := at_ i hi
    cases q : gat g i with
    | draw bs =>
      rw [q] at h
      obtain ⟨P, _⟩ := pc_draw h
      exact ⟨P.tg, P.len, P.fw, fun z => by rcases z with z | z <;> cases z⟩
    | ours ts =>
      rw [q] at h
      obtain ⟨h1, h2, h3⟩ := h
      refine ⟨fun t ht => (h3 t ht).2, Nat.le_trans h2 (by omega), fun _ => ?_, fun _ => ⟨fun t ht => (h3 t ht).1, h1⟩⟩
      cases ts with
      | nil => exact absurd rfl h1
      | cons t l => exact ⟨t, List.mem_cons_self, (h3 t List.mem_cons_self).1⟩
    | theirs ts =>
      rw [q] at h
      obtain ⟨h1, h2, h3⟩ := h
      refine ⟨fun t ht => (h3 t ht).2, Nat.le_trans h2 (by omega), fun _ => ?_, fun _ => ⟨fun t ht => (h3 t ht).1, h1⟩⟩
      cases ts with
      | nil => exact absurd rfl h1
      | cons t l => exact ⟨t, List.mem_cons_self, (h3 t List.mem_cons_self).1⟩
    | reward a t =>
      rw [q] at h
      obtain ⟨h1, h2, _⟩ := h
      exact ⟨fun u hu => by
        have : u = t := by simpa [Pl.tgts] using hu
        omega, by simp [Pl.tgts], fun _ => ⟨t, by simp [Pl.tgts], h1⟩, fun z => by rcases z with z | z <;> cases z⟩
    | finish => exact ⟨fun t ht => (nomatch ht), by simp [Pl.tgts], fun z => (nomatch z), fun z => by rcases z with z | z <;> cases z⟩
    | lose => exact ⟨fun t ht => (nomatch ht), by simp [Pl.tgts], fun z => (nomatch z), fun z => by rcases z with z | z <;> cases z⟩
  have ok : GOk g := ⟨fun i hi => (tl i hi).1, fun i => by
    by_cases c : i < g.length
    · exact (tl i c).2.1
    · rw [out i c]; simp [Pl.tgts], by omega⟩
  refine ⟨⟨⟨ok, fun i hi => (tl i hi).2.2.1, fun i hi h => ((tl i hi).2.2.2 h).1⟩, hm, fun i hi h => ((tl i hi).2.2.2 h).2, fun σ τ hs ht => ?_⟩, fun i hi => ?_⟩
  · have hl := chn_len hs.len ht.len
    have pc : ∀ i, i < g.length → PC g.length i (gat (chn g σ τ) i) := fun i hi => by
      rw [chn_gat hs.len ht.len hi]
      have h := at_ i hi
      have h1 := hs.at hi
      have h2 := ht.at hi
      have t1 := (tl i hi).1
      have t2 := (tl i hi).2.2.2
      cases q : gat g i with
      | draw bs => rw [q] at h; exact (pc_draw h).1
      | ours ts =>
        rw [q] at h1 t1 t2
        have hb : so σ i < ts.length := (h1.1 rfl).2
        have hmem : ts.getD (so σ i) 0 ∈ ts := by rw [getD_some (List.getElem?_eq_getElem hb)]; exact List.getElem_mem hb
        exact pc_one ((t2 (.inl rfl)).1 _ hmem) (t1 _ hmem)
      | theirs ts =>
        rw [q] at h2 t1 t2
        have hb : so τ i < ts.length := (h2.1 rfl).2
        have hmem : ts.getD (so τ i) 0 ∈ ts := by rw [getD_some (List.getElem?_eq_getElem hb)]; exact List.getElem_mem hb
        exact pc_one ((t2 (.inr rfl)).1 _ hmem) (t1 _ hmem)
      | reward a t =>
        rw [q] at h
        obtain ⟨a1, a2, x, y, b1, b2, b3, rfl⟩ := h
        exact pc_reward a1 a2 b1 b2 b3
      | finish => exact pc_end rfl (by omega)
      | lose => exact pc_end rfl (by omega)
    have outc : ∀ i, ¬ i < (chn g σ τ).length → gat (chn g σ τ) i = .lose := fun i hi => by
      unfold gat
      rw [List.getD_eq_getElem?_getD, List.getElem?_eq_none (by omega)]; rfl
    rw [← hl] at pc
    refine ⟨⟨fun i hi => (pc i hi).tg, fun i => ?_, by omega⟩, by omega, fun i hi => (pc i hi).kd, fun i hi => (pc i hi).fw, ⟨fun i hi b hb => ?_, fun i hi => (pc i hi).pos, fun i hi => wt_pos (by omega), fun i hi => (pc i hi).w1⟩, ⟨fun i hi => (pc i hi).rs⟩⟩
    · by_cases c : i < (chn g σ τ).length
      · exact (pc i c).len
      · rw [outc i c]; simp [Pl.tgts]
    · refine (pc i hi).tg _ ?_
      rw [← brs_tgts (pc i hi).kd]
      exact List.mem_map.mpr ⟨b, hb, rfl⟩
  · have h := at_ i hi
    cases q : gat g i with
    | draw bs => rw [q] at h; exact (pc_draw h).2
    | reward a t =>
      rw [q] at h
      obtain ⟨a1, a2, x, y, b1, b2, b3, rfl⟩ := h
      exact ⟨y, (x : Int), by omega, by omega, by omega, by rw [Rat.intCast_natCast]⟩
    | ours ts => trivial
    | theirs ts => trivial
    | finish => trivial
    | lose => trivial
end Odd
set_option Elab.async false
set_option linter.all false
set_option maxRecDepth 100000
set_option maxHeartbeats 8000000
set_option exponentiation.threshold 1000000
/-! the drawn games may be shown -/
namespace Odd
open PySem L2
structure Rep (w k : Nat) (d : PyData) : Prop where
  lay : d.canLay0 = true
  dep : d.depth ≤ k
  wt : d.weight ≤ w
  sh : PyData.intsShort 13 d = true
  so : d.showable = true
theorem Rep.mono {w k w' k' : Nat} {d : PyData} (h : Rep w k d) (h1 : w ≤ w') (h2 : k ≤ k') : Rep w' k' d := ⟨h.lay, Nat.le_trans h.dep h2, Nat.le_trans h.wt h1, h.sh, h.so⟩
theorem rep_int {i : Int} (h : i.natAbs < 64) : Rep 7 0 (.int i) := by
  have hl : i.natAbs.log2 < 6 := log2_lt (k := 6) h (by omega)
  refine ⟨by simp [PyData.canLay0], by simp [PyData.depth], ?_, ?_, ?_⟩
  · simp only [PyData.weight]
    split <;> omega
  · simp only [PyData.intsShort, decide_eq_true_eq]
    exact PyData.shown_int_le (by omega)
  · simp only [PyData.showable, decide_eq_true_eq]
    omega
theorem rep_kd (k : Kd) : Rep 10 0 (.str k.str) := by
  refine ⟨kd_lay k, by simp [PyData.depth], ?_, by simp [PyData.intsShort], by simp [PyData.showable]⟩
  simp only [PyData.weight]
  cases k <;> decide +kernel
theorem rep_all {w k : Nat} : ∀ {ds : List PyData}, (∀ d ∈ ds, Rep w k d) → PyData.canLayAll0 ds = true ∧ PyData.depthAll ds ≤ k ∧ PyData.weightAll ds ≤ ds.length * (w + 1) ∧ PyData.intsShortAll 13 ds = true ∧ PyData.showableAll ds = true
  | [], _ => by simp [PyData.canLayAll0, PyData.depthAll, PyData.weightAll, PyData.intsShortAll, PyData.showableAll]
  | d :: ds, h => by
    have h1 := h d List.mem_cons_self
    obtain ⟨a1, a2, a3, a4, a5⟩ := rep_all (ds := ds) fun e he => h e (List.mem_cons_of_mem _ he)
    have b1 := h1.dep
    have b2 := h1.wt
    simp only [PyData.canLayAll0, PyData.depthAll, PyData.weightAll, PyData.intsShortAll, PyData.showableAll, h1.lay, h1.sh, h1.so, a1, a4, a5, List.length_cons, Bool.and_self]
    refine ⟨trivial, by omega, ?_, trivial, trivial⟩
    rw [Nat.add_mul]; omega
theorem rep_list {w k n : Nat} {ds : List PyData} (h : ∀ d ∈ ds, Rep w k d) (hn : ds.length ≤ n) : Rep (n * (w + 1)) (k + 1) (.list ds) := by
  obtain ⟨a1, a2, a3, a4, a5⟩ := rep_all h
  have : ds.length * (w + 1) ≤ n * (w + 1) := Nat.mul_le_mul_right _ hn
  exact ⟨by simpa only [PyData.canLay0] using a1, by simp only [PyData.depth]; omega, by simp only [PyData.weight]; omega, by simpa only [PyData.intsShort] using a4, by simpa only [PyData.showable] using a5⟩
theorem rep_tup {w k n : Nat} {ds : List PyData} (h : ∀ d ∈ ds, Rep w k d) (hn : ds.length ≤ n) : Rep (n * (w + 1)) (k + 1) (.tuple ds) := by
  obtain ⟨a1, a2, a3, a4, a5⟩ := rep_all h
  have : ds.length * (w + 1) ≤ n * (w + 1) := Nat.mul_le_mul_right _ hn
  exact ⟨by simpa only [PyData.canLay0] using a1, by simp only [PyData.depth]; omega, by simp only [PyData.weight]; omega, by simpa only [PyData.intsShort] using a4, by simpa only [PyData.showable] using a5⟩
theorem rep_N {q : Rat} (h : Bt 6 q) : Rep 16 1 (dN q) := by
  obtain ⟨D, N, h0, h1, h2, rfl⟩ := h
  obtain ⟨a, b⟩ := frac_le N D h0
  refine rep_tup (w := 7) (n := 2) (fun d hd => ?_) (by simp)
  rcases List.mem_cons.mp hd with z | z
  · rw [z]; exact rep_int (by omega)
  · rw [List.mem_singleton.mp z]; exact rep_int (by omega)
theorem rep_P {n i : Nat} {p : Pl} (h : PlOk n i p) (hb : PlB p) (hn : n ≤ 11) (hi : i < n) : Rep 5000 4 (dP p) := by
  have hI : ∀ t, t < n → Rep 7 0 (dI t) := fun t ht => rep_int (by omega)
  have two : ∀ {k : Nat} {a b : PyData}, Rep 2000 k a → Rep 2000 k b → Rep 5000 (k + 1) (.tuple [a, b]) := fun {k a b} ha hb' => (rep_tup (w := 2000) (n := 2) (fun d hd => by
    rcases List.mem_cons.mp hd with z | z
    · rw [z]; exact ha
    · rw [List.mem_singleton.mp z]; exact hb') (by simp)).mono (by omega) (Nat.le_refl _)
  have one : ∀ k : Kd, Rep 5000 4 (.tuple [.str k.str]) := fun k => (rep_tup (w := 10) (k := 0) (n := 1) (fun d hd => by rw [List.mem_singleton.mp hd]; exact rep_kd k) (by simp)).mono (by omega) (by omega)
  cases p with
  | draw bs =>
    obtain ⟨_, ht, _⟩ := h
    obtain ⟨h6, hc⟩ := hb
    refine two ((rep_kd _).mono (by omega) (by omega)) ((rep_list (w := 34) (k := 2) (n := 6) (fun d hd => ?_) (by rw [List.length_map]; exact h6)).mono (by omega) (by omega))
    obtain ⟨b, hbm, rfl⟩ := List.mem_map.mp hd
    refine (rep_tup (w := 16) (k := 1) (n := 2) (fun d hd => ?_) (by simp)).mono (by omega) (by omega)
    rcases List.mem_cons.mp hd with z | z
    · rw [z]; exact rep_N (hc b hbm)
    · rw [List.mem_singleton.mp z]; exact (hI _ (ht b hbm)).mono (by omega) (by omega)
  | ours ts =>
    obtain ⟨_, h6, ht⟩ := h
    refine two ((rep_kd _).mono (by omega) (by omega)) ((rep_list (w := 7) (k := 2) (n := 6) (fun d hd => ?_) (by rw [List.length_map]; exact h6)).mono (by omega) (by omega))
    obtain ⟨t, htm, rfl⟩ := List.mem_map.mp hd
    exact (hI t (ht t htm).2).mono (by omega) (by omega)
  | theirs ts =>
    obtain ⟨_, h6, ht⟩ := h
    refine two ((rep_kd _).mono (by omega) (by omega)) ((rep_list (w := 7) (k := 2) (n := 6) (fun d hd => ?_) (by rw [List.length_map]; exact h6)).mono (by omega) (by omega))
    obtain ⟨t, htm, rfl⟩ := List.mem_map.mp hd
    exact (hI t (ht t htm).2).mono (by omega) (by omega)
  | reward a t =>
    obtain ⟨_, ht, _⟩ := h
    refine (rep_tup (w := 100) (k := 3) (n := 3) (fun d hd => ?_) (by simp)).mono (by omega) (by omega)
    rcases List.mem_cons.mp hd with z | z
    · rw [z]; exact (rep_kd _).mono (by omega) (by omega)
    rcases List.mem_cons.mp z with z | z
    · rw [z]; exact (rep_N hb).mono (by omega) (by omega)
    · rw [List.mem_singleton.mp z]; exact (hI t ht).mono (by omega) (by omega)
  | finish => exact one .finish
  | lose => exact one .lose
theorem rep_G {g : List Pl} (G : GmOk g) : (dG g).showable = true ∧ (dG g).hasDict = false ∧ (dG g).depth ≤ 64 ∧ (dG g).shown.length ≤ sizeLine := by
  obtain ⟨_, hb⟩ := gm_wg G
  have hm := G.most
  have h : Rep (11 * 5001) 5 (dG g) := rep_list (n := 11) (fun d hd => by
    obtain ⟨p, hp, rfl⟩ := List.mem_map.mp hd
    obtain ⟨i, hi, e⟩ := List.mem_iff_getElem.mp hp
    have hg : g[i]? = some p := by rw [List.getElem?_eq_getElem hi, e]
    have h2 := hb i hi
    rw [gat_some hg] at h2
    exact rep_P (G.at_ i p hg) h2 hm hi) (by rw [List.length_map]; exact hm)
  have hd := h.dep
  have hw := h.wt
  have hlay : PyData.layable0 (dG g) = true := by
    unfold PyData.layable0
    rw [h.lay, Bool.true_and, decide_eq_true (show (dG g).depth ≤ 64 by omega), Bool.true_and, decide_eq_true]
    omega
  exact ⟨h.so, PyData.hasDict_of_canLay _ h.lay, by omega, PyData.shown_fits_of_layable0 (by omega) (by omega) hlay h.sh⟩
end Odd
set_option Elab.async false
set_option linter.all false
set_option maxRecDepth 100000
set_option maxHeartbeats 8000000
/-! rules for the law's own body -/
namespace Odd
open PySem L2
section
variable {X : Fx} {E : En} {Γ : List SV} {te ta tb tc : TE} {P P' Pa Pb : SV → Prop} {tl : TA} {t u : TS} {G : GE}
theorem ev_repr {ds : List PyData} (h : EvD X E te Γ (.list ds)) (h1 : PyData.showable (.list ds) = true) (h2 : PyData.hasDict (.list ds) = false) (h3 : PyData.depth (.list ds) ≤ 64) (h4 : (PyData.shown (.list ds)).length ≤ sizeLine) :
    EvD X E (tCB (rRepr X.K) (tCons te tNil)) Γ (.str (PyData.shown (.list ds))) :=
  ev_cb1 h fun F H v o dv Q q => by
    obtain ⟨a, vs, rfl, s, al⟩ := dp_list dv
    exact ⟨a, ds, rfl, .lst (sql_mono o.up s) (dpa_mono o.up al), h1, h2, h3, h4, q _ _ F H rfl (.refl o) (.str _)⟩
theorem ev_eqS {x y : Str} (ha : EvD X E ta Γ (.str x)) (hb : EvD X E tb Γ (.str y)) : EvD X E (tOp rEq ta tb) Γ (.bool (decide (x = y))) :=
  ev_twoS ha hb fun F H u v e du dv Q q => by
    rw [dp_str du, dp_str dv]
    refine ⟨rfl, ?_⟩
    have : decide (V.str x = V.str y) = decide (x = y) := by
      by_cases h : x = y
      · subst h; simp
      · rw [decide_eq_false h, decide_eq_false fun z => h (by injection z)]
    rw [this]; exact q _ (.bl _)
theorem ev_neS {x y : Str} (ha : EvD X E ta Γ (.str x)) (hb : EvD X E tb Γ (.str y)) : EvD X E (tOp rNe ta tb) Γ (.bool (!decide (x = y))) :=
  ev_twoS ha hb fun F H u v e du dv Q q => by
    rw [dp_str du, dp_str dv]
    refine ⟨rfl, ?_⟩
    have : decide (V.str x = V.str y) = decide (x = y) := by
      by_cases h : x = y
      · subst h; simp
      · rw [decide_eq_false h, decide_eq_false fun z => h (by injection z)]
    rw [this]; exact q _ (.bl _)
/-- a value that stood when this part began -/
theorem ev_old {i : Nat} {w : V} {x : PyData} (hd : Dp X.K E.F0 w x) (h : Γ[i]? = some (.raw w) := by rfl) : EvD X E (tVar i) Γ x := fun F H σ s Q q =>
  ⟨w, s.slot i _ h, q _ w F H rfl (.refl s.ok) (dp_mono s.base.up hd)⟩
theorem ea_consD {x : PyData} {Pl : List SV → Prop} (ha : EvD X E ta Γ x) (hl : EvA X E tl Γ Pl) : EvA X E (tCons ta tl) Γ fun rs => ∃ rs', Pl rs' ∧ rs = .d x :: rs' :=
  ea_consP (Pa := fun r => r = .d x) ha hl fun r rs e p => ⟨by rw [e]; rfl, rs, p, by rw [e]⟩
/-- a, b, c = three new lists -/
theorem sg_par3M {i j l : Nat} {a b c : List PyData} (hij : i ≠ j) (hil : i ≠ l) (hjl : j ≠ l) (h1 : EvM X E ta Γ a) (h2 : EvM X E tb Γ b) (h3 : EvM X E tc Γ c) (k : G.nx (((Γ.set i (.mu a)).set j (.mu b)).set l (.mu c))) :
    SG X E (tPar3 i j l (tCons ta (tCons tb (tCons tc tNil)))) Γ G := fun Fa D sm F H σ e s =>
  h1 F H σ s _ fun r1 v1 F1 H1 e1 s1 ro1 => h2 F1 H1 σ (s.step s1) _ fun r2 v2 F2 H2 e2 s2 ro2 => h3 F2 H2 σ ((s.step s1).step s2) _ fun r3 v3 F3 H3 e3 s3 ro3 => by
    subst e1 e2 e3
    obtain ⟨l1, ws1, rfl, a1, b1, c1, d1⟩ := ro1
    obtain ⟨l2, ws2, rfl, a2, b2, c2, d2⟩ := ro2
    obtain ⟨l3, ws3, rfl, a3, b3, c3, d3⟩ := ro3
    have n1 : ¬ X.S l1 := s.ok.noS a1
    have n2 : ¬ X.S l2 := s1.ok.noS a2
    have n3 : ¬ X.S l3 := s2.ok.noS a3
    have g1 := s2.go _ _ n1 c1
    have f1 := s2.nw _ b1 (by rw [c1]; exact fun z => nomatch z)
    have g1' := s3.go _ _ n1 g1
    have f1' := s3.nw _ f1 (by rw [g1]; exact fun z => nomatch z)
    have g2' := s3.go _ _ n2 c2
    have f2' := s3.nw _ b2 (by rw [c2]; exact fun z => nomatch z)
    have k2 : H l2 = none := s1.fresh a2
    have k3 : H l3 = none := s1.fresh (s2.fresh a3)
    have n12 : l1 ≠ l2 := fun z => by rw [z, a2] at c1; cases c1
    have n13 : l1 ≠ l3 := fun z => by rw [z, a3] at g1; cases g1
    have n23 : l2 ≠ l3 := fun z => by rw [z, a3] at c2; cases c2
    have t3 := ((s.step s1).step s2).step s3
    refine ⟨_, _, _, rfl, ?_⟩
    have t4 := t3.setN (i := i) (sv := .mu a) (H1 := H3) (fun q t eq mq z => s.apart a1 q t eq mq z) ⟨l1, ws1, rfl, f1', s.base.fresh a1, n1, g1', dpa_mono (s2.up.trans s3.up) d1⟩
    have t5 := t4.setN (i := j) (sv := .mu b) (H1 := H3) (fun q t eq mq z => by
      rcases get_set eq with ⟨rfl, hi, rfl⟩ | ⟨nq, eq⟩
      · rw [List.getElem?_set_self (by rw [s.len]; exact hi)] at z
        cases z; exact n12 rfl
      · rw [List.getElem?_set_ne nq] at z
        exact s.apart k2 q t eq mq z) ⟨l2, ws2, rfl, f2', s.base.fresh k2, n2, g2', dpa_mono s3.up d2⟩
    refine sm.nx _ _ F3 H3 k (((e.trans s1.up).trans s2.up).trans s3.up) (t5.setN (i := l) (sv := .mu c) (H1 := H3) (fun q t eq mq z => ?_) ⟨l3, ws3, rfl, b3, s.base.fresh k3, n3, c3, d3⟩)
    rcases get_set eq with ⟨rfl, hi, rfl⟩ | ⟨nq, eq⟩
    · rw [List.getElem?_set_self (by rw [List.length_set, s.len]; simpa using hi)] at z
      cases z; exact n23 rfl
    · rw [List.getElem?_set_ne nq] at z
      rcases get_set eq with ⟨rfl, hi, rfl⟩ | ⟨nq2, eq⟩
      · rw [List.getElem?_set_self (by rw [s.len]; exact hi)] at z
        cases z; exact n13 rfl
      · rw [List.getElem?_set_ne nq2] at z
        exact s.apart k3 q t eq mq z
/-- one statement, then what follows, by states -/
theorem sg_go {NX : List SV → Prop} {F H : Hp} {σ : St} {D : Ends} (s : Sta X E F H σ Γ) (h : SG X E t Γ { nx := NX, rt := fun _ => False }) (k : ∀ Γ' σ' F' H', NX Γ' → Exs F F' → Sta X E F' H' σ' Γ' → u D σ' H') : tSeq t u D σ H :=
  h F { D with nx := u D } ⟨fun Γ' σ' F' H' g e s => k Γ' σ' F' H' g e s, fun _ _ _ _ g => g.elim, fun _ _ _ _ g => g.elim, fun _ _ _ _ g => g.elim⟩ F H σ (Exs.refl F) s
end
end Odd
set_option Elab.async false
set_option linter.all false
set_option maxRecDepth 100000
set_option maxHeartbeats 8000000
set_option exponentiation.threshold 1000000
namespace Odd
open PySem L2
abbrev lawN : List Str := ["_law_script", "_law_stream", "_law_game_here", "_law_kept", "_law_paper", "_law_numbers", "_law_ours", "_law_theirs", "_law_turn", "_law_low", "_law_high", "_law_place_here", "_law_part"]
theorem go_asg {te : TE} {i : Nat} {u : TS} {D : Ends} {σ : St} {H : Hp} (h : te σ H fun x H1 => u D (σ.set i (some x)) H1) : tSeq (tAsg te (gName i)) u D σ H := h
theorem go_lst3 {ta tb tc : TE} {σ : St} {H : Hp} {Q : VK} (h : ta σ H fun x H1 => tb σ H1 fun y H2 => tc σ H2 fun z H3 => [x, y, z].length ≤ sizeLine ∧ ∀ l, H3 l = none → Q (.ref l) (upd H3 l (.lst [x, y, z]))) : tLst (tCons ta (tCons tb (tCons tc tNil))) σ H Q := h
theorem dues_up {g : List Pl} {σ τ : List (Option Nat)} {v : List Rat} {w : Nat → Rat} (P : Pos g w σ τ) (h : SolB (chn g σ τ) v) (oo : OptO g σ v) : ∀ i, i < g.length → ∀ d ∈ dues g i v .theirs τ, d ≤ vat v i := fun i hi d hd => by
  have e := P.sol h hi
  have o := oo i hi
  unfold Odd.stp at e
  unfold dues at hd
  unfold tg at o
  cases q : gat g i with
  | draw bs =>
    rw [q] at e hd
    rw [List.mem_singleton.mp hd, e]
    show _ ≤ (0 : Rat) + bsum bs (vat v)
    grind
  | reward a t =>
    rw [q] at e hd
    rw [List.mem_singleton.mp hd, e]
    show _ ≤ a + (1 * vat v t + 0)
    grind
  | ours ts =>
    rw [q] at e hd o
    have hd' : d ∈ ts.map (vat v) := hd
    obtain ⟨t, ht, rfl⟩ := List.mem_map.mp hd'
    have := o rfl t ht
    rw [e]
    show _ ≤ (0 : Rat) + (1 * vat v (ts.getD (so σ i) 0) + 0)
    have h2 : vat v t ≤ vat v (ts.getD (so σ i) 0) := this
    grind
  | theirs ts =>
    rw [q] at e hd
    have hd' : d ∈ [vat v (ts.getD (so τ i) 0)] := hd
    rw [List.mem_singleton.mp hd', e]
    show _ ≤ (0 : Rat) + (1 * vat v (ts.getD (so τ i) 0) + 0)
    grind
  | finish =>
    rw [q] at e hd
    rw [List.mem_singleton.mp hd, e]
    show (0 : Rat) ≤ 0 + 0
    grind
  | lose =>
    rw [q] at e hd
    rw [List.mem_singleton.mp hd, e]
    show (0 : Rat) ≤ 0 + 0
    grind
theorem dues_low {g : List Pl} {σ τ : List (Option Nat)} {v : List Rat} {w : Nat → Rat} (P : Pos g w σ τ) (h : SolB (chn g σ τ) v) (ot : OptT g τ v) : ∀ i, i < g.length → ∀ d ∈ dues g i v .ours σ, vat v i ≤ d := fun i hi d hd => by
  have e := P.sol h hi
  have o := ot i hi
  unfold Odd.stp at e
  unfold dues at hd
  unfold tg at o
  cases q : gat g i with
  | draw bs =>
    rw [q] at e hd
    rw [List.mem_singleton.mp hd, e]
    show (0 : Rat) + bsum bs (vat v) ≤ _
    grind
  | reward a t =>
    rw [q] at e hd
    rw [List.mem_singleton.mp hd, e]
    show a + (1 * vat v t + 0) ≤ _
    grind
  | theirs ts =>
    rw [q] at e hd o
    have hd' : d ∈ ts.map (vat v) := hd
    obtain ⟨t, ht, rfl⟩ := List.mem_map.mp hd'
    have := o rfl t ht
    rw [e]
    show (0 : Rat) + (1 * vat v (ts.getD (so τ i) 0) + 0) ≤ _
    have h2 : vat v (ts.getD (so τ i) 0) ≤ vat v t := this
    grind
  | ours ts =>
    rw [q] at e hd
    have hd' : d ∈ [vat v (ts.getD (so σ i) 0)] := hd
    rw [List.mem_singleton.mp hd', e]
    show (0 : Rat) + (1 * vat v (ts.getD (so σ i) 0) + 0) ≤ _
    grind
  | finish =>
    rw [q] at e hd
    rw [List.mem_singleton.mp hd, e]
    show (0 : Rat) + 0 ≤ 0
    grind
  | lose =>
    rw [q] at e hd
    rw [List.mem_singleton.mp hd, e]
    show (0 : Rat) + 0 ≤ 0
    grind
theorem sol_one {c : List Pl} {w : Nat → Rat} {v v' : List Rat} (C : Cn c w) (h : SolB c v) (h' : SolB c v') : v = v' := vat_ext h.len h'.len fun i hi => C.ch.only h.sol h'.sol i hi
section
variable {P : Program} {w : World} {K : PySem.W.Frag} {mg : Str → Option Value} {base : Heap}
theorem sc_law : FnScope ["_law_script", "_law_stream", "_law_game_here", "_law_kept", "_law_paper", "_law_numbers", "_law_ours", "_law_theirs", "_law_turn", "_law_low", "_law_high", "_law_place_here", "_law_part"] ["_law_script"] (defScope (top 73)) := ⟨rfl, rfl, rfl, by decide +kernel, rfl, by decide +kernel, by decide +kernel⟩
theorem d_law (T : Txt K mg) (D_law_ending_game : DefOk P w K mg base "_law_ending_game" ["_law_stream", "_law_most"] 36 (spS K A_law_ending_game)) (D_stakes_paper : DefOk P w K mg base "stakes_paper" ["game"] 44 (SpR (.pure K) A_stakes_paper)) (D_law_expected : DefOk P w K mg base "_law_expected" ["_law_game_here", "_law_ours", "_law_theirs"] 37 (SpR (.pure K) A_law_expected)) (D_law_is_paper : DefOk P w K mg base "_law_is_paper" ["_law_game_here", "_law_paper"] 37 (SpR (.pure K) A_law_is_paper)) (D_stakes : DefOk P w K mg base "stakes" ["game"] 45 (SpR (.pure K) A_stakes)) (D_law_strategy : DefOk P w K mg base "_law_strategy" ["_law_stream", "_law_game_here", "_law_side"] 2 (spS K A_law_strategy)) (D_law_less : DefOk P w K mg base "_law_less" ["_law_a", "_law_b"] 1 (SpR (.pure K) A_law_less)) {f : Addr} {cdv : Value} {outer : List Env} {s : Shared} {H : Hp} {E : XK} (hr : Room 45 (callerA.deeper (PyProof.Rows.envOfC "law" (defScope (top 73)) s.heap.objs.size f cdv))) (hcd : PySem.W.codeIn K cdv "law" = true) :
    ∃ t, PSs (cxOf CX0 P w K mg base lawN "law" (defScope (top 73)) f cdv callerA outer s H E).nox (defBody (top 73)) t ∧
      ∀ (H0 : Hp) (a : Addr) (cs : List Int) (D : Ends), SqL K H0 a (cs.map V.int) → (∀ v H', v = .bl true → D.rt v H') → t D (L2.start lawN [.ref a]) H0 := by
  have nd := sc_law.nd
  have hg : (callerA.deeper (PyProof.Rows.envOfC "law" (defScope (top 73)) s.heap.objs.size f cdv)).guards = some [] := rfl
  refine ⟨_, (pss_cons (ps_set (i := 1) nd rfl (.inl rfl) (pe_lst (pa_cons (pe_callTy call_list_of (by rfl) T.list (by decide +kernel) (pa_cons (pv 0) pa_nil)) (pa_cons pe_int (pa_cons pe_int pa_nil)))))
    (pss_cons (ps_set (i := 2) nd rfl (.inl rfl) (pe_def D_law_ending_game (hr.mono (by decide)) (by rfl) (pa_cons (pv 1) (pa_cons pe_int pa_nil))))
    (pss_cons (ps_set (i := 3) nd rfl (.inl rfl) (pe_callB (call_repr hg (hu65 hr)) (by rfl) T.repr (by decide +kernel) (pa_cons (pv 2) pa_nil)))
    (pss_cons (ps_set (i := 4) nd rfl (.inl rfl) (pe_def D_stakes_paper (hr.mono (by decide)) (by rfl) (pa_cons (pv 2) pa_nil)))
    (pss_cons (ps_if (PW.pt (pw_or (pt_not (pt_val (pe_def D_law_is_paper (hr.mono (by decide)) (by rfl) (pa_cons (pv 2) (pa_cons (pv 4) pa_nil))))) (pw_or (pt_cmpR (op_neD hr.units) (pe_def D_stakes (hr.mono (by decide)) (by rfl) (pa_cons (pv 2) pa_nil)) (pe_ix ix_tup (pv 4) pe_int (fun _ _ => rfl)) (nomark _)) (pw_or1 (pt_cmpR op_ne (pe_callB (call_repr hg (hu65 hr)) (by rfl) T.repr (by decide +kernel) (pa_cons (pv 2) pa_nil)) (pv 3) (nomark _)))))) (pss_one (ps_ret pe_bl)) pss_nil)
    (pss_cons (ps_par3 (i := 5) (j := 6) (l := 7) rfl nd rfl rfl rfl (by decide) (by decide) (by decide) rfl rfl rfl (pa_cons (pe_callTy call_list_of (by rfl) T.list (by decide +kernel) (pa_cons (pe_ix ix_tup (pv 4) pe_int (fun _ _ => rfl)) pa_nil)) (pa_cons (pe_callTy call_list_of (by rfl) T.list (by decide +kernel) (pa_cons (pe_ix ix_tup (pv 4) pe_int (fun _ _ => rfl)) pa_nil)) (pa_cons (pe_callTy call_list_of (by rfl) T.list (by decide +kernel) (pa_cons (pe_ix ix_tup (pv 4) pe_int (fun _ _ => rfl)) pa_nil)) pa_nil))) (by rfl))
    (pss_cons (ps_if (pt_cmpR (op_neD hr.units) (pe_def D_law_expected (hr.mono (by decide)) (by rfl) (pa_cons (pv 2) (pa_cons (pv 6) (pa_cons (pv 7) pa_nil)))) (pv 5) (nomark _)) (pss_one (ps_ret pe_bl)) pss_nil)
    (pss_cons (ps_for PassesOwn.never rfl (pi_range1 (by rfl) T.range (pa_cons pe_int pa_nil)) (pg_name (i := 8) nd rfl (.inl rfl)) (pss_cons (ps_set (i := 9) nd rfl (.inl rfl) (pe_def D_law_expected (hr.mono (by decide)) (by rfl) (pa_cons (pv 2) (pa_cons (pv 6) (pa_cons (pe_def D_law_strategy (hr.mono (by decide)) (by rfl) (pa_cons (pv 1) (pa_cons (pv 2) (pa_cons pe_str pa_nil)))) pa_nil)))))
    (pss_cons (ps_set (i := 10) nd rfl (.inl rfl) (pe_def D_law_expected (hr.mono (by decide)) (by rfl) (pa_cons (pv 2) (pa_cons (pe_def D_law_strategy (hr.mono (by decide)) (by rfl) (pa_cons (pv 1) (pa_cons (pv 2) (pa_cons pe_str pa_nil)))) (pa_cons (pv 7) pa_nil)))))
    (pss_one (ps_for PassesOwn.never rfl (pi_range1 (by rfl) T.range (pa_cons (pe_callB call_len_seq (by rfl) T.len (by decide +kernel) (pa_cons (pv 2) pa_nil)) pa_nil)) (pg_name (i := 11) nd rfl (.inl rfl)) (pss_one (ps_if (PW.pt (pw_or (pt_val (pe_def D_law_less (hr.mono (by decide)) (by rfl) (pa_cons (pe_ix ix_list (pv 9) (pv 11) (fun _ _ => rfl)) (pa_cons (pe_ix ix_list (pv 5) (pv 11) (fun _ _ => rfl)) pa_nil)))) (pw_or1 (pt_val (pe_def D_law_less (hr.mono (by decide)) (by rfl) (pa_cons (pe_ix ix_list (pv 5) (pv 11) (fun _ _ => rfl)) (pa_cons (pe_ix ix_list (pv 10) (pv 11) (fun _ _ => rfl)) pa_nil))))))) (pss_one (ps_ret pe_bl)) pss_nil)))))))
    (pss_cons (ps_for PassesOwn.never rfl (pi_tup (pv 4)) (pg_name (i := 12) nd rfl (.inl rfl)) (pss_one (ps_expr (pe_bm0 PySem.F.plainAttrs_list PySem.F.slot_list_clear PySem.F.type_list_clear mt_clear (pv 12)))))
    (pss_one (ps_ret (pe_and (pe_cmpR (op_eqD hr.units) (pe_def D_stakes (hr.mono (by decide)) (by rfl) (pa_cons (pv 2) pa_nil)) (pv 5) (nomark _)) (pe_and (pe_cmpR (op_eqD hr.units) (pe_ix ix_tup (pe_def D_stakes_paper (hr.mono (by decide)) (by rfl) (pa_cons (pv 2) pa_nil)) pe_int (fun _ _ => rfl)) (pv 5) (nomark _)) (pe_one (pe_cmpR op_eq (pe_callB (call_repr hg (hu65 hr)) (by rfl) T.repr (by decide +kernel) (pa_cons (pv 2) pa_nil)) (pv 3) (nomark _)))))))))))))))), fun H0 a cs D hS hD => ?_⟩
  have st0 : Sta (.pure K) ⟨H0, H0⟩ H0 H0 (L2.start lawN [.ref a]) [.d (.list (cs.map .int)), .no, .no, .no, .no, .no, .no, .no, .no, .no, .no, .no, .no] := by
    refine ⟨.refl ⟨Exs.refl _, trivial, fun _ h => h.elim⟩, rfl, fun i sv e => ?_, fun a b l x y nab ea eb mx my _ _ => ?_⟩
    · cases i with
      | zero => cases e; exact ⟨.ref a, rfl, .lst hS (dpa_of_ints cs)⟩
      | succ i =>
        have : sv = .no := by
          have h1 : sv ∈ [SV.no, .no, .no, .no, .no, .no, .no, .no, .no, .no, .no, .no] := List.mem_of_getElem? (by simpa using e)
          simpa using h1
        rw [this]; trivial
    · cases a with
      | zero => cases ea; cases mx
      | succ i =>
        have : x = .no := by
          have h1 : x ∈ [SV.no, .no, .no, .no, .no, .no, .no, .no, .no, .no, .no, .no] := List.mem_of_getElem? (by simpa using ea)
          simpa using h1
        rw [this] at mx; cases mx
  refine go_asg (go_lst3 (ev_listL (ev_var (i := 0) (x := .list (cs.map .int))) H0 H0 _ st0 _ fun r v F1 H1 er s1 ro => ?_))
  subst er
  obtain ⟨L, vs, rfl, hL0, hLF, hLH, al⟩ := ro
  cases dpa_ints al
  refine ⟨Nat.le_trans (show 3 ≤ 3 by decide) (by decide), fun SA hSA => ?_⟩
  have nSL : SA ≠ L := fun e => by rw [e, hLH] at hSA; cases hSA
  have hF1S : F1 SA = none := s1.ok.up.none hSA
  have st1 : Sta (strX K SA L cs) ⟨F1, upd H1 SA (.lst [.ref L, .int 0, .int 0])⟩ F1 (upd H1 SA (.lst [.ref L, .int 0, .int 0])) ((L2.start lawN [.ref a]).set 1 (some (.ref SA))) [.no, .raw (.ref SA), .no, .no, .no, .no, .no, .no, .no, .no, .no, .no, .no] := by
    refine ⟨.refl ⟨s1.ok.up.newR hF1S, ⟨nSL, 0, 0, upd_same, by show upd H1 SA _ L = _; rw [upd_ne (Ne.symm nSL)]; exact hLH⟩, fun b hb => ?_⟩, rfl, fun i sv e => ?_, fun a b l x y nab ea eb mx my _ _ => ?_⟩
    · rcases hb with z | z
      · rw [z]; exact hF1S
      · rw [z]; exact hLF
    · rcases i with _ | _ | i
      · cases e; trivial
      · cases e; rfl
      · have : sv = .no := by
          have h1 : sv ∈ [SV.no, .no, .no, .no, .no, .no, .no, .no, .no, .no, .no] := List.mem_of_getElem? (by simpa using e)
          simpa using h1
        rw [this]; trivial
    · rcases a with _ | _ | i
      · cases ea; cases mx
      · cases ea; cases mx
      · have : x = .no := by
          have h1 : x ∈ [SV.no, .no, .no, .no, .no, .no, .no, .no, .no, .no, .no] := List.mem_of_getElem? (by simpa using ea)
          simpa using h1
        rw [this] at mx; cases mx
  refine sg_go (NX := fun Γ => ∃ g, GmOk g ∧ Γ = [.no, .raw (.ref SA), .d (dG g), .no, .no, .no, .no, .no, .no, .no, .no, .no, .no]) st1
    (sg_asgP (EvP.fix (P := fun r => ∃ g, GmOk g ∧ r = .mu (g.map dP)) (P' := fun r => ∃ g, GmOk g ∧ r = .d (dG g)) (ev_callX (A := A_law_ending_game) (ea_consR (ev_raw (i := 1)) (ea_cons ev_ci ea_nil)) ⟨rfl, fun g hg => ⟨g, hg, rfl⟩⟩) (fun ds ⟨g, h, e⟩ => ⟨g, h, by cases e; rfl⟩) fun r ⟨g, _, e⟩ => ⟨_, e⟩) fun r ⟨g, h, e⟩ => ⟨_, e, g, h, rfl⟩) fun Γ' σ2 F2 H2 hΓ e2 st2 => ?_
  obtain ⟨g, hgm, rfl⟩ := hΓ
  obtain ⟨W, hpl⟩ := gm_wg hgm
  obtain ⟨r1, r2, r3, r4⟩ := rep_G hgm
  refine sg_go (NX := fun Γ => Γ = [.no, .raw (.ref SA), .d (dG g), .d (.str (dG g).shown), .no, .no, .no, .no, .no, .no, .no, .no, .no]) st2 (sg_asg (ev_repr (ev_var (x := dG g)) r1 r2 r3 r4) rfl) fun Γ' σ3 F3 H3 hΓ e3 st3 => ?_
  subst hΓ
  refine go_asg (ev_call (A := A_stakes_paper) (P := fun r => ∃ v σ τ, r = .mt [v.map dN, σ.map dO, τ.map dO] ∧ StrOk g .ours σ ∧ StrOk g .theirs τ ∧ SolB (chn g σ τ) v ∧ OptO g σ v ∧ OptT g τ v) (ea_cons (ev_var (i := 2) (x := dG g)) ea_nil) ⟨g, wt, rfl, W, fun v σ τ a b c d e => ⟨v, σ, τ, rfl, a, b, c, d, e⟩⟩ F3 H3 σ3 st3 _ fun r pv F4 H4 pr s4 ro => ?_)
  obtain ⟨v, σs, τs, rfl, hs, ht, hv, oo, ot⟩ := pr
  obtain ⟨p, ls, rfl, hp0, hpF, hpH, ndl, m⟩ := ro
  cases m with
  | @cons l1 ls v1 ds dss a1 b1 c1 d1 m =>
  cases m with
  | @cons l2 ls v2 ds dss a2 b2 c2 d2 m =>
  cases m with
  | @cons l3 ls v3 ds dss a3 b3 c3 d3 m =>
  cases m
  have n12 : l1 ≠ l2 := fun z => by rw [z] at ndl; simp at ndl
  have n13 : l1 ≠ l3 := fun z => by rw [z] at ndl; simp at ndl
  have n23 : l2 ≠ l3 := fun z => by rw [z] at ndl; simp at ndl
  have np : ∀ {l : Addr} {ws : List V}, H4 l = some (.lst ws) → l ≠ p := fun {l ws} h z => by rw [z, hpH] at h; cases h
  have np1 := np c1
  have np2 := np c2
  have np3 := np c3
  -- the addresses of the stream are none of the paper's
  obtain ⟨_, sa, sb, iSA, iL⟩ := st3.ok.inv
  have sne : ∀ {l : Addr}, H3 l = none → l ≠ SA ∧ l ≠ L := fun {l} h => ⟨(fun z => by rw [z, iSA] at h; cases h), (fun z => by rw [z, iL] at h; cases h)⟩
  obtain ⟨s1a, s1b⟩ := sne a1
  obtain ⟨s2a, s2b⟩ := sne a2
  obtain ⟨s3a, s3b⟩ := sne a3
  obtain ⟨spa, spb⟩ := sne hp0
  have F4SA : F4 SA = none := s4.ok.out SA (.inl rfl)
  have F4L : F4 L = none := s4.ok.out L (.inr rfl)
  obtain ⟨vg, evg, dvg3⟩ := (st3.step s4).slot 2 _ rfl
  have dvg : Dp K F4 vg (dG g) := dvg3
  obtain ⟨vk, evk, dvk3⟩ := (st3.step s4).slot 3 _ rfl
  cases dp_str dvk3
  -- what is fixed from here on
  have hF5 : ∃ F5 : Hp, F5 = upd (upd (upd (upd F4 l1 (.lst v1)) l2 (.lst v2)) l3 (.lst v3)) p (.tup [.ref l1, .ref l2, .ref l3]) := ⟨_, rfl⟩
  obtain ⟨F5, eF5⟩ := hF5
  have f5p : F5 p = some (.tup [.ref l1, .ref l2, .ref l3]) := by rw [eF5, upd_same]
  have f53 : F5 l3 = some (.lst v3) := by rw [eF5, upd_ne np3, upd_same]
  have f52 : F5 l2 = some (.lst v2) := by rw [eF5, upd_ne np2, upd_ne n23, upd_same]
  have f51 : F5 l1 = some (.lst v1) := by rw [eF5, upd_ne np1, upd_ne n13, upd_ne n12, upd_same]
  have f5o : ∀ b, b ≠ p → b ≠ l1 → b ≠ l2 → b ≠ l3 → F5 b = F4 b := fun b h0 h1 h2 h3 => by rw [eF5, upd_ne h0, upd_ne h3, upd_ne h2, upd_ne h1]
  have up45 : Exs F4 F5 := fun b o e => by
    rw [f5o b (ne_of_none e hpF) (ne_of_none e b1) (ne_of_none e b2) (ne_of_none e b3)]; exact e
  have up5 : Exs F5 H4 := fun b o e => by
    by_cases h0 : b = p
    · rw [h0, f5p] at e; rw [h0, hpH]; exact e
    by_cases h1 : b = l1
    · rw [h1, f51] at e; rw [h1, c1]; exact e
    by_cases h2 : b = l2
    · rw [h2, f52] at e; rw [h2, c2]; exact e
    by_cases h3 : b = l3
    · rw [h3, f53] at e; rw [h3, c3]; exact e
    rw [f5o b h0 h1 h2 h3] at e
    exact s4.ok.up b o e
  have dpap : Dp K F5 (.ref p) (.tuple [dNL v, dS σs, dS τs]) := .tup (SqT.of f5p) (.cons (.lst (SqL.of f51) (dpa_mono up45 d1)) (.cons (.lst (SqL.of f52) (dpa_mono up45 d2)) (.cons (.lst (SqL.of f53) (dpa_mono up45 d3)) .nil)))
  have dvg5 : Dp K F5 vg (dG g) := dp_mono up45 dvg
  have l3len := st3.len
  have st5 : Sta (strX K SA L cs) ⟨F5, H4⟩ F5 H4 (σ3.set 4 (some (.ref p))) [.no, .raw (.ref SA), .raw vg, .d (.str (dG g).shown), .raw (.ref p), .no, .no, .no, .no, .no, .no, .no, .no] := by
    refine ⟨.refl ⟨up5, s4.ok.inv, fun b hb => ?_⟩, by rw [List.length_set]; exact l3len, fun i sv e => ?_, fun a b l x y nab ea eb mx my _ _ => ?_⟩
    · show F5 b = none
      rcases hb with z | z
      · rw [z, f5o SA (Ne.symm spa) (Ne.symm s1a) (Ne.symm s2a) (Ne.symm s3a)]; exact F4SA
      · rw [z, f5o L (Ne.symm spb) (Ne.symm s1b) (Ne.symm s2b) (Ne.symm s3b)]; exact F4L
    · have g4 : ∀ i, 4 ≠ i → (σ3.set 4 (some (.ref p)))[i]? = σ3[i]? := fun i h => List.getElem?_set_ne h
      rcases i with _ | _ | _ | _ | _ | i
      · cases e; trivial
      · cases e
        show (σ3.set 4 (some (.ref p)))[1]? = _
        rw [g4 1 (by decide)]; exact st3.slot 1 _ rfl
      · cases e
        show (σ3.set 4 (some (.ref p)))[2]? = _
        rw [g4 2 (by decide)]; exact evg
      · cases e
        exact ⟨.str _, by rw [g4 3 (by decide)]; exact evk, .str _⟩
      · cases e
        show (σ3.set 4 (some (.ref p)))[4]? = _
        rw [List.getElem?_set_self (by rw [l3len]; show 4 < 13; decide)]
      · have : sv = .no := by
          have h1 : sv ∈ [SV.no, .no, .no, .no, .no, .no, .no, .no] := List.mem_of_getElem? (by simpa using e)
          simpa using h1
        rw [this]; trivial
    · rcases a with _ | _ | _ | _ | _ | i
      · cases ea; cases mx
      · cases ea; cases mx
      · cases ea; cases mx
      · cases ea; cases mx
      · cases ea; cases mx
      · have : x = .no := by
          have h1 : x ∈ [SV.no, .no, .no, .no, .no, .no, .no, .no] := List.mem_of_getElem? (by simpa using ea)
          simpa using h1
        rw [this] at mx; cases mx
  have Po : Pos g wt σs τs := ⟨W, hs, ht⟩
  have vlen : v.length = g.length := by rw [hv.len, Po.len]
  have nn := W.most
  have game : ∀ {Γ : List SV}, Γ[2]? = some (.raw vg) → EvD (strX K SA L cs) ⟨F5, H4⟩ (tVar 2) Γ (dG g) := fun h => ev_old dvg5 h
  have paper : ∀ {Γ : List SV}, Γ[4]? = some (.raw (.ref p)) → EvD (strX K SA L cs) ⟨F5, H4⟩ (tVar 4) Γ (.tuple [dNL v, dS σs, dS τs]) := fun h => ev_old dpap h
  have stk : ∀ {X : Fx} {E : En} {Γ : List SV} {te : TE}, X.K = K → EvD X E te Γ (dG g) → EvM X E (tCall (SpR (.pure K) A_stakes) [] E0 (tCons te tNil)) Γ (v.map dN) := fun {X E Γ te} hK h => by
    subst hK
    exact ev_call (A := A_stakes) (ea_cons h ea_nil) ⟨g, wt, rfl, W, fun v' σ' τ' a b c d e => by rw [one_value ⟨W, a, b⟩ Po c hv d e oo ot]⟩
  refine sg_go (NX := fun Γ => Γ = [.no, .raw (.ref SA), .raw vg, .d (.str (dG g).shown), .raw (.ref p), .no, .no, .no, .no, .no, .no, .no, .no]) st5
    (sg_ifF (et_orF (et_not (b := true) (et_B (ev_call (A := A_law_is_paper) (ea_cons (game rfl) (ea_cons (paper rfl) ea_nil)) ⟨g, v, σs, τs, rfl, ⟨W.fw.ok, .inr rfl, ht, vlen, hv.bt, hpl⟩, dues_up Po hv oo, ⟨W.fw.ok, .inl rfl, hs, vlen, hv.bt, hpl⟩, dues_low Po hv ot, rfl⟩)))
      (et_orF (et_test ((ev_neD (stk rfl (game rfl)).d (ev_ixT (paper rfl) ev_ci rfl) (dNL_shp v) (dNL_shp v)).is (by rw [show PyData.eqv (.list (v.map dN)) (dNL v) = decide (v = v) from dNL_eqv v v]; simp))) (et_test ((ev_neS (ev_repr (game rfl) r1 r2 r3 r4) (ev_var (i := 3) (x := .str (dG g).shown))).is (by simp [dG]))))) (sg_next rfl)) fun Γ' σ6 F6 H6 hΓ e6 st6 => ?_
  subst hΓ
  refine sg_go (NX := fun Γ => Γ = [.no, .raw (.ref SA), .raw vg, .d (.str (dG g).shown), .raw (.ref p), .mu (v.map dN), .mu (σs.map dO), .mu (τs.map dO), .no, .no, .no, .no, .no]) st6
    (sg_par3M (by decide) (by decide) (by decide) (ev_listL (ev_ixT (paper rfl) ev_ci rfl)) (ev_listL (ev_ixT (paper rfl) ev_ci rfl)) (ev_listL (ev_ixT (paper rfl) ev_ci rfl)) rfl) fun Γ' σ7 F7 H7 hΓ e7 st7 => ?_
  subst hΓ
  refine sg_go (NX := fun Γ => Γ = [.no, .raw (.ref SA), .raw vg, .d (.str (dG g).shown), .raw (.ref p), .mu (v.map dN), .d (dS σs), .d (dS τs), .no, .no, .no, .no, .no]) st7
    (sg_fix (m := 6) rfl (sg_fix (m := 7) rfl (sg_ifF (et_tmp (m := 5) rfl (et_test ((ev_neD (EvM.d (ev_call (A := A_law_expected) (P := fun r => r = .mu (v.map dN)) (ea_cons (game rfl) (ea_cons (ev_var (x := dS σs)) (ea_cons (ev_var (x := dS τs)) ea_nil))) ⟨g, σs, τs, wt, rfl, W, hs, ht, fun v' h' => by rw [sol_one Po.cn h' hv]⟩)) (ev_var (x := dNL v)) (dNL_shp v) (dNL_shp v)).is (by rw [show PyData.eqv (.list (v.map dN)) (dNL v) = decide (v = v) from dNL_eqv v v]; simp)))) (sg_next rfl)))) fun Γ' σ8 F8 H8 hΓ e8 st8 => ?_
  subst hΓ
  have tls : ∀ k : Kd, (k = .ours ∨ k = .theirs) → ∀ q ∈ g, q.kd = k → 0 < q.tgts.length ∧ q.tgts.length < 1000 := fun k hk q hq e => by
    obtain ⟨i, hi, eq⟩ := List.mem_iff_getElem.mp hq
    have hgi : gat g i = q := gat_some (by rw [List.getElem?_eq_getElem hi, eq])
    have h1 := W.ne i hi (by rw [hgi, e]; exact hk)
    have h2 := hgm.at_ i q (by rw [List.getElem?_eq_getElem hi, eq])
    rw [hgi] at h1
    refine ⟨List.length_pos_iff.mpr h1, ?_⟩
    cases q with
    | ours ts =>
      have : ts.length ≤ 6 := h2.2.1
      show ts.length < 1000
      omega
    | theirs ts =>
      have : ts.length ≤ 6 := h2.2.1
      show ts.length < 1000
      omega
    | draw _ => rcases hk with z | z <;> (rw [z] at e; cases e)
    | reward _ _ => rcases hk with z | z <;> (rw [z] at e; cases e)
    | finish => rcases hk with z | z <;> (rw [z] at e; cases e)
    | lose => rcases hk with z | z <;> (rw [z] at e; cases e)
  have strat : ∀ {Γ : List SV} (k : Kd), (k = .ours ∨ k = .theirs) → Γ[1]? = some (.raw (.ref SA)) → Γ[2]? = some (.raw vg) → EvP (strX K SA L cs) ⟨F5, H4⟩ (tCall (spS K A_law_strategy) [] E0 (tCons (tVar 1) (tCons (tVar 2) (tCons (tC (.str k.str)) tNil)))) Γ fun r => ∃ s', r = .d (dS s') ∧ StrOk g k s' := fun {Γ} k hk h1 h2 =>
    EvP.fix (P := fun r => ∃ s', r = .mu (s'.map dO) ∧ StrOk g k s') (ev_callX (A := A_law_strategy) (ea_consR (ev_raw h1) (ea_cons (game h2) (ea_cons (ev_cs (z := k.str)) ea_nil))) ⟨g, k, rfl, hk, by omega, tls k hk, fun s' hs' => ⟨s', rfl, hs'⟩⟩) (fun ds ⟨s', e, h⟩ => ⟨s', by cases e; rfl, h⟩) fun r ⟨s', e, _⟩ => ⟨_, e⟩
  have nbt : ∀ {u : List Rat} {i : Nat}, u.length = g.length → (∀ q ∈ u, Bt 16384 q) → i < g.length → u[i]? = some (vat u i) ∧ Bd (vat u i) := fun {u i} hl hb hi => by
    have h1 := vat_get (v := u) (i := i) (by omega)
    exact ⟨h1, (hb _ (List.mem_of_getElem? h1)).bd (by decide)⟩
  refine sg_go (NX := fun Γ => ∃ a b c d, Γ = [.no, .raw (.ref SA), .raw vg, .d (.str (dG g).shown), .raw (.ref p), .mu (v.map dN), .d (dS σs), .d (dS τs), a, b, c, d, .no]) st8
    (sg_for (ds := intsD 0 3) (it_rng1 (n := 3) ev_ci (by decide)) (fun i Γ => ∃ a b c d, Γ = [.no, .raw (.ref SA), .raw vg, .d (.str (dG g).shown), .raw (.ref p), .mu (v.map dN), .d (dS σs), .d (dS τs), a, b, c, d, .no]) ⟨_, _, _, _, rfl⟩ (fun i x Γ1 hx iv => ?_) (fun Γ1 iv => iv)) fun Γ' σ9 F9 H9 hΓ e9 st9 => ?_
  · obtain ⟨a, b, c, d, rfl⟩ := iv
    refine ⟨_, _, tg_name, ?_⟩
    refine sg_seq (sg_asgP (P := fun r => ∃ u, r = .d (dNL u) ∧ u.length = g.length ∧ (∀ q ∈ u, Bt 16384 q) ∧ ∀ i, i < g.length → vat v i ≤ vat u i) (EvP.fix (P := fun r => ∃ u, r = .mu (u.map dN) ∧ u.length = g.length ∧ (∀ q ∈ u, Bt 16384 q) ∧ ∀ i, i < g.length → vat v i ≤ vat u i)
      (ev_callP (A := A_law_expected) (ea_consD (game rfl) (ea_consD (ev_var (x := dS σs)) (ea_consP (Ps := fun rs => ∃ s', StrOk g .theirs s' ∧ rs = [.d (dS s')]) (strat .theirs (.inr rfl) rfl rfl) ea_nil fun r rs ⟨s', e, h⟩ e2 => ⟨by rw [e]; rfl, s', h, by rw [e, e2]⟩))) fun rs ⟨rs1, ⟨rs2, ⟨s', h, e3⟩, e2⟩, e1⟩ => ⟨g, σs, s', wt, by rw [e1, e2, e3], W, hs, h, fun u hu => ⟨u, rfl, by rw [hu.len, (⟨W, hs, h⟩ : Pos g wt σs s').len], hu.bt, low_ok Po ⟨W, hs, h⟩ hv hu ot⟩⟩)
      (fun ds ⟨u, e, h⟩ => ⟨u, by cases e; rfl, h⟩) fun r ⟨u, e, _⟩ => ⟨_, e⟩) fun r ⟨u, e, ul, ub, ule⟩ => ⟨_, e, ?_⟩)
    refine sg_seq (sg_asgP (P := fun r => ∃ u, r = .d (dNL u) ∧ u.length = g.length ∧ (∀ q ∈ u, Bt 16384 q) ∧ ∀ i, i < g.length → vat u i ≤ vat v i) (EvP.fix (P := fun r => ∃ u, r = .mu (u.map dN) ∧ u.length = g.length ∧ (∀ q ∈ u, Bt 16384 q) ∧ ∀ i, i < g.length → vat u i ≤ vat v i)
      (ev_callP (A := A_law_expected) (ea_consD (game rfl) (ea_consP (Pl := fun rs => rs = [.d (dS τs)]) (Ps := fun rs => ∃ s', StrOk g .ours s' ∧ rs = [.d (dS s'), .d (dS τs)]) (strat .ours (.inl rfl) rfl rfl) (ea_cons (ev_var (x := dS τs)) ea_nil) fun r rs ⟨s', e, h⟩ e2 => ⟨by rw [e]; rfl, s', h, by rw [e, e2]⟩)) fun rs ⟨rs1, ⟨s', h, e2⟩, e1⟩ => ⟨g, s', τs, wt, by rw [e1, e2], W, h, ht, fun u hu => ⟨u, rfl, by rw [hu.len, (⟨W, h, ht⟩ : Pos g wt s' τs).len], hu.bt, high_ok Po ⟨W, h, ht⟩ hv hu oo⟩⟩)
      (fun ds ⟨u, e, h⟩ => ⟨u, by cases e; rfl, h⟩) fun r ⟨u, e, _⟩ => ⟨_, e⟩) fun r ⟨u2, e, ul2, ub2, ule2⟩ => ⟨_, e, ?_⟩)
    refine sg_for (ds := intsD 0 g.length) (it_rng1 ((ev_lenL (game (Γ := _) rfl)).is (by rw [List.length_map])) (by omega)) (fun j Γ => ∃ a d, Γ = [.no, .raw (.ref SA), .raw vg, .d (.str (dG g).shown), .raw (.ref p), .mu (v.map dN), .d (dS σs), .d (dS τs), a, .d (dNL u), .d (dNL u2), d, .no]) ⟨_, _, rfl⟩ (fun j x Γ1 hx iv => ?_) (fun Γ1 iv => ?_)
    · obtain ⟨a, d, rfl⟩ := iv
      obtain ⟨hj, rfl⟩ := ints_get0 hx
      obtain ⟨g1, k1⟩ := nbt vlen hv.bt hj
      obtain ⟨g2, k2⟩ := nbt ul ub hj
      obtain ⟨g3, k3⟩ := nbt ul2 ub2 hj
      have num : ∀ {Γ : List SV}, Γ[5]? = some (.mu (v.map dN)) → Γ[11]? = some (.d (dI j)) → EvD (strX K SA L cs) ⟨F5, H4⟩ (tOp (rIxL K) (tVar 5) (tVar 11)) Γ (dN (vat v j)) := fun h5 h11 => ev_ixM (m := 5) h5 (ev_vi (n := j) h11) (at_mapN g1)
      refine ⟨_, _, tg_name, sg_ifF (et_orF (EvT.is (et_B (ev_call (A := A_law_less) (P := fun r => r = .d (.bool (decide (vat u j < vat v j)))) (ea_cons (ev_nat (ev_var (x := dNL u)) (ev_vi (n := j)) g2) (ea_cons (num rfl rfl) ea_nil)) ⟨_, _, rfl, k2, k1, rfl⟩)) (decide_eq_false (Rat.not_lt.mpr (ule j hj))))
        (EvT.is (et_B (ev_call (A := A_law_less) (P := fun r => r = .d (.bool (decide (vat v j < vat u2 j)))) (ea_cons (num rfl rfl) (ea_cons (ev_nat (ev_var (x := dNL u2)) (ev_vi (n := j)) g3) ea_nil)) ⟨_, _, rfl, k1, k3, rfl⟩)) (decide_eq_false (Rat.not_lt.mpr (ule2 j hj))))) (sg_next ⟨_, _, rfl⟩)⟩
    · obtain ⟨a, d, rfl⟩ := iv
      exact ⟨_, _, _, _, rfl⟩
  obtain ⟨q8, q9, q10, q11, rfl⟩ := hΓ
  have nS : ∀ {l : Addr}, l ≠ SA ∧ l ≠ L → ¬ (strX K SA L cs).S l := fun {l} h z => z.elim h.1 h.2
  have hp9 := st9.base.go p _ (nS ⟨spa, spb⟩) hpH
  have g91 := st9.base.go l1 _ (nS ⟨s1a, s1b⟩) c1
  have g92 := st9.base.go l2 _ (nS ⟨s2a, s2b⟩) c2
  have g93 := st9.base.go l3 _ (nS ⟨s3a, s3b⟩) c3
  have k91 := st9.base.up l1 _ f51
  have k92 := st9.base.up l2 _ f52
  have k93 := st9.base.up l3 _ f53
  have z4 : σ9[4]? = some (some (.ref p)) := st9.slot 4 _ rfl
  have z2 : σ9[2]? = some (some vg) := st9.slot 2 _ rfl
  have z1 : σ9[1]? = some (some (.ref SA)) := st9.slot 1 _ rfl
  obtain ⟨vk9, z3, dk9⟩ := st9.slot 3 _ rfl
  cases dp_str dk9
  obtain ⟨lN, wsN, z5, fN, h0N, nN, hN, aN⟩ := st9.slot 5 _ rfl
  have nl : ∀ {l : Addr} {u : HO}, H4 l = some u → lN ≠ l := fun {l u} h z => by
    have h0 : H4 lN = none := h0N
    rw [z, h] at h0; cases h0
  have nl1 := nl c1
  have nl2 := nl c2
  have nl3 := nl c3
  refine ⟨_, z4, p, rfl, ⟨_, SqT.of hp9⟩, fun i m σ' H' => m = 3 - i ∧ i ≤ 3 ∧ (∀ k, 12 ≠ k → σ'[k]? = σ9[k]?) ∧ σ'.length = 13 ∧ (∃ x1 x2 x3, H' l1 = some (.lst x1) ∧ H' l2 = some (.lst x2) ∧ H' l3 = some (.lst x3)) ∧ ∀ b, b ≠ l1 → b ≠ l2 → b ≠ l3 → H' b = H9 b,
    ⟨3, rfl, by omega, fun _ _ => rfl, st9.len, ⟨_, _, _, g91, g92, g93⟩, fun _ _ _ _ => rfl⟩, ?_⟩
  rintro i m σ' H' ⟨rfl, hi, hσ, hlen, ⟨x1, x2, x3, g1, g2, g3⟩, ho⟩
  have hp' : H' p = some (.tup [.ref l1, .ref l2, .ref l3]) := by rw [ho p (Ne.symm np1) (Ne.symm np2) (Ne.symm np3)]; exact hp9
  by_cases hlt : i < 3
  · refine .inr ⟨⟨_, _, SqT.of hp', List.getElem?_eq_getElem (by simpa using hlt)⟩, fun σ2 H2 => (3 - (i + 1) = 3 - (i + 1) ∧ i + 1 ≤ 3 ∧ (∀ k, 12 ≠ k → σ2[k]? = σ9[k]?) ∧ σ2.length = 13 ∧ (∃ x1 x2 x3, H2 l1 = some (.lst x1) ∧ H2 l2 = some (.lst x2) ∧ H2 l3 = some (.lst x3)) ∧ ∀ b, b ≠ l1 → b ≠ l2 → b ≠ l3 → H2 b = H9 b), fun σ2 H2 h => ⟨3 - (i + 1), by omega, h⟩, fun x H2 y => ?_⟩
    obtain ⟨rfl, y⟩ := y
    have hx := y _ (SqT.of hp')
    have clr : ∀ {l : Addr} {xs : List V}, x = .ref l → H2 l = some (.lst xs) → (l = l1 ∨ l = l2 ∨ l = l3) → (∃ x1 x2 x3, upd H2 l (.lst []) l1 = some (.lst x1) ∧ upd H2 l (.lst []) l2 = some (.lst x2) ∧ upd H2 l (.lst []) l3 = some (.lst x3)) ∧ ∀ b, b ≠ l1 → b ≠ l2 → b ≠ l3 → upd H2 l (.lst []) b = H9 b := fun {l xs} _ _ hl => by
      refine ⟨?_, fun b h1 h2 h3 => by rw [upd_ne (by rcases hl with z | z | z <;> (rw [z]; assumption))]; exact ho b h1 h2 h3⟩
      rcases hl with rfl | rfl | rfl
      · exact ⟨_, _, _, upd_same, by rw [upd_ne (Ne.symm n12)]; exact g2, by rw [upd_ne (Ne.symm n13)]; exact g3⟩
      · exact ⟨_, _, _, by rw [upd_ne n12]; exact g1, upd_same, by rw [upd_ne (Ne.symm n23)]; exact g3⟩
      · exact ⟨_, _, _, by rw [upd_ne n13]; exact g1, by rw [upd_ne n23]; exact g2, upd_same⟩
    have body : ∀ {l : Addr} {xs : List V}, x = .ref l → H2 l = some (.lst xs) → (l = l1 ∨ l = l2 ∨ l = l3) → tBM0 K "list" rClear (tVar 12) (σ'.set 12 (some x)) H2 fun _ H1 => (3 - (i + 1) = 3 - (i + 1) ∧ i + 1 ≤ 3 ∧ (∀ k, 12 ≠ k → (σ'.set 12 (some x))[k]? = σ9[k]?) ∧ (σ'.set 12 (some x)).length = 13 ∧ (∃ x1 x2 x3, H1 l1 = some (.lst x1) ∧ H1 l2 = some (.lst x2) ∧ H1 l3 = some (.lst x3)) ∧ ∀ b, b ≠ l1 → b ≠ l2 → b ≠ l3 → H1 b = H9 b) := fun {l xs} e h hl => by
      subst e
      obtain ⟨w1, w2⟩ := clr rfl h hl
      exact ⟨_, List.getElem?_set_self (by rw [hlen]; decide), .inl ⟨rfl, _, SqL.of h⟩, l, xs, rfl, rfl, h, rfl, by omega, fun k hk => by rw [List.getElem?_set_ne hk]; exact hσ k hk, by rw [List.length_set]; exact hlen, w1, w2⟩
    rcases i with _ | _ | _ | i
    · cases hx; exact body rfl g1 (.inl rfl)
    · cases hx; exact body rfl g2 (.inr (.inl rfl))
    · cases hx; exact body rfl g3 (.inr (.inr rfl))
    · omega
  · have e3 : i = 3 := by omega
    subst e3
    refine .inl ⟨⟨_, SqT.of hp', by simp⟩, ?_⟩
    -- the paper's lists are out of the ground
    have hFf : ∃ Ff : Hp, Ff = upd (hide (hide (hide F9 l1) l2) l3) lN (.lst wsN) := ⟨_, rfl⟩
    obtain ⟨Ff, eFf⟩ := hFf
    have k2' : hide F9 l1 l2 = some (.lst v2) := by rw [hide_ne (Ne.symm n12)]; exact k92
    have k3' : hide (hide F9 l1) l2 l3 = some (.lst v3) := by rw [hide_ne (Ne.symm n23), hide_ne (Ne.symm n13)]; exact k93
    have aH : DpAll K (hide (hide (hide F9 l1) l2) l3) wsN (v.map dN) := dpa_hide k3' (dpa_hide k2' (dpa_hide k91 aN (lf_NL v)) (lf_NL v)) (lf_NL v)
    have hNone : hide (hide (hide F9 l1) l2) l3 lN = none := hide_none (hide_none (hide_none fN))
    have upN : Exs (hide (hide (hide F9 l1) l2) l3) Ff := by rw [eFf]; exact Exs.new hNone
    have hdo : ∀ b, b ≠ l1 → b ≠ l2 → b ≠ l3 → hide (hide (hide F9 l1) l2) l3 b = F9 b := fun b h1 h2 h3 => by rw [hide_ne h3, hide_ne h2, hide_ne h1]
    have hdn : ∀ b o, hide (hide (hide F9 l1) l2) l3 b = some o → b ≠ l1 ∧ b ≠ l2 ∧ b ≠ l3 := fun b o e => by
      refine ⟨fun z => ?_, fun z => ?_, fun z => ?_⟩
      · rw [z] at e
        have : hide (hide (hide F9 l1) l2) l3 l1 = none := hide_none (hide_none hide_same)
        rw [this] at e; cases e
      · rw [z] at e
        have : hide (hide (hide F9 l1) l2) l3 l2 = none := hide_none hide_same
        rw [this] at e; cases e
      · rw [z, hide_same] at e; cases e
    have upF : Exs Ff H' := fun b o e => by
      rw [eFf] at e
      by_cases h : b = lN
      · rw [h, upd_same] at e
        rw [h, ho lN nl1 nl2 nl3, hN]; exact e
      · rw [upd_ne h] at e
        obtain ⟨h1, h2, h3⟩ := hdn b o e
        rw [hdo b h1 h2 h3] at e
        rw [ho b h1 h2 h3]
        exact st9.ok.up b o e
    have up4F : Exs F4 Ff := fun b o e => by
      have h1 := ne_of_none e b1
      have h2 := ne_of_none e b2
      have h3 := ne_of_none e b3
      refine upN b o ?_
      rw [hdo b h1 h2 h3]
      exact st9.base.up b o (up45 b o e)
    obtain ⟨_, sa9, sb9, iSA9, iL9⟩ := st9.ok.inv
    have stF : Sta (strX K SA L cs) ⟨Ff, H'⟩ Ff H' σ' [.no, .raw (.ref SA), .d (dG g), .d (.str (dG g).shown), .no, .d (dNL v), .no, .no, .no, .no, .no, .no, .no] := by
      refine ⟨.refl ⟨upF, ⟨nSL, sa9, sb9, by show H' SA = _; rw [ho SA (Ne.symm s1a) (Ne.symm s2a) (Ne.symm s3a)]; exact iSA9, by show H' L = _; rw [ho L (Ne.symm s1b) (Ne.symm s2b) (Ne.symm s3b)]; exact iL9⟩, fun b hb => ?_⟩, hlen, fun i sv e => ?_, fun a b l x y nab ea eb mx my _ _ => ?_⟩
      · show Ff b = none
        have hb9 : F9 b = none := st9.ok.out b hb
        have hbN : b ≠ lN := fun z => nN (z ▸ hb)
        rw [eFf, upd_ne hbN]
        exact hide_none (hide_none (hide_none hb9))
      · rcases i with _ | _ | _ | _ | _ | _ | i
        · cases e; trivial
        · cases e
          show σ'[1]? = _
          rw [hσ 1 (by decide)]; exact z1
        · cases e
          exact ⟨vg, by rw [hσ 2 (by decide)]; exact z2, dp_mono up4F dvg⟩
        · cases e
          exact ⟨.str _, by rw [hσ 3 (by decide)]; exact z3, .str _⟩
        · cases e; trivial
        · cases e
          refine ⟨.ref lN, by rw [hσ 5 (by decide)]; exact z5, .lst (SqL.of ?_) (dpa_mono upN aH)⟩
          rw [eFf, upd_same]
        · have : sv = .no := by
            have h1 : sv ∈ [SV.no, .no, .no, .no, .no, .no, .no] := List.mem_of_getElem? (by simpa using e)
            simpa using h1
          rw [this]; trivial
      · rcases a with _ | _ | _ | _ | _ | _ | i
        · cases ea; cases mx
        · cases ea; cases mx
        · cases ea; cases mx
        · cases ea; cases mx
        · cases ea; cases mx
        · cases ea; cases mx
        · have : x = .no := by
            have h1 : x ∈ [SV.no, .no, .no, .no, .no, .no, .no] := List.mem_of_getElem? (by simpa using ea)
            simpa using h1
          rw [this] at mx; cases mx
    have one : ∀ {Γ : List SV} {ta : TE}, EvM (strX K SA L cs) ⟨Ff, H'⟩ ta Γ (v.map dN) → Γ[5]? = some (.d (dNL v)) → EvD (strX K SA L cs) ⟨Ff, H'⟩ (tOp (rEqD K) ta (tVar 5)) Γ (.bool true) := fun h h5 =>
      EvP.is (ev_eqD h.d (ev_var (x := dNL v) h5) (dNL_shp v) (dNL_shp v)) (by rw [show PyData.eqv (.list (v.map dN)) (dNL v) = decide (v = v) from dNL_eqv v v]; simp)
    exact (show SG (strX K SA L cs) ⟨Ff, H'⟩ _ _ { nx := fun _ => False, rt := fun r => r = .d (.bool true) } from
      sg_retD (ev_andV (a := true) (b := true) (one (stk rfl (ev_var (i := 2) (x := dG g))) rfl) fun _ => ev_andV (a := true) (b := true) (one (ev_mt0 (P := fun r => ∃ σ τ, r = .mt [v.map dN, σ, τ]) (ev_call (A := A_stakes_paper) (ea_cons (ev_var (i := 2) (x := dG g)) ea_nil) ⟨g, wt, rfl, W, fun v' σ' τ' a b c d e => ⟨σ'.map dO, τ'.map dO, by rw [one_value ⟨W, a, b⟩ Po c hv d e oo ot]⟩⟩) fun r ⟨σ', τ', e⟩ => ⟨_, _, e, rfl⟩) rfl) fun _ =>
        EvP.is (ev_eqS (ev_repr (ev_var (i := 2) (x := dG g)) r1 r2 r3 r4) (ev_var (i := 3) (x := .str (dG g).shown))) (by simp [dG])) rfl)
      Ff D ⟨fun _ _ _ _ g => g.elim, fun r v F H e _ _ ro => hD v H (dp_bool (by rw [e] at ro; exact ro)), fun _ _ _ _ g => g.elim, fun _ _ _ _ g => g.elim⟩ Ff H' σ' (Exs.refl _) stF
end
end Odd
set_option Elab.async false
set_option linter.all false
set_option maxRecDepth 100000
set_option maxHeartbeats 0
namespace Odd
open PySem PySem.Spec PyProof.Rows L2
section
variable {P : Program} {w : World} {K : PySem.W.Frag} {mg : Str → Option Value} {base h : Heap}
theorem st_law_draw (X : K.In h) (G : h.Ns mainGlobals mg) (c : He.SaysD hfa hfn K) : Stands K mg "_law_draw" 45 ["_law_stream", "_law_many"] := by
  obtain ⟨fd, F⟩ := c.def_ 31 (d := mkD "_law_draw" 45) rfl
  exact ⟨_, fd, F, He.glo_ok X G (c.fact 31 (f := .glo "_law_draw") rfl), F.bindsN fun _ _ _ _ _ _ us hl => match us, hl with | [_, _], _ => rfl⟩
theorem st_law_number (X : K.In h) (G : h.Ns mainGlobals mg) (c : He.SaysD hfa hfn K) : Stands K mg "_law_number" 46 ["_law_n", "_law_d"] := by
  obtain ⟨fd, F⟩ := c.def_ 32 (d := mkD "_law_number" 46) rfl
  exact ⟨_, fd, F, He.glo_ok X G (c.fact 32 (f := .glo "_law_number") rfl), F.bindsN fun _ _ _ _ _ _ us hl => match us, hl with | [_, _], _ => rfl⟩
theorem st_law_shares (X : K.In h) (G : h.Ns mainGlobals mg) (c : He.SaysD hfa hfn K) : Stands K mg "_law_shares" 54 ["_law_stream", "_law_many"] := by
  obtain ⟨fd, F⟩ := c.def_ 40 (d := mkD "_law_shares" 54) rfl
  exact ⟨_, fd, F, He.glo_ok X G (c.fact 40 (f := .glo "_law_shares") rfl), F.bindsN fun _ _ _ _ _ _ us hl => match us, hl with | [_, _], _ => rfl⟩
theorem st_law_ending_place (X : K.In h) (G : h.Ns mainGlobals mg) (c : He.SaysD hfa hfn K) : Stands K mg "_law_ending_place" 62 ["_law_stream", "_law_place_here", "_law_many"] := by
  obtain ⟨fd, F⟩ := c.def_ 48 (d := mkD "_law_ending_place" 62) rfl
  exact ⟨_, fd, F, He.glo_ok X G (c.fact 48 (f := .glo "_law_ending_place") rfl), F.bindsN fun _ _ _ _ _ _ us hl => match us, hl with | [_, _, _], _ => rfl⟩
theorem st_law_ending_game (X : K.In h) (G : h.Ns mainGlobals mg) (c : He.SaysD hfa hfn K) : Stands K mg "_law_ending_game" 63 ["_law_stream", "_law_most"] := by
  obtain ⟨fd, F⟩ := c.def_ 49 (d := mkD "_law_ending_game" 63) rfl
  exact ⟨_, fd, F, He.glo_ok X G (c.fact 49 (f := .glo "_law_ending_game") rfl), F.bindsN fun _ _ _ _ _ _ us hl => match us, hl with | [_, _], _ => rfl⟩
theorem st_targets (X : K.In h) (G : h.Ns mainGlobals mg) (c : He.SaysD hfa hfn K) : Stands K mg "targets" 14 ["game", "place"] := by
  obtain ⟨fd, F⟩ := c.def_ 6 (d := mkD "targets" 14) rfl
  exact ⟨_, fd, F, He.glo_ok X G (c.fact 6 (f := .glo "targets") rfl), F.bindsN fun _ _ _ _ _ _ us hl => match us, hl with | [_, _], _ => rfl⟩
theorem st_always_ends (X : K.In h) (G : h.Ns mainGlobals mg) (c : He.SaysD hfa hfn K) : Stands K mg "always_ends" 19 ["game"] := by
  obtain ⟨fd, F⟩ := c.def_ 10 (d := mkD "always_ends" 19) rfl
  exact ⟨_, fd, F, He.glo_ok X G (c.fact 10 (f := .glo "always_ends") rfl), F.bindsN fun _ _ _ _ _ _ us hl => match us, hl with | [_], _ => rfl⟩
theorem st_check_ending (X : K.In h) (G : h.Ns mainGlobals mg) (c : He.SaysD hfa hfn K) : Stands K mg "check_ending" 37 ["game"] := by
  obtain ⟨fd, F⟩ := c.def_ 24 (d := mkD "check_ending" 37) rfl
  exact ⟨_, fd, F, He.glo_ok X G (c.fact 24 (f := .glo "check_ending") rfl), F.bindsN fun _ _ _ _ _ _ us hl => match us, hl with | [_], _ => rfl⟩
theorem st_first_strategy (X : K.In h) (G : h.Ns mainGlobals mg) (c : He.SaysD hfa hfn K) : Stands K mg "first_strategy" 39 ["game", "side"] := by
  obtain ⟨fd, F⟩ := c.def_ 26 (d := mkD "first_strategy" 39) rfl
  exact ⟨_, fd, F, He.glo_ok X G (c.fact 26 (f := .glo "first_strategy") rfl), F.bindsN fun _ _ _ _ _ _ us hl => match us, hl with | [_, _], _ => rfl⟩
theorem st_reached (X : K.In h) (G : h.Ns mainGlobals mg) (c : He.SaysD hfa hfn K) : Stands K mg "reached" 17 ["game", "place"] := by
  obtain ⟨fd, F⟩ := c.def_ 9 (d := mkD "reached" 17) rfl
  exact ⟨_, fd, F, He.glo_ok X G (c.fact 9 (f := .glo "reached") rfl), F.bindsN fun _ _ _ _ _ _ us hl => match us, hl with | [_, _], _ => rfl⟩
theorem st_all_reached (X : K.In h) (G : h.Ns mainGlobals mg) (c : He.SaysD hfa hfn K) : Stands K mg "all_reached" 28 ["chain"] := by
  obtain ⟨fd, F⟩ := c.def_ 17 (d := mkD "all_reached" 28) rfl
  exact ⟨_, fd, F, He.glo_ok X G (c.fact 17 (f := .glo "all_reached") rfl), F.bindsN fun _ _ _ _ _ _ us hl => match us, hl with | [_], _ => rfl⟩
theorem st_closed_classes (X : K.In h) (G : h.Ns mainGlobals mg) (c : He.SaysD hfa hfn K) : Stands K mg "closed_classes" 30 ["chain"] := by
  obtain ⟨fd, F⟩ := c.def_ 19 (d := mkD "closed_classes" 30) rfl
  exact ⟨_, fd, F, He.glo_ok X G (c.fact 19 (f := .glo "closed_classes") rfl), F.bindsN fun _ _ _ _ _ _ us hl => match us, hl with | [_], _ => rfl⟩
theorem st_number (X : K.In h) (G : h.Ns mainGlobals mg) (c : He.SaysD hfa hfn K) : Stands K mg "number" 7 ["n", "d"] := by
  obtain ⟨fd, F⟩ := c.def_ 0 (d := mkD "number" 7) rfl
  exact ⟨_, fd, F, He.glo_ok X G (c.fact 0 (f := .glo "number") rfl), F.bindsN fun _ _ _ _ _ _ us hl => match us, hl with | [_, _], _ => rfl⟩
theorem st_times (X : K.In h) (G : h.Ns mainGlobals mg) (c : He.SaysD hfa hfn K) : Stands K mg "times" 11 ["a", "b"] := by
  obtain ⟨fd, F⟩ := c.def_ 4 (d := mkD "times" 11) rfl
  exact ⟨_, fd, F, He.glo_ok X G (c.fact 4 (f := .glo "times") rfl), F.bindsN fun _ _ _ _ _ _ us hl => match us, hl with | [_, _], _ => rfl⟩
theorem st_scaled (X : K.In h) (G : h.Ns mainGlobals mg) (c : He.SaysD hfa hfn K) : Stands K mg "scaled" 21 ["line", "by"] := by
  obtain ⟨fd, F⟩ := c.def_ 11 (d := mkD "scaled" 21) rfl
  exact ⟨_, fd, F, He.glo_ok X G (c.fact 11 (f := .glo "scaled") rfl), F.bindsN fun _ _ _ _ _ _ us hl => match us, hl with | [_, _], _ => rfl⟩
theorem st_divided (X : K.In h) (G : h.Ns mainGlobals mg) (c : He.SaysD hfa hfn K) : Stands K mg "divided" 12 ["a", "b"] := by
  obtain ⟨fd, F⟩ := c.def_ 5 (d := mkD "divided" 12) rfl
  exact ⟨_, fd, F, He.glo_ok X G (c.fact 5 (f := .glo "divided") rfl), F.bindsN fun _ _ _ _ _ _ us hl => match us, hl with | [_, _], _ => rfl⟩
theorem st_minus (X : K.In h) (G : h.Ns mainGlobals mg) (c : He.SaysD hfa hfn K) : Stands K mg "minus" 10 ["a", "b"] := by
  obtain ⟨fd, F⟩ := c.def_ 3 (d := mkD "minus" 10) rfl
  exact ⟨_, fd, F, He.glo_ok X G (c.fact 3 (f := .glo "minus") rfl), F.bindsN fun _ _ _ _ _ _ us hl => match us, hl with | [_, _], _ => rfl⟩
theorem st_without (X : K.In h) (G : h.Ns mainGlobals mg) (c : He.SaysD hfa hfn K) : Stands K mg "without" 22 ["line", "place", "other"] := by
  obtain ⟨fd, F⟩ := c.def_ 12 (d := mkD "without" 22) rfl
  exact ⟨_, fd, F, He.glo_ok X G (c.fact 12 (f := .glo "without") rfl), F.bindsN fun _ _ _ _ _ _ us hl => match us, hl with | [_, _, _], _ => rfl⟩
theorem st_reduced (X : K.In h) (G : h.Ns mainGlobals mg) (c : He.SaysD hfa hfn K) : Stands K mg "reduced" 23 ["count", "rows"] := by
  obtain ⟨fd, F⟩ := c.def_ 13 (d := mkD "reduced" 23) rfl
  exact ⟨_, fd, F, He.glo_ok X G (c.fact 13 (f := .glo "reduced") rfl), F.bindsN fun _ _ _ _ _ _ us hl => match us, hl with | [_, _], _ => rfl⟩
theorem st_solution_of (X : K.In h) (G : h.Ns mainGlobals mg) (c : He.SaysD hfa hfn K) : Stands K mg "solution_of" 24 ["count", "solved"] := by
  obtain ⟨fd, F⟩ := c.def_ 14 (d := mkD "solution_of" 24) rfl
  exact ⟨_, fd, F, He.glo_ok X G (c.fact 14 (f := .glo "solution_of") rfl), F.bindsN fun _ _ _ _ _ _ us hl => match us, hl with | [_, _], _ => rfl⟩
theorem st_only_solution (X : K.In h) (G : h.Ns mainGlobals mg) (c : He.SaysD hfa hfn K) : Stands K mg "only_solution" 25 ["count", "rows"] := by
  obtain ⟨fd, F⟩ := c.def_ 15 (d := mkD "only_solution" 25) rfl
  exact ⟨_, fd, F, He.glo_ok X G (c.fact 15 (f := .glo "only_solution") rfl), F.bindsN fun _ _ _ _ _ _ us hl => match us, hl with | [_, _], _ => rfl⟩
theorem st_branches (X : K.In h) (G : h.Ns mainGlobals mg) (c : He.SaysD hfa hfn K) : Stands K mg "branches" 27 ["chain", "place"] := by
  obtain ⟨fd, F⟩ := c.def_ 16 (d := mkD "branches" 27) rfl
  exact ⟨_, fd, F, He.glo_ok X G (c.fact 16 (f := .glo "branches") rfl), F.bindsN fun _ _ _ _ _ _ us hl => match us, hl with | [_, _], _ => rfl⟩
theorem st_plus (X : K.In h) (G : h.Ns mainGlobals mg) (c : He.SaysD hfa hfn K) : Stands K mg "plus" 9 ["a", "b"] := by
  obtain ⟨fd, F⟩ := c.def_ 2 (d := mkD "plus" 9) rfl
  exact ⟨_, fd, F, He.glo_ok X G (c.fact 2 (f := .glo "plus") rfl), F.bindsN fun _ _ _ _ _ _ us hl => match us, hl with | [_, _], _ => rfl⟩
theorem st_means (X : K.In h) (G : h.Ns mainGlobals mg) (c : He.SaysD hfa hfn K) : Stands K mg "means" 29 ["chain", "unknown", "gains", "known"] := by
  obtain ⟨fd, F⟩ := c.def_ 18 (d := mkD "means" 29) rfl
  exact ⟨_, fd, F, He.glo_ok X G (c.fact 18 (f := .glo "means") rfl), F.bindsN fun _ _ _ _ _ _ us hl => match us, hl with | [_, _, _, _], _ => rfl⟩
theorem st_expected (X : K.In h) (G : h.Ns mainGlobals mg) (c : He.SaysD hfa hfn K) : Stands K mg "expected" 31 ["chain", "gains", "endless"] := by
  obtain ⟨fd, F⟩ := c.def_ 20 (d := mkD "expected" 31) rfl
  exact ⟨_, fd, F, He.glo_ok X G (c.fact 20 (f := .glo "expected") rfl), F.bindsN fun _ _ _ _ _ _ us hl => match us, hl with | [_, _, _], _ => rfl⟩
theorem st_expected_rewards (X : K.In h) (G : h.Ns mainGlobals mg) (c : He.SaysD hfa hfn K) : Stands K mg "expected_rewards" 32 ["chain"] := by
  obtain ⟨fd, F⟩ := c.def_ 21 (d := mkD "expected_rewards" 32) rfl
  exact ⟨_, fd, F, He.glo_ok X G (c.fact 21 (f := .glo "expected_rewards") rfl), F.bindsN fun _ _ _ _ _ _ us hl => match us, hl with | [_], _ => rfl⟩
theorem st_copy_of (X : K.In h) (G : h.Ns mainGlobals mg) (c : He.SaysD hfa hfn K) : Stands K mg "copy_of" 15 ["place"] := by
  obtain ⟨fd, F⟩ := c.def_ 7 (d := mkD "copy_of" 15) rfl
  exact ⟨_, fd, F, He.glo_ok X G (c.fact 7 (f := .glo "copy_of") rfl), F.bindsN fun _ _ _ _ _ _ us hl => match us, hl with | [_], _ => rfl⟩
theorem st_with_strategy (X : K.In h) (G : h.Ns mainGlobals mg) (c : He.SaysD hfa hfn K) : Stands K mg "with_strategy" 16 ["game", "side", "strategy"] := by
  obtain ⟨fd, F⟩ := c.def_ 8 (d := mkD "with_strategy" 16) rfl
  exact ⟨_, fd, F, He.glo_ok X G (c.fact 8 (f := .glo "with_strategy") rfl), F.bindsN fun _ _ _ _ _ _ us hl => match us, hl with | [_, _, _], _ => rfl⟩
theorem st_followed (X : K.In h) (G : h.Ns mainGlobals mg) (c : He.SaysD hfa hfn K) : Stands K mg "followed" 38 ["game", "ours", "theirs"] := by
  obtain ⟨fd, F⟩ := c.def_ 25 (d := mkD "followed" 38) rfl
  exact ⟨_, fd, F, He.glo_ok X G (c.fact 25 (f := .glo "followed") rfl), F.bindsN fun _ _ _ _ _ _ us hl => match us, hl with | [_, _, _], _ => rfl⟩
theorem st_compare (X : K.In h) (G : h.Ns mainGlobals mg) (c : He.SaysD hfa hfn K) : Stands K mg "compare" 8 ["a", "b"] := by
  obtain ⟨fd, F⟩ := c.def_ 1 (d := mkD "compare" 8) rfl
  exact ⟨_, fd, F, He.glo_ok X G (c.fact 1 (f := .glo "compare") rfl), F.bindsN fun _ _ _ _ _ _ us hl => match us, hl with | [_, _], _ => rfl⟩
theorem st_greatest (X : K.In h) (G : h.Ns mainGlobals mg) (c : He.SaysD hfa hfn K) : Stands K mg "greatest" 34 ["numbers"] := by
  obtain ⟨fd, F⟩ := c.def_ 22 (d := mkD "greatest" 34) rfl
  exact ⟨_, fd, F, He.glo_ok X G (c.fact 22 (f := .glo "greatest") rfl), F.bindsN fun _ _ _ _ _ _ us hl => match us, hl with | [_], _ => rfl⟩
theorem st_least (X : K.In h) (G : h.Ns mainGlobals mg) (c : He.SaysD hfa hfn K) : Stands K mg "least" 35 ["numbers"] := by
  obtain ⟨fd, F⟩ := c.def_ 23 (d := mkD "least" 35) rfl
  exact ⟨_, fd, F, He.glo_ok X G (c.fact 23 (f := .glo "least") rfl), F.bindsN fun _ _ _ _ _ _ us hl => match us, hl with | [_], _ => rfl⟩
theorem st_improved_by (X : K.In h) (G : h.Ns mainGlobals mg) (c : He.SaysD hfa hfn K) : Stands K mg "improved_by" 40 ["game", "side", "strategy", "numbers"] := by
  obtain ⟨fd, F⟩ := c.def_ 27 (d := mkD "improved_by" 40) rfl
  exact ⟨_, fd, F, He.glo_ok X G (c.fact 27 (f := .glo "improved_by") rfl), F.bindsN fun _ _ _ _ _ _ us hl => match us, hl with | [_, _, _, _], _ => rfl⟩
theorem st_answer_to (X : K.In h) (G : h.Ns mainGlobals mg) (c : He.SaysD hfa hfn K) : Stands K mg "answer_to" 41 ["game", "ours"] := by
  obtain ⟨fd, F⟩ := c.def_ 28 (d := mkD "answer_to" 41) rfl
  exact ⟨_, fd, F, He.glo_ok X G (c.fact 28 (f := .glo "answer_to") rfl), F.bindsN fun _ _ _ _ _ _ us hl => match us, hl with | [_, _], _ => rfl⟩
theorem st_stakes_paper (X : K.In h) (G : h.Ns mainGlobals mg) (c : He.SaysD hfa hfn K) : Stands K mg "stakes_paper" 42 ["game"] := by
  obtain ⟨fd, F⟩ := c.def_ 29 (d := mkD "stakes_paper" 42) rfl
  exact ⟨_, fd, F, He.glo_ok X G (c.fact 29 (f := .glo "stakes_paper") rfl), F.bindsN fun _ _ _ _ _ _ us hl => match us, hl with | [_], _ => rfl⟩
theorem st_law_put_in (X : K.In h) (G : h.Ns mainGlobals mg) (c : He.SaysD hfa hfn K) : Stands K mg "_law_put_in" 66 ["_law_game_here", "_law_side", "_law_strategy_here"] := by
  obtain ⟨fd, F⟩ := c.def_ 52 (d := mkD "_law_put_in" 66) rfl
  exact ⟨_, fd, F, He.glo_ok X G (c.fact 52 (f := .glo "_law_put_in") rfl), F.bindsN fun _ _ _ _ _ _ us hl => match us, hl with | [_, _, _], _ => rfl⟩
theorem st_law_divided (X : K.In h) (G : h.Ns mainGlobals mg) (c : He.SaysD hfa hfn K) : Stands K mg "_law_divided" 59 ["_law_a", "_law_b"] := by
  obtain ⟨fd, F⟩ := c.def_ 45 (d := mkD "_law_divided" 59) rfl
  exact ⟨_, fd, F, He.glo_ok X G (c.fact 45 (f := .glo "_law_divided") rfl), F.bindsN fun _ _ _ _ _ _ us hl => match us, hl with | [_, _], _ => rfl⟩
theorem st_law_plus (X : K.In h) (G : h.Ns mainGlobals mg) (c : He.SaysD hfa hfn K) : Stands K mg "_law_plus" 47 ["_law_a", "_law_b"] := by
  obtain ⟨fd, F⟩ := c.def_ 33 (d := mkD "_law_plus" 47) rfl
  exact ⟨_, fd, F, He.glo_ok X G (c.fact 33 (f := .glo "_law_plus") rfl), F.bindsN fun _ _ _ _ _ _ us hl => match us, hl with | [_, _], _ => rfl⟩
theorem st_law_minus (X : K.In h) (G : h.Ns mainGlobals mg) (c : He.SaysD hfa hfn K) : Stands K mg "_law_minus" 49 ["_law_a", "_law_b"] := by
  obtain ⟨fd, F⟩ := c.def_ 35 (d := mkD "_law_minus" 49) rfl
  exact ⟨_, fd, F, He.glo_ok X G (c.fact 35 (f := .glo "_law_minus") rfl), F.bindsN fun _ _ _ _ _ _ us hl => match us, hl with | [_, _], _ => rfl⟩
theorem st_law_times (X : K.In h) (G : h.Ns mainGlobals mg) (c : He.SaysD hfa hfn K) : Stands K mg "_law_times" 48 ["_law_a", "_law_b"] := by
  obtain ⟨fd, F⟩ := c.def_ 34 (d := mkD "_law_times" 48) rfl
  exact ⟨_, fd, F, He.glo_ok X G (c.fact 34 (f := .glo "_law_times") rfl), F.bindsN fun _ _ _ _ _ _ us hl => match us, hl with | [_, _], _ => rfl⟩
theorem st_law_solved (X : K.In h) (G : h.Ns mainGlobals mg) (c : He.SaysD hfa hfn K) : Stands K mg "_law_solved" 60 ["_law_rows"] := by
  obtain ⟨fd, F⟩ := c.def_ 46 (d := mkD "_law_solved" 60) rfl
  exact ⟨_, fd, F, He.glo_ok X G (c.fact 46 (f := .glo "_law_solved") rfl), F.bindsN fun _ _ _ _ _ _ us hl => match us, hl with | [_], _ => rfl⟩
theorem st_law_targets (X : K.In h) (G : h.Ns mainGlobals mg) (c : He.SaysD hfa hfn K) : Stands K mg "_law_targets" 57 ["_law_place_here"] := by
  obtain ⟨fd, F⟩ := c.def_ 43 (d := mkD "_law_targets" 57) rfl
  exact ⟨_, fd, F, He.glo_ok X G (c.fact 43 (f := .glo "_law_targets") rfl), F.bindsN fun _ _ _ _ _ _ us hl => match us, hl with | [_], _ => rfl⟩
theorem st_law_row (X : K.In h) (G : h.Ns mainGlobals mg) (c : He.SaysD hfa hfn K) : Stands K mg "_law_row" 61 ["_law_game_here", "_law_place_here", "_law_many"] := by
  obtain ⟨fd, F⟩ := c.def_ 47 (d := mkD "_law_row" 61) rfl
  exact ⟨_, fd, F, He.glo_ok X G (c.fact 47 (f := .glo "_law_row") rfl), F.bindsN fun _ _ _ _ _ _ us hl => match us, hl with | [_, _, _], _ => rfl⟩
theorem st_law_expected (X : K.In h) (G : h.Ns mainGlobals mg) (c : He.SaysD hfa hfn K) : Stands K mg "_law_expected" 67 ["_law_game_here", "_law_ours", "_law_theirs"] := by
  obtain ⟨fd, F⟩ := c.def_ 53 (d := mkD "_law_expected" 67) rfl
  exact ⟨_, fd, F, He.glo_ok X G (c.fact 53 (f := .glo "_law_expected") rfl), F.bindsN fun _ _ _ _ _ _ us hl => match us, hl with | [_, _, _], _ => rfl⟩
theorem st_law_dues (X : K.In h) (G : h.Ns mainGlobals mg) (c : He.SaysD hfa hfn K) : Stands K mg "_law_dues" 68 ["_law_game_here", "_law_place_here", "_law_numbers", "_law_side", "_law_strategy_here"] := by
  obtain ⟨fd, F⟩ := c.def_ 54 (d := mkD "_law_dues" 68) rfl
  exact ⟨_, fd, F, He.glo_ok X G (c.fact 54 (f := .glo "_law_dues") rfl), F.bindsN fun _ _ _ _ _ _ us hl => match us, hl with | [_, _, _, _, _], _ => rfl⟩
theorem st_law_is_number (X : K.In h) (G : h.Ns mainGlobals mg) (c : He.SaysD hfa hfn K) : Stands K mg "_law_is_number" 52 ["_law_actual"] := by
  obtain ⟨fd, F⟩ := c.def_ 38 (d := mkD "_law_is_number" 52) rfl
  exact ⟨_, fd, F, He.glo_ok X G (c.fact 38 (f := .glo "_law_is_number") rfl), F.bindsN fun _ _ _ _ _ _ us hl => match us, hl with | [_], _ => rfl⟩
theorem st_law_are_numbers (X : K.In h) (G : h.Ns mainGlobals mg) (c : He.SaysD hfa hfn K) : Stands K mg "_law_are_numbers" 53 ["_law_actual", "_law_many"] := by
  obtain ⟨fd, F⟩ := c.def_ 39 (d := mkD "_law_are_numbers" 53) rfl
  exact ⟨_, fd, F, He.glo_ok X G (c.fact 39 (f := .glo "_law_are_numbers") rfl), F.bindsN fun _ _ _ _ _ _ us hl => match us, hl with | [_, _], _ => rfl⟩
theorem st_law_is_strategy (X : K.In h) (G : h.Ns mainGlobals mg) (c : He.SaysD hfa hfn K) : Stands K mg "_law_is_strategy" 69 ["_law_game_here", "_law_side", "_law_strategy_here"] := by
  obtain ⟨fd, F⟩ := c.def_ 55 (d := mkD "_law_is_strategy" 69) rfl
  exact ⟨_, fd, F, He.glo_ok X G (c.fact 55 (f := .glo "_law_is_strategy") rfl), F.bindsN fun _ _ _ _ _ _ us hl => match us, hl with | [_, _, _], _ => rfl⟩
theorem st_law_less (X : K.In h) (G : h.Ns mainGlobals mg) (c : He.SaysD hfa hfn K) : Stands K mg "_law_less" 50 ["_law_a", "_law_b"] := by
  obtain ⟨fd, F⟩ := c.def_ 36 (d := mkD "_law_less" 50) rfl
  exact ⟨_, fd, F, He.glo_ok X G (c.fact 36 (f := .glo "_law_less") rfl), F.bindsN fun _ _ _ _ _ _ us hl => match us, hl with | [_, _], _ => rfl⟩
theorem st_law_are_upper (X : K.In h) (G : h.Ns mainGlobals mg) (c : He.SaysD hfa hfn K) : Stands K mg "_law_are_upper" 70 ["_law_game_here", "_law_numbers", "_law_theirs"] := by
  obtain ⟨fd, F⟩ := c.def_ 56 (d := mkD "_law_are_upper" 70) rfl
  exact ⟨_, fd, F, He.glo_ok X G (c.fact 56 (f := .glo "_law_are_upper") rfl), F.bindsN fun _ _ _ _ _ _ us hl => match us, hl with | [_, _, _], _ => rfl⟩
theorem st_law_are_lower (X : K.In h) (G : h.Ns mainGlobals mg) (c : He.SaysD hfa hfn K) : Stands K mg "_law_are_lower" 71 ["_law_game_here", "_law_numbers", "_law_ours"] := by
  obtain ⟨fd, F⟩ := c.def_ 57 (d := mkD "_law_are_lower" 71) rfl
  exact ⟨_, fd, F, He.glo_ok X G (c.fact 57 (f := .glo "_law_are_lower") rfl), F.bindsN fun _ _ _ _ _ _ us hl => match us, hl with | [_, _, _], _ => rfl⟩
theorem st_law_is_paper (X : K.In h) (G : h.Ns mainGlobals mg) (c : He.SaysD hfa hfn K) : Stands K mg "_law_is_paper" 72 ["_law_game_here", "_law_paper"] := by
  obtain ⟨fd, F⟩ := c.def_ 58 (d := mkD "_law_is_paper" 72) rfl
  exact ⟨_, fd, F, He.glo_ok X G (c.fact 58 (f := .glo "_law_is_paper") rfl), F.bindsN fun _ _ _ _ _ _ us hl => match us, hl with | [_, _], _ => rfl⟩
theorem st_stakes (X : K.In h) (G : h.Ns mainGlobals mg) (c : He.SaysD hfa hfn K) : Stands K mg "stakes" 43 ["game"] := by
  obtain ⟨fd, F⟩ := c.def_ 30 (d := mkD "stakes" 43) rfl
  exact ⟨_, fd, F, He.glo_ok X G (c.fact 30 (f := .glo "stakes") rfl), F.bindsN fun _ _ _ _ _ _ us hl => match us, hl with | [_], _ => rfl⟩
theorem st_law_strategy (X : K.In h) (G : h.Ns mainGlobals mg) (c : He.SaysD hfa hfn K) : Stands K mg "_law_strategy" 65 ["_law_stream", "_law_game_here", "_law_side"] := by
  obtain ⟨fd, F⟩ := c.def_ 51 (d := mkD "_law_strategy" 65) rfl
  exact ⟨_, fd, F, He.glo_ok X G (c.fact 51 (f := .glo "_law_strategy") rfl), F.bindsN fun _ _ _ _ _ _ us hl => match us, hl with | [_, _, _], _ => rfl⟩
theorem st_law (X : K.In h) (G : h.Ns mainGlobals mg) (c : He.SaysD hfa hfn K) : Stands K mg "law" 73 ["_law_script"] := by
  obtain ⟨fd, F⟩ := c.def_ 59 (d := mkD "law" 73) rfl
  exact ⟨_, fd, F, He.glo_ok X G (c.fact 59 (f := .glo "law") rfl), F.bindsN fun _ _ _ _ _ _ us hl => match us, hl with | [_], _ => rfl⟩
theorem txt (X : K.In h) (G : h.Ns mainGlobals mg) (c : He.SaysD hfa hfn K) (e : exB K = true) : Nonempty (Txt K mg) := by
  obtain ⟨e1, e2⟩ := He.ba e
  obtain ⟨e3, e4⟩ := He.ba e2
  exact ⟨{ aN := He.ga K "NOUGHT", aO := He.ga K "ONE", gN := He.glo_ok X G (c.fact 60 (f := .glo "NOUGHT") rfl), gO := He.glo_ok X G (c.fact 61 (f := .glo "ONE") rfl), tN := (fun H => He.tupB_ok e1 H), tO := (fun H => He.tupB_ok e3 H), gcd := PySem.W.mg_of X G (He.eqO_ok e4), int := He.free_ok X G (c.fact 62 (f := .free "int") rfl), list := He.free_ok X G (c.fact 63 (f := .free "list") rfl), len := He.free_ok X G (c.fact 64 (f := .free "len") rfl), any := He.free_ok X G (c.fact 65 (f := .free "any") rfl), all := He.free_ok X G (c.fact 66 (f := .free "all") rfl), enumerate := He.free_ok X G (c.fact 67 (f := .free "enumerate") rfl), zip := He.free_ok X G (c.fact 68 (f := .free "zip") rfl), range := He.free_ok X G (c.fact 69 (f := .free "range") rfl), sorted := He.free_ok X G (c.fact 70 (f := .free "sorted") rfl), abs := He.free_ok X G (c.fact 71 (f := .free "abs") rfl), isinstance := He.free_ok X G (c.fact 72 (f := .free "isinstance") rfl), sum := He.free_ok X G (c.fact 73 (f := .free "sum") rfl), repr := He.free_ok X G (c.fact 74 (f := .free "repr") rfl), tuple := He.free_ok X G (c.fact 75 (f := .free "tuple") rfl), bool := He.free_ok X G (c.fact 76 (f := .free "bool") rfl) }⟩
/-- the law's body, from the module's facts -/
theorem law_body (X : K.In h) (G : h.Ns mainGlobals mg) (c : He.SaysD hfa hfn K) (e : exB K = true) (hN : base.NoSeer) (ht : P.given.tree = none) {f : Addr} {cdv : Value} {outer : List Env} {s : Shared} {H : Hp} {E : XK}
    (hr : Room 45 (callerA.deeper (PyProof.Rows.envOfC "law" (defScope (top 73)) s.heap.objs.size f cdv))) (hcd : PySem.W.codeIn K cdv "law" = true) :
    ∃ t, PSs (cxOf CX0 P w K mg base lawN "law" (defScope (top 73)) f cdv callerA outer s H E).nox (defBody (top 73)) t ∧
      ∀ (H0 : Hp) (a : Addr) (cs : List Int) (D : Ends), SqL K H0 a (cs.map V.int) → (∀ v H', v = .bl true → D.rt v H') → t D (L2.start lawN [.ref a]) H0 := by
  obtain ⟨T⟩ := txt X G c e
  have D_law_draw : DefOk P w K mg base "_law_draw" ["_law_stream", "_law_many"] 1 (spS K A_law_draw) := d_law_draw T (st_law_draw X G c)
  have D_law_number : DefOk P w K mg base "_law_number" ["_law_n", "_law_d"] 33 (SpR (.pure K) A_law_number) := d_law_number T (st_law_number X G c) hN ht
  have D_law_shares : DefOk P w K mg base "_law_shares" ["_law_stream", "_law_many"] 34 (spS K A_law_shares) := d_law_shares T (st_law_shares X G c) D_law_number D_law_draw
  have D_law_ending_place : DefOk P w K mg base "_law_ending_place" ["_law_stream", "_law_place_here", "_law_many"] 35 (spS K A_law_ending_place) := d_law_ending_place T (st_law_ending_place X G c) D_law_draw D_law_shares D_law_number
  have D_law_ending_game : DefOk P w K mg base "_law_ending_game" ["_law_stream", "_law_most"] 36 (spS K A_law_ending_game) := d_law_ending_game T (st_law_ending_game X G c) D_law_draw D_law_ending_place
  have D_targets : DefOk P w K mg base "targets" ["game", "place"] 1 (SpR (.pure K) A_targets) := d_targets T (st_targets X G c)
  have D_always_ends : DefOk P w K mg base "always_ends" ["game"] 2 (SpR (.pure K) A_always_ends) := d_always_ends T (st_always_ends X G c) D_targets
  have D_check_ending : DefOk P w K mg base "check_ending" ["game"] 3 (SpR (.pure K) A_check_ending) := d_check_ending T (st_check_ending X G c) D_always_ends
  have D_first_strategy : DefOk P w K mg base "first_strategy" ["game", "side"] 1 (SpR (.pure K) A_first_strategy) := d_first_strategy T (st_first_strategy X G c)
  have D_reached : DefOk P w K mg base "reached" ["game", "place"] 2 (SpR (.pure K) A_reached) := d_reached T (st_reached X G c) D_targets
  have D_all_reached : DefOk P w K mg base "all_reached" ["chain"] 3 (SpR (.pure K) A_all_reached) := d_all_reached T (st_all_reached X G c) D_reached
  have D_closed_classes : DefOk P w K mg base "closed_classes" ["chain"] 4 (SpR (.pure K) A_closed_classes) := d_closed_classes T (st_closed_classes X G c) D_all_reached
  have D_number : DefOk P w K mg base "number" ["n", "d"] 33 (SpR (.pure K) A_number) := d_number T (st_number X G c) hN ht
  have D_times : DefOk P w K mg base "times" ["a", "b"] 34 (SpR (.pure K) A_times) := d_times T (st_times X G c) D_number
  have D_scaled : DefOk P w K mg base "scaled" ["line", "by"] 35 (SpR (.pure K) A_scaled) := d_scaled T (st_scaled X G c) D_times
  have D_divided : DefOk P w K mg base "divided" ["a", "b"] 34 (SpR (.pure K) A_divided) := d_divided T (st_divided X G c) D_number
  have D_minus : DefOk P w K mg base "minus" ["a", "b"] 34 (SpR (.pure K) A_minus) := d_minus T (st_minus X G c) D_number
  have D_without : DefOk P w K mg base "without" ["line", "place", "other"] 36 (SpR (.pure K) A_without) := d_without T (st_without X G c) D_scaled D_minus
  have D_reduced : DefOk P w K mg base "reduced" ["count", "rows"] 37 (SpR (.pure K) A_reduced) := d_reduced T (st_reduced X G c) D_scaled D_divided D_without
  have D_solution_of : DefOk P w K mg base "solution_of" ["count", "solved"] 1 (SpR (.pure K) A_solution_of) := d_solution_of T (st_solution_of X G c)
  have D_only_solution : DefOk P w K mg base "only_solution" ["count", "rows"] 38 (SpR (.pure K) A_only_solution) := d_only_solution T (st_only_solution X G c) D_reduced D_solution_of
  have D_branches : DefOk P w K mg base "branches" ["chain", "place"] 1 (SpR (.pure K) A_branches) := d_branches T (st_branches X G c)
  have D_plus : DefOk P w K mg base "plus" ["a", "b"] 34 (SpR (.pure K) A_plus) := d_plus T (st_plus X G c) D_number
  have D_means : DefOk P w K mg base "means" ["chain", "unknown", "gains", "known"] 39 (SpR (.pure K) A_means) := d_means T (st_means X G c) D_only_solution D_branches D_minus D_plus D_times
  have D_expected : DefOk P w K mg base "expected" ["chain", "gains", "endless"] 40 (SpR (.pure K) A_expected) := d_expected T (st_expected X G c) D_all_reached D_means
  have D_expected_rewards : DefOk P w K mg base "expected_rewards" ["chain"] 41 (SpR (.pure K) A_expected_rewards) := d_expected_rewards T (st_expected_rewards X G c) D_closed_classes D_expected
  have D_copy_of : DefOk P w K mg base "copy_of" ["place"] 1 (SpR (.pure K) A_copy_of) := d_copy_of T (st_copy_of X G c)
  have D_with_strategy : DefOk P w K mg base "with_strategy" ["game", "side", "strategy"] 2 (SpR (.pure K) A_with_strategy) := d_with_strategy T (st_with_strategy X G c) D_copy_of
  have D_followed : DefOk P w K mg base "followed" ["game", "ours", "theirs"] 42 (SpR (.pure K) A_followed) := d_followed T (st_followed X G c) D_expected_rewards D_with_strategy
  have D_compare : DefOk P w K mg base "compare" ["a", "b"] 1 (SpR (.pure K) A_compare) := d_compare T (st_compare X G c)
  have D_greatest : DefOk P w K mg base "greatest" ["numbers"] 2 (SpR (.pure K) A_greatest) := d_greatest T (st_greatest X G c) D_compare
  have D_least : DefOk P w K mg base "least" ["numbers"] 2 (SpR (.pure K) A_least) := d_least T (st_least X G c) D_compare
  have D_improved_by : DefOk P w K mg base "improved_by" ["game", "side", "strategy", "numbers"] 3 (SpR (.pure K) A_improved_by) := d_improved_by T (st_improved_by X G c) D_greatest D_least
  have D_answer_to : DefOk P w K mg base "answer_to" ["game", "ours"] 43 (SpR (.pure K) A_answer_to) := d_answer_to T (st_answer_to X G c) D_first_strategy D_followed D_improved_by
  have D_stakes_paper : DefOk P w K mg base "stakes_paper" ["game"] 44 (SpR (.pure K) A_stakes_paper) := d_stakes_paper T (st_stakes_paper X G c) D_check_ending D_first_strategy D_answer_to D_improved_by
  have D_law_put_in : DefOk P w K mg base "_law_put_in" ["_law_game_here", "_law_side", "_law_strategy_here"] 1 (SpR (.pure K) A_law_put_in) := d_law_put_in T (st_law_put_in X G c)
  have D_law_divided : DefOk P w K mg base "_law_divided" ["_law_a", "_law_b"] 34 (SpR (.pure K) A_law_divided) := d_law_divided T (st_law_divided X G c) D_law_number
  have D_law_plus : DefOk P w K mg base "_law_plus" ["_law_a", "_law_b"] 34 (SpR (.pure K) A_law_plus) := d_law_plus T (st_law_plus X G c) D_law_number
  have D_law_minus : DefOk P w K mg base "_law_minus" ["_law_a", "_law_b"] 35 (SpR (.pure K) A_law_minus) := d_law_minus T (st_law_minus X G c) D_law_plus
  have D_law_times : DefOk P w K mg base "_law_times" ["_law_a", "_law_b"] 34 (SpR (.pure K) A_law_times) := d_law_times T (st_law_times X G c) D_law_number
  have D_law_solved : DefOk P w K mg base "_law_solved" ["_law_rows"] 36 (SpR (.pure K) A_law_solved) := d_law_solved T (st_law_solved X G c) D_law_divided D_law_minus D_law_times
  have D_law_targets : DefOk P w K mg base "_law_targets" ["_law_place_here"] 1 (SpR (.pure K) A_law_targets) := d_law_targets T (st_law_targets X G c)
  have D_law_row : DefOk P w K mg base "_law_row" ["_law_game_here", "_law_place_here", "_law_many"] 36 (SpR (.pure K) A_law_row) := d_law_row T (st_law_row X G c) D_law_targets D_law_minus
  have D_law_expected : DefOk P w K mg base "_law_expected" ["_law_game_here", "_law_ours", "_law_theirs"] 37 (SpR (.pure K) A_law_expected) := d_law_expected T (st_law_expected X G c) D_law_put_in D_law_solved D_law_row
  have D_law_dues : DefOk P w K mg base "_law_dues" ["_law_game_here", "_law_place_here", "_law_numbers", "_law_side", "_law_strategy_here"] 35 (SpR (.pure K) A_law_dues) := d_law_dues T (st_law_dues X G c) D_law_plus D_law_times
  have D_law_is_number : DefOk P w K mg base "_law_is_number" ["_law_actual"] 34 (SpR (.pure K) A_law_is_number) := d_law_is_number T (st_law_is_number X G c) D_law_number
  have D_law_are_numbers : DefOk P w K mg base "_law_are_numbers" ["_law_actual", "_law_many"] 35 (SpR (.pure K) A_law_are_numbers) := d_law_are_numbers T (st_law_are_numbers X G c) D_law_is_number
  have D_law_is_strategy : DefOk P w K mg base "_law_is_strategy" ["_law_game_here", "_law_side", "_law_strategy_here"] 1 (SpR (.pure K) A_law_is_strategy) := d_law_is_strategy T (st_law_is_strategy X G c)
  have D_law_less : DefOk P w K mg base "_law_less" ["_law_a", "_law_b"] 1 (SpR (.pure K) A_law_less) := d_law_less T (st_law_less X G c)
  have D_law_are_upper : DefOk P w K mg base "_law_are_upper" ["_law_game_here", "_law_numbers", "_law_theirs"] 36 (SpR (.pure K) A_law_are_upper) := d_law_are_upper T (st_law_are_upper X G c) D_law_dues D_law_are_numbers D_law_is_strategy D_law_less
  have D_law_are_lower : DefOk P w K mg base "_law_are_lower" ["_law_game_here", "_law_numbers", "_law_ours"] 36 (SpR (.pure K) A_law_are_lower) := d_law_are_lower T (st_law_are_lower X G c) D_law_dues D_law_are_numbers D_law_is_strategy D_law_less
  have D_law_is_paper : DefOk P w K mg base "_law_is_paper" ["_law_game_here", "_law_paper"] 37 (SpR (.pure K) A_law_is_paper) := d_law_is_paper T (st_law_is_paper X G c) D_law_are_upper D_law_are_lower
  have D_stakes : DefOk P w K mg base "stakes" ["game"] 45 (SpR (.pure K) A_stakes) := d_stakes T (st_stakes X G c) D_stakes_paper
  have D_law_strategy : DefOk P w K mg base "_law_strategy" ["_law_stream", "_law_game_here", "_law_side"] 2 (spS K A_law_strategy) := d_law_strategy T (st_law_strategy X G c) D_law_draw
  exact d_law T D_law_ending_game D_stakes_paper D_law_expected D_law_is_paper D_stakes D_law_strategy D_law_less hr hcd
end
end Odd
set_option Elab.async false
set_option linter.all false
set_option maxRecDepth 100000
set_option maxHeartbeats 0
namespace Odd
open PySem PySem.Spec PyProof.Rows L2
/-- the law's call from the outermost caller: one's own entry, since the repr's guards are known there alone -/
theorem law_at {P : Program} {w : World} {K : PySem.W.Frag} {mg : Str → Option Value} {base : Heap} {f a : Addr} {fd : FuncData} {s : Shared} {H : Hp} {cs : List Int}
    (F : FunD K "law" "law" (defArgs (top 73)) (defBody (top 73)) (defScope (top 73)) [] [] f fd) (hr : Room 46 callerA)
    (body : ∀ (cdv : Value) (t0 : Shared) (H1 : Hp) (E1 : XK), Room 45 (callerA.deeper (envOfC "law" (defScope (top 73)) t0.heap.objs.size f cdv)) → PySem.W.codeIn K cdv "law" = true →
      ∃ t, PSs (cxOf CX0 P w K mg base lawN "law" (defScope (top 73)) f cdv callerA [] t0 H1 E1).nox (defBody (top 73)) t ∧
        ∀ (H0 : Hp) (b : Addr) (ns : List Int) (D : Ends), SqL K H0 b (ns.map V.int) → (∀ v H', v = .bl true → D.rt v H') → t D (L2.start lawN [.ref b]) H0)
    (e0 : Env0 P w K mg base callerA [] s H) (hS : SqL K H a (cs.map V.int)) :
    codeAny (model P w) callerA (.call (.ref f) ⟨[.ref a], []⟩) (CR CX0 [] P w H s (fun v _ => v = .bl true) E0) s := by
  have hbnd : BindsTo s fd ⟨[.ref a], []⟩ [("_law_script", .ref a)] := FunD.bindsA (ps := ["_law_script"]) F (fun _ _ _ _ _ _ us hl => match us, hl with | [_], _ => rfl) s [.ref a] rfl
  obtain ⟨oc, od, dV, kV, doc, pm, an, cdv, ct, osl, rfl, look, code, _, _⟩ := F.ex
  have old : ∀ b o, base.get? b = some o → s.heap.get? b = some o := fun b o e => (e0.bs b o e).1
  have kin : K.In s.heap := e0.mod.kin.keeps old
  have nol : s.heap.NoLimit := e0.mod.nolimit.keeps old
  have S := sc_law
  have kinds : ∀ y ∈ ([("_law_script", Value.ref a)] : List (Str × Value)), (defScope (top 73)).names.lookup y.1 = some .local ∨ ((defScope (top 73)).names.lookup y.1 = some .cell ∧ ((cellsFrom (s.heap.objs.size + 1) (defScope (top 73)).names []).lookup y.1).isSome = true) := fun y hy => by
    rcases S.par y.1 (by rw [List.mem_singleton.mp hy]; exact List.mem_singleton.mpr rfl) with q | q
    · exact Or.inl q
    · exact Or.inr ⟨q, PySem.W.cellsFrom_some _ _ _ (Or.inl q)⟩
  refine codeAny_call_function hr.depth (kin _ _ look) rfl S.co S.gen rfl (PySem.W.codeRec_of kin code) (hbnd _ _ _ _ (wpAny_newFunctionEnv_cells S.kind kinds fun env he s1 x => ?_))
  subst he
  refine ⟨nol.keeps x.toInCall.keep, codeAny_func ?_⟩
  obtain ⟨t, ht, hq⟩ := body cdv s H E0 (hr.deeper _) code
  have inv : Inv (cxOf CX0 P w K mg base lawN "law" (defScope (top 73)) f cdv callerA [] s H E0) [] (L2.start lawN [.ref a]) H s1 := inv_start S hr.hd e0 rfl (.cons rfl .nil) x
  have goal := hq H a cs { nx := fun _ _ => False, rt := fun v _ => v = .bl true } hS fun v _ e => e
  refine wpAny_mono (ht.nox.run [] s1 (L2.start lawN [.ref a]) H _ inv goal) (fun fl s2 hs => ?_) fun _ _ h => h
  cases fl with
  | ret u =>
    obtain ⟨v, σ2, H2, J, rv, e⟩ := hs
    exact ⟨v, H2, J.os, J.bare, J.base, J.hok, rv, e⟩
  | next => obtain ⟨_, _, _, e⟩ := hs; exact e.elim
  | brk => obtain ⟨_, _, _, e⟩ := hs; exact e.elim
  | cont => obtain ⟨_, _, _, e⟩ := hs; exact e.elim
/-- the head's question from the entry: nothing but the script may be tracked -/
theorem law_go {P : Program} {w : World} {K : PySem.W.Frag} {mg mb : Str → Option Value} {fa a : Addr} {t : Shared} {vs : List Value} {ns : List Int}
    (kin : K.In t.heap) (hns : t.heap.Ns mainGlobals mg) (hmb : t.heap.Ns builtinsNs mb) (boot : ∀ x : Str, x ≠ "__name__" → mb x = bootBuiltins x) (nol : t.heap.NoLimit) (seer : t.heap.NoSeer) (gens : t.gens = #[])
    (obj : t.heap.get? a = some { cls := .type "list", data := .seq vs.toArray }) (are : IntsAre vs ns) (len : ns.length ≤ sizeLine)
    (F : ∀ (base : Heap) (H : Hp), base.Ns mainGlobals mg → base.NoSeer → Env0 P w K mg base callerA [] t H → SqL K H a (ns.map V.int) → codeAny (model P w) callerA (.call (.ref fa) ⟨[.ref a], []⟩) (CR CX0 [] P w H t (fun v _ => v = .bl true) E0) t) :
    codeAny (model P w) callerA (.call (.ref fa) ⟨[.ref a], []⟩) (fun r t' => r = .ok (.ret (.bool true)) ∧ OldK t.heap t'.heap ∧ t'.os = t.os ∧ AllBare t'.gens) t := by
  have vals := vals_ints are
  have vlen := are.length
  have key : ∀ H : Hp, Only H → SqL K H a (ns.map V.int) → HOk P w H t.heap → (∀ b u, H b = some u → b = a) → (∀ u, H a = some u → K.lookup a = none) →
      codeAny (model P w) callerA (.call (.ref fa) ⟨[.ref a], []⟩) (fun r t' => r = .ok (.ret (.bool true)) ∧ OldK t.heap t'.heap ∧ t'.os = t.os ∧ AllBare t'.gens) t := by
    intro H only sq hok alone own
    have keep : ∀ {b : Addr} {o : Obj}, t.heap.get? b = some o → H b = none → (hidT t.heap H).get? b = some o := fun e n => hidT_get e n
    have off : ∀ {b : Addr} {o : Obj}, t.heap.get? b = some o → o.cls ≠ .type "list" ∨ (∃ es ep, o.data = .dict es ep) → H b = none := fun {b o} e d => by
      cases q : H b with
      | none => rfl
      | some u =>
        cases alone b u q
        rw [obj] at e
        cases e
        rcases d with d | ⟨es, ep, d⟩
        · exact absurd rfl d
        · cases d
    have names : ∀ {b : Addr} {m : Str → Option Value}, t.heap.Ns b m → (hidT t.heap H).Ns b m := fun {b m} ⟨o, es, ep, e, d, r⟩ => ⟨o, es, ep, keep e (off e (.inr ⟨es, ep, d⟩)), d, r⟩
    have kinB : K.In (hidT t.heap H) := fun b o e => keep (kin b o e) (by
      cases q : H b with
      | none => rfl
      | some u =>
        cases alone b u q
        rw [own u q] at e
        cases e)
    have seerB : (hidT t.heap H).NoSeer := by
      obtain ⟨⟨m1, p1, q1⟩, ⟨m2, p2, q2⟩, ⟨m3, p3, q3⟩, ⟨m4, bm, ob, p4, q4, r4, c4, d4⟩⟩ := seer
      exact ⟨⟨m1, names p1, q1⟩, ⟨m2, names p2, q2⟩, ⟨m3, names p3, q3⟩, ⟨m4, bm, ob, names p4, q4, keep r4 (off r4 (.inl (by rw [c4]; exact fun z => nomatch z))), c4, d4⟩⟩
    obtain ⟨mc, l1, l2⟩ := nol
    have modB : Mod K mg (hidT t.heap H) := ⟨kinB, names hns, ⟨mb, names hmb, boot⟩, ⟨mc, names l1, l2⟩⟩
    have env0 : Env0 P w K mg (hidT t.heap H) callerA [] t H := ⟨rfl, modB, fun b o e => of_hidT e, Nat.le_of_eq (hidT_size _ _), trivial, (fun b hb => nomatch hb), hok, .of_eq gens⟩
    refine codeAny_mono (F _ H (names hns) seerB env0 sq) fun r t' h => ?_
    cases r with
    | error e => exact h.elim
    | ok fl =>
      cases fl with
      | next => exact h.elim
      | brk => exact h.elim
      | cont => exact h.elim
      | ret u =>
        obtain ⟨v, H', os, bare, un, hok', rel, e⟩ := h
        cases (show v = .bl true from e)
        cases (show u = Value.bool true from rel)
        refine ⟨rfl, OldK.of_keep fun b o hb => ?_, os, bare⟩
        cases q : H b with
        | none => exact un.keep b o hb q (fun z => nomatch z) (fun z => nomatch z)
        | some u =>
          rcases only b with z | ⟨oz, xs, z⟩
          · rw [q] at z; cases z
          · obtain ⟨w1, _⟩ := hok b _ z
            obtain ⟨w2, _⟩ := hok' b _ (un.frzs b oz _ z)
            rw [hb] at w1
            cases w1
            exact w2
  cases hk : K.lookup a with
  | some o =>
    have e := kin a o hk
    rw [obj] at e
    cases e
    exact key (fun _ => none) (fun _ => Or.inl rfl) (Or.inr ⟨_, vs.toArray, _, hk, rfl, rfl, rfl, by rw [List.size_toArray, vlen]; exact len, by simpa using vals⟩) (fun _ _ z => nomatch z) (fun _ _ z => nomatch z) fun _ z => nomatch z
  | none =>
    have hit : (fun b => if b = a then some (HO.frz { cls := .type "list", data := .seq vs.toArray } (.lst (ns.map V.int))) else none) a = some (HO.frz { cls := .type "list", data := .seq vs.toArray } (.lst (ns.map V.int))) := if_pos rfl
    refine key (fun b => if b = a then some (.frz { cls := .type "list", data := .seq vs.toArray } (.lst (ns.map V.int))) else none) (fun b => ?_) (Or.inl (Or.inr ⟨_, hit⟩)) (fun b u z => ?_) (fun b u z => ?_) fun _ _ => hk
    · by_cases c : b = a
      · exact Or.inr ⟨_, _, if_pos c⟩
      · exact Or.inl (if_neg c)
    · by_cases c : b = a
      · subst c
        cases hit.symm.trans z
        exact ⟨obj, by rw [List.length_map]; exact len, vs, _, vals, obj⟩
      · exact nomatch (if_neg c).symm.trans z
    · by_cases c : b = a
      · exact c
      · exact nomatch (if_neg c).symm.trans z
end Odd
open PySem PySem.W PySem.Calls PyProof.Rows
theorem PySem.Challenge.cw_oddkeep_k83_whole_stakes_are_secured_holds : PySem.Challenge.rw_oddkeep_k83_whole_stakes_are_secured.Holds := by
  w_on; o_law
  refine HandSHeadRun.head_imp (r := Odd.RR) (q := view Odd.RR.prog [0, 73]) (H := Odd.hkO) (ob := Odd.obT) (M := 4000) (loose := Odd.loose) (d := HandSHeadRun.topDef Odd.RR.prog 73) (kwd := []) Odd.obT_eq
    Odd.runO (by kernel_rfl) (by kernel_rfl) (by kernel_rfl) (by rfl) (by first | assumption | decide +kernel) (by decide +kernel) ⟨rfl, rfl, rfl, rfl, rfl, by decide +kernel⟩ ?hw ?hc
  case hw => w_witness2
  case hc =>
    refine Att.attach_call (l := PySem.Challenge.rw_oddkeep_k83_whole_stakes_are_secured) (n := 63) rfl (by kernel_rfl) fun w s0 t mg mb fa o pm cd doc a vs ns G Y ho hd hcd hmg hobj hints hlen hg => ?_
    obtain ⟨K, KX, c, e⟩ := Y
    obtain ⟨fd, F⟩ := c.def_ 59 (d := Odd.mkD "law" 73) rfl
    have nm : (HandSHeadRun.topDef Odd.RR.prog 73).name = ("law" : PySem.Str) := by kernel_rfl
    rw [nm] at hmg
    have at0 := hmg.symm.trans (He.glo_ok KX G.T.g (c.fact 59 (f := .glo "law") rfl))
    cases at0
    exact Odd.law_go KX G.T.g G.T.b G.T.builtins G.T.nolimit (G.T.seer (by kernel_rfl)) hg hobj hints (Nat.le_trans hlen (by decide)) fun base H hns hN env0 hS =>
      Odd.law_at F ⟨rfl, by decide, by decide⟩ (fun cdv t0 H1 E1 hr code => Odd.law_body KX G.T.g c e hN rfl hr code) env0 hS
