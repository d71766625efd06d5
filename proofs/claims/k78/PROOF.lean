import PyProof.Rows.All
import Wide.All
import OpenK.AllK
import Wide.FinOn
import HandS.ForMost
import HandS.Zip
import HandS.Walk
import HandS.IsInst
import HandS.Flow
import HandS.Gcd
import HandS.WideBits
import HandS.TupAny
import HandS.Defaults
import HandS.CallLocal
import HandS.Style
import HandS.HeadEnd
import HandS.HeadHook1
import HandS.HeadHook2
import HandS.Codes
import HandS.Head3
import HandS.Deep
import HandS.Zip0
import HandS.EndBits
import PySem.Challenge.RW_flashwheels_k78_whole_shafts_that_keep_t
set_option Elab.async false
set_option linter.all false
set_option maxRecDepth 100000
set_option maxHeartbeats 4000000
/-! FW1: data without a heap, how they lie in one, and what a piece of code may touch. -/
namespace FW
open PySem PySem.Spec PyProof.Rows L2

/-- what a Python value is, without addresses: lst a list object as it lies, frl one that is only read -/
inductive D where
  | non | bl (b : Bool) | int (i : Int) | str (x : Str)
  | tup (xs : List D) | lst (xs : List D) | frl (xs : List D)
  | fn (g : Nat) | pool
  deriving Inhabited

/-- what representation leans on: the written part, where the defs stand -/
structure GC where
  K : PySem.W.Frag
  fa : Nat → Option Addr

mutual
/-- the value v stands for the data d; pa: where the pool stands -/
def Rep (G : GC) (pa : Option Addr) (H : Hp) : D → V → Prop
  | .non, v => v = .non
  | .bl b, v => v = .bl b
  | .int i, v => v = .int i
  | .str x, v => v = .str x
  | .tup ds, v => ∃ a xs, v = .ref a ∧ SqT G.K H a xs ∧ Reps G pa H ds xs
  | .lst ds, v => ∃ a xs, v = .ref a ∧ H a = some (.lst xs) ∧ Reps G pa H ds xs
  | .frl ds, v => ∃ a xs, v = .ref a ∧ SqL G.K H a xs ∧ Reps G pa H ds xs
  | .fn g, v => ∃ a, G.fa g = some a ∧ v = .ref a
  | .pool, v => ∃ a, pa = some a ∧ v = .ref a
def Reps (G : GC) (pa : Option Addr) (H : Hp) : List D → List V → Prop
  | [], vs => vs = []
  | d :: ds, vs => ∃ v r, vs = v :: r ∧ Rep G pa H d v ∧ Reps G pa H ds r
end

theorem SqT.same {K : PySem.W.Frag} {H H' : Hp} {a : Addr} {xs : List V} (e : Same H H') (h : SqT K H a xs) : SqT K H' a xs := by
  rcases h with (h | ⟨o, h⟩) | h
  · exact .inl (.inl (e _ _ h))
  · exact .inl (.inr ⟨o, e _ _ h⟩)
  · exact .inr h

mutual
theorem Rep.same {G : GC} {pa : Option Addr} {H H' : Hp} (e : Same H H') : ∀ (d : D) (v : V), Rep G pa H d v → Rep G pa H' d v
  | .non, _, h => h
  | .bl _, _, h => h
  | .int _, _, h => h
  | .str _, _, h => h
  | .tup ds, _, h => by
    obtain ⟨a, xs, h1, h2, h3⟩ := h
    exact ⟨a, xs, h1, SqT.same e h2, Reps.same e ds xs h3⟩
  | .lst ds, _, h => by
    obtain ⟨a, xs, h1, h2, h3⟩ := h
    exact ⟨a, xs, h1, e _ _ h2, Reps.same e ds xs h3⟩
  | .frl ds, _, h => by
    obtain ⟨a, xs, h1, h2, h3⟩ := h
    exact ⟨a, xs, h1, e.seq h2, Reps.same e ds xs h3⟩
  | .fn _, _, h => h
  | .pool, _, h => h
theorem Reps.same {G : GC} {pa : Option Addr} {H H' : Hp} (e : Same H H') : ∀ (ds : List D) (vs : List V), Reps G pa H ds vs → Reps G pa H' ds vs
  | [], _, h => h
  | d :: ds, _, h => by
    obtain ⟨v, r, h1, h2, h3⟩ := h
    exact ⟨v, r, h1, Rep.same e d v h2, Reps.same e ds r h3⟩
end

section
variable {G : GC} {pa : Option Addr} {H : Hp}
theorem Reps.length : ∀ {ds : List D} {vs : List V}, Reps G pa H ds vs → ds.length = vs.length
  | [], _, h => by cases h; rfl
  | d :: ds, _, h => by
    obtain ⟨v, r, rfl, _, h3⟩ := h
    simp [Reps.length h3]
theorem Reps.nil : Reps G pa H [] [] := rfl
theorem Reps.cons {d : D} {ds : List D} {v : V} {vs : List V} (h1 : Rep G pa H d v) (h2 : Reps G pa H ds vs) : Reps G pa H (d :: ds) (v :: vs) := ⟨v, vs, rfl, h1, h2⟩
theorem Reps.append : ∀ {ds es : List D} {vs ws : List V}, Reps G pa H ds vs → Reps G pa H es ws → Reps G pa H (ds ++ es) (vs ++ ws)
  | [], _, _, _, h, h' => by cases h; exact h'
  | d :: ds, _, _, _, h, h' => by
    obtain ⟨v, r, rfl, h2, h3⟩ := h
    exact .cons h2 (Reps.append h3 h')
theorem Reps.get : ∀ {ds : List D} {vs : List V} {i : Nat} {d : D}, Reps G pa H ds vs → ds[i]? = some d → ∃ v, vs[i]? = some v ∧ Rep G pa H d v
  | [], _, _, _, _, e => by simp at e
  | d :: ds, _, 0, _, h, e => by
    obtain ⟨v, r, rfl, h2, h3⟩ := h
    simp at e; subst e
    exact ⟨v, rfl, h2⟩
  | d :: ds, _, i + 1, _, h, e => by
    obtain ⟨v, r, rfl, h2, h3⟩ := h
    obtain ⟨w, e1, e2⟩ := Reps.get (i := i) h3 (by simpa using e)
    exact ⟨w, by simpa using e1, e2⟩
theorem Reps.getV {ds : List D} {vs : List V} {i : Nat} {v : V} (h : Reps G pa H ds vs) (e : vs[i]? = some v) : ∃ d, ds[i]? = some d ∧ Rep G pa H d v := by
  have hl := h.length
  have hi : i < ds.length := by rw [hl]; exact (List.getElem?_eq_some_iff.mp e).1
  obtain ⟨w, e1, e2⟩ := h.get (List.getElem?_eq_getElem hi)
  rw [e] at e1; cases e1
  exact ⟨_, List.getElem?_eq_getElem hi, e2⟩
theorem Reps.take : ∀ {ds : List D} {vs : List V} (n : Nat), Reps G pa H ds vs → Reps G pa H (ds.take n) (vs.take n)
  | _, _, 0, _ => by simp; exact Reps.nil
  | [], _, n + 1, h => by cases h; exact Reps.nil
  | d :: ds, _, n + 1, h => by
    obtain ⟨v, r, rfl, h2, h3⟩ := h
    exact .cons h2 (Reps.take n h3)
theorem Reps.drop : ∀ {ds : List D} {vs : List V} (n : Nat), Reps G pa H ds vs → Reps G pa H (ds.drop n) (vs.drop n)
  | _, _, 0, h => h
  | [], _, n + 1, h => by cases h; exact Reps.nil
  | d :: ds, _, n + 1, h => by
    obtain ⟨v, r, rfl, h2, h3⟩ := h
    exact Reps.drop n h3
theorem Reps.set : ∀ {ds : List D} {vs : List V} (i : Nat) {d : D} {v : V}, Reps G pa H ds vs → Rep G pa H d v → Reps G pa H (ds.set i d) (vs.set i v)
  | [], _, _, _, _, h, _ => by cases h; exact Reps.nil
  | d :: ds, _, 0, _, _, h, q => by
    obtain ⟨v, r, rfl, h2, h3⟩ := h
    exact .cons q h3
  | d :: ds, _, i + 1, _, _, h, q => by
    obtain ⟨v, r, rfl, h2, h3⟩ := h
    exact .cons h2 (Reps.set i h3 q)
theorem Reps.rep {ds : List D} {vs : List V} (h : Reps G pa H ds vs) : ∀ k : Nat, Reps G pa H (List.replicate k ds).flatten (List.replicate k vs).flatten
  | 0 => Reps.nil
  | k + 1 => by
    rw [List.replicate_succ, List.replicate_succ, List.flatten_cons, List.flatten_cons]
    exact h.append (Reps.rep h k)
theorem Reps.ints : ∀ {ns : List Int}, Reps G pa H (ns.map D.int) (ns.map V.int)
  | [] => Reps.nil
  | n :: ns => .cons rfl Reps.ints
end

/-! ### zones: what of the heap a piece of code does not see as data -/
/-- pa: the pool; Z: what callers hide; O: lists that the frame owns (and may change) -/
structure Zn where
  pa : Option Addr
  Z : List Addr
  O : List Addr
def Zn.hid (z : Zn) (b : Addr) : Prop := b ∈ z.Z ∨ b ∈ z.O ∨ z.pa = some b
instance (z : Zn) (b : Addr) : Decidable (z.hid b) := by unfold Zn.hid; infer_instance
def hide (z : Zn) (H : Hp) : Hp := fun b => if z.hid b then none else H b
theorem hide_some {z : Zn} {H : Hp} {b : Addr} {o : HO} : hide z H b = some o ↔ ¬ z.hid b ∧ H b = some o := by
  unfold hide
  by_cases h : z.hid b
  · rw [if_pos h]; simp [h]
  · rw [if_neg h]; simp [h]
theorem hide_same (z : Zn) (H : Hp) : Same (hide z H) H := fun _ _ h => (hide_some.mp h).2

abbrev Pl := List D
/-- the zone is well: what is hidden is there, the pool holds pl, nothing is owned twice -/
structure W (G : GC) (z : Zn) (pl : Pl) (H : Hp) : Prop where
  dom : ∀ a, a ∈ z.Z ∨ a ∈ z.O → ∃ o, H a = some o
  apart : ∀ a ∈ z.O, a ∉ z.Z
  papart : ∀ a, z.pa = some a → a ∉ z.Z ∧ a ∉ z.O
  pool : ∀ a, z.pa = some a → ∃ xs, H a = some (.lst xs) ∧ Reps G z.pa (hide z H) pl xs
/-- a step of an expression: what is seen stays, what is hidden (but the pool) stays as it is -/
structure Stp (z : Zn) (H H' : Hp) : Prop where
  same : Same (hide z H) (hide z H')
  own : ∀ a, a ∈ z.Z ∨ a ∈ z.O → H' a = H a
/-- a step of a statement: the frame's own lists may change, new ones come -/
structure XSt (z z' : Zn) (H H' : Hp) : Prop where
  pa : z'.pa = z.pa
  zz : z'.Z = z.Z
  same : Same (hide z H) (hide z' H')
  zone : ∀ a ∈ z.Z, H' a = H a
theorem Stp.refl (z : Zn) (H : Hp) : Stp z H H := ⟨Same.refl _, fun _ _ => rfl⟩
theorem Stp.trans {z : Zn} {H H1 H2 : Hp} (a : Stp z H H1) (b : Stp z H1 H2) : Stp z H H2 := ⟨a.same.trans b.same, fun c h => (b.own c h).trans (a.own c h)⟩
theorem Stp.x {z : Zn} {H H' : Hp} (a : Stp z H H') : XSt z z H H' := ⟨rfl, rfl, a.same, fun c h => a.own c (.inl h)⟩
theorem XSt.refl (z : Zn) (H : Hp) : XSt z z H H := (Stp.refl z H).x
theorem XSt.trans {z z1 z2 : Zn} {H H1 H2 : Hp} (a : XSt z z1 H H1) (b : XSt z1 z2 H1 H2) : XSt z z2 H H2 :=
  ⟨b.pa.trans a.pa, b.zz.trans a.zz, a.same.trans b.same, fun c h => (b.zone c (by rw [a.zz]; exact h)).trans (a.zone c h)⟩
section
variable {G : GC} {z : Zn} {pl : Pl} {H H' : Hp}
/-- a new thing is laid -/
theorem Stp.laid {p : Addr} {o : HO} (w : W G z pl H) (hp : H p = none) : Stp z H (upd H p o) := by
  refine ⟨fun b u e => ?_, fun a ha => ?_⟩
  · obtain ⟨h1, h2⟩ := hide_some.mp e
    exact hide_some.mpr ⟨h1, by rw [upd_ne (ne_of_none h2 hp)]; exact h2⟩
  · obtain ⟨o', e⟩ := w.dom a ha
    exact upd_ne (ne_of_none e hp)
theorem W.seen {p : Addr} (w : W G z pl H) (hp : H p = none) : ¬ z.hid p := by
  rintro (h | h | h)
  · obtain ⟨o, e⟩ := w.dom p (.inl h)
    rw [hp] at e; cases e
  · obtain ⟨o, e⟩ := w.dom p (.inr h)
    rw [hp] at e; cases e
  · obtain ⟨xs, e, _⟩ := w.pool p h
    rw [hp] at e; cases e
theorem W.hide_new {p : Addr} {o : HO} (w : W G z pl H) (hp : H p = none) : hide z (upd H p o) p = some o := hide_some.mpr ⟨w.seen hp, upd_same⟩
/-- a step that leaves the pool keeps the zone well -/
theorem W.stp (w : W G z pl H) (s : Stp z H H') (hp : ∀ a, z.pa = some a → H' a = H a) : W G z pl H' := by
  refine ⟨fun a ha => ?_, w.apart, w.papart, fun a ha => ?_⟩
  · rw [s.own a ha]; exact w.dom a ha
  · obtain ⟨xs, e, r⟩ := w.pool a ha
    exact ⟨xs, by rw [hp a ha]; exact e, Reps.same s.same _ _ r⟩
theorem W.laid {p : Addr} {o : HO} (w : W G z pl H) (hp : H p = none) : W G z pl (upd H p o) :=
  w.stp (.laid w hp) fun a ha => by
    obtain ⟨xs, e, _⟩ := w.pool a ha
    exact upd_ne (ne_of_none e hp)
theorem Same.of_le {z z' : Zn} {H : Hp} (h : ∀ b, z'.hid b → z.hid b) : Same (hide z H) (hide z' H) := fun b o e => by
  obtain ⟨h1, h2⟩ := hide_some.mp e
  exact hide_some.mpr ⟨fun q => h1 (h b q), h2⟩
end
end FW
/-! FWH: what the head is asked for. -/
namespace FW
open PySem PySem.Spec PyProof.Rows L2
/-- names of built-ins that must not be taken by the module -/
def bltNames : List Str := ["len", "tuple", "list", "abs", "int", "divmod", "max", "min", "all", "any", "sum", "sorted", "isinstance", "bool", "str", "range", "enumerate", "zip"]
def atomV : D → V
  | .bl b => .bl b
  | .int i => .int i
  | .str x => .str x
  | _ => .non
mutual
def repB (K : PySem.W.Frag) : D → Value → Bool
  | .non, .none => true
  | .bl a, .bool b => a == b
  | .int a, .int b _ => decide (a = b)
  | .str a, .str b _ => decide (a = b)
  | .tup ds, .ref a => (match K.lookup a with
    | some ⟨.type c, _, .seq its _, _⟩ => decide (c = "tuple") && (decide (its.size ≤ sizeLine) && repsB K ds its.toList)
    | _ => false)
  | _, _ => false
def repsB (K : PySem.W.Frag) : List D → List Value → Bool
  | [], [] => true
  | d :: ds, v :: vs => repB K d v && repsB K ds vs
  | _, _ => false
end
def nsB (K : PySem.W.Frag) (x : Str) (p : Value → Bool) : Bool := match PySem.W.nsIn K mainGlobals x with
  | some (some u) => p u
  | _ => false
def dvOf : D → He.Dv
  | .bl b => .bl b
  | .int i => .int i
  | .str x => .str x
  | _ => .non
def gloB (K : PySem.W.Frag) (x : Str) : Bool := He.eqO (PySem.W.nsIn K mainGlobals x) (some (some (.ref (He.ga K x))))
def isGcd (u : Value) : Bool := decide (u = .builtin "math.gcd")
/-- what a value reaches: a function's code and defaults, items -/
def asV (g : Addr → Option Obj) : Nat → Value → List Addr
  | n + 1, .ref a => a :: (match g a with
    | some ⟨_, _, .func fd, _⟩ => asV g n fd.code ++ (asV g n fd.defaults ++ asV g n fd.kwdefaults)
    | some ⟨_, _, .seq its _, _⟩ => its.toList.flatMap (asV g n)
    | _ => [])
  | _, _ => []
def asQ (g : Addr → Option Obj) (n : Nat) : List Addr := mainGlobals :: (match g mainGlobals with
  | some ⟨_, _, .dict es _, _⟩ => es.toList.flatMap fun e => asV g n e.val
  | _ => [])
/-- a def as the top leaves it -/
def mkF (nm : Str) (dfl : List D) (st : Stmt) : He.DefD := ⟨(nm, none), nm, nm, C8.fnArgs st, C8.fnBody st, C8.fnScope st, dfl.map dvOf, []⟩
def lawD (st : Stmt) : He.DefD := ⟨("law", none), "law", "law", C8.fnArgs st, C8.fnBody st, C8.fnScope st, [], []⟩
def headB (cs : List (Str × D)) (nms : List Str) (K : PySem.W.Frag) : Bool := (cs.all fun c => nsB K c.1 (repB K c.2)) && ((bltNames.all fun x => He.eqO (PySem.W.nsIn K mainGlobals x) (some none)) && (nsB K "gcd" isGcd && nms.all fun x => gloB K x))
def obsC (cs : List (Str × D)) (fn : List He.DefD) (K : PySem.W.Frag) : He.AlD := (headB cs (fn.map (·.name)) K && fn.all fun d => d.ok K, fn.map fun d => He.fnW K d.at_)
def obsCG (n : Nat) (cs : List (Str × D)) (fn : List He.DefD) (g : Addr → Option Obj) : He.AlD := obsC cs fn (He.frG g (asQ g n))
def SaysC (cs : List (Str × D)) (fn : List He.DefD) (K : PySem.W.Frag) : Prop := obsC cs fn K = He.valD fn
def hookC (n : Nat) (cs : List (Str × D)) (fn : List He.DefD) : PySem.W.Hook where
  α := He.AlD
  obs := fun s => obsCG n cs fn s.heap.get?
  val := fun _ => He.valD fn
  says := fun _ h => ∃ K : PySem.W.Frag, K.In h ∧ SaysC cs fn K
  of := fun _ _ e => ⟨_, He.frG_in, e⟩
  keeps := fun _ _ _ ⟨K, hK, c⟩ k => ⟨K, PySem.W.Frag.In.keeps hK k, c⟩
theorem obsCG_eq {n : Nat} {cs : List (Str × D)} {fn : List He.DefD} {g : Addr → Option Obj} {s : Shared} (h : ∀ a, g a = s.heap.get? a) : obsCG n cs fn g = (hookC n cs fn).obs s := by
  have e : g = s.heap.get? := funext h
  rw [e] <;> rfl
end FW
set_option maxHeartbeats 8000000
namespace FWL
open PySem PySem.Spec PyProof.Rows L2 FW
abbrev R : PySem.W.OpenRow := PySem.W.OpenLaw.row PySem.Challenge.rw_flashwheels_k78_whole_shafts_that_keep_t
abbrev qv : Program := PySem.W.view R.prog [0, 121]
def names0 : List Str := (["gcd", "FlashError", "InvalidNumber", "InvalidFraction", "InvalidMotion", "InvalidSpan", "InvalidFlashes", "InvalidSights", "InvalidWheels", "InvalidFractions", "NOUGHT", "plain_of", "whole", "plus", "negative", "minus", "times", "over", "is_less", "is_whole_one", "floor_of", "is_whole", "is_between", "is_from", "is_tuple_up_to", "is_tuple_of", "is_pair", "MOST_ORDER", "MOST_FLASHES", "is_fraction_of", "is_time_of", "is_period_of", "is_order_of", "is_motion_of", "wrong_in_flashes", "is_sight_of", "wrong_in_sights", "are_two_fractions", "is_span_of", "check_fraction"] : List String).map Str.ofString
def names1 : List Str := (["check_order", "check_motion", "check_flashes", "check_span", "remainder_by", "measure_of_two", "measure_by", "is_multiple", "multiple_by", "step_by", "first_made", "less_made", "put_together", "reduced", "empty_ones", "clash_by", "solution_by", "angle_by", "sight_of_angle", "sight_by", "sights_by", "flash_measure_by", "rate_step_by", "rounds_by", "are_alike_by", "MOST_WHEELS", "is_shaft_wheel", "wrong_in_shaft", "wrong_in_shaft_sights", "shaft_rounds_by", "shaft_step_by", "shaft_sights_by", "check_shaft", "check_shaft_seen", "shaft_rate", "shaft_step", "shaft_sights", "look_same", "MOST_FRACTIONS", "check_fractions"] : List String).map Str.ofString
def names2 : List Str := (["common_multiple", "do_tell_by", "check_spanned", "do_tell", "check_lit", "rate_step", "are_alike", "_law_pool", "_law_draw", "_law_pick", "_law_common", "_law_f", "_law_plus", "_law_minus", "_law_times", "_law_over", "_law_below", "_law_measure", "_law_fraction", "_law_flashes", "_law_order", "_law_shaft", "_law_step", "_law_shaft_right", "_law_right"] : List String).map Str.ofString
def names : List Str := names0 ++ names1 ++ names2
def top (i : Nat) : Stmt := R.prog.main.body.getD i (.Pass ⟨0, 0, 0, 0⟩)
def consL : List (Str × D) := [("NOUGHT", (.tup [(.int 0), (.int 1)])), ("MOST_ORDER", (.int 24)), ("MOST_FLASHES", (.int 12)), ("MOST_WHEELS", (.int 4)), ("MOST_FRACTIONS", (.int 40))]
def fnL0 : List He.DefD := [mkF "plain_of" [] (top 13), mkF "whole" [] (top 14), mkF "plus" [] (top 15), mkF "negative" [] (top 16), mkF "minus" [] (top 17), mkF "times" [] (top 18), mkF "over" [] (top 19), mkF "is_less" [] (top 20), mkF "is_whole_one" [] (top 21), mkF "floor_of" [] (top 22), mkF "is_whole" [] (top 24), mkF "is_between" [] (top 25), mkF "is_from" [] (top 26), mkF "is_tuple_up_to" [] (top 27), mkF "is_tuple_of" [] (top 28), mkF "is_pair" [] (top 29), mkF "is_fraction_of" [] (top 33), mkF "is_time_of" [] (top 34), mkF "is_period_of" [] (top 35), mkF "is_order_of" [] (top 36), mkF "is_motion_of" [] (top 37), mkF "wrong_in_flashes" [(.int 12)] (top 38), mkF "is_sight_of" [] (top 39), mkF "wrong_in_sights" [] (top 40), mkF "are_two_fractions" [] (top 41), mkF "is_span_of" [] (top 42), mkF "check_fraction" [] (top 43), mkF "check_order" [] (top 44), mkF "check_motion" [] (top 45), mkF "check_flashes" [] (top 46)]
def fnL1 : List He.DefD := [mkF "check_span" [] (top 47), mkF "remainder_by" [] (top 49), mkF "measure_of_two" [] (top 50), mkF "measure_by" [] (top 51), mkF "is_multiple" [] (top 52), mkF "multiple_by" [] (top 53), mkF "step_by" [] (top 55), mkF "first_made" [] (top 56), mkF "less_made" [] (top 57), mkF "put_together" [] (top 58), mkF "reduced" [] (top 59), mkF "empty_ones" [] (top 60), mkF "clash_by" [] (top 61), mkF "solution_by" [] (top 62), mkF "angle_by" [] (top 64), mkF "sight_of_angle" [] (top 65), mkF "sight_by" [] (top 66), mkF "sights_by" [] (top 67), mkF "flash_measure_by" [] (top 69), mkF "rate_step_by" [] (top 70), mkF "rounds_by" [] (top 71), mkF "are_alike_by" [] (top 72), mkF "is_shaft_wheel" [] (top 75), mkF "wrong_in_shaft" [] (top 76), mkF "wrong_in_shaft_sights" [] (top 77), mkF "shaft_rounds_by" [] (top 78), mkF "shaft_step_by" [] (top 79), mkF "shaft_sights_by" [] (top 80), mkF "check_shaft" [] (top 82), mkF "check_shaft_seen" [] (top 83)]
def fnL2 : List He.DefD := [mkF "shaft_rate" [] (top 84), mkF "shaft_step" [] (top 85), mkF "shaft_sights" [] (top 86), mkF "look_same" [] (top 88), mkF "check_fractions" [] (top 91), mkF "common_multiple" [] (top 92), mkF "do_tell_by" [] (top 94), mkF "check_spanned" [] (top 96), mkF "do_tell" [] (top 97), mkF "check_lit" [] (top 99), mkF "rate_step" [] (top 100), mkF "are_alike" [] (top 101), mkF "_law_pool" [] (top 103), mkF "_law_draw" [] (top 104), mkF "_law_pick" [] (top 105), mkF "_law_common" [] (top 106), mkF "_law_f" [] (top 107), mkF "_law_plus" [] (top 108), mkF "_law_minus" [] (top 109), mkF "_law_times" [] (top 110), mkF "_law_over" [] (top 111), mkF "_law_below" [] (top 112), mkF "_law_measure" [] (top 113), mkF "_law_fraction" [] (top 114), mkF "_law_flashes" [] (top 115), mkF "_law_order" [] (top 116), mkF "_law_shaft" [] (top 117), mkF "_law_step" [] (top 118), mkF "_law_shaft_right" [] (top 119), mkF "_law_right" [] (top 120)]
def fnL : List He.DefD := fnL0 ++ fnL1 ++ fnL2 ++ [lawD (top 121)]
abbrev hk : PySem.W.Hook := hookC 4 consL fnL
def ob (s : PySem.W.SharedT) : He.AlD := obsCG 4 consL fnL (HandSHeadRun.getT s)
theorem ob_eq (s : PySem.W.SharedT) : ob s = hk.obs s.abs := obsCG_eq (HandSHeadRun.getT_eq s)
end FWL
namespace FWL
open PySem PySem.Spec PyProof.Rows L2 FW
open HandSHeadRun
theorem run1 (w : World) : (wholeF (fun p => stepQ (denQ tabQ) p w) fenceQ 6000 R.prog).map (fun x => looksF R.prog x.1.heap x.2.abs) = some true := by kernel_rfl
end FWL
namespace FWL
open PySem PySem.Spec PyProof.Rows L2 FW
open HandSHeadRun
theorem run2 (w : World) : (wholeF (fun p => stepQ (denQ tabQ) p w) fenceQ 6000 R.prog).map (fun x => seenQ qv names (importedModules R.prog.main.body) (fun s => PySem.W.xlAt qv [] s && PySem.W.recOk R.toRowW.records s) x.2.abs) = some (PySem.W.openGood qv names) := by kernel_rfl
end FWL
namespace FWL
open PySem PySem.Spec PyProof.Rows L2 FW
open HandSHeadRun
theorem run3 (w : World) : (wholeF (fun p => stepQ (denQ tabQ) p w) fenceQ 6000 R.prog).map (fun x => ob x.2) = some (hk.val w) := by kernel_rfl
end FWL
namespace FWL
open PySem PySem.W PySem.Calls PyProof.Rows
abbrev ld : DefRec := HandSHeadRun.topDef R.prog 121
theorem t1 : defOf qv R.name = some (ld, []) := by kernel_rfl
theorem t2 : R.prog.theDef R.name = some (ld.params, ld.body, ld.scope) := by kernel_rfl
theorem t3 : kwWritten? ld.params.kwonlyargs ld.params.kw_defaults = some [] := by kernel_rfl
theorem t4 : (!R.writes || R.records.isEmpty) = true := by rfl
theorem t5 : R.wellSaid = true := by decide +kernel
theorem t6a : chainsOk qv = true := by decide +kernel
theorem t6b : opensWell R.prog = true := by decide +kernel
theorem t6c : (frees R.toRowW && R.within.isEmpty) = true := by decide +kernel
theorem t6 : (chainsOk qv && opensWell R.prog && (frees R.toRowW && R.within.isEmpty)) = true := by rw [t6a, t6b, t6c]; rfl
theorem t7 : R.prog.bare := ⟨rfl, rfl, rfl, rfl, rfl, by decide +kernel⟩
theorem t8 : R.toRowW.promised := by w_witness2
theorem t9 : ld.name = ("law" : PySem.Str) := by kernel_rfl
theorem t10 : ld.params.defaults = [] := by kernel_rfl
end FWL
set_option maxHeartbeats 4000000
/-! FW2: a small language without a heap, and its evaluator. -/
namespace FW
open PySem PySem.Spec PyProof.Rows L2

/-! ### operations on data -/
def seqOf : D → Option (List D)
  | .tup xs => some xs
  | .lst xs => some xs
  | .frl xs => some xs
  | _ => none
mutual
def toPy : D → PyData
  | .non => .none
  | .bl b => .bool b
  | .int i => .int i
  | .str x => .str x
  | .tup xs => .tuple (toPys xs)
  | .lst xs => .list (toPys xs)
  | .frl xs => .list (toPys xs)
  | .fn _ => .dict []
  | .pool => .dict []
def toPys : List D → List PyData
  | [] => []
  | x :: xs => toPy x :: toPys xs
end
mutual
/-- Python's == -/
def eqv : D → D → Bool
  | .non, .non => true
  | .bl a, .bl b => a == b
  | .bl a, .int j => (if a then 1 else 0) == j
  | .int i, .bl b => i == (if b then 1 else 0)
  | .int i, .int j => i == j
  | .str x, .str y => x == y
  | .tup xs, .tup ys => eqvs xs ys
  | .lst xs, .lst ys => eqvs xs ys
  | .lst xs, .frl ys => eqvs xs ys
  | .frl xs, .lst ys => eqvs xs ys
  | .frl xs, .frl ys => eqvs xs ys
  | _, _ => false
def eqvs : List D → List D → Bool
  | [], [] => true
  | x :: xs, y :: ys => eqv x y && eqvs xs ys
  | _, _ => false
end
mutual
/-- data that == can compare: no def, no pool, texts of signs; how deep -/
def plainD : D → Bool
  | .str x => PyData.strOk x
  | .tup xs => plains xs
  | .lst xs => plains xs
  | .frl xs => plains xs
  | .fn _ => false
  | .pool => false
  | _ => true
def plains : List D → Bool
  | [] => true
  | x :: xs => plainD x && plains xs
end
mutual
def deep : D → Nat
  | .tup xs => deeps xs + 1
  | .lst xs => deeps xs + 1
  | .frl xs => deeps xs + 1
  | _ => 0
def deeps : List D → Nat
  | [] => 0
  | x :: xs => max (deep x) (deeps xs)
end
def okD (d : D) : Bool := plainD d && decide (deep d ≤ 60)
/-- == where it may be asked -/
def eqD (a b : D) : Option Bool := if okD a && okD b then some (eqv a b) else none

def truD : D → Option Bool
  | .non => some false
  | .bl b => some b
  | .int i => some (i != 0)
  | .str x => if x.length ≤ sizeLine then some (x.length != 0) else none
  | .tup xs => some (!xs.isEmpty)
  | .lst xs => some (!xs.isEmpty)
  | .frl xs => some (!xs.isEmpty)
  | _ => none
def mulOk (i j : Int) : Bool := decide (Builtin.Int.intBits i + Builtin.Int.intBits j ≤ 134217728)
def divOk (i j : Int) : Bool := decide (j ≠ 0) && !Builtin.divisionGoesByPylong i j
def repOk (n : Nat) (k : Int) : Bool := decide (-(2 ^ 62) ≤ k) && (decide (k < 2 ^ 62) && decide (n * k.toNat ≤ 1000000))
/-- two-place operators -/
def opD : Operator → D → D → Option D
  | .Add, .int i, .int j => some (.int (i + j))
  | .Add, .str x, .str y => if x.length + y.length ≤ 1000000 then some (.str (x ++ y)) else none
  | .Add, .tup xs, .tup ys => if xs.length + ys.length ≤ 1000000 then some (.tup (xs ++ ys)) else none
  | .Add, .lst xs, .lst ys => if xs.length + ys.length ≤ 1000000 then some (.lst (xs ++ ys)) else none
  | .Sub, .int i, .int j => some (.int (i - j))
  | .Mult, .int i, .int j => if mulOk i j then some (.int (i * j)) else none
  | .Mult, .lst xs, .int k => if repOk xs.length k then some (.lst (List.replicate k.toNat xs).flatten) else none
  | .FloorDiv, .int i, .int j => if divOk i j then some (.int (i.fdiv j)) else none
  | .Mod, .int i, .int j => if j = 0 then none else some (.int (i.fmod j))
  | .Pow, .int i, .int j => if decide (0 ≤ j) && (decide (j ≤ 1000) && decide (i.natAbs < 2 ^ 64)) then some (.int (i ^ j.toNat)) else none
  | _, _, _ => none
/-- what == may find within a row: numbers, texts, truths, None -/
def flatD : D → Bool
  | .non => true
  | .bl _ => true
  | .int _ => true
  | .str _ => true
  | _ => false
def inD (x : D) (ys : List D) : Option Bool := if okD x && plains ys && decide (deeps ys ≤ 60) then some (ys.any fun y => eqv y x) else none
def cmpD : CmpOp → D → D → Option D
  | .Lt, .int i, .int j => some (.bl (decide (i < j)))
  | .LtE, .int i, .int j => some (.bl (decide (i ≤ j)))
  | .Gt, .int i, .int j => some (.bl (decide (j < i)))
  | .GtE, .int i, .int j => some (.bl (decide (j ≤ i)))
  | .Eq, a, b => (eqD a b).map D.bl
  | .NotEq, a, b => (eqD a b).map fun r => D.bl (!r)
  | .Is, .non, .non => some (.bl true)
  | .Is, .bl _, .non => some (.bl false)
  | .Is, .int _, .non => some (.bl false)
  | .Is, .str _, .non => some (.bl false)
  | .Is, .tup _, .non => some (.bl false)
  | .Is, .lst _, .non => some (.bl false)
  | .Is, .frl _, .non => some (.bl false)
  | .Is, .non, .bl _ => some (.bl false)
  | .Is, .bl a, .bl b => some (.bl (a == b))
  | .IsNot, .non, .non => some (.bl false)
  | .IsNot, .bl _, .non => some (.bl true)
  | .IsNot, .int _, .non => some (.bl true)
  | .IsNot, .str _, .non => some (.bl true)
  | .IsNot, .tup _, .non => some (.bl true)
  | .IsNot, .lst _, .non => some (.bl true)
  | .IsNot, .frl _, .non => some (.bl true)
  | .IsNot, .non, .bl _ => some (.bl true)
  | .IsNot, .bl a, .bl b => some (.bl (a != b))
  | .In, x, y => ((seqOf y).bind (inD x)).map D.bl
  | .NotIn, x, y => ((seqOf y).bind (inD x)).map fun r => D.bl (!r)
  | _, _, _ => none
/-- xs[i] -/
def ixD : D → D → Option D
  | .tup xs, .int i => atI xs i
  | .lst xs, .int i => atI xs i
  | .frl xs, .int i => atI xs i
  | _, _ => none
/-- an end of a slice: absent, or an int -/
def partD : Bool → D → Option (Option Int)
  | true, _ => some none
  | false, .int i => some (some i)
  | _, _ => none
def cutD (xs : List D) (lo hi : Option Int) : List D := (xs.drop (HT.sIx xs.length 0 lo)).take (HT.sIx xs.length xs.length hi - HT.sIx xs.length 0 lo)
def slD : D → Option Int → Option Int → Option D
  | .tup xs, lo, hi => some (.tup (cutD xs lo hi))
  | .lst xs, lo, hi => some (.lst (cutD xs lo hi))
  | .frl xs, lo, hi => some (.lst (cutD xs lo hi))
  | _, _, _ => none
/-- the built-in classes that isinstance is asked for -/
inductive Tn where
  | int | bool | tuple | str
  deriving DecidableEq
def Tn.nm : Tn → String
  | .int => "int"
  | .bool => "bool"
  | .tuple => "tuple"
  | .str => "str"
def isiD : Tn → D → Option Bool
  | _, .fn _ => none
  | _, .pool => none
  | .int, .int _ => some true
  | .int, .bl _ => some true
  | .int, _ => some false
  | .bool, .bl _ => some true
  | .bool, _ => some false
  | .tuple, .tup _ => some true
  | .tuple, _ => some false
  | .str, .str _ => some true
  | .str, _ => some false
def allB : List D → Option (List Bool)
  | [] => some []
  | .bl b :: ds => (allB ds).map (b :: ·)
  | _ => none
def allI : List D → Option (List Int)
  | [] => some []
  | .int b :: ds => (allI ds).map (b :: ·)
  | _ => none
/-- built-in functions -/
inductive Bi where
  | len | tuple | list | abs | int | gcd | divmod | max2 | min2 | all | any | sum | max1 | min1 | sorted
  deriving DecidableEq
/-- a list's items -/
def lsOf : D → Option (List D)
  | .lst xs => some xs
  | .frl xs => some xs
  | _ => none
def maxL : List Int → Option Int
  | [] => none
  | x :: xs => some (xs.foldl max x)
def minL : List Int → Option Int
  | [] => none
  | x :: xs => some (xs.foldl min x)
def biD : Bi → List D → Option D
  | .len, [.str x] => if x.length ≤ sizeLine then some (.int x.length) else none
  | .len, [x] => (seqOf x).map fun xs => .int xs.length
  | .tuple, [x] => (seqOf x).map .tup
  | .list, [x] => (seqOf x).map .lst
  | .abs, [.int i] => some (.int i.natAbs)
  | .int, [.int i] => some (.int i)
  | .int, [.bl b] => some (.int (if b then 1 else 0))
  | .gcd, [.int a, .int b] => some (.int ((Nat.gcd a.natAbs b.natAbs : Nat) : Int))
  | .divmod, [.int i, .int j] => if decide (0 < j) && !Builtin.divisionGoesByPylong i j then some (.tup [.int (i / j), .int (i % j)]) else none
  | .max2, [.int i, .int j] => some (.int (if j > i then j else i))
  | .min2, [.int i, .int j] => some (.int (if j < i then j else i))
  | .all, [x] => ((lsOf x).bind allB).map fun bs => .bl (bs.all id)
  | .any, [x] => ((lsOf x).bind allB).map fun bs => .bl (bs.any id)
  | .sum, [x] => ((lsOf x).bind allI).map fun ns => .int ns.sum
  | .max1, [x] => (((lsOf x).bind allI).bind maxL).map .int
  | .min1, [x] => (((lsOf x).bind allI).bind minL).map .int
  | _, _ => none

/-! ### the language -/
/-- a target: a name's slot; a tuple of targets; name[k], the name a list of the frame's own or the pool -/
inductive Tg where
  | nm (i : Nat) | nil | cons (t ts : Tg) | sub (i : Nat) (k : Nat)
mutual
inductive PX where
  | bot | abs
  | var (i : Nat) | con (d : D) | glo (k : Nat) | fnv (g : Nat)
  | bin (op : Operator) (a b : PX) | neg (a : PX) | not (a : PX)
  | cmp (op : CmpOp) (a b : PX) | chn (op op' : CmpOp) (a b c : PX)
  | and (a b : PX) | or (a b : PX) | ite (c a b : PX)
  | tup (es : PXs) | lst (es : PXs) | snoc (a x : PX)
  | ix (a i : PX) | sl (a lo hi : PX)
  | call (g : Nat) (es : PXs) | calld (g : Nat) (es : PXs) | callv (i : Nat) (es : PXs)
  | bi (b : Bi) (es : PXs) | isi (a : PX) (n : Tn)
  | lc (elt : PX) (tg : Tg) (src : Sr) (c : PX) (vs : List Nat)
inductive PXs where
  | nil | cons (e : PX) (es : PXs)
/-- what a loop or a comprehension walks -/
inductive Sr where
  | it (e : PX) | rng1 (e : PX) | rng2 (a b : PX) | enm (e : PX) | zip (a b : PX)
end
def isAbs : PX → Bool
  | .abs => true
  | _ => false
mutual
inductive QS where
  | bot
  | asg (t : Tg) (e : PX) | own (i : Nat) (es : PXs) | ownc (i : Nat) (elt : PX) (tg : Tg) (src : Sr) (c : PX) (vs : List Nat)
  | par (i j : Nat) (a b : PX) | paro (i j : Nat) (a : PX)
  | app (i : Nat) (e : PX) | ext (i : Nat) (e : PX) | frz (i : Nat) | setix (i : Nat) (k e : PX)
  | ifs (c : PX) (a b : QSs) | whl (c : PX) (b : QSs) | fr (t : Tg) (src : Sr) (b : QSs)
  | ret (e : PX) | retn | brk | cnt | pass | exp (e : PX)
inductive QSs where
  | nil | cons (s : QS) (r : QSs)
end

/-! ### the evaluator -/
inductive Slot where
  | no | dat (d : D) | own (ds : List D)
  deriving Inhabited
abbrev En := List Slot
abbrev M (α : Type) := Option (α × Pl)
/-- the surroundings: constants of the module, the defs -/
structure Cf where
  cons : List D
  call : Nat → List D → Pl → M D
  dfl : Nat → List D
  fuel : Nat

def Slot.get : Slot → Option D
  | .dat d => some d
  | _ => none
/-- a slot read by what keeps nothing of it -/
def Slot.peek : Slot → Option D
  | .dat d => some d
  | .own ds => some (.lst ds)
  | .no => none
def rd (ρ : En) (i : Nat) : Option D := (ρ[i]?.getD .no).get
def pk (ρ : En) (i : Nat) : Option D := (ρ[i]?.getD .no).peek

mutual
/-- a value to a target -/
def bindT : Tg → D → En → Pl → Option (En × Pl)
  | .nm i, d, ρ, p => if i < ρ.length then some (ρ.set i (.dat d), p) else none
  | .sub i k, d, ρ, p => match ρ[i]?.getD .no with
    | .dat .pool => if k < p.length then some (ρ, p.set k d) else none
    | .own ds => if k < ds.length then some (ρ.set i (.own (ds.set k d)), p) else none
    | _ => none
  | .nil, d, ρ, p => match d with
    | .tup [] => some (ρ, p)
    | _ => none
  | .cons t ts, d, ρ, p => match d with
    | .tup (x :: xs) => (bindT t x ρ p).bind fun r => bindT ts (.tup xs) r.1 r.2
    | _ => none
end
/-- items with a function that may leave some out -/
def mapF (f : D → Pl → Option (Option D × Pl)) : List D → Pl → Option (List D × Pl)
  | [], p => some ([], p)
  | d :: ds, p => (f d p).bind fun r => (mapF f ds r.2).bind fun q => some (match r.1 with | some x => x :: q.1 | none => q.1, q.2)
def wipeE (ρ : En) : List Nat → En
  | [] => ρ
  | v :: vs => (wipeE ρ vs).set v .no
def pairs : List D → List D → List D
  | x :: xs, y :: ys => .tup [x, y] :: pairs xs ys
  | _, _ => []
def isTup : D → Bool
  | .tup _ => true
  | _ => false
def enumF (n : Nat) : List D → List D
  | [] => []
  | x :: xs => .tup [.int n, x] :: enumF (n + 1) xs
def rangeD (lo : Int) (n : Nat) : List D := (List.range n).map fun i => .int (lo + (i : Nat))
def rngOk (i : Int) : Bool := decide (-(2 ^ 62) ≤ i) && decide (i < 2 ^ 62)

/-- a step of a comprehension -/
def lcF (t : Tg) (vs : List Nat) (Fc Fe : En → Pl → M D) (ρ : En) : D → Pl → Option (Option D × Pl) := fun d p => (bindT t d (wipeE ρ vs) p).bind fun r => match r.2 with
  | p => (Fc r.1 p).bind fun tt => (truD tt.1).bind fun b => match b with
    | true => (Fe r.1 tt.2).bind fun y => some (some y.1, y.2)
    | false => some (none, tt.2)
def lcE (t : Tg) (vs : List Nat) (Fs : En → Pl → M (List D)) (Fc Fe : En → Pl → M D) : En → Pl → M D := fun ρ p => (Fs ρ p).bind fun x => (mapF (lcF t vs Fc Fe ρ) x.1 x.2).bind fun q => if q.1.length ≤ 1000000 then some (.lst q.1, q.2) else none
/-- an operand of what keeps nothing of it: a list of the frame's own may be read -/
def evOf : PX → En → Pl → M D → M D
  | .var i, ρ, p, _ => (pk ρ i).bind fun d => some (d, p)
  | _, _, _, r => r
mutual
def ev (c : Cf) : PX → En → Pl → M D
  | .bot, _, _ => none
  | .abs, _, p => some (.non, p)
  | .var i, ρ, p => (rd ρ i).bind fun d => some (d, p)
  | .con d, _, p => some (d, p)
  | .glo k, _, p => (c.cons[k]?).bind fun d => some (d, p)
  | .fnv g, _, p => some (.fn g, p)
  | .bin op a b, ρ, p => (ev c a ρ p).bind fun x => (ev c b ρ x.2).bind fun y => (opD op x.1 y.1).bind fun d => some (d, y.2)
  | .neg a, ρ, p => (ev c a ρ p).bind fun x => match x.1 with
    | .int i => some (.int (-i), x.2)
    | _ => none
  | .not a, ρ, p => (ev c a ρ p).bind fun x => (truD x.1).bind fun b => some (.bl (!b), x.2)
  | .cmp op a b, ρ, p => (evOf a ρ p (ev c a ρ p)).bind fun x => (evOf b ρ x.2 (ev c b ρ x.2)).bind fun y => (cmpD op x.1 y.1).bind fun d => some (d, y.2)
  | .chn op op' a b e, ρ, p => (ev c a ρ p).bind fun x => (ev c b ρ x.2).bind fun y => (cmpD op x.1 y.1).bind fun d => match d with
    | .bl true => (ev c e ρ y.2).bind fun w => (cmpD op' y.1 w.1).bind fun d' => some (d', w.2)
    | .bl false => some (.bl false, y.2)
    | _ => none
  | .and a b, ρ, p => (ev c a ρ p).bind fun x => (truD x.1).bind fun t => match t with
    | true => ev c b ρ x.2
    | false => some x
  | .or a b, ρ, p => (ev c a ρ p).bind fun x => (truD x.1).bind fun t => match t with
    | true => some x
    | false => ev c b ρ x.2
  | .ite e a b, ρ, p => (ev c e ρ p).bind fun x => (truD x.1).bind fun t => match t with
    | true => ev c a ρ x.2
    | false => ev c b ρ x.2
  | .tup es, ρ, p => (evs c es ρ p).bind fun x => if x.1.length ≤ 1000000 then some (.tup x.1, x.2) else none
  | .lst es, ρ, p => (evs c es ρ p).bind fun x => if x.1.length ≤ 1000000 then some (.lst x.1, x.2) else none
  | .snoc a e, ρ, p => (evOf a ρ p (ev c a ρ p)).bind fun x => (ev c e ρ x.2).bind fun y => match x.1 with
    | .lst xs => if xs.length ≤ 1000000 then some (.lst (xs ++ [y.1]), y.2) else none
    | _ => none
  | .ix a i, ρ, p => (evOf a ρ p (ev c a ρ p)).bind fun x => (ev c i ρ x.2).bind fun y => match x.1, y.1 with
    | .pool, .int k => (atI y.2 k).bind fun d => some (d, y.2)
    | x1, y1 => (ixD x1 y1).bind fun d => some (d, y.2)
  | .sl a lo hi, ρ, p => (evOf a ρ p (ev c a ρ p)).bind fun x => (ev c lo ρ x.2).bind fun y => (partD (isAbs lo) y.1).bind fun l => (ev c hi ρ y.2).bind fun w => (partD (isAbs hi) w.1).bind fun h => (slD x.1 l h).bind fun d => some (d, w.2)
  | .call g es, ρ, p => (evs c es ρ p).bind fun x => c.call g x.1 x.2
  | .calld g es, ρ, p => (evs c es ρ p).bind fun x => c.call g (x.1 ++ c.dfl g) x.2
  | .callv i es, ρ, p => match rd ρ i with
    | some (.fn g) => (evs c es ρ p).bind fun x => c.call g x.1 x.2
    | _ => none
  | .bi b es, ρ, p => (evOs c es ρ p).bind fun x => (biD b x.1).bind fun d => some (d, x.2)
  | .isi a n, ρ, p => (ev c a ρ p).bind fun x => (isiD n x.1).bind fun b => some (.bl b, x.2)
  | .lc elt tg src e vs, ρ, p => lcE tg vs (evSr c src) (ev c e) (ev c elt) ρ p
termination_by structural x => x
def evs (c : Cf) : PXs → En → Pl → M (List D)
  | .nil, _, p => some ([], p)
  | .cons e es, ρ, p => (ev c e ρ p).bind fun x => (evs c es ρ x.2).bind fun y => some (x.1 :: y.1, y.2)
termination_by structural x => x
def evOs (c : Cf) : PXs → En → Pl → M (List D)
  | .nil, _, p => some ([], p)
  | .cons e es, ρ, p => (evOf e ρ p (ev c e ρ p)).bind fun x => (evOs c es ρ x.2).bind fun y => some (x.1 :: y.1, y.2)
termination_by structural x => x
def evSr (c : Cf) : Sr → En → Pl → M (List D)
  | .it e, ρ, p => (evOf e ρ p (ev c e ρ p)).bind fun x => (seqOf x.1).bind fun xs => some (xs, x.2)
  | .rng1 e, ρ, p => (ev c e ρ p).bind fun x => match x.1 with
    | .int j => if rngOk j then some (rangeD 0 j.toNat, x.2) else none
    | _ => none
  | .rng2 a b, ρ, p => (ev c a ρ p).bind fun x => (ev c b ρ x.2).bind fun y => match x.1, y.1 with
    | .int i, .int j => if rngOk i && rngOk j then some (rangeD i (j - i).toNat, y.2) else none
    | _, _ => none
  | .enm e, ρ, p => (evOf e ρ p (ev c e ρ p)).bind fun x => (seqOf x.1).bind fun xs => some (enumF 0 xs, x.2)
  | .zip a b, ρ, p => (evOf a ρ p (ev c a ρ p)).bind fun x => (evOf b ρ x.2 (ev c b ρ x.2)).bind fun y => (seqOf x.1).bind fun xs => (seqOf y.1).bind fun ys => if isTup x.1 == isTup y.1 then some (pairs xs ys, y.2) else none
termination_by structural x => x
end
def evO (c : Cf) (e : PX) (ρ : En) (p : Pl) : M D := evOf e ρ p (ev c e ρ p)
end FW
/-! FW3: statements, defs, the run of a table of defs. -/
namespace FW
open PySem PySem.Spec PyProof.Rows L2

inductive Fl where
  | nx | brk | cnt | ret (d : D)
  deriving Inhabited
abbrev X3 := Option (Fl × En × Pl)
def whileF (tst : En → Pl → Option (Bool × Pl)) (body : En → Pl → X3) : Nat → En → Pl → X3
  | 0, _, _ => none
  | n + 1, ρ, p => (tst ρ p).bind fun t => match t.1 with
    | false => some (.nx, ρ, t.2)
    | true => (body ρ t.2).bind fun r => match r.1 with
      | .nx => whileF tst body n r.2.1 r.2.2
      | .cnt => whileF tst body n r.2.1 r.2.2
      | .brk => some (.nx, r.2)
      | .ret d => some (.ret d, r.2)
def forF (body : D → En → Pl → X3) : List D → En → Pl → X3
  | [], ρ, p => some (.nx, ρ, p)
  | d :: ds, ρ, p => (body d ρ p).bind fun r => match r.1 with
    | .nx => forF body ds r.2.1 r.2.2
    | .cnt => forF body ds r.2.1 r.2.2
    | .brk => some (.nx, r.2)
    | .ret d => some (.ret d, r.2)
def setS (ρ : En) (i : Nat) (s : Slot) : Option En := if i < ρ.length then some (ρ.set i s) else none
/-- the items that a for statement walks: nothing that the frame owns -/
def evSrS (c : Cf) : Sr → En → Pl → M (List D)
  | .it e, ρ, p => (ev c e ρ p).bind fun x => (seqOf x.1).bind fun xs => some (xs, x.2)
  | .enm e, ρ, p => (ev c e ρ p).bind fun x => (seqOf x.1).bind fun xs => some (enumF 0 xs, x.2)
  | .zip a b, ρ, p => (ev c a ρ p).bind fun x => (ev c b ρ x.2).bind fun y => (seqOf x.1).bind fun xs => (seqOf y.1).bind fun ys => if isTup x.1 == isTup y.1 then some (pairs xs ys, y.2) else none
  | s, ρ, p => evSr c s ρ p
mutual
def ex (c : Cf) : QS → En → Pl → X3
  | .bot, _, _ => none
  | .asg t e, ρ, p => (ev c e ρ p).bind fun x => (bindT t x.1 ρ x.2).bind fun r => some (.nx, r)
  | .own i es, ρ, p => (evs c es ρ p).bind fun x => if x.1.length ≤ 1000000 then (setS ρ i (.own x.1)).bind fun ρ => some (.nx, ρ, x.2) else none
  | .ownc i elt tg src e vs, ρ, p => (ev c (.lc elt tg src e vs) ρ p).bind fun x => match x.1 with
    | .lst ds => (setS ρ i (.own ds)).bind fun ρ => some (.nx, ρ, x.2)
    | _ => none
  | .par i j a b, ρ, p => (ev c a ρ p).bind fun x => (ev c b ρ x.2).bind fun y => (setS ρ i (.dat x.1)).bind fun ρ => (setS ρ j (.dat y.1)).bind fun ρ => some (.nx, ρ, y.2)
  | .paro i j a, ρ, p => (ev c a ρ p).bind fun x => (setS ρ i (.dat x.1)).bind fun ρ => (setS ρ j (.own [])).bind fun ρ => some (.nx, ρ, x.2)
  | .app i e, ρ, p => (ev c e ρ p).bind fun x => match ρ[i]?.getD .no with
    | .own ds => if ds.length ≤ 1000000 then (setS ρ i (.own (ds ++ [x.1]))).bind fun ρ => some (.nx, ρ, x.2) else none
    | _ => none
  | .ext i e, ρ, p => (ev c e ρ p).bind fun x => match ρ[i]?.getD .no, x.1 with
    | .own ds, .lst es => if ds.length + es.length ≤ 1000000 then (setS ρ i (.own (ds ++ es))).bind fun ρ => some (.nx, ρ, x.2) else none
    | _, _ => none
  | .frz i, ρ, p => match ρ[i]?.getD .no with
    | .own ds => (setS ρ i (.dat (.lst ds))).bind fun ρ => some (.nx, ρ, p)
    | _ => none
  | .setix i k e, ρ, p => (ev c e ρ p).bind fun x => (ev c k ρ x.2).bind fun y => match ρ[i]?.getD .no, y.1 with
    | .own ds, .int k => (ixN ds.length k).bind fun j => (setS ρ i (.own (ds.set j x.1))).bind fun ρ => some (.nx, ρ, y.2)
    | .dat .pool, .int k => (ixN y.2.length k).bind fun j => some (.nx, ρ, y.2.set j x.1)
    | _, _ => none
  | .ifs e a b, ρ, p => (ev c e ρ p).bind fun x => (truD x.1).bind fun t => match t with
    | true => exs c a ρ x.2
    | false => exs c b ρ x.2
  | .whl e b, ρ, p => whileF (fun ρ p => (ev c e ρ p).bind fun x => (truD x.1).bind fun t => some (t, x.2)) (fun ρ p => exs c b ρ p) c.fuel ρ p
  | .fr t src b, ρ, p => (evSrS c src ρ p).bind fun x => forF (fun d ρ p => (bindT t d ρ p).bind fun r => exs c b r.1 r.2) x.1 ρ x.2
  | .ret e, ρ, p => (evO c e ρ p).bind fun x => some (.ret x.1, ρ, x.2)
  | .retn, ρ, p => some (.ret .non, ρ, p)
  | .brk, ρ, p => some (.brk, ρ, p)
  | .cnt, ρ, p => some (.cnt, ρ, p)
  | .pass, ρ, p => some (.nx, ρ, p)
  | .exp e, ρ, p => (ev c e ρ p).bind fun x => some (.nx, ρ, x.2)
termination_by structural x => x
def exs (c : Cf) : QSs → En → Pl → X3
  | .nil, ρ, p => some (.nx, ρ, p)
  | .cons s r, ρ, p => (ex c s ρ p).bind fun x => match x.1 with
    | .nx => exs c r x.2.1 x.2.2
    | _ => some x
termination_by structural x => x
end
/-- a def: its name, parameters, all names, defaults, body -/
structure Df where
  nm : Str
  ps : List Str
  N : List Str
  dfl : List D
  body : QSs
def startE (n : Nat) (ds : List D) : En := ds.map Slot.dat ++ List.replicate (n - ds.length) Slot.no
def endE : Option (Fl × En × Pl) → M D
  | some (.ret d, _, p) => some (d, p)
  | some (.nx, _, p) => some (.non, p)
  | _ => none
def dfls (T : List Df) (g : Nat) : List D := match T[g]? with
  | some df => df.dfl
  | none => []
def run (T : List Df) (cons : List D) (fuel : Nat) : Nat → Nat → List D → Pl → M D
  | 0, _, _, _ => none
  | n + 1, g, ds, p => match T[g]? with
    | none => none
    | some df => if ds.length = df.ps.length then endE (exs ⟨cons, run T cons fuel n, dfls T, fuel⟩ df.body (startE df.N.length ds) p) else none
end FW
/-! FW4: the operations keep what the evaluator says. -/
namespace FW
open PySem PySem.Spec PyProof.Rows L2

theorem PE.imp {X : Cx} {e : Expr} {t t' : TE} (h : PE X e t) (hi : ∀ σ H Q, t' σ H Q → t σ H Q) : PE X e t' := ⟨fun pins s σ H Q I q => h.run pins s σ H Q I (hi _ _ _ q)⟩
theorem PT.imp {X : Cx} {e : Expr} {t t' : TT} (h : PT X e t) (hi : ∀ σ H Q, t' σ H Q → t σ H Q) : PT X e t' := ⟨fun pins s σ H Q I q => h.run pins s σ H Q I (hi _ _ _ q)⟩
theorem PA.imp {X : Cx} {e : List Expr} {t t' : TA} (h : PA X e t) (hi : ∀ σ H Q, t' σ H Q → t σ H Q) : PA X e t' := ⟨fun pos pins s σ H Q I q => h.run pos pins s σ H Q I (hi _ _ _ q)⟩
theorem PI.imp {X : Cx} {tg e : Expr} {t t' : TI} (h : PI X tg e t) (hi : ∀ σ H Q, t' σ H Q → t σ H Q) : PI X tg e t' := ⟨fun pins s σ H Q I q => h.run pins s σ H Q I (hi _ _ _ q)⟩
theorem PS.imp {X : Cx} {e : Stmt} {t t' : TS} (h : PS X e t) (hi : ∀ σ H Q, t' σ H Q → t σ H Q) : PS X e t' := ⟨fun pins s σ H Q I q => h.run pins s σ H Q I (hi _ _ _ q)⟩
theorem PSs.imp {X : Cx} {e : List Stmt} {t t' : TS} (h : PSs X e t) (hi : ∀ σ H Q, t' σ H Q → t σ H Q) : PSs X e t' := ⟨fun pins s σ H Q I q => h.run pins s σ H Q I (hi _ _ _ q)⟩
theorem PG.imp {X : Cx} {e : Expr} {t t' : TG} (h : PG X e t) (hi : ∀ v σ H Q, t' v σ H Q → t v σ H Q) : PG X e t' := ⟨fun pins s σ H v u Q I r q => h.run pins s σ H v u Q I r (hi _ _ _ _ q)⟩
theorem OpR.imp {X : Cx} {f : Value → Value → Sem Value} {r r' : R2} (h : OpR X f r) (hi : ∀ x y H Q, r' x y H Q → r x y H Q) : OpR X f r' := fun pins s σ H x y v u Q I rx ry q => h pins s σ H x y v u Q I rx ry (hi _ _ _ _ q)
theorem CallR.imp {X : Cx} {f : Value} {r r' : List V → Hp → VK → Prop} (h : CallR X f r) (hi : ∀ x H Q, r' x H Q → r x H Q) : CallR X f r' := fun pins s σ H x u Q I rx q => h pins s σ H x u Q I rx (hi _ _ _ q)

/-- as Rep, or a list of the frame's own -/
def RepO (G : GC) (z : Zn) (H : Hp) (d : D) (v : V) : Prop := Rep G z.pa (hide z H) d v ∨ ∃ a xs ds, v = .ref a ∧ d = .lst ds ∧ a ∈ z.O ∧ H a = some (.lst xs) ∧ Reps G z.pa (hide z H) ds xs
def RepOs (G : GC) (z : Zn) (H : Hp) : List D → List V → Prop
  | [], vs => vs = []
  | d :: ds, vs => ∃ v r, vs = v :: r ∧ RepO G z H d v ∧ RepOs G z H ds r
section
variable {G : GC} {z : Zn} {pl : Pl} {H H' : Hp} {v w : V} {d : D} {ds : List D}
theorem Rep.o (h : Rep G z.pa (hide z H) d v) : RepO G z H d v := .inl h
theorem RepO.stp (h : RepO G z H d v) (s : Stp z H H') : RepO G z H' d v := by
  rcases h with h | ⟨a, xs, ds, h1, h2, h3, h4, h5⟩
  · exact .inl (Rep.same s.same _ _ h)
  · exact .inr ⟨a, xs, ds, h1, h2, h3, by rw [s.own a (.inr h3)]; exact h4, Reps.same s.same _ _ h5⟩
theorem RepOs.stp (s : Stp z H H') : ∀ {ds : List D} {vs : List V}, RepOs G z H ds vs → RepOs G z H' ds vs
  | [], _, h => h
  | _ :: _, _, ⟨v, r, h1, h2, h3⟩ => ⟨v, r, h1, h2.stp s, RepOs.stp s h3⟩
theorem RepO.int {i : Int} (h : RepO G z H (.int i) v) : v = .int i := by
  rcases h with h | ⟨a, xs, ds, h1, h2, _⟩
  · exact h
  · cases h2
theorem RepO.bl {i : Bool} (h : RepO G z H (.bl i) v) : v = .bl i := by
  rcases h with h | ⟨a, xs, ds, h1, h2, _⟩
  · exact h
  · cases h2
theorem RepO.str {i : Str} (h : RepO G z H (.str i) v) : v = .str i := by
  rcases h with h | ⟨a, xs, ds, h1, h2, _⟩
  · exact h
  · cases h2
theorem RepO.non (h : RepO G z H .non v) : v = .non := by
  rcases h with h | ⟨a, xs, ds, h1, h2, _⟩
  · exact h
  · cases h2
theorem RepO.tup (h : RepO G z H (.tup ds) v) : ∃ a xs, v = .ref a ∧ SqT G.K (hide z H) a xs ∧ Reps G z.pa (hide z H) ds xs := by
  rcases h with h | ⟨a, xs, ds, h1, h2, _⟩
  · exact h
  · cases h2
theorem RepO.frl (h : RepO G z H (.frl ds) v) : ∃ a xs, v = .ref a ∧ SqL G.K (hide z H) a xs ∧ Reps G z.pa (hide z H) ds xs := by
  rcases h with h | ⟨a, xs, ds, h1, h2, _⟩
  · exact h
  · cases h2
theorem RepO.pool (h : RepO G z H .pool v) : ∃ a, z.pa = some a ∧ v = .ref a := by
  rcases h with h | ⟨a, xs, ds, h1, h2, _⟩
  · exact h
  · cases h2
theorem RepO.fn {g : Nat} (h : RepO G z H (.fn g) v) : ∃ a, G.fa g = some a ∧ v = .ref a := by
  rcases h with h | ⟨a, xs, ds, h1, h2, _⟩
  · exact h
  · cases h2
theorem RepO.lst (h : RepO G z H (.lst ds) v) : ∃ a xs, v = .ref a ∧ H a = some (.lst xs) ∧ Reps G z.pa (hide z H) ds xs := by
  rcases h with ⟨a, xs, h1, h2, h3⟩ | ⟨a, xs, ds, h1, h2, h3, h4, h5⟩
  · exact ⟨a, xs, h1, (hide_some.mp h2).2, h3⟩
  · cases h2
    exact ⟨a, xs, h1, h4, h5⟩
/-- what can be walked, by what stands there -/
theorem RepO.seq {xs : List D} (h : RepO G z H d v) (e : seqOf d = some xs) : ∃ a vs, v = .ref a ∧ (SqL G.K H a vs ∨ SqT G.K H a vs) ∧ Reps G z.pa (hide z H) xs vs := by
  cases d with
  | tup ds =>
    cases e
    obtain ⟨a, vs, h1, h2, h3⟩ := h.tup
    exact ⟨a, vs, h1, .inr (SqT.same (hide_same z H) h2), h3⟩
  | lst ds =>
    cases e
    obtain ⟨a, vs, h1, h2, h3⟩ := h.lst
    exact ⟨a, vs, h1, .inl (SqL.of h2), h3⟩
  | frl ds =>
    cases e
    obtain ⟨a, vs, h1, h2, h3⟩ := h.frl
    exact ⟨a, vs, h1, .inl ((hide_same z H).seq h2), h3⟩
  | _ => cases e
end

/-! ### data as PyData -/
theorem plains_iff : ∀ {ds : List D}, plains ds = true ↔ ∀ d ∈ ds, plainD d = true
  | [] => by simp [plains]
  | d :: ds => by simp [plains, plains_iff (ds := ds)]
mutual
theorem canLay_py : ∀ d : D, plainD d = true → (toPy d).canLay0 = true
  | .non, _ => rfl
  | .bl _, _ => rfl
  | .int _, _ => rfl
  | .str x, h => h
  | .tup xs, h => canLays_py xs h
  | .lst xs, h => canLays_py xs h
  | .frl xs, h => canLays_py xs h
  | .fn _, h => by cases h
  | .pool, h => by cases h
theorem canLays_py : ∀ ds : List D, plains ds = true → PyData.canLayAll0 (toPys ds) = true
  | [], _ => rfl
  | d :: ds, h => by
    obtain ⟨h1, h2⟩ := Bool.and_eq_true_iff.mp (show (plainD d && plains ds) = true from h)
    show (PyData.canLay0 (toPy d) && PyData.canLayAll0 (toPys ds)) = true
    rw [canLay_py d h1, canLays_py ds h2]; rfl
end
mutual
theorem deep_py : ∀ d : D, plainD d = true → (toPy d).depth = deep d
  | .non, _ => rfl
  | .bl _, _ => rfl
  | .int _, _ => rfl
  | .str x, h => rfl
  | .tup xs, h => congrArg (· + 1) (deeps_py xs h)
  | .lst xs, h => congrArg (· + 1) (deeps_py xs h)
  | .frl xs, h => congrArg (· + 1) (deeps_py xs h)
  | .fn _, h => by cases h
  | .pool, h => by cases h
theorem deeps_py : ∀ ds : List D, plains ds = true → PyData.depthAll (toPys ds) = deeps ds
  | [], _ => rfl
  | d :: ds, h => by
    obtain ⟨h1, h2⟩ := Bool.and_eq_true_iff.mp (show (plainD d && plains ds) = true from h)
    show max (PyData.depth (toPy d)) (PyData.depthAll (toPys ds)) = max (deep d) (deeps ds)
    rw [deep_py d h1, deeps_py ds h2]
end
theorem shaped_py {d : D} (h : okD d = true) : SeqAt.shaped (toPy d) = true := by
  obtain ⟨h1, h2⟩ := Bool.and_eq_true_iff.mp (show (plainD d && decide (deep d ≤ 60)) = true from h)
  have h3 := of_decide_eq_true h2
  show ((toPy d).canLay0 && decide ((toPy d).depth ≤ 64)) = true
  rw [canLay_py d h1, deep_py d h1, decide_eq_true (show deep d ≤ 64 by omega)]; rfl
mutual
theorem eqv_py : ∀ a b : D, plainD a = true → plainD b = true → PyData.eqv (toPy a) (toPy b) = eqv a b
  | .non, b, _, hb => by cases b <;> first | rfl | cases hb
  | .bl _, b, _, hb => by cases b <;> first | rfl | cases hb
  | .int _, b, _, hb => by cases b <;> first | rfl | cases hb
  | .str _, b, _, hb => by cases b <;> first | rfl | cases hb
  | .tup xs, b, ha, hb => by
    cases b with
    | tup ys => exact eqvs_py xs ys ha hb
    | fn _ => cases hb
    | pool => cases hb
    | _ => rfl
  | .lst xs, b, ha, hb => by
    cases b with
    | lst ys => exact eqvs_py xs ys ha hb
    | frl ys => exact eqvs_py xs ys ha hb
    | fn _ => cases hb
    | pool => cases hb
    | _ => rfl
  | .frl xs, b, ha, hb => by
    cases b with
    | lst ys => exact eqvs_py xs ys ha hb
    | frl ys => exact eqvs_py xs ys ha hb
    | fn _ => cases hb
    | pool => cases hb
    | _ => rfl
  | .fn _, b, ha, _ => by cases ha
  | .pool, b, ha, _ => by cases ha
theorem eqvs_py : ∀ xs ys : List D, plains xs = true → plains ys = true → PyData.eqvAll (toPys xs) (toPys ys) = eqvs xs ys
  | [], [], _, _ => rfl
  | [], _ :: _, _, _ => rfl
  | _ :: _, [], _, _ => rfl
  | x :: xs, y :: ys, ha, hb => by
    obtain ⟨a1, a2⟩ := Bool.and_eq_true_iff.mp (show (plainD x && plains xs) = true from ha)
    obtain ⟨b1, b2⟩ := Bool.and_eq_true_iff.mp (show (plainD y && plains ys) = true from hb)
    show (PyData.eqv (toPy x) (toPy y) && PyData.eqvAll (toPys xs) (toPys ys)) = (eqv x y && eqvs xs ys)
    rw [eqv_py x y a1 b1, eqvs_py xs ys a2 b2]
end
mutual
theorem Rep.dp {G : GC} {pa : Option Addr} {H : Hp} : ∀ (d : D) (v : V), plainD d = true → Rep G pa H d v → Dp G.K H v (toPy d)
  | .non, _, _, h => by cases (show _ = V.non from h); exact .non
  | .bl b, _, _, h => by cases (show _ = V.bl b from h); exact .bl b
  | .int b, _, _, h => by cases (show _ = V.int b from h); exact .int b
  | .str b, _, _, h => by cases (show _ = V.str b from h); exact .str b
  | .tup ds, _, p, h => by
    obtain ⟨a, xs, rfl, h2, h3⟩ := h
    exact .tup h2 (Reps.dp ds xs p h3)
  | .lst ds, _, p, h => by
    obtain ⟨a, xs, rfl, h2, h3⟩ := h
    exact .lst (SqL.of h2) (Reps.dp ds xs p h3)
  | .frl ds, _, p, h => by
    obtain ⟨a, xs, rfl, h2, h3⟩ := h
    exact .lst h2 (Reps.dp ds xs p h3)
  | .fn _, _, p, _ => by cases p
  | .pool, _, p, _ => by cases p
theorem Reps.dp {G : GC} {pa : Option Addr} {H : Hp} : ∀ (ds : List D) (vs : List V), plains ds = true → Reps G pa H ds vs → DpAll G.K H vs (toPys ds)
  | [], _, _, h => by cases h; exact .nil
  | d :: ds, _, p, h => by
    obtain ⟨v, r, rfl, h2, h3⟩ := h
    obtain ⟨p1, p2⟩ := Bool.and_eq_true_iff.mp (show (plainD d && plains ds) = true from p)
    exact .cons (Rep.dp d v p1 h2) (Reps.dp ds r p2 h3)
end
theorem RepO.dp {G : GC} {z : Zn} {H : Hp} {d : D} {v : V} (p : plainD d = true) (h : RepO G z H d v) : Dp G.K H v (toPy d) := by
  rcases h with h | ⟨a, xs, ds, rfl, rfl, h3, h4, h5⟩
  · exact Rep.dp d v p (Rep.same (hide_same z H) _ _ h)
  · exact .lst (SqL.of h4) (Reps.dp ds xs p (Reps.same (hide_same z H) _ _ h5))
theorem any_py {d : D} (hd : plainD d = true) : ∀ {ds : List D}, plains ds = true → ((toPys ds).any fun z => PyData.eqv z (toPy d)) = ds.any fun y => eqv y d
  | [], _ => rfl
  | x :: xs, h => by
    obtain ⟨h1, h2⟩ := Bool.and_eq_true_iff.mp (show (plainD x && plains xs) = true from h)
    show (PyData.eqv (toPy x) (toPy d) || (toPys xs).any _) = (eqv x d || xs.any _)
    rw [eqv_py x d h1 hd, any_py hd h2]
end FW
/-! FW5: operators, comparisons, subscripts, slices by data. -/
namespace FW
open PySem PySem.Spec PyProof.Rows L2

def r2 (G : GC) (op2 : D → D → Option D) : R2 := fun x y H Q => ∃ z pl da db d, W G z pl H ∧ RepO G z H da x ∧ RepO G z H db y ∧ op2 da db = some d ∧
  ∀ v H', Stp z H H' → W G z pl H' → Rep G z.pa (hide z H') d v → Q v H'
theorem line_ok {n : Nat} (h : n ≤ 1000000) : n ≤ sizeLine := Nat.le_trans h (by rw [sizeLine_eq]; decide)
section
variable {X : Cx} {G : GC}
theorem mulOk_ok {i j : Int} (h : mulOk i j = true) : CMulX i j := by
  have := of_decide_eq_true h
  show ((Builtin.Int.intBits i : Nat) : Int) + ((Builtin.Int.intBits j : Nat) : Int) ≤ 134217728
  omega
theorem op_fdivD : OpR X (binaryOp .FloorDiv) (rI (fun i j => divOk i j = true) fun i j => .int (i.fdiv j)) := opI fun i j _ _ _ _ _ hc q => by
  obtain ⟨h1, h2⟩ := Bool.and_eq_true_iff.mp (show (decide (j ≠ 0) && !Builtin.divisionGoesByPylong i j) = true from hc)
  exact floordiv_int (of_decide_eq_true h1) q (.inl (by simpa using h2))
theorem op_bin (hK : X.K = G.K) (op : Operator) : OpR X (binaryOp op) (r2 G (opD op)) := by
  intro pins s σ H x y v u Q I rx ry h
  obtain ⟨z, pl, da, db, d, w, ra, rb, e, q⟩ := h
  have q0 : ∀ v', Rep G z.pa (hide z H) d v' → Q v' H := fun v' r => q v' H (Stp.refl z H) w r
  have qn : ∀ p o v', H p = none → Rep G z.pa (hide z (upd H p o)) d v' → Q v' (upd H p o) := fun p o v' hp r => q v' _ (.laid w hp) (w.laid hp) r
  unfold opD at e
  split at e
  · cases e
    cases ra.int; cases rb.int
    exact op_add pins s σ H _ _ v u Q I rx ry ⟨_, _, rfl, rfl, q0 _ rfl⟩
  · split at e
    · cases e
      cases ra.str; cases rb.str
      exact op_add_str pins s σ H _ _ v u Q I rx ry ⟨_, _, rfl, rfl, line_ok (by assumption), q0 _ rfl⟩
    · cases e
  · split at e
    · rename_i hz
      cases e
      obtain ⟨a, xs, rfl, h1, h2⟩ := ra.tup
      obtain ⟨b, ys, rfl, h3, h4⟩ := rb.tup
      have l1 := h2.length
      have l2 := h4.length
      refine op_catA pins s σ H _ _ v u Q I rx ry ⟨a, b, xs, ys, rfl, rfl, by rw [hK]; exact SqT.same (hide_same z H) h1, by rw [hK]; exact SqT.same (hide_same z H) h3, line_ok (by omega), fun e => ?_, fun _ e => ?_, fun _ _ p hp => ?_⟩
      · refine q0 _ ⟨b, ys, rfl, h3, ?_⟩
        subst e
        rw [List.length_nil] at l1
        rw [List.length_eq_zero_iff.mp l1]
        exact h4
      · refine q0 _ ⟨a, xs, rfl, h1, ?_⟩
        subst e
        rw [List.length_nil] at l2
        rw [List.length_eq_zero_iff.mp l2, List.append_nil]
        exact h2
      · exact qn p _ _ hp ⟨p, _, rfl, SqT.of (w.hide_new hp), Reps.same (Stp.laid w hp).same _ _ (h2.append h4)⟩
    · cases e
  · split at e
    · rename_i hz
      cases e
      obtain ⟨a, xs, rfl, h1, h2⟩ := ra.lst
      obtain ⟨b, ys, rfl, h3, h4⟩ := rb.lst
      have l1 := h2.length
      have l2 := h4.length
      exact op_cat pins s σ H _ _ v u Q I rx ry ⟨a, b, xs, ys, rfl, rfl, h1, h3, line_ok (by omega), fun p hp => qn p _ _ hp ⟨p, _, rfl, w.hide_new hp, Reps.same (Stp.laid w hp).same _ _ (h2.append h4)⟩⟩
    · cases e
  · cases e
    cases ra.int; cases rb.int
    exact op_sub pins s σ H _ _ v u Q I rx ry ⟨_, _, rfl, rfl, q0 _ rfl⟩
  · split at e
    · rename_i hz
      cases e
      cases ra.int; cases rb.int
      exact op_mulX pins s σ H _ _ v u Q I rx ry ⟨_, _, rfl, rfl, mulOk_ok hz, q0 _ rfl⟩
    · cases e
  · split at e
    · rename_i hz
      cases e
      cases rb.int
      obtain ⟨a, xs, rfl, h1, h2⟩ := ra.lst
      obtain ⟨z1, hz⟩ := Bool.and_eq_true_iff.mp (show (_ && _) = true from hz)
      obtain ⟨z2, z3⟩ := Bool.and_eq_true_iff.mp (show (_ && _) = true from hz)
      have z1 := of_decide_eq_true z1
      have z2 := of_decide_eq_true z2
      have z3 := of_decide_eq_true z3
      have l1 := h2.length
      exact op_rep pins s σ H _ _ v u Q I rx ry ⟨a, _, xs, rfl, rfl, h1, by omega, by omega, line_ok (by rw [← l1]; exact z3), fun p hp => qn p _ _ hp ⟨p, _, rfl, w.hide_new hp, Reps.same (Stp.laid w hp).same _ _ (h2.rep _)⟩⟩
    · cases e
  · split at e
    · rename_i hz
      cases e
      cases ra.int; cases rb.int
      exact op_fdivD pins s σ H _ _ v u Q I rx ry ⟨_, _, rfl, rfl, hz, q0 _ rfl⟩
    · cases e
  · split at e
    · cases e
    · rename_i hz
      cases e
      cases ra.int; cases rb.int
      exact op_modN pins s σ H _ _ v u Q I rx ry ⟨_, _, rfl, rfl, hz, q0 _ rfl⟩
  · split at e
    · rename_i hz
      cases e
      cases ra.int; cases rb.int
      obtain ⟨z1, hz⟩ := Bool.and_eq_true_iff.mp hz
      obtain ⟨z2, z3⟩ := Bool.and_eq_true_iff.mp hz
      have z1 := of_decide_eq_true z1
      have z2 := of_decide_eq_true z2
      have z3 := of_decide_eq_true z3
      exact op_pow pins s σ H _ _ v u Q I rx ry ⟨_, _, rfl, rfl, ⟨z1, by omega, z3⟩, q0 _ rfl⟩
    · cases e
  · cases e

theorem eq_ok (hK : X.K = G.K) (hu : X.A.units + 64 < cLine) : OpR X (compareOp .Eq) (fun x y H Q => ∃ z da db r, RepO G z H da x ∧ RepO G z H db y ∧ eqD da db = some r ∧ Q (.bl r) H) := by
  intro pins s σ H x y v u Q I rx ry h
  obtain ⟨z, da, db, r, ra, rb, e, q⟩ := h
  unfold eqD at e
  split at e
  · rename_i hz
    cases e
    obtain ⟨h1, h2⟩ := Bool.and_eq_true_iff.mp hz
    have p1 := (Bool.and_eq_true_iff.mp (show (plainD da && _) = true from h1)).1
    have p2 := (Bool.and_eq_true_iff.mp (show (plainD db && _) = true from h2)).1
    refine op_eqD hu pins s σ H x y v u Q I rx ry ⟨_, _, by rw [hK]; exact ra.dp p1, by rw [hK]; exact rb.dp p2, shaped_py h1, shaped_py h2, ?_⟩
    rw [eqv_py _ _ p1 p2]
    exact q
  · cases e
theorem ne_ok (hK : X.K = G.K) (hu : X.A.units + 64 < cLine) : OpR X (compareOp .NotEq) (fun x y H Q => ∃ z da db r, RepO G z H da x ∧ RepO G z H db y ∧ eqD da db = some r ∧ Q (.bl (!r)) H) := by
  intro pins s σ H x y v u Q I rx ry h
  obtain ⟨z, da, db, r, ra, rb, e, q⟩ := h
  unfold eqD at e
  split at e
  · rename_i hz
    cases e
    obtain ⟨h1, h2⟩ := Bool.and_eq_true_iff.mp hz
    have p1 := (Bool.and_eq_true_iff.mp (show (plainD da && _) = true from h1)).1
    have p2 := (Bool.and_eq_true_iff.mp (show (plainD db && _) = true from h2)).1
    refine op_neD hu pins s σ H x y v u Q I rx ry ⟨_, _, by rw [hK]; exact ra.dp p1, by rw [hK]; exact rb.dp p2, shaped_py h1, shaped_py h2, ?_⟩
    rw [eqv_py _ _ p1 p2]
    exact q
  · cases e
theorem room_in {A : Around} {a b : Nat} (hu : A.units + 64 < cLine) (h : b ≤ 60) : A.units + 1 + min a b < cLine := by omega
theorem in_ok (hK : X.K = G.K) (hu : X.A.units + 64 < cLine) : OpR X (compareOp .In) (fun x y H Q => ∃ z da db ds r, RepO G z H da x ∧ RepO G z H db y ∧ seqOf db = some ds ∧ inD da ds = some r ∧ Q (.bl r) H) := by
  intro pins s σ H x y v u Q I rx ry h
  obtain ⟨z, da, db, ds, r, ra, rb, eS, e, q⟩ := h
  unfold inD at e
  split at e
  · rename_i hz
    cases e
    obtain ⟨hz, h3⟩ := Bool.and_eq_true_iff.mp hz
    obtain ⟨h1, h2⟩ := Bool.and_eq_true_iff.mp hz
    have h3 := of_decide_eq_true h3
    obtain ⟨p1, p3⟩ := Bool.and_eq_true_iff.mp (show (plainD da && _) = true from h1)
    have p3 := of_decide_eq_true p3
    obtain ⟨as, r1⟩ := Dp.reads I (toPy da) x v (by rw [hK]; exact ra.dp p1) rx
    have e1 := any_py p1 h2
    have hd : (toPy da).depth ≤ 60 := by rw [deep_py _ p1]; exact p3
    obtain ⟨bs, r2⟩ : ∃ bs, Reads s.heap u (toPy db) bs := by
      refine Dp.reads I (toPy db) y u ?_ ry
      rw [hK]
      refine rb.dp ?_
      cases db <;> first | (cases eS; exact h2) | cases eS
    cases db with
    | tup xs =>
      cases eS
      exact SeqAt.in_tuple_reads r2 r1 (canLays_py _ h2) (canLay_py _ p1) (room_in hu hd) ⟨.bl _, H, I, rfl, by rw [e1]; exact q⟩
    | lst xs =>
      cases eS
      exact SeqAt.in_list_reads r2 r1 (canLays_py _ h2) (canLay_py _ p1) (room_in hu hd) ⟨.bl _, H, I, rfl, by rw [e1]; exact q⟩
    | frl xs =>
      cases eS
      exact SeqAt.in_list_reads r2 r1 (canLays_py _ h2) (canLay_py _ p1) (room_in hu hd) ⟨.bl _, H, I, rfl, by rw [e1]; exact q⟩
    | _ => cases eS
  · cases e
theorem notIn_ok (hK : X.K = G.K) (hu : X.A.units + 64 < cLine) : OpR X (compareOp .NotIn) (fun x y H Q => ∃ z da db ds r, RepO G z H da x ∧ RepO G z H db y ∧ seqOf db = some ds ∧ inD da ds = some r ∧ Q (.bl (!r)) H) := by
  intro pins s σ H x y v u Q I rx ry h
  obtain ⟨z, da, db, ds, r, ra, rb, eS, e, q⟩ := h
  unfold inD at e
  split at e
  · rename_i hz
    cases e
    obtain ⟨hz, h3⟩ := Bool.and_eq_true_iff.mp hz
    obtain ⟨h1, h2⟩ := Bool.and_eq_true_iff.mp hz
    have h3 := of_decide_eq_true h3
    obtain ⟨p1, p3⟩ := Bool.and_eq_true_iff.mp (show (plainD da && _) = true from h1)
    have p3 := of_decide_eq_true p3
    obtain ⟨as, r1⟩ := Dp.reads I (toPy da) x v (by rw [hK]; exact ra.dp p1) rx
    have e1 := any_py p1 h2
    have hd : (toPy da).depth ≤ 60 := by rw [deep_py _ p1]; exact p3
    obtain ⟨bs, r2⟩ : ∃ bs, Reads s.heap u (toPy db) bs := by
      refine Dp.reads I (toPy db) y u ?_ ry
      rw [hK]
      refine rb.dp ?_
      cases db <;> first | (cases eS; exact h2) | cases eS
    cases db with
    | tup xs =>
      cases eS
      exact SeqAt.notIn_tuple_reads r2 r1 (canLays_py _ h2) (canLay_py _ p1) (room_in hu hd) ⟨.bl _, H, I, rfl, by rw [e1]; exact q⟩
    | lst xs =>
      cases eS
      exact SeqAt.notIn_list_reads r2 r1 (canLays_py _ h2) (canLay_py _ p1) (room_in hu hd) ⟨.bl _, H, I, rfl, by rw [e1]; exact q⟩
    | frl xs =>
      cases eS
      exact SeqAt.notIn_list_reads r2 r1 (canLays_py _ h2) (canLay_py _ p1) (room_in hu hd) ⟨.bl _, H, I, rfl, by rw [e1]; exact q⟩
    | _ => cases eS
  · cases e
theorem is_none_ref {z : Zn} {H : Hp} {d : D} {v : V} (h : RepO G z H d v) : d ≠ .non → v ≠ .non := by
  intro hd hv
  subst hv
  cases d with
  | non => exact hd rfl
  | bl _ => cases h.bl
  | int _ => cases h.int
  | str _ => cases h.str
  | tup _ => obtain ⟨_, _, e, _⟩ := h.tup; cases e
  | lst _ => obtain ⟨_, _, e, _⟩ := h.lst; cases e
  | frl _ => obtain ⟨_, _, e, _⟩ := h.frl; cases e
  | fn _ => obtain ⟨_, _, e⟩ := h.fn; cases e
  | pool => obtain ⟨_, _, e⟩ := h.pool; cases e
theorem op_isNB : OpR X (compareOp .Is) (fun x y H Q => x = .non ∧ (∃ b, y = .bl b) ∧ Q (.bl false) H) := by
  intro pins s σ H x y v u Q I rx ry h
  obtain ⟨rfl, ⟨b, rfl⟩, q⟩ := h
  cases (show v = Value.none from rx)
  cases (show u = Value.bool b from ry)
  exact wpAny_is_other rfl (fun z => by cases z) ⟨.bl false, H, I, rfl, q⟩
theorem op_isnotNB : OpR X (compareOp .IsNot) (fun x y H Q => x = .non ∧ (∃ b, y = .bl b) ∧ Q (.bl true) H) := by
  intro pins s σ H x y v u Q I rx ry h
  obtain ⟨rfl, ⟨b, rfl⟩, q⟩ := h
  cases (show v = Value.none from rx)
  cases (show u = Value.bool b from ry)
  exact wpAny_isNot_other rfl (fun z => by cases z) ⟨.bl true, H, I, rfl, q⟩
theorem op_cmp (hK : X.K = G.K) (hu : X.A.units + 64 < cLine) (op : CmpOp) : OpR X (compareOp op) (r2 G (cmpD op)) := by
  intro pins s σ H x y v u Q I rx ry h
  obtain ⟨z, pl, da, db, d, w, ra, rb, e, q⟩ := h
  have q0 : ∀ v', Rep G z.pa (hide z H) d v' → Q v' H := fun v' r => q v' H (Stp.refl z H) w r
  have isN : ∀ {dx : D} {b : Bool}, dx ≠ .non → RepO G z H dx x → y = .non → Q (.bl false) H → OpR X (compareOp .Is) (fun _ _ _ _ => True) → wpAny (model X.prog X.w) X.A (compareOp .Is v u) (EP X pins σ Q) X.xe s := fun hd hr hy hq _ => by
    subst hy
    exact op_isN pins s σ H x _ v u Q I rx ry ⟨rfl, by rw [decide_eq_false (is_none_ref hr hd)]; exact hq⟩
  have is1 : ∀ {dx : D}, dx ≠ .non → RepO G z H dx x → RepO G z H .non y → Q (.bl false) H → wpAny (model X.prog X.w) X.A (compareOp .Is v u) (EP X pins σ Q) X.xe s := fun hd hr hy hq => by
    cases hy.non
    exact op_isN pins s σ H x _ v u Q I rx ry ⟨rfl, by rw [decide_eq_false (is_none_ref hr hd)]; exact hq⟩
  have is2 : ∀ {dx : D}, dx ≠ .non → RepO G z H dx x → RepO G z H .non y → Q (.bl true) H → wpAny (model X.prog X.w) X.A (compareOp .IsNot v u) (EP X pins σ Q) X.xe s := fun hd hr hy hq => by
    cases hy.non
    exact op_notN pins s σ H x _ v u Q I rx ry ⟨rfl, by rw [decide_eq_false (is_none_ref hr hd)]; exact hq⟩
  unfold cmpD at e
  split at e
  · cases e; cases ra.int; cases rb.int
    exact op_lt pins s σ H _ _ v u Q I rx ry ⟨_, _, rfl, rfl, q0 _ rfl⟩
  · cases e; cases ra.int; cases rb.int
    exact op_le pins s σ H _ _ v u Q I rx ry ⟨_, _, rfl, rfl, q0 _ rfl⟩
  · cases e; cases ra.int; cases rb.int
    exact op_gt pins s σ H _ _ v u Q I rx ry ⟨_, _, rfl, rfl, q0 _ rfl⟩
  · cases e; cases ra.int; cases rb.int
    exact op_ge pins s σ H _ _ v u Q I rx ry ⟨_, _, rfl, rfl, q0 _ rfl⟩
  · obtain ⟨r, e1, rfl⟩ := Option.map_eq_some_iff.mp e
    exact eq_ok hK hu pins s σ H _ _ v u Q I rx ry ⟨z, _, _, r, ra, rb, e1, q0 _ rfl⟩
  · obtain ⟨r, e1, rfl⟩ := Option.map_eq_some_iff.mp e
    exact ne_ok hK hu pins s σ H _ _ v u Q I rx ry ⟨z, _, _, r, ra, rb, e1, q0 _ rfl⟩
  · cases e; cases ra.non; cases rb.non
    exact op_isN pins s σ H _ _ v u Q I rx ry ⟨rfl, q0 _ (by simp [Rep])⟩
  · cases e; exact is1 (fun z => by cases z) ra rb (q0 _ rfl)
  · cases e; exact is1 (fun z => by cases z) ra rb (q0 _ rfl)
  · cases e; exact is1 (fun z => by cases z) ra rb (q0 _ rfl)
  · cases e; exact is1 (fun z => by cases z) ra rb (q0 _ rfl)
  · cases e; exact is1 (fun z => by cases z) ra rb (q0 _ rfl)
  · cases e; exact is1 (fun z => by cases z) ra rb (q0 _ rfl)
  · cases e; cases ra.non; cases rb.bl
    exact op_isNB pins s σ H _ _ v u Q I rx ry ⟨rfl, ⟨_, rfl⟩, q0 _ rfl⟩
  · cases e; cases ra.bl; cases rb.bl
    exact op_isBl pins s σ H _ _ v u Q I rx ry ⟨_, _, rfl, rfl, q0 _ (by simp [Rep, Bool.beq_eq_decide_eq])⟩
  · cases e; cases ra.non; cases rb.non
    exact op_notN pins s σ H _ _ v u Q I rx ry ⟨rfl, q0 _ (by simp [Rep])⟩
  · cases e; exact is2 (fun z => by cases z) ra rb (q0 _ rfl)
  · cases e; exact is2 (fun z => by cases z) ra rb (q0 _ rfl)
  · cases e; exact is2 (fun z => by cases z) ra rb (q0 _ rfl)
  · cases e; exact is2 (fun z => by cases z) ra rb (q0 _ rfl)
  · cases e; exact is2 (fun z => by cases z) ra rb (q0 _ rfl)
  · cases e; exact is2 (fun z => by cases z) ra rb (q0 _ rfl)
  · cases e; cases ra.non; cases rb.bl
    exact op_isnotNB pins s σ H _ _ v u Q I rx ry ⟨rfl, ⟨_, rfl⟩, q0 _ rfl⟩
  · cases e; cases ra.bl; cases rb.bl
    exact op_notBl pins s σ H _ _ v u Q I rx ry ⟨_, _, rfl, rfl, q0 _ (by simp [Rep, bne, Bool.beq_eq_decide_eq])⟩
  · obtain ⟨r, e1, rfl⟩ := Option.map_eq_some_iff.mp e
    obtain ⟨ds, e2, e3⟩ := Option.bind_eq_some_iff.mp e1
    exact in_ok hK hu pins s σ H _ _ v u Q I rx ry ⟨z, _, _, ds, r, ra, rb, e2, e3, q0 _ rfl⟩
  · obtain ⟨r, e1, rfl⟩ := Option.map_eq_some_iff.mp e
    obtain ⟨ds, e2, e3⟩ := Option.bind_eq_some_iff.mp e1
    exact notIn_ok hK hu pins s σ H _ _ v u Q I rx ry ⟨z, _, _, ds, r, ra, rb, e2, e3, q0 _ rfl⟩
  · cases e
end
end FW
/-! FW6: subscripts, slices, built-ins, isinstance, truth by data. -/
namespace FW
open PySem PySem.Spec PyProof.Rows L2
section
variable {X : Cx} {G : GC}
theorem Reps.atI {pa : Option Addr} {H : Hp} {ds : List D} {vs : List V} {i : Int} {d : D} (h : Reps G pa H ds vs) (e : atI ds i = some d) : ∃ v, L2.atI vs i = some v ∧ Rep G pa H d v := by
  unfold L2.atI at e ⊢
  rw [← h.length]
  obtain ⟨j, e1, e2⟩ := Option.bind_eq_some_iff.mp e
  rw [e1]
  exact h.get e2
def r2w (G : GC) (F : D → D → Pl → Option D) : R2 := fun x y H Q => ∃ z pl da db d, W G z pl H ∧ RepO G z H da x ∧ RepO G z H db y ∧ F da db pl = some d ∧
  ∀ v, Rep G z.pa (hide z H) d v → Q v H
/-- x[i]: data, or the pool -/
def ixP (a b : D) (p : Pl) : Option D := match a, b with
  | .pool, .int k => atI p k
  | x1, y1 => ixD x1 y1
theorem op_ix (hK : X.K = G.K) : IxR X (r2w G ixP) := by
  intro value slice pins s σ H x y v u Q I rx ry h hs
  obtain ⟨z, pl, da, db, d, w, ra, rb, e, q⟩ := h
  unfold ixP at e
  split at e
  · cases rb.int
    obtain ⟨a, h1, rfl⟩ := ra.pool
    obtain ⟨xs, h2, h3⟩ := w.pool a h1
    obtain ⟨v', e1, e2⟩ := h3.atI e
    exact ix_list value slice pins s σ H _ _ v u Q I rx ry ⟨a, xs, _, v', rfl, rfl, SqL.of h2, e1, q _ e2⟩ hs
  · unfold ixD at e
    split at e
    · cases rb.int
      obtain ⟨a, xs, rfl, h2, h3⟩ := ra.tup
      obtain ⟨v', e1, e2⟩ := h3.atI e
      exact ix_tup value slice pins s σ H _ _ v u Q I rx ry ⟨a, xs, _, v', rfl, rfl, by rw [hK]; exact SqT.same (hide_same z H) h2, e1, q _ e2⟩ hs
    · cases rb.int
      obtain ⟨a, xs, rfl, h2, h3⟩ := ra.lst
      obtain ⟨v', e1, e2⟩ := h3.atI e
      exact ix_list value slice pins s σ H _ _ v u Q I rx ry ⟨a, xs, _, v', rfl, rfl, SqL.of h2, e1, q _ e2⟩ hs
    · cases rb.int
      obtain ⟨a, xs, rfl, h2, h3⟩ := ra.frl
      obtain ⟨v', e1, e2⟩ := h3.atI e
      exact ix_list value slice pins s σ H _ _ v u Q I rx ry ⟨a, xs, _, v', rfl, rfl, by rw [hK]; exact (hide_same z H).seq h2, e1, q _ e2⟩ hs
    · cases e
theorem Reps.cut {pa : Option Addr} {H : Hp} {ds : List D} {vs : List V} (h : Reps G pa H ds vs) (lo hi : Option Int) : Reps G pa H (cutD ds lo hi) (cutV vs lo hi) := by
  unfold cutD cutV
  rw [h.length]
  exact (h.drop _).take _
def rSlD (G : GC) : V → Option Int → Option Int → Hp → VK → Prop := fun x lo hi H Q => ∃ z pl da d, W G z pl H ∧ RepO G z H da x ∧ slD da lo hi = some d ∧
  ∀ v H', Stp z H H' → W G z pl H' → Rep G z.pa (hide z H') d v → Q v H'
theorem op_sl (hK : X.K = G.K) : SlR X (rSlD G) := by
  intro pins s σ H x v vl vu lo hi sl Q I rx hs pl pu h
  obtain ⟨z, pp, da, d, w, ra, e, q⟩ := h
  have qn : ∀ p o v', H p = none → Rep G z.pa (hide z (upd H p o)) d v' → Q v' (upd H p o) := fun p o v' hp r => q v' _ (.laid w hp) (w.laid hp) r
  unfold slD at e
  split at e
  · cases e
    obtain ⟨a, xs, rfl, h2, h3⟩ := ra.tup
    refine sl_tupA pins s σ H _ v vl vu lo hi sl Q I rx hs pl pu ⟨a, xs, rfl, by rw [hK]; exact SqT.same (hide_same z H) h2, fun e => ?_, fun _ p hp => qn p _ _ hp ⟨p, _, rfl, SqT.of (w.hide_new hp), Reps.same (Stp.laid w hp).same _ _ (h3.cut lo hi)⟩⟩
    refine q _ H (Stp.refl z H) w ⟨a, xs, rfl, h2, ?_⟩
    have e3 : cutV xs lo hi = xs := by
      unfold cutV
      rw [e.1, e.2]
      simp
    have := h3.cut lo hi
    rw [e3] at this
    exact this
  · cases e
    obtain ⟨a, xs, rfl, h2, h3⟩ := ra.lst
    exact sl_list pins s σ H _ v vl vu lo hi sl Q I rx hs pl pu ⟨a, xs, rfl, SqL.of h2, fun p hp => qn p _ _ hp ⟨p, _, rfl, w.hide_new hp, Reps.same (Stp.laid w hp).same _ _ (h3.cut lo hi)⟩⟩
  · cases e
    obtain ⟨a, xs, rfl, h2, h3⟩ := ra.frl
    exact sl_list pins s σ H _ v vl vu lo hi sl Q I rx hs pl pu ⟨a, xs, rfl, by rw [hK]; exact (hide_same z H).seq h2, fun p hp => qn p _ _ hp ⟨p, _, rfl, w.hide_new hp, Reps.same (Stp.laid w hp).same _ _ (h3.cut lo hi)⟩⟩
  · cases e

/-! ### truth -/
theorem RepO.tru {z : Zn} {H : Hp} {d : D} {v : V} {b : Bool} (h : RepO G z H d v) (e : truD d = some b) : TruV G.K v H b := by
  cases d with
  | non => cases e; cases h.non; rfl
  | bl _ => cases e; cases h.bl; rfl
  | int _ => cases e; cases h.int; rfl
  | str x =>
    simp only [truD] at e
    split at e
    · rename_i hz
      cases e; cases h.str
      refine ⟨hz, ?_⟩
      rw [Bool.eq_iff_iff]
      simp
    · cases e
  | tup xs =>
    cases e
    obtain ⟨a, vs, rfl, h2, h3⟩ := h.tup
    exact .inr (.inl ⟨vs, SqT.same (hide_same z H) h2, by cases xs with
      | nil => cases (show vs = [] from h3); rfl
      | cons y ys => obtain ⟨_, _, rfl, _⟩ := h3; rfl⟩)
  | lst xs =>
    cases e
    obtain ⟨a, vs, rfl, h2, h3⟩ := h.lst
    exact .inl ⟨vs, SqL.of h2, by cases xs with
      | nil => cases (show vs = [] from h3); rfl
      | cons y ys => obtain ⟨_, _, rfl, _⟩ := h3; rfl⟩
  | frl xs =>
    cases e
    obtain ⟨a, vs, rfl, h2, h3⟩ := h.frl
    exact .inl ⟨vs, (hide_same z H).seq h2, by cases xs with
      | nil => cases (show vs = [] from h3); rfl
      | cons y ys => obtain ⟨_, _, rfl, _⟩ := h3; rfl⟩
  | fn _ => cases e
  | pool => cases e

/-! ### isinstance -/
def tyN : D → String
  | .non => "NoneType"
  | .bl _ => "bool"
  | .int _ => "int"
  | .str _ => "str"
  | .tup _ => "tuple"
  | _ => "list"
theorem RepO.ty {z : Zn} {H : Hp} {d : D} {v : V} (h : RepO G z H d v) (h1 : ∀ g, d ≠ .fn g) (h2 : d ≠ .pool) : TyX G.K H v (.type (tyN d)) := by
  cases d with
  | non => cases h.non; exact .base .non
  | bl b => cases h.bl; exact .base (.bl b)
  | int i => cases h.int; exact .base (.int i)
  | str x => cases h.str; exact .base (.str x)
  | tup xs =>
    obtain ⟨a, vs, rfl, h2, h3⟩ := h.tup
    rcases h2 with (h2 | ⟨o, h2⟩) | ⟨o, its, n, h2, hc, _⟩
    · exact .base (.tup (hide_some.mp h2).2)
    · exact .fTuple (hide_some.mp h2).2
    · exact .kTuple h2 hc
  | lst xs =>
    obtain ⟨a, vs, rfl, h2, h3⟩ := h.lst
    exact .base (.lst h2)
  | frl xs =>
    obtain ⟨a, vs, rfl, h2, h3⟩ := h.frl
    rcases h2 with (h2 | ⟨o, h2⟩) | ⟨o, its, n, h2, hc, _⟩
    · exact .base (.lst (hide_some.mp h2).2)
    · exact .base (.frz (hide_some.mp h2).2)
    · exact .kList h2 hc
  | fn g => exact absurd rfl (h1 g)
  | pool => exact absurd rfl h2
theorem isi_kit {d : D} {n : Tn} {b : Bool} (h : isiD n d = some b) : kitB (tyN d) n.nm = some b ∧ (∀ g, d ≠ .fn g) ∧ d ≠ .pool := by
  cases n <;> cases d <;> first
    | (cases h; done)
    | (cases h
       refine ⟨?_, fun g z => (by cases z), fun z => (by cases z)⟩
       first
         | (show kitB "NoneType" _ = _; decide +kernel)
         | (show kitB "bool" _ = _; decide +kernel)
         | (show kitB "int" _ = _; decide +kernel)
         | (show kitB "str" _ = _; decide +kernel)
         | (show kitB "tuple" _ = _; decide +kernel)
         | (show kitB "list" _ = _; decide +kernel))
/-- isinstance(x, T) -/
theorem call_isD (hK : X.K = G.K) : CallR X (.builtin "isinstance") (fun xs H Q => ∃ z d v n b, xs = [v, .ty (Tn.nm n)] ∧ RepO G z H d v ∧ isiD n d = some b ∧ Q (.bl b) H) := by
  refine CallR.imp call_isi fun xs H Q h => ?_
  obtain ⟨z, d, v, n, b, rfl, r, e, q⟩ := h
  obtain ⟨e1, e2, e3⟩ := isi_kit e
  exact ⟨v, .ty n.nm, .type (tyN d), .type n.nm, b, rfl, .ty _, by rw [hK]; exact r.ty e2 e3, kit_ty e1, q⟩

/-! ### built-ins -/
theorem RepOs.one {z : Zn} {H : Hp} {d : D} {vs : List V} (h : RepOs G z H [d] vs) : ∃ v, vs = [v] ∧ RepO G z H d v := by
  obtain ⟨v, r, rfl, h1, h2⟩ := h
  cases (show r = [] from h2)
  exact ⟨v, rfl, h1⟩
theorem RepOs.two {z : Zn} {H : Hp} {d e : D} {vs : List V} (h : RepOs G z H [d, e] vs) : ∃ v w, vs = [v, w] ∧ RepO G z H d v ∧ RepO G z H e w := by
  obtain ⟨v, r, rfl, h1, h2⟩ := h
  obtain ⟨w, rfl, h3⟩ := RepOs.one h2
  exact ⟨v, w, rfl, h1, h3⟩
def Bi.val : Bi → Value
  | .len => .builtin "len"
  | .tuple => .type "tuple"
  | .list => .type "list"
  | .abs => .builtin "abs"
  | .int => .type "int"
  | .gcd => .builtin "math.gcd"
  | .divmod => .builtin "divmod"
  | .max2 => .builtin "max"
  | .min2 => .builtin "min"
  | .all => .builtin "all"
  | .any => .builtin "any"
  | .sum => .builtin "sum"
  | .max1 => .builtin "max"
  | .min1 => .builtin "min"
  | .sorted => .builtin "sorted"
def rBi (G : GC) (b : Bi) : List V → Hp → VK → Prop := fun xs H Q => ∃ z pl ds d, W G z pl H ∧ RepOs G z H ds xs ∧ biD b ds = some d ∧
  ∀ v H', Stp z H H' → W G z pl H' → Rep G z.pa (hide z H') d v → Q v H'
theorem allB_map : ∀ {ds : List D} {bs : List Bool}, allB ds = some bs → ds = bs.map D.bl
  | [], _, h => by cases h; rfl
  | .bl b :: ds, bs, h => by
    obtain ⟨r, h1, rfl⟩ := Option.map_eq_some_iff.mp (show (allB ds).map (b :: ·) = some bs from h)
    rw [allB_map h1]; rfl
  | .non :: _, _, h => by cases h
  | .int _ :: _, _, h => by cases h
  | .str _ :: _, _, h => by cases h
  | .tup _ :: _, _, h => by cases h
  | .lst _ :: _, _, h => by cases h
  | .frl _ :: _, _, h => by cases h
  | .fn _ :: _, _, h => by cases h
  | .pool :: _, _, h => by cases h
theorem allI_map : ∀ {ds : List D} {bs : List Int}, allI ds = some bs → ds = bs.map D.int
  | [], _, h => by cases h; rfl
  | .int b :: ds, bs, h => by
    obtain ⟨r, h1, rfl⟩ := Option.map_eq_some_iff.mp (show (allI ds).map (b :: ·) = some bs from h)
    rw [allI_map h1]; rfl
  | .non :: _, _, h => by cases h
  | .bl _ :: _, _, h => by cases h
  | .str _ :: _, _, h => by cases h
  | .tup _ :: _, _, h => by cases h
  | .lst _ :: _, _, h => by cases h
  | .frl _ :: _, _, h => by cases h
  | .fn _ :: _, _, h => by cases h
  | .pool :: _, _, h => by cases h
theorem Reps.bls {pa : Option Addr} {H : Hp} : ∀ {bs : List Bool} {vs : List V}, Reps G pa H (bs.map D.bl) vs → vs = bs.map V.bl
  | [], _, h => h
  | b :: bs, _, ⟨v, r, e, h1, h2⟩ => by rw [e, Reps.bls h2, show v = V.bl b from h1]; rfl
theorem Reps.intv {pa : Option Addr} {H : Hp} : ∀ {bs : List Int} {vs : List V}, Reps G pa H (bs.map D.int) vs → vs = bs.map V.int
  | [], _, h => h
  | b :: bs, _, ⟨v, r, e, h1, h2⟩ => by rw [e, Reps.intv h2, show v = V.int b from h1]; rfl
theorem foldl_max_mem : ∀ (xs : List Int) (x : Int), xs.foldl max x ∈ x :: xs ∧ ∀ y ∈ x :: xs, y ≤ xs.foldl max x
  | [], x => by simp
  | y :: ys, x => by
    obtain ⟨h1, h2⟩ := foldl_max_mem ys (max x y)
    simp only [List.foldl_cons]
    refine ⟨?_, fun w hw => ?_⟩
    · rcases List.mem_cons.mp h1 with e | e
      · rw [e]
        rcases Int.le_total x y with h | h
        · rw [Int.max_eq_right h]; simp
        · rw [Int.max_eq_left h]; simp
      · simp [e]
    · have h3 := h2 (max x y) (by simp)
      rcases List.mem_cons.mp hw with rfl | hw
      · exact Int.le_trans (Int.le_max_left _ _) h3
      · rcases List.mem_cons.mp hw with rfl | hw
        · exact Int.le_trans (Int.le_max_right _ _) h3
        · exact h2 w (by simp [hw])
theorem foldl_min_mem : ∀ (xs : List Int) (x : Int), xs.foldl min x ∈ x :: xs ∧ ∀ y ∈ x :: xs, xs.foldl min x ≤ y
  | [], x => by simp
  | y :: ys, x => by
    obtain ⟨h1, h2⟩ := foldl_min_mem ys (min x y)
    simp only [List.foldl_cons]
    refine ⟨?_, fun w hw => ?_⟩
    · rcases List.mem_cons.mp h1 with e | e
      · rw [e]
        rcases Int.le_total x y with h | h
        · rw [Int.min_eq_left h]; simp
        · rw [Int.min_eq_right h]; simp
      · simp [e]
    · have h3 := h2 (min x y) (by simp)
      rcases List.mem_cons.mp hw with rfl | hw
      · exact Int.le_trans h3 (Int.min_le_left _ _)
      · rcases List.mem_cons.mp hw with rfl | hw
        · exact Int.le_trans h3 (Int.min_le_right _ _)
        · exact h2 w (by simp [hw])
theorem call_bi (hK : X.K = G.K) (hc : X.calm = true) (b : Bi) : CallR X b.val (rBi G b) := by
  intro pins s σ H xs us Q I r h
  obtain ⟨z, pl, ds, d, w, ra, e, q⟩ := h
  have q0 : ∀ v', Rep G z.pa (hide z H) d v' → Q v' H := fun v' r => q v' H (Stp.refl z H) w r
  have qn : ∀ p o v', H p = none → Rep G z.pa (hide z (upd H p o)) d v' → Q v' (upd H p o) := fun p o v' hp r => q v' _ (.laid w hp) (w.laid hp) r
  have lstOf : ∀ {x : D} {xs' : List D} {v : V}, RepO G z H x v → seqOf x = some xs' → ∃ a vs, v = .ref a ∧ (SqL X.K H a vs ∨ SqT X.K H a vs) ∧ Reps G z.pa (hide z H) xs' vs := fun h e => by
    rw [hK]; exact h.seq e
  have lsOfs : ∀ {x : D} {xs' : List D} {v : V}, RepO G z H x v → lsOf x = some xs' → ∃ a vs, v = .ref a ∧ SqL X.K H a vs ∧ Reps G z.pa (hide z H) xs' vs := fun {x xs' v} h e => by
    rw [hK]
    cases x with
    | lst xs =>
      cases e
      obtain ⟨a, vs, h1, h2, h3⟩ := h.lst
      exact ⟨a, vs, h1, SqL.of h2, h3⟩
    | frl xs =>
      cases e
      obtain ⟨a, vs, h1, h2, h3⟩ := h.frl
      exact ⟨a, vs, h1, (hide_same z H).seq h2, h3⟩
    | _ => cases e
  unfold biD at e
  split at e
  · split at e
    · rename_i hz
      cases e
      obtain ⟨v, rfl, h1⟩ := ra.one
      cases h1.str
      exact call_len pins s σ H _ us Q I r ⟨_, _, rfl, ⟨hz, rfl⟩, q0 _ rfl⟩
    · cases e
  · obtain ⟨ys, e1, rfl⟩ := Option.map_eq_some_iff.mp e
    obtain ⟨v, rfl, h1⟩ := ra.one
    obtain ⟨a, vs, rfl, h2, h3⟩ := lstOf h1 e1
    rw [h3.length] at q0
    exact call_len_seq pins s σ H _ us Q I r ⟨a, vs, rfl, h2, q0 _ rfl⟩
  · obtain ⟨ys, e1, rfl⟩ := Option.map_eq_some_iff.mp e
    obtain ⟨v, rfl, h1⟩ := ra.one
    rename_i x
    cases x with
    | tup xs =>
      cases e1
      obtain ⟨a, vs, rfl, h2, h3⟩ := h1.tup
      exact call_tuple_of pins s σ H _ us Q I r ⟨a, vs, rfl, .inr ⟨by rw [hK]; exact SqT.same (hide_same z H) h2, q0 _ ⟨a, vs, rfl, h2, h3⟩⟩⟩
    | lst xs =>
      cases e1
      obtain ⟨a, vs, rfl, h2, h3⟩ := h1.lst
      exact call_tuple_of pins s σ H _ us Q I r ⟨a, vs, rfl, .inl ⟨SqL.of h2, fun p hp => qn p _ _ hp ⟨p, _, rfl, SqT.of (w.hide_new hp), Reps.same (Stp.laid w hp).same _ _ h3⟩⟩⟩
    | frl xs =>
      cases e1
      obtain ⟨a, vs, rfl, h2, h3⟩ := h1.frl
      exact call_tuple_of pins s σ H _ us Q I r ⟨a, vs, rfl, .inl ⟨by rw [hK]; exact (hide_same z H).seq h2, fun p hp => qn p _ _ hp ⟨p, _, rfl, SqT.of (w.hide_new hp), Reps.same (Stp.laid w hp).same _ _ h3⟩⟩⟩
    | _ => cases e1
  · obtain ⟨ys, e1, rfl⟩ := Option.map_eq_some_iff.mp e
    obtain ⟨v, rfl, h1⟩ := ra.one
    obtain ⟨a, vs, rfl, h2, h3⟩ := lstOf h1 e1
    exact call_list_of pins s σ H _ us Q I r ⟨a, vs, rfl, h2, fun p hp => qn p _ _ hp ⟨p, _, rfl, w.hide_new hp, Reps.same (Stp.laid w hp).same _ _ h3⟩⟩
  · cases e
    obtain ⟨v, rfl, h1⟩ := ra.one
    cases h1.int
    rename_i i
    refine call_abs pins s σ H _ us Q I r ⟨_, rfl, q0 _ ?_⟩
    show V.int _ = V.int _
    congr 1
    split <;> omega
  · cases e
    obtain ⟨v, rfl, h1⟩ := ra.one
    cases h1.int
    exact call_int1 pins s σ H _ us Q I r (.inl ⟨_, rfl, q0 _ rfl⟩)
  · cases e
    obtain ⟨v, rfl, h1⟩ := ra.one
    cases h1.bl
    exact call_int1 pins s σ H _ us Q I r (.inr ⟨_, rfl, q0 _ rfl⟩)
  · cases e
    obtain ⟨v, w', rfl, h1, h2⟩ := ra.two
    cases h1.int; cases h2.int
    exact cr_gcd pins s σ H _ us Q I r ⟨_, _, rfl, q0 _ rfl⟩
  · split at e
    · rename_i hz
      cases e
      obtain ⟨v, w', rfl, h1, h2⟩ := ra.two
      cases h1.int; cases h2.int
      obtain ⟨z1, z2⟩ := Bool.and_eq_true_iff.mp hz
      exact call_divmodW pins s σ H _ us Q I r ⟨_, _, rfl, ⟨of_decide_eq_true z1, by simpa using z2⟩, fun p hp => qn p _ _ hp ⟨p, _, rfl, SqT.of (w.hide_new hp), .cons rfl (.cons rfl Reps.nil)⟩⟩
    · cases e
  · cases e
    obtain ⟨v, w', rfl, h1, h2⟩ := ra.two
    cases h1.int; cases h2.int
    exact call_max2 hc pins s σ H _ us Q I r ⟨_, _, rfl, q0 _ rfl⟩
  · cases e
    obtain ⟨v, w', rfl, h1, h2⟩ := ra.two
    cases h1.int; cases h2.int
    exact call_min2 hc pins s σ H _ us Q I r ⟨_, _, rfl, q0 _ rfl⟩
  · obtain ⟨bs, e1, rfl⟩ := Option.map_eq_some_iff.mp e
    obtain ⟨ys, e2, e3⟩ := Option.bind_eq_some_iff.mp e1
    obtain ⟨v, rfl, h1⟩ := ra.one
    obtain ⟨a, vs, rfl, h2, h3⟩ := lsOfs h1 e2
    rw [allB_map e3] at h3
    rw [h3.bls] at h2
    exact cr_all hc pins s σ H _ us Q I r ⟨a, bs, rfl, h2, q0 _ rfl⟩
  · obtain ⟨bs, e1, rfl⟩ := Option.map_eq_some_iff.mp e
    obtain ⟨ys, e2, e3⟩ := Option.bind_eq_some_iff.mp e1
    obtain ⟨v, rfl, h1⟩ := ra.one
    obtain ⟨a, vs, rfl, h2, h3⟩ := lsOfs h1 e2
    rw [allB_map e3] at h3
    rw [h3.bls] at h2
    exact cr_any hc pins s σ H _ us Q I r ⟨a, bs, rfl, h2, q0 _ rfl⟩
  · obtain ⟨bs, e1, rfl⟩ := Option.map_eq_some_iff.mp e
    obtain ⟨ys, e2, e3⟩ := Option.bind_eq_some_iff.mp e1
    obtain ⟨v, rfl, h1⟩ := ra.one
    obtain ⟨a, vs, rfl, h2, h3⟩ := lsOfs h1 e2
    rw [allI_map e3] at h3
    rw [h3.intv] at h2
    exact cr_sum hc pins s σ H _ us Q I r ⟨a, bs, rfl, h2, q0 _ rfl⟩
  · obtain ⟨m, e1, rfl⟩ := Option.map_eq_some_iff.mp e
    obtain ⟨bs, e1, e4⟩ := Option.bind_eq_some_iff.mp e1
    obtain ⟨ys, e2, e3⟩ := Option.bind_eq_some_iff.mp e1
    obtain ⟨v, rfl, h1⟩ := ra.one
    obtain ⟨a, vs, rfl, h2, h3⟩ := lsOfs h1 e2
    rw [allI_map e3] at h3
    rw [h3.intv] at h2
    cases bs with
    | nil => cases e4
    | cons b bs =>
      cases e4
      refine cr_max hc pins s σ H _ us Q I r ⟨a, _, rfl, h2, by simp, fun m hm hle => ?_⟩
      obtain ⟨f1, f2⟩ := foldl_max_mem bs b
      have : m = bs.foldl max b := Int.le_antisymm (f2 m hm) (hle _ f1)
      rw [this]
      exact q0 _ rfl
  · obtain ⟨m, e1, rfl⟩ := Option.map_eq_some_iff.mp e
    obtain ⟨bs, e1, e4⟩ := Option.bind_eq_some_iff.mp e1
    obtain ⟨ys, e2, e3⟩ := Option.bind_eq_some_iff.mp e1
    obtain ⟨v, rfl, h1⟩ := ra.one
    obtain ⟨a, vs, rfl, h2, h3⟩ := lsOfs h1 e2
    rw [allI_map e3] at h3
    rw [h3.intv] at h2
    cases bs with
    | nil => cases e4
    | cons b bs =>
      cases e4
      refine cr_min hc pins s σ H _ us Q I r ⟨a, _, rfl, h2, by simp, fun m hm hle => ?_⟩
      obtain ⟨f1, f2⟩ := foldl_min_mem bs b
      have : m = bs.foldl min b := Int.le_antisymm (hle _ f1) (f2 m hm)
      rw [this]
      exact q0 _ rfl
  · cases e
end
end FW
/-! FW7: the frame's slots; expressions by the evaluator. -/
namespace FW
open PySem PySem.Spec PyProof.Rows L2

def SlotR (G : GC) (z : Zn) (H : Hp) : Slot → Option V → Prop
  | .no, _ => True
  | .dat d, o => ∃ v, o = some v ∧ Rep G z.pa (hide z H) d v
  | .own ds, o => ∃ a xs, o = some (.ref a) ∧ a ∈ z.O ∧ H a = some (.lst xs) ∧ Reps G z.pa (hide z H) ds xs
def at_ (σ : L2.St) (i : Nat) : Option V := σ[i]?.getD none
structure ER (G : GC) (z : Zn) (ρ : En) (pl : Pl) (σ : L2.St) (H : Hp) : Prop where
  w : W G z pl H
  len : ρ.length = σ.length
  slot : ∀ i, SlotR G z H (ρ[i]?.getD .no) (at_ σ i)
  sep : ∀ i j ds es a, ρ[i]?.getD .no = .own ds → ρ[j]?.getD .no = .own es → at_ σ i = some (.ref a) → at_ σ j = some (.ref a) → i = j
theorem at_some {σ : L2.St} {i : Nat} {v : V} (h : at_ σ i = some v) : σ[i]? = some (some v) := by
  unfold at_ at h
  cases e : σ[i]? with
  | none => rw [e] at h; cases h
  | some o => rw [e] at h; rw [← h]; rfl
theorem SlotR.stp {G : GC} {z : Zn} {H H' : Hp} {s : Slot} {o : Option V} (h : SlotR G z H s o) (k : Stp z H H') : SlotR G z H' s o := by
  cases s with
  | no => trivial
  | dat d => obtain ⟨v, e, r⟩ := h; exact ⟨v, e, Rep.same k.same _ _ r⟩
  | own ds => obtain ⟨a, xs, e, m, e2, r⟩ := h; exact ⟨a, xs, e, m, by rw [k.own a (.inr m)]; exact e2, Reps.same k.same _ _ r⟩
theorem ER.stp {G : GC} {z : Zn} {ρ : En} {pl pl' : Pl} {σ : L2.St} {H H' : Hp} (h : ER G z ρ pl σ H) (k : Stp z H H') (w : W G z pl' H') : ER G z ρ pl' σ H' :=
  ⟨w, h.len, fun i => (h.slot i).stp k, h.sep⟩
theorem ER.rd {G : GC} {z : Zn} {ρ : En} {pl : Pl} {σ : L2.St} {H : Hp} (h : ER G z ρ pl σ H) {i : Nat} {d : D} (e : rd ρ i = some d) : ∃ v, σ[i]? = some (some v) ∧ Rep G z.pa (hide z H) d v := by
  have s := h.slot i
  unfold FW.rd at e
  cases q : ρ[i]?.getD .no with
  | no => rw [q] at e; cases e
  | own _ => rw [q] at e; cases e
  | dat d' =>
    rw [q] at e s
    cases e
    obtain ⟨v, e1, r⟩ := s
    exact ⟨v, at_some e1, r⟩
theorem ER.pk {G : GC} {z : Zn} {ρ : En} {pl : Pl} {σ : L2.St} {H : Hp} (h : ER G z ρ pl σ H) {i : Nat} {d : D} (e : pk ρ i = some d) : ∃ v, σ[i]? = some (some v) ∧ RepO G z H d v := by
  have s := h.slot i
  unfold FW.pk at e
  cases q : ρ[i]?.getD .no with
  | no => rw [q] at e; cases e
  | own ds =>
    rw [q] at e s
    cases e
    obtain ⟨a, xs, e1, m, e2, r⟩ := s
    exact ⟨_, at_some e1, .inr ⟨a, xs, ds, rfl, rfl, m, e2, r⟩⟩
  | dat d' =>
    rw [q] at e s
    cases e
    obtain ⟨v, e1, r⟩ := s
    exact ⟨v, at_some e1, .inl r⟩

/-! ### readings -/
section
variable (G : GC)
def tE (F : En → Pl → M D) : TE := fun σ H Q => ∃ z ρ pl d pl', ER G z ρ pl σ H ∧ F ρ pl = some (d, pl') ∧ ∀ v H', Stp z H H' → W G z pl' H' → Rep G z.pa (hide z H') d v → Q v H'
def tO (F : En → Pl → M D) : TE := fun σ H Q => ∃ z ρ pl d pl', ER G z ρ pl σ H ∧ F ρ pl = some (d, pl') ∧ ∀ v H', Stp z H H' → W G z pl' H' → RepO G z H' d v → Q v H'
def tT (F : En → Pl → M D) : TT := fun σ H Q => ∃ z ρ pl d pl' b, ER G z ρ pl σ H ∧ F ρ pl = some (d, pl') ∧ truD d = some b ∧ ∀ H', Stp z H H' → W G z pl' H' → Q b H'
def tAs (F : En → Pl → M (List D)) : TA := fun σ H Q => ∃ z ρ pl d pl', ER G z ρ pl σ H ∧ F ρ pl = some (d, pl') ∧ ∀ v H', Stp z H H' → W G z pl' H' → Reps G z.pa (hide z H') d v → Q v H'
def tAOs (F : En → Pl → M (List D)) : TA := fun σ H Q => ∃ z ρ pl d pl', ER G z ρ pl σ H ∧ F ρ pl = some (d, pl') ∧ ∀ v H', Stp z H H' → W G z pl' H' → RepOs G z H' d v → Q v H'
end
theorem tE_o {G : GC} {F : En → Pl → M D} {σ : L2.St} {H : Hp} {Q : VK} (h : tO G F σ H Q) : tE G F σ H Q :=
  let ⟨z, ρ, pl, d, pl', er, e, q⟩ := h
  ⟨z, ρ, pl, d, pl', er, e, fun v H' s w r => q v H' s w r.o⟩

/-! ### the checks -/
/-- what a law's text is translated to: defs, constants of the module -/
structure Tab where
  defs : List Df
  cons : List (Str × D)
def nmB (N : List Str) (i : Nat) (x : Str) : Bool := match N[i]? with
  | some y => decide (y = x)
  | none => false
def visB (sc : Scope) (x : Str) : Bool := match sc.names.lookup x with
  | some .local => true
  | some .cell => true
  | some .free => true
  | _ => false
def plainN (x : Str) : Bool := !(x == ("__debug__" : Str)) && (!(x == ("__classdict__" : Str)) && decide (x ≠ "__name__"))
def glB (sc : Scope) (x : Str) : Bool := match sc.names.lookup x with
  | some .globalImplicit => true
  | _ => false
def conB : D → Const → Bool
  | .non, .none => true
  | .bl a, .bool b => a == b
  | .int i, .int j => decide (i = j)
  | .str x, .str y => decide (x = y)
  | _, _ => false
def noStar : Expr → Bool
  | .Starred .. => false
  | _ => true
def noSlice : Expr → Bool
  | .Slice .. => false
  | _ => true
def noSet : Expr → Bool
  | .Set .. => false
  | _ => true
def Bi.name : Bi → Str
  | .len => "len"
  | .tuple => "tuple"
  | .list => "list"
  | .abs => "abs"
  | .int => "int"
  | .gcd => "gcd"
  | .divmod => "divmod"
  | .max2 => "max"
  | .min2 => "min"
  | .all => "all"
  | .any => "any"
  | .sum => "sum"
  | .max1 => "max"
  | .min1 => "min"
  | .sorted => "sorted"
def Bi.arity : Bi → Nat
  | .gcd => 2
  | .divmod => 2
  | .max2 => 2
  | .min2 => 2
  | _ => 1
def ownOf (N : List Str) (vs : List Nat) : List (Str × Nat) := vs.map fun i => (N.getD i Str.empty, i)
/-- a target -/
def chkT (N : List Str) (sc : Scope) (fnB : Str → Bool) : Tg → Expr → Bool
  | .nm i, .Name x _ => nmB N i x && (match sc.names.lookup x with
    | some .local => true
    | some .cell => fnB x
    | _ => false)
  | .cons t ts, .Tuple (e :: es) k p => noStar e && (chkT N sc fnB t e && chkT N sc fnB ts (.Tuple es k p))
  | .nil, .Tuple [] _ _ => true
  | .sub i k, .Subscript (.Name x _) (.Constant (.int j) _ _) _ => nmB N i x && visB sc x && plainN x && decide (j = (k : Int))
  | _, _ => false
/-- names of a target are local to the block -/
def isTupTg : Tg → Bool
  | .cons _ _ => true
  | .nil => true
  | _ => false
def isTupE : Expr → Bool
  | .Tuple .. => true
  | _ => false
def isYes : PX → Bool
  | .con (.bl true) => true
  | _ => false
/-- a target's slots are among these -/
def tgIn (vs : List Nat) : Tg → Bool
  | .nm i => vs.contains i
  | .cons t ts => tgIn vs t && tgIn vs ts
  | .nil => true
  | .sub _ _ => false
mutual
def chkE (T : Tab) (N : List Str) : PX → Scope → Expr → Bool
  | .bot, _, _ => true
  | .var i, sc, .Name x _ => nmB N i x && (visB sc x && plainN x)
  | .con d, _, .Constant c _ _ => conB d c
  | .glo k, sc, .Name x _ => (match T.cons[k]? with
    | some c => decide (c.1 = x) && (glB sc x && plainN x)
    | none => false)
  | .fnv g, sc, .Name x _ => (match T.defs[g]? with
    | some c => decide (c.nm = x) && (glB sc x && plainN x)
    | none => false)
  | .bin op a b, sc, .BinOp l op' r _ => decide (op = op') && (chkE T N a sc l && chkE T N b sc r)
  | .neg a, sc, .UnaryOp .USub e _ => chkE T N a sc e
  | .not a, sc, .UnaryOp .Not e _ => chkE T N a sc e
  | .cmp op a b, sc, .Compare l [op'] [r] _ => decide (op = op') && (chkE T N a sc l && (chkE T N b sc r && noSet r))
  | .chn o1 o2 a b c, sc, .Compare l [p1, p2] [r1, r2] _ => decide (o1 = p1) && (decide (o2 = p2) && (chkE T N a sc l && (chkE T N b sc r1 && (chkE T N c sc r2 && noSet r2))))
  | .and a b, sc, .BoolOp .And [x, y] _ => chkE T N a sc x && chkE T N b sc y
  | .and a b, sc, .BoolOp .And (x :: y :: w :: r) p => chkE T N a sc x && chkE T N b sc (.BoolOp .And (y :: w :: r) p)
  | .or a b, sc, .BoolOp .Or [x, y] _ => chkE T N a sc x && chkE T N b sc y
  | .or a b, sc, .BoolOp .Or (x :: y :: w :: r) p => chkE T N a sc x && chkE T N b sc (.BoolOp .Or (y :: w :: r) p)
  | .ite c a b, sc, .IfExp c' a' b' _ => chkE T N c sc c' && (chkE T N a sc a' && chkE T N b sc b')
  | .tup es, sc, .Tuple xs _ _ => chkEs T N es sc xs
  | .lst es, sc, .List xs _ => chkEs T N es sc xs
  | .ix a i, sc, .Subscript a' i' _ => chkE T N a sc a' && (chkE T N i sc i' && noSlice i')
  | .sl a lo hi, sc, .Subscript a' (.Slice lo' hi' none _) _ => chkE T N a sc a' && ((match lo' with
    | some e => chkE T N lo sc e && !isAbs lo
    | none => isAbs lo) && (match hi' with
    | some e => chkE T N hi sc e && !isAbs hi
    | none => isAbs hi))
  | .call g es, sc, .Call (.Name x _) (e :: args) [] _ => (match T.defs[g]? with
    | some df => decide (df.nm = x) && (glB sc x && (plainN x && (decide (df.ps.length = (e :: args).length) && chkEs T N es sc (e :: args))))
    | none => false)
  | .calld g es, sc, .Call (.Name x _) (e :: args) [] _ => (match T.defs[g]? with
    | some df => decide (df.nm = x) && (glB sc x && (plainN x && (decide (df.ps.length = (e :: args).length + df.dfl.length) && chkEs T N es sc (e :: args))))
    | none => false)
  | .callv i es, sc, .Call (.Name x _) (e :: args) [] _ => nmB N i x && (visB sc x && (plainN x && chkEs T N es sc (e :: args)))
  | .bi b es, sc, .Call (.Name x _) (e :: args) [] _ => decide (b.name = x) && (glB sc x && (plainN x && (decide ((e :: args).length = b.arity) && chkEs T N es sc (e :: args))))
  | .isi a n, sc, .Call (.Name x _) [e, .Name y _] [] _ => decide (x = "isinstance") && (glB sc x && (decide (y = Str.ofString n.nm) && (glB sc y && (chkE T N a sc e && noStar e))))
  | .lc elt tg src c vs, sc, .ListComp elt' [⟨tg', it', ifs', 0⟩] scope _ => blkC N sc scope (ownOf N vs) && (chkT N (relS scope sc) (fun x => scope.names.lookup x == some .cell) tg tg' && (chkSr T N src sc tg' it' && (noSet it' && ((match ifs' with
    | [] => isYes c
    | [c'] => chkE T N c (relS scope sc) c'
    | _ => false) && (chkE T N elt (relS scope sc) elt' && tgIn vs tg)))))
  | _, _, _ => false
termination_by structural x => x
def chkEs (T : Tab) (N : List Str) : PXs → Scope → List Expr → Bool
  | .nil, _, [] => true
  | .cons e es, sc, x :: xs => noStar x && (chkE T N e sc x && chkEs T N es sc xs)
  | _, _, _ => false
termination_by structural x => x
def chkSr (T : Tab) (N : List Str) : Sr → Scope → Expr → Expr → Bool
  | .it e, sc, _, x => chkE T N e sc x
  | .rng1 e, sc, _, .Call (.Name x _) [a] [] _ => decide (x = "range") && (glB sc x && (noStar a && chkE T N e sc a))
  | .rng2 e f, sc, _, .Call (.Name x _) [a, b] [] _ => decide (x = "range") && (glB sc x && (noStar a && (noStar b && (chkE T N e sc a && chkE T N f sc b))))
  | .enm e, sc, tg, .Call (.Name x _) [a] [] _ => decide (x = "enumerate") && (isTupE tg && (glB sc x && (noStar a && chkE T N e sc a)))
  | .zip e f, sc, tg, .Call (.Name x _) [a, b] [] _ => decide (x = "zip") && (isTupE tg && (glB sc x && (noStar a && (noStar b && (chkE T N e sc a && chkE T N f sc b)))))
  | _, _, _, _ => false
termination_by structural x => x
end
end FW
/-! FW8: the surroundings of a piece of code; targets. -/
namespace FW
open PySem PySem.Spec PyProof.Rows L2

/-- a def's promise: the value that the evaluator gives; what is hidden stays -/
def spR (G : GC) (call : Nat → List D → Pl → M D) (g : Nat) (n : Nat) : Sp := fun vs H Q _ => vs.length = n ∧ ∃ z pl ds d pl', z.O = [] ∧ W G z pl H ∧ Reps G z.pa (hide z H) ds vs ∧ call g ds pl = some (d, pl') ∧
  ∀ v H', Stp z H H' → W G z pl' H' → Rep G z.pa (hide z H') d v → Q v H'

structure DefOk (X : Cx) (G : GC) (C : Cf) (g : Nat) (df : Df) : Prop where
  ex : ∃ f fd k, G.fa g = some f ∧ X.mg df.nm = some (.ref f) ∧ PySem.W.keepIn X.K (.ref f) = true ∧ Room k X.A ∧ FnOk X.prog X.w X.K X.mg X.base CX0 k f fd df.ps (spR G C.call g df.ps.length) ∧
    Binds X.K fd df.ps [] ∧ (df.dfl ≠ [] → ∃ ds dvs, Binds X.K fd df.ps ds ∧ Vals dvs ds ∧ ∀ pa H, Reps G pa H df.dfl dvs)
  dfl : C.dfl g = df.dfl
structure CxOk (X : Cx) (G : GC) (T : Tab) (C : Cf) (N : List Str) (sc : Scope) (fnB : Str → Bool) : Prop where
  names : X.N = N
  nd : N.Nodup
  sc : X.env.scope = sc
  calm : X.calm = true
  K : X.K = G.K
  fn : ∀ x, fnB x = true → X.fn x = true
  hu : X.A.units + 64 < cLine
  cons : ∀ (k : Nat) x d, T.cons[k]? = some (x, d) → C.cons[k]? = some d ∧ ∃ u v, X.mg x = some u ∧ RelV v u ∧ ∀ pa H, Rep G pa H d v
  blt : ∀ x, x ∈ bltNames → X.mg x = none
  gcd : X.mg "gcd" = some (.builtin "math.gcd")
  defs : ∀ (g : Nat) df, T.defs[g]? = some df → DefOk X G C g df
theorem CxOk.blk {X : Cx} {G : GC} {T : Tab} {C : Cf} {N : List Str} {sc : Scope} {fnB : Str → Bool} (c : CxOk X G T C N sc fnB) (s : Shared) (H : Hp) (scope : Scope) (C0 : Addr) (cl : List (Str × Addr)) (fp : List Addr) :
    CxOk (X.blk s H scope (compEnvC scope cl C0 X.env) fp) G T C N (relS scope sc) (fun x => scope.names.lookup x == some .cell) :=
  ⟨c.names, c.nd, by rw [← c.sc]; rfl, c.calm, c.K, fun _ h => h, c.hu, c.cons, c.blt, c.gcd, fun g df e => ⟨(c.defs g df e).ex, (c.defs g df e).dfl⟩⟩

section
variable {X : Cx} {G : GC} {T : Tab} {C : Cf} {N : List Str} {sc : Scope} {fnB : Str → Bool} {x : Str} {i : Nat}
theorem nmB_ok (c : CxOk X G T C N sc fnB) (h : nmB N i x = true) : X.N[i]? = some x := by
  rw [c.names]
  unfold nmB at h
  split at h
  · rename_i y e
    rw [e, of_decide_eq_true h]
  · cases h
theorem visB_ok (c : CxOk X G T C N sc fnB) (h : visB sc x = true) : Vis X.env.scope x := by
  rw [c.sc]
  unfold visB at h
  split at h
  · exact .inl (by assumption)
  · exact .inr (.inl (by assumption))
  · exact .inr (.inr (by assumption))
  · cases h
theorem glB_ok (c : CxOk X G T C N sc fnB) (h : glB sc x = true) : Gl X x := by
  unfold glB at h
  split at h
  · rename_i e
    show X.env.scope.names.lookup x = _
    rw [c.sc]
    exact e
  · cases h
theorem plainN_ok (h : plainN x = true) : (x == ("__debug__" : Str)) = false ∧ (x == ("__classdict__" : Str)) = false ∧ x ≠ "__name__" := by
  unfold plainN at h
  simp only [Bool.and_eq_true, Bool.not_eq_true', decide_eq_true_eq] at h
  exact h
theorem star_cons {e : Expr} {es : List Expr} {env : Env} (h : noStar e = true) : starEach (e :: es) env = (false, eval e env) :: starEach es env := by
  cases e <;> first | rfl | cases h
theorem assign_cons {e : Expr} {es : List Expr} {env : Env} (h : noStar e = true) : assignEach (e :: es) env = (false, assign e env) :: assignEach es env := by
  cases e <;> first | rfl | cases h
theorem plainIx_of {e : Expr} (h : noSlice e = true) : PlainIx e := by
  intro o i
  cases e <;> first | rfl | cases h
theorem folded_of {e : Expr} (h : noSet e = true) (env : Env) (v : Value) : foldedSetIterable e env v = pure v := by
  cases e <;> first | rfl | cases h
theorem behind_of {e : Expr} {op : CmpOp} (h : noSet e = true) : behindInMarks op e = false := by
  cases e <;> first | rfl | cases h
end

/-! ### targets of loops and comprehensions -/
def tgHas : Tg → Nat → Bool
  | .nm i, j => i == j
  | .cons t ts, j => tgHas t j || tgHas ts j
  | .nil, _ => false
  | .sub _ _, _ => false
def pureTg : Tg → Bool
  | .nm _ => true
  | .cons t ts => pureTg t && pureTg ts
  | .nil => true
  | .sub _ _ => false
def tTg (G : GC) (t : Tg) : TG := fun v σ H Q => ∃ z ρ pl d ρ' pl', ER G z ρ pl σ H ∧ Rep G z.pa (hide z H) d v ∧ bindT t d ρ pl = some (ρ', pl') ∧
  ∀ σ', σ'.length = σ.length → (∀ i, tgHas t i = false → σ'[i]? = σ[i]?) → ER G z ρ' pl' σ' H → pl' = pl → Q σ' H
def tTgs (G : GC) (t : Tg) : TGs := fun vs σ H Q => ∃ z ρ pl ds ρ' pl', ER G z ρ pl σ H ∧ Reps G z.pa (hide z H) ds vs ∧ bindT t (.tup ds) ρ pl = some (ρ', pl') ∧
  ∀ σ', σ'.length = σ.length → (∀ i, tgHas t i = false → σ'[i]? = σ[i]?) → ER G z ρ' pl' σ' H → pl' = pl → Q σ' H
theorem at_set {σ : L2.St} {i j : Nat} {o : Option V} (h : i < σ.length) : at_ (σ.set i o) j = if i = j then o else at_ σ j := by
  unfold at_
  by_cases e : i = j
  · subst e
    rw [List.getElem?_set_self h, if_pos rfl]; rfl
  · rw [List.getElem?_set_ne e, if_neg e]
theorem sl_set {ρ : En} {i j : Nat} {s : Slot} (h : i < ρ.length) : (ρ.set i s)[j]?.getD .no = if i = j then s else ρ[j]?.getD .no := by
  by_cases e : i = j
  · subst e
    rw [List.getElem?_set_self h, if_pos rfl]; rfl
  · rw [List.getElem?_set_ne e, if_neg e]
/-- a slot that is stored -/
theorem ER.set {G : GC} {z : Zn} {ρ : En} {pl : Pl} {σ : L2.St} {H : Hp} (h : ER G z ρ pl σ H) {i : Nat} {d : D} {v : V} (hi : i < ρ.length) (r : Rep G z.pa (hide z H) d v) : ER G z (ρ.set i (.dat d)) pl (σ.set i (some v)) H := by
  have hi' : i < σ.length := by rw [← h.len]; exact hi
  refine ⟨h.w, by simp [h.len], fun j => ?_, fun j k ds es a e1 e2 e3 e4 => ?_⟩
  · rw [sl_set hi, at_set hi']
    by_cases e : i = j
    · rw [if_pos e, if_pos e]; exact ⟨v, rfl, r⟩
    · rw [if_neg e, if_neg e]; exact h.slot j
  · rw [sl_set hi] at e1 e2
    rw [at_set hi'] at e3 e4
    by_cases k1 : i = j
    · rw [if_pos k1] at e1; cases e1
    · by_cases k2 : i = k
      · rw [if_pos k2] at e2; cases e2
      · rw [if_neg k1] at e1 e3
        rw [if_neg k2] at e2 e4
        exact h.sep j k ds es a e1 e2 e3 e4
theorem names_of {ts : List Expr} : ∀ {env : Env}, (ts.all noStar) = true → (assignEach ts env).length = ts.length ∧ (assignEach ts env).findIdx? (·.1) = none := by
  induction ts with
  | nil => intro env _; exact ⟨rfl, rfl⟩
  | cons e es ih =>
    intro env h
    rw [List.all_cons, Bool.and_eq_true] at h
    obtain ⟨h1, h2⟩ := ih (env := env) h.2
    rw [assign_cons h.1]
    refine ⟨by simp [h1], ?_⟩
    rw [List.findIdx?_cons, h2]
    rfl
mutual
theorem pg_ok {X : Cx} {G : GC} {T : Tab} {C : Cf} {N : List Str} {sc : Scope} {fnB : Str → Bool} (c : CxOk X G T C N sc fnB) : ∀ (t : Tg) (e : Expr), pureTg t = true → chkT N sc fnB t e = true → PG X e (tTg G t)
  | .nm i, e, _, h => by
    cases e with
    | Name x p =>
      obtain ⟨h1, h2⟩ := Bool.and_eq_true_iff.mp (show (nmB N i x && _) = true from h)
      have hl : Loc X.env.scope x ∧ (X.fn x = true ∨ X.env.scope.names.lookup x = some .local) := by
        rw [c.sc]
        split at h2
        · exact ⟨.inl (by assumption), .inr (by assumption)⟩
        · exact ⟨.inr (by assumption), .inl (c.fn x h2)⟩
        · cases h2
      refine PG.imp (pg_name (i := i) (by rw [c.names]; exact c.nd) (nmB_ok c h1) hl.1 hl.2) fun v σ H Q q => ?_
      obtain ⟨z, ρ, pl, d, ρ', pl', er, r, e, q⟩ := q
      show Q (σ.set i (some v)) H
      simp only [bindT] at e
      split at e
      · rename_i hi
        cases e
        exact q _ (by simp) (fun j hj => List.getElem?_set_ne (by simpa [tgHas] using hj)) (er.set hi r) rfl
      · cases e
    | _ => cases h
  | .cons t ts, e, hp, h => by
    cases e with
    | Tuple es k p =>
      obtain ⟨h1, h2, h3⟩ := pgs_ok c (.cons t ts) es k p hp h
      obtain ⟨n1, n2⟩ := names_of (env := X.env) h2
      refine PG.imp (pg_tup (n := es.length) c.calm h1 n1 n2) fun v σ H Q q => ?_
      obtain ⟨z, ρ, pl, d, ρ', pl', er, r, e, q⟩ := q
      cases d with
      | tup ds =>
        obtain ⟨a, vs, rfl, r1, r2⟩ := r
        refine ⟨a, vs, rfl, by rw [c.K]; exact SqT.same (hide_same z H) r1, ?_, z, ρ, pl, ds, ρ', pl', er, r2, e, q⟩
        rw [← r2.length]
        exact h3 _ _ _ _ _ e
      | _ => cases e
    | _ => cases h
  | .nil, e, hp, h => by
    cases e with
    | Tuple es k p =>
      obtain ⟨h1, h2, h3⟩ := pgs_ok c .nil es k p hp h
      obtain ⟨n1, n2⟩ := names_of (env := X.env) h2
      refine PG.imp (pg_tup (n := es.length) c.calm h1 n1 n2) fun v σ H Q q => ?_
      obtain ⟨z, ρ, pl, d, ρ', pl', er, r, e, q⟩ := q
      cases d with
      | tup ds =>
        obtain ⟨a, vs, rfl, r1, r2⟩ := r
        refine ⟨a, vs, rfl, by rw [c.K]; exact SqT.same (hide_same z H) r1, ?_, z, ρ, pl, ds, ρ', pl', er, r2, e, q⟩
        rw [← r2.length]
        exact h3 _ _ _ _ _ e
      | _ => cases e
    | _ => cases h
  | .sub _ _, _, hp, _ => by cases hp
theorem pgs_ok {X : Cx} {G : GC} {T : Tab} {C : Cf} {N : List Str} {sc : Scope} {fnB : Str → Bool} (c : CxOk X G T C N sc fnB) : ∀ (t : Tg) (es : List Expr) (k : Nat) (p : Pos), pureTg t = true → chkT N sc fnB t (.Tuple es k p) = true →
    PGs X es (tTgs G t) ∧ es.all noStar = true ∧ ∀ ds ρ pl ρ' pl', bindT t (.tup ds) ρ pl = some (ρ', pl') → ds.length = es.length
  | .nm _, es, k, p, _, h => by cases h
  | .sub _ _, es, k, p, hp, _ => by cases hp
  | .nil, [], k, p, _, _ => by
    refine ⟨⟨fun pins s σ H vs us Q I r q => ?_⟩, rfl, fun ds ρ pl ρ' pl' e => ?_⟩
    · obtain ⟨z, ρ, pl, ds, ρ', pl', er, r2, e, q⟩ := q
      cases ds with
      | nil =>
        cases (show vs = [] from r2)
        cases e
        exact pgs_nil.run pins s σ H _ us Q I r ⟨rfl, q σ rfl (fun _ _ => rfl) er rfl⟩
      | cons _ _ => cases e
    · cases ds with
      | nil => rfl
      | cons _ _ => cases e
  | .nil, _ :: _, k, p, _, h => by cases h
  | .cons t ts, [], k, p, _, h => by cases h
  | .cons t ts, e :: es, k, p, hp, h => by
    obtain ⟨p1, p2⟩ := Bool.and_eq_true_iff.mp (show (pureTg t && pureTg ts) = true from hp)
    obtain ⟨h1, h⟩ := Bool.and_eq_true_iff.mp (show (noStar e && (chkT N sc fnB t e && chkT N sc fnB ts (.Tuple es k p))) = true from h)
    obtain ⟨h2, h3⟩ := Bool.and_eq_true_iff.mp h
    have g1 := pg_ok c t e p1 h2
    obtain ⟨g2, g3, g4⟩ := pgs_ok c ts es k p p2 h3
    refine ⟨⟨fun pins s σ H vs us Q I r q => ?_⟩, by rw [List.all_cons, h1, g3]; rfl, fun ds ρ pl ρ' pl' e => ?_⟩
    · refine (pgs_cons g1 g2 (by rw [assign_cons h1]; rfl)).run pins s σ H vs us Q I r ?_
      obtain ⟨z, ρ, pl, ds, ρ', pl', er, r2, e, q⟩ := q
      cases ds with
      | nil => cases e
      | cons d ds =>
        obtain ⟨v, vr, rfl, r3, r4⟩ := r2
        obtain ⟨⟨ρ1, pl1⟩, e1, e2⟩ := Option.bind_eq_some_iff.mp (show (bindT t d ρ pl).bind (fun r => bindT ts (.tup ds) r.1 r.2) = some (ρ', pl') from e)
        refine ⟨v, vr, rfl, z, ρ, pl, d, ρ1, pl1, er, r3, e1, fun σ1 l1 k1 er1 p1 => ?_⟩
        refine ⟨z, ρ1, pl1, ds, ρ', pl', er1, r4, e2, fun σ2 l2 k2 er2 p2 => ?_⟩
        refine q σ2 (l2.trans l1) (fun i hi => ?_) er2 (p2.trans p1)
        have hi : (tgHas t i || tgHas ts i) = false := hi
        rw [Bool.or_eq_false_iff] at hi
        rw [k2 i hi.2, k1 i hi.1]
    · cases ds with
      | nil => cases e
      | cons d ds =>
        obtain ⟨⟨ρ1, pl1⟩, e1, e2⟩ := Option.bind_eq_some_iff.mp (show (bindT t d ρ pl).bind (fun r => bindT ts (.tup ds) r.1 r.2) = some (ρ', pl') from e)
        simp [g4 ds ρ1 pl1 ρ' pl' e2]
end
end FW
/-! FW9: enumerate of a tuple; what loops and comprehensions walk. -/
namespace FW
open PySem PySem.Spec PyProof.Rows L2
open AutoSeq1 (wpAny_loadPart')

/-- the object that enumerate makes over an iterator at i -/
abbrev enumObj (i : Addr) : Obj := { cls := .type "enumerate", data := .fields #[.none, .bool false, .ref i, rawInt 0, .none, .none] }
abbrev tupItObj (l : Addr) : Obj := { cls := .type "tuple_iterator", data := .fields #[.ref l, .int 0 0] }
theorem enum_new_tup (l : Addr) (vs : Array Value) (n : Nat) (dd : Option Addr) (ss : Array (Option Value)) :
    Meets (Builtin.«enumerate.__new__» ⟨[.type "enumerate", .ref l], []⟩) (fun _ R st =>
      st.heap.get? l = some { cls := .type "tuple", dict := dd, data := .seq vs n, slots := ss } ∧
      R (.ok (.ret (.ref (st.heap.push (tupItObj l)).objs.size))) { st with heap := (st.heap.push (tupItObj l)).push (enumObj st.heap.objs.size) }) :=
  .of_wp fun prog w A R st h => by
    obtain ⟨hp, gg, dr, tk, osv⟩ := st
    obtain ⟨hl, h⟩ := h
    have isSub := sub_enumerate
    have hT : Heap.IsTuple (Shared.heap ⟨hp, gg, dr, tk, osv⟩) l vs := ⟨_, hl, rfl, n, rfl⟩
    wp_walk using wpAny_loadPart' hl
    refine wpAny_stack_any fun stk => wpAny_pure ?_
    split
    · rename_i c0 _ _ _ _ _
      cases (c0 == Value.type "enumerate") <;>
        (wp_walk using wpAny_loadPart' hl, wpAny_pyIter_tuple hT
         exact ⟨_, rfl, h⟩)
    · wp_walk using wpAny_loadPart' hl, wpAny_pyIter_tuple hT
      exact ⟨_, rfl, h⟩
section
variable {prog : Program} {w : World} {A : Around} {E : Value → Shared → Prop} {s : Shared}
theorem enum_call_tup {l : Addr} {vs : Array Value} {Q : Value → Shared → Prop} (hT : s.heap.IsTuple l vs)
    (h : ∀ h', IsEnum h' (s.heap.objs.size + 1) s.heap.objs.size 0 .none → h'.IsTupleIter s.heap.objs.size l 0 →
      (∀ b o, s.heap.get? b = some o → h'.get? b = some o) → Q (.ref (s.heap.objs.size + 1)) { s with heap := h' }) :
    wpAny (model prog w) A (call (.type "enumerate") [.ref l]) Q E s := by
  obtain ⟨⟨c, dd, dt, ss⟩, hl, hc, n, hd⟩ := hT
  have hc : c = .type "tuple" := hc
  have hd : dt = .seq vs n := hd
  subst hc hd
  refine callType_new F.called_enumerate (by decide) (F.typeCall_enumerate_1 _) (F.newCall_enumerate_1 _) (fun ob => F.args_object_init_2 ob _) F.entry_enumerate_new (enum_new_tup l vs n dd ss) ⟨hl, ?_⟩
  have hz : (s.heap.push (tupItObj l)).objs.size = s.heap.objs.size + 1 := Heap.size_push ..
  show _ ∧ _
  rw [hz]
  have he : IsEnum ((s.heap.push (tupItObj l)).push (enumObj s.heap.objs.size)) (s.heap.objs.size + 1) s.heap.objs.size 0 .none := by
    have t := Heap.get?_push_size (s.heap.push (tupItObj l)) (o := enumObj s.heap.objs.size) rfl
    rw [hz] at t
    exact t
  exact ⟨⟨_, he, rfl⟩, h _ he ⟨_, Heap.get?_push_of_some _ (Heap.get?_push_size _ rfl), rfl, rfl⟩ fun b o x => Heap.get?_push_of_some _ (Heap.get?_push_of_some _ x)⟩
/-- a tuple's iterator, drawn from within -/
theorem drawsTup (hh : A.handled = none) (it l : Addr) (hne : l ≠ it) (vs : Array Value) :
    Draws prog w A it [it, l] vs.size (fun i v => vs[i]? = some v) (fun i h => h.IsTupleIter it l i ∧ h.IsTuple l vs) := by
  refine ⟨fun _ _ st => ?_, fun _ _ _ st hk => ?_, fun i s Q E hi st hQ => ?_, fun s Q E st hE => ?_⟩
  · obtain ⟨o, ho, _⟩ := st.1
    exact ⟨o, ho⟩
  · obtain ⟨o2, e2, q⟩ := st.2
    exact ⟨st.1.at fun o e => hk it (by simp) o e, o2, hk l (by simp) o2 e2, q⟩
  · refine RZ.nextOf_tuple_item st.1 st.2 (x := vs[i]) (by simp [hi]) fun h' hit' hs' => ?_
    obtain ⟨o2, e2, q⟩ := st.2
    exact hQ _ h' s.toks (by simp [hi]) ⟨hit', o2, (hs'.2 l hne).trans e2, q⟩ hs'
  · exact RZ.nextOf_tuple_end hh st.1 st.2 (by simp) hE
end
/-- the tuple at a at each turn, each item with its place in a new pair -/
def IteT (K : PySem.W.Frag) (a : Addr) : It where
  go := fun i H => ∃ (xs : List V) (x : V), SqT K H a xs ∧ xs[i]? = some x
  yld := fun i H v H' => ∃ T x, v = .ref T ∧ H T = none ∧ H' = upd H T (.tup [.int (i : Nat), x]) ∧ ∀ xs, SqT K H a xs → xs[i]? = some x
  stop := fun i H => ∃ xs : List V, SqT K H a xs ∧ xs.length = i
theorem turn_enumT {P : Program} {w : World} {K : PySem.W.Frag} {elts : List Expr} {kk : Nat} {tpos : Pos} (a e it : Addr) (hai : a ≠ it) (hae : a ≠ e) (hne : e ≠ it) :
    Turn P w K (.Tuple elts kk tpos) (IteT K a) [e, it] e (fun i h => (∃ prev, IsEnum h e it ((i : Nat) : Int) prev) ∧ h.IsTupleIter it a i) := by
  have two : ∀ {b : Addr}, b ∈ [e, it] → b = e ∨ b = it := fun {b} hb => by simpa using hb
  refine ⟨by simp, fun i h st b hb => ?_, fun i h h' st k => ?_, ?_, ?_, fun A i s Q E st h => ?_⟩
  · obtain ⟨⟨prev, he⟩, o, ho, hc, hd⟩ := st
    rcases two hb with rfl | rfl
    · exact ⟨_, he, fun v q => nomatch q⟩
    · exact ⟨o, ho, fun v q => by rw [hd] at q; cases q⟩
  · obtain ⟨⟨prev, he⟩, hi⟩ := st
    exact ⟨⟨prev, k e (by simp) _ he⟩, hi.at fun o q => k it (by simp) o q⟩
  · intro X hP hw hK hc i pins s σ H E I hf st hg
    subst hP hw hK
    obtain ⟨⟨prev, he⟩, hit⟩ := st
    obtain ⟨xs, x, hq, hx⟩ := hg
    obtain ⟨us, rv, hT, hz⟩ := I.tuple hq
    obtain ⟨u, hu, ru⟩ := rv.get hx
    have hlen := rv.length
    have hi : i < us.toArray.size := by
      have := (List.getElem?_eq_some_iff.mp hu).1
      simpa using this
    have hel : e < s.heap.objs.size := Heap.lt_size he
    have hil : it < s.heap.objs.size := by
      obtain ⟨_, q, _⟩ := hit
      exact Heap.lt_size q
    refine wpAny_pyNext_enum_itemD (drawsTup (prog := X.prog) (w := X.w) (A := X.A.in1) (I.ok.hd hc) it a hai us.toArray) he ⟨hit, hT⟩ hi hne (by simp [hne, Ne.symm hae]) fun y h' tk hy ho hst hnew hsz hk => ?_
    have ey : y = u := by
      have h1 : us.toArray[i]? = some u := by simpa using hu
      exact Option.some.inj (hy.symm.trans h1)
    subst ey
    refine ⟨_, rfl, wpAny_letOwnedTupleGo_enum (s := { s with heap := h', toks := tk + 1 }) ho fun h2 he2 sb => ?_⟩
    have hnew2 := (sb.2 _ (Nat.ne_of_gt hel)).trans hnew
    have obj : ObjOk X.prog X.w (upd H s.heap.objs.size (.tup [.int (i : Nat), x])) h2 s.heap.objs.size (.tup [.int (i : Nat), x]) :=
      ⟨by show 2 ≤ sizeLine; decide, [.int i tk, y], .cons ⟨_, rfl⟩ (.cons ru .nil), _, hnew2, rfl, _, rfl⟩
    have I2 : Inv X pins σ (upd H s.heap.objs.size (.tup [.int (i : Nat), x])) { s with heap := h2, toks := tk + 1 } := by
      refine I.turnedNew (ch := [e, it]) (fun b o hb q => ?_) hf (Nat.le_refl _) obj
      have hb1 : b ≠ e := fun z => hb (by simp [z])
      have hb2 : b ≠ it := fun z => hb (by simp [z])
      exact (sb.2 b hb1).trans (hk b o hb1 hb2 q)
    refine ⟨.ref s.heap.objs.size, _, I2, rfl, ⟨_, x, rfl, I.hok.fresh (Nat.le_refl _), rfl, fun ys hy => by rw [I.tuple_inj hy hq]; exact hx⟩, ⟨⟨y, ?_⟩, hst.1.at fun o q => (sb.2 it (Ne.symm hne)).trans q⟩, fun b hb => ?_⟩
    · rw [show ((i + 1 : Nat) : Int) = (i : Int) + 1 by omega]
      exact he2
    · have hlt : b < s.heap.objs.size := by
        rcases two hb with rfl | rfl
        · exact hel
        · exact hil
      rw [upd_ne (Nat.ne_of_lt hlt)]
      exact (hf b hb).1
  · intro X hP hw hK hc i pins s σ H E I hf st hg
    subst hP hw hK
    obtain ⟨⟨prev, he⟩, hit⟩ := st
    obtain ⟨xs, hq, hx⟩ := hg
    obtain ⟨us, rv, hT, hz⟩ := I.tuple hq
    obtain ⟨f0, f1, f2, f3, f4, f5⟩ := hf it (by simp)
    have hn : us.toArray.size = i := by rw [List.size_toArray, ← rv.length, hx]
    exact wpAny_pyNext_enum_endD (drawsTup (prog := X.prog) (w := X.w) (A := X.A.in1) (I.ok.hd hc) it a hai us.toArray) he ⟨by rw [hn]; exact hit, hT⟩ fun h' eb =>
      ⟨rfl, I.turned (t' := s.toks) (fun b o hb q => eb b o hb q) f0 f1 f3 f4 f5⟩
  · obtain ⟨⟨_, he⟩, _⟩ := st
    exact wpAny_pyIter_enum he h
theorem walk_enumT {K : PySem.W.Frag} {a : Addr} {xs : List V} : Walk (IteT K a) xs.length (fun H => SqT K H a xs) (YPair (fun i => some (.int (i : Nat))) (fun i => xs[i]?)) := by
  refine ⟨fun i _ hi q => ⟨xs, xs[i], q, by simp [hi]⟩, fun _ q => ⟨xs, q, rfl⟩, fun i H v H' _ q y => ?_⟩
  obtain ⟨T, x, h1, h2, h3, h4⟩ := y
  exact ⟨T, .int (i : Nat), x, h1, h2, h3, rfl, h4 xs q⟩
theorem walk_zipT {K : PySem.W.Frag} {a b : Addr} {xs ys : List V} {n : Nat} (hn : n = min xs.length ys.length) : Walk (RZ.ItzT K a b) n (fun H => SqT K H a xs ∧ SqT K H b ys) (YPair (fun i => xs[i]?) (fun i => ys[i]?)) := by
  subst hn
  refine ⟨fun i _ hi q => ?_, fun _ q => ⟨xs, ys, q.1, q.2, by omega⟩, fun i H v H' _ q y => ?_⟩
  · have k1 : i < xs.length := by omega
    have k2 : i < ys.length := by omega
    exact ⟨xs, ys, xs[i], ys[i], q.1, q.2, by simp [k1], by simp [k2]⟩
  · obtain ⟨T, x, z, h1, h2, h3, h4, h5⟩ := y
    exact ⟨T, x, z, h1, h2, h3, h4 xs q.1, h5 ys q.2⟩
def iEnumT (K : PySem.W.Frag) (ta : TA) : TI := fun σ H R => ta σ H fun vs H1 => ∃ a xs, vs = [.ref a] ∧ SqT K H1 a xs ∧ R (IteT K a) H1
theorem pi_enumT {X : Cx} {e : Expr} {ta : TA} {p pos tpos : Pos} {elts : List Expr} {kk : Nat} (hg : Gl X "enumerate") (hm : X.mg "enumerate" = none) (ha : PA X [e] ta) (hs : starEach [e] X.env = [(false, eval e X.env)]) :
    PI X (.Tuple elts kk tpos) (.Call (.Name "enumerate" p) [e] [] pos) (iEnumT X.K ta) := by
  refine ⟨fun pins s σ H R I h => ?_⟩
  refine Call_ (ld_blt I hg hm boot_enumerate (PyProof.Rows.callWith_type1 (thn (ha.run pos pins s σ H _ I h) fun us s1 ⟨vs, H1, I1, r1, q1⟩ => ?_) hs rfl))
  obtain ⟨a, xs, rfl, hq, q⟩ := q1
  cases r1 with
  | cons r rr =>
    cases rr
    cases r
    obtain ⟨its, rv, hT, hz⟩ := I1.tuple hq
    have hal : a < s1.heap.objs.size := by
      obtain ⟨o, ho, _⟩ := id hT
      exact Heap.lt_size ho
    refine enum_call_tup (show s1.heap.IsTuple a its.toArray from hT) fun h' he hit hk => wpAny_pyIter_enum he ?_
    have I2 : Inv X pins σ H1 { s1 with heap := h' } := I1.kept (t' := s1.toks) hk
    refine ⟨_, _, _, _, H1, rfl, I2, turn_enumT a (s1.heap.objs.size + 1) s1.heap.objs.size (Nat.ne_of_lt hal) (Nat.ne_of_lt (Nat.lt_succ_of_lt hal)) (Nat.succ_ne_self _), ⟨⟨.none, he⟩, hit⟩, fun b hb => ?_, q⟩
    have hle : s1.heap.objs.size ≤ b := by
      rcases (show b = s1.heap.objs.size + 1 ∨ b = s1.heap.objs.size by simpa using hb) with z | z
      · rw [z]; exact Nat.le_succ _
      · rw [z]; exact Nat.le_refl _
    exact I1.fpOk hle (I1.hok.fresh hle)
end FW
/-! FW10: what loops and comprehensions walk, by the evaluator; hidden new lists. -/
namespace FW
open PySem PySem.Spec PyProof.Rows L2

def Far (b : Bool) (z z2 : Zn) (H H2 : Hp) : Prop := XSt z z2 H H2 ∧ (b = true → ∀ a ∈ z.O, a ∈ z2.O ∧ H2 a = H a)
theorem Far.refl (b : Bool) (z : Zn) (H : Hp) : Far b z z H H := ⟨XSt.refl z H, fun _ a h => ⟨h, rfl⟩⟩
def SrcOk (b : Bool) (G : GC) (z : Zn) (items : List D) (H1 : Hp) (J : It) : Prop := ∃ (Gd : Hp → Prop) (Y : Nat → Hp → V → Hp → Prop), Walk J items.length Gd Y ∧ (∀ z2 H2, Far b z z2 H1 H2 → Gd H2) ∧
  ∀ z2 pl2 i H2 x H3 d, Far b z z2 H1 H2 → W G z2 pl2 H2 → items[i]? = some d → Y i H2 x H3 → Stp z2 H2 H3 ∧ W G z2 pl2 H3 ∧ Rep G z2.pa (hide z2 H3) d x
def tI (b : Bool) (G : GC) (F : En → Pl → M (List D)) : TI := fun σ H R => ∃ z ρ pl items pl', ER G z ρ pl σ H ∧ F ρ pl = some (items, pl') ∧ ∀ J H1, Stp z H H1 → W G z pl' H1 → SrcOk b G z items H1 J → R J H1
/-- an operand, strong where b is false -/
def tB (b : Bool) (G : GC) (F : En → Pl → M D) : TE := fun σ H Q => ∃ z ρ pl d pl', ER G z ρ pl σ H ∧ F ρ pl = some (d, pl') ∧ ∀ v H', Stp z H H' → W G z pl' H' → RepO G z H' d v → (b = false → Rep G z.pa (hide z H') d v) → Q v H'
theorem PE.toB {X : Cx} {G : GC} {e : Expr} {F : En → Pl → M D} (h : PE X e (tO G F)) : PE X e (tB true G F) :=
  PE.imp h fun σ H Q ⟨z, ρ, pl, d, pl', er, e, q⟩ => ⟨z, ρ, pl, d, pl', er, e, fun v H' s w r => q v H' s w r (fun h => by cases h)⟩
theorem PE.toB0 {X : Cx} {G : GC} {e : Expr} {F : En → Pl → M D} (h : PE X e (tE G F)) : PE X e (tB false G F) :=
  PE.imp h fun σ H Q ⟨z, ρ, pl, d, pl', er, e, q⟩ => ⟨z, ρ, pl, d, pl', er, e, fun v H' s w r => q v H' s w r.o (fun _ => r)⟩
section
variable {G : GC} {z : Zn} {H : Hp} {d : D} {v : V} {b : Bool} {items : List D}
theorem src_seq (h : RepO G z H d v) (hb : b = false → Rep G z.pa (hide z H) d v) (e : seqOf d = some items) : ∃ a vs, v = .ref a ∧ Reps G z.pa (hide z H) items vs ∧
    ((isTup d = false ∧ ∀ z2 H2, Far b z z2 H H2 → SqL G.K H2 a vs) ∨ (isTup d = true ∧ ∀ z2 H2, Far b z z2 H H2 → SqT G.K H2 a vs)) := by
  cases d with
  | tup ds =>
    cases e
    obtain ⟨a, vs, h1, h2, h3⟩ := h.tup
    exact ⟨a, vs, h1, h3, .inr ⟨rfl, fun z2 H2 f => SqT.same (f.1.same.trans (hide_same z2 H2)) h2⟩⟩
  | frl ds =>
    cases e
    obtain ⟨a, vs, h1, h2, h3⟩ := h.frl
    exact ⟨a, vs, h1, h3, .inl ⟨rfl, fun z2 H2 f => (f.1.same.trans (hide_same z2 H2)).seq h2⟩⟩
  | lst ds =>
    cases e
    cases b with
    | false =>
      obtain ⟨a, vs, h1, h2, h3⟩ := hb rfl
      exact ⟨a, vs, h1, h3, .inl ⟨rfl, fun z2 H2 f => SqL.of ((f.1.same.trans (hide_same z2 H2)) _ _ h2)⟩⟩
    | true =>
      rcases h with ⟨a, vs, h1, h2, h3⟩ | ⟨a, vs, ds', h1, h2, h3, h4, h5⟩
      · exact ⟨a, vs, h1, h3, .inl ⟨rfl, fun z2 H2 f => SqL.of ((f.1.same.trans (hide_same z2 H2)) _ _ h2)⟩⟩
      · cases h2
        exact ⟨a, vs, h1, h5, .inl ⟨rfl, fun z2 H2 f => SqL.of (by rw [(f.2 rfl a h3).2]; exact h4)⟩⟩
  | _ => cases e
theorem reps_far {z2 : Zn} {H2 : Hp} {ds : List D} {vs : List V} (h : Reps G z.pa (hide z H) ds vs) (f : Far b z z2 H H2) : Reps G z2.pa (hide z2 H2) ds vs := by
  rw [f.1.pa]
  exact Reps.same f.1.same _ _ h
theorem pairs_get : ∀ {xs ys : List D} {i : Nat} {d : D}, (pairs xs ys)[i]? = some d → ∃ x y, xs[i]? = some x ∧ ys[i]? = some y ∧ d = .tup [x, y]
  | [], _, _, _, h => by simp [pairs] at h
  | _ :: _, [], _, _, h => by simp [pairs] at h
  | x :: xs, y :: ys, 0, d, h => by
    simp [pairs] at h
    exact ⟨x, y, rfl, rfl, h.symm⟩
  | x :: xs, y :: ys, i + 1, d, h => by
    obtain ⟨x', y', h1, h2, h3⟩ := pairs_get (xs := xs) (ys := ys) (i := i) (by simpa [pairs] using h)
    exact ⟨x', y', by simpa using h1, by simpa using h2, h3⟩
theorem pairs_len : ∀ (xs ys : List D), (pairs xs ys).length = min xs.length ys.length
  | [], _ => by simp [pairs]
  | _ :: _, [] => by simp [pairs]
  | x :: xs, y :: ys => by simp only [pairs, List.length_cons, pairs_len xs ys]; omega
theorem enum_get : ∀ {xs : List D} {n i : Nat} {d : D}, (enumF n xs)[i]? = some d → ∃ x, xs[i]? = some x ∧ d = .tup [.int ((n + i : Nat) : Int), x]
  | [], _, _, _, h => by simp [enumF] at h
  | x :: xs, n, 0, d, h => by
    simp [enumF] at h
    exact ⟨x, rfl, h.symm⟩
  | x :: xs, n, i + 1, d, h => by
    obtain ⟨x', h1, h2⟩ := enum_get (xs := xs) (n := n + 1) (i := i) (by simpa [enumF] using h)
    exact ⟨x', by simpa using h1, by rw [h2, show n + 1 + i = n + (i + 1) by omega]⟩
theorem enum_len : ∀ (xs : List D) (n : Nat), (enumF n xs).length = xs.length
  | [], _ => rfl
  | x :: xs, n => by simp [enumF, enum_len xs]
theorem yat_ok {items : List D} {vs : List V} {H1 : Hp} (r : Reps G z.pa (hide z H1) items vs) : ∀ z2 pl2 i H2 x H3 d, Far b z z2 H1 H2 → W G z2 pl2 H2 → items[i]? = some d → YAt vs i H2 x H3 → Stp z2 H2 H3 ∧ W G z2 pl2 H3 ∧ Rep G z2.pa (hide z2 H3) d x := by
  intro z2 pl2 i H2 x H3 d f w e y
  obtain ⟨rfl, hx⟩ := y
  obtain ⟨v, e1, r1⟩ := (reps_far r f).get e
  rw [hx] at e1; cases e1
  exact ⟨Stp.refl _ _, w, r1⟩
/-- a new pair -/
theorem ypair_ok {z2 : Zn} {pl2 : Pl} {H2 H3 : Hp} {x : V} {dx dy : D} {T : Addr} {vx vy : V} (w : W G z2 pl2 H2) (hT : H2 T = none) (e : H3 = upd H2 T (.tup [vx, vy])) (r1 : Rep G z2.pa (hide z2 H2) dx vx) (r2 : Rep G z2.pa (hide z2 H2) dy vy) :
    Stp z2 H2 H3 ∧ W G z2 pl2 H3 ∧ Rep G z2.pa (hide z2 H3) (.tup [dx, dy]) (.ref T) := by
  subst e
  exact ⟨.laid w hT, w.laid hT, T, _, rfl, SqT.of (w.hide_new hT), Reps.same (Stp.laid w hT).same _ _ (.cons r1 (.cons r2 Reps.nil))⟩
end
section
variable {X : Cx} {G : GC} {T : Tab} {C : Cf} {N : List Str} {sc : Scope} {fnB : Str → Bool} {e e2 tg : Expr} {F F2 : En → Pl → M D} {b : Bool} {p pos : Pos}
theorem pi_itD (c : CxOk X G T C N sc fnB) (h : PE X e (tB b G F)) : PI X tg e (tI b G fun ρ p => (F ρ p).bind fun x => (seqOf x.1).bind fun xs => some (xs, x.2)) := by
  refine ⟨fun pins s σ H R I q => ?_⟩
  obtain ⟨z, ρ, pl, items, pl', er, e1, q⟩ := q
  obtain ⟨⟨d, pl1⟩, e2, e3⟩ := Option.bind_eq_some_iff.mp e1
  obtain ⟨xs, e4, e5⟩ := Option.bind_eq_some_iff.mp e3
  cases e5
  by_cases ht : isTup d = true
  · refine (pi_tup h).run pins s σ H R I ⟨z, ρ, pl, d, pl1, er, e2, fun v H1 s1 w1 r rb => ?_⟩
    obtain ⟨a, vs, rfl, r1, k | k⟩ := src_seq r rb e4
    · rw [k.1] at ht; cases ht
    · have k0 := k.2 z H1 (Far.refl b z H1)
      refine ⟨a, rfl, ⟨vs, by rw [c.K]; exact k0⟩, q _ H1 s1 w1 ⟨fun H => SqT X.K H a vs, YAt vs, by rw [r1.length]; exact walk_tup, fun z2 H2 f => by rw [c.K]; exact k.2 z2 H2 f, yat_ok r1⟩⟩
  · refine (pi_list h).run pins s σ H R I ⟨z, ρ, pl, d, pl1, er, e2, fun v H1 s1 w1 r rb => ?_⟩
    obtain ⟨a, vs, rfl, r1, k | k⟩ := src_seq r rb e4
    · have k0 := k.2 z H1 (Far.refl b z H1)
      refine ⟨a, rfl, ⟨vs, by rw [c.K]; exact k0⟩, q _ H1 s1 w1 ⟨fun H => SqL X.K H a vs, YAt vs, by rw [r1.length]; exact walk_list, fun z2 H2 f => by rw [c.K]; exact k.2 z2 H2 f, yat_ok r1⟩⟩
    · exact absurd k.1 ht
theorem rngOk_ok {i : Int} (h : rngOk i = true) : -(2 ^ 62) ≤ i ∧ i < 2 ^ 62 := by
  obtain ⟨h1, h2⟩ := Bool.and_eq_true_iff.mp h
  exact ⟨of_decide_eq_true h1, of_decide_eq_true h2⟩
theorem blt_of (c : CxOk X G T C N sc fnB) {x : Str} (h : x ∈ bltNames) : X.mg x = none := c.blt x h
theorem range_src {z : Zn} {lo : Int} {n : Nat} {H1 : Hp} : SrcOk b G z (rangeD lo n) H1 (Itr lo n) := by
  refine ⟨fun _ => True, YFn fun i => .int (lo + (i : Nat)), by simpa [rangeD] using (walk_range (lo := lo) (n := n)), fun _ _ _ => trivial, fun z2 pl2 i H2 x H3 d f w e y => ?_⟩
  obtain ⟨rfl, rfl⟩ := y
  refine ⟨Stp.refl _ _, w, ?_⟩
  unfold rangeD at e
  rw [List.getElem?_map] at e
  obtain ⟨j, e1, rfl⟩ := Option.map_eq_some_iff.mp e
  have : j = i := by
    have h2 := List.getElem?_eq_some_iff.mp e1
    simpa using h2.2.symm
  subst this
  rfl
theorem pi_rng1D (c : CxOk X G T C N sc fnB) (h : PE X e (tE G F)) (hg : Gl X "range") (hn : noStar e = true) : PI X tg (.Call (.Name "range" p) [e] [] pos) (tI b G fun ρ p => (F ρ p).bind fun x => match x.1 with
    | .int j => if rngOk j then some (rangeD 0 j.toNat, x.2) else none
    | _ => none) := by
  refine PI.imp (pi_range1 hg (c.blt _ (by simp [bltNames])) (pa_cons h pa_nil (star_cons hn)) (star_cons hn)) fun σ H R q => ?_
  obtain ⟨z, ρ, pl, items, pl', er, e1, q⟩ := q
  obtain ⟨⟨d, pl1⟩, e2, e3⟩ := Option.bind_eq_some_iff.mp e1
  cases d with
  | int j =>
    have e3 : (if rngOk j then some (rangeD 0 j.toNat, pl1) else none) = some (items, pl') := e3
    split at e3
    · rename_i hj
      cases e3
      obtain ⟨b1, b2⟩ := rngOk_ok hj
      refine ⟨z, ρ, pl, _, _, er, e2, fun v H1 s1 w1 r => ?_⟩
      cases (show v = V.int j from r)
      exact ⟨j, rfl, b1, b2, q _ H1 s1 w1 range_src⟩
    · cases e3
  | _ => cases e3
theorem pi_rng2D (c : CxOk X G T C N sc fnB) (h : PE X e (tE G F)) (h2 : PE X e2 (tE G F2)) (hg : Gl X "range") (hn : noStar e = true) (hn2 : noStar e2 = true) : PI X tg (.Call (.Name "range" p) [e, e2] [] pos) (tI b G fun ρ p => (F ρ p).bind fun x => (F2 ρ x.2).bind fun y => match x.1, y.1 with
    | .int i, .int j => if rngOk i && rngOk j then some (rangeD i (j - i).toNat, y.2) else none
    | _, _ => none) := by
  refine PI.imp (pi_range2 hg (c.blt _ (by simp [bltNames])) (pa_cons h (pa_cons h2 pa_nil (star_cons hn2)) (star_cons hn)) (by rw [star_cons hn, star_cons hn2]; rfl) (star_cons hn2)) fun σ H R q => ?_
  obtain ⟨z, ρ, pl, items, pl', er, e1, q⟩ := q
  obtain ⟨⟨d, pl1⟩, e2, e3⟩ := Option.bind_eq_some_iff.mp e1
  obtain ⟨⟨d2, pl2⟩, e4, e5⟩ := Option.bind_eq_some_iff.mp e3
  have key : ∃ i j, d = .int i ∧ d2 = .int j ∧ (rngOk i && rngOk j) = true ∧ items = rangeD i (j - i).toNat ∧ pl' = pl2 := by
    cases d with
    | int i =>
      cases d2 with
      | int j =>
        have e5 : (if (rngOk i && rngOk j) = true then some (rangeD i (j - i).toNat, pl2) else none) = some (items, pl') := e5
        split at e5
        · rename_i hj
          cases e5
          exact ⟨i, j, rfl, rfl, hj, rfl, rfl⟩
        · cases e5
      | _ => cases e5
    | _ => cases e5
  obtain ⟨i, j, rfl, rfl, hj, rfl, rfl⟩ := key
  obtain ⟨b1, b2⟩ := Bool.and_eq_true_iff.mp hj
  obtain ⟨b1, b3⟩ := rngOk_ok b1
  obtain ⟨b2, b4⟩ := rngOk_ok b2
  refine ⟨z, ρ, pl, _, pl1, er, e2, fun v H1 s1 w1 r => ?_⟩
  refine ⟨z, ρ, pl1, _, pl', er.stp s1 w1, e4, fun v2 H2 s2 w2 r2 => ?_⟩
  cases (show v = V.int i from r)
  cases (show v2 = V.int j from r2)
  exact ⟨i, j, rfl, ⟨b1, b3, b2, b4⟩, q _ H2 (s1.trans s2) w2 range_src⟩
theorem pi_enmD (c : CxOk X G T C N sc fnB) (h : PE X e (tB b G F)) (hg : Gl X "enumerate") (hn : noStar e = true) {elts : List Expr} {kk : Nat} {tpos : Pos} : PI X (.Tuple elts kk tpos) (.Call (.Name "enumerate" p) [e] [] pos) (tI b G fun ρ p => (F ρ p).bind fun x => (seqOf x.1).bind fun xs => some (enumF 0 xs, x.2)) := by
  refine ⟨fun pins s σ H R I q => ?_⟩
  obtain ⟨z, ρ, pl, items, pl', er, e1, q⟩ := q
  obtain ⟨⟨d, pl1⟩, e2, e3⟩ := Option.bind_eq_some_iff.mp e1
  obtain ⟨xs, e4, e5⟩ := Option.bind_eq_some_iff.mp e3
  cases e5
  have yok : ∀ {a : Addr} {vs : List V} {H1 : Hp}, Reps G z.pa (hide z H1) xs vs → ∀ z2 pl2 i H2 x H3 d, Far b z z2 H1 H2 → W G z2 pl2 H2 → (enumF 0 xs)[i]? = some d → YPair (fun i => some (.int (i : Nat))) (fun i => vs[i]?) i H2 x H3 → Stp z2 H2 H3 ∧ W G z2 pl2 H3 ∧ Rep G z2.pa (hide z2 H3) d x := by
    intro a vs H1 r1 z2 pl2 i H2 x H3 d f w e y
    obtain ⟨TT, u1, u2, rfl, hT, h3, h4, h5⟩ := y
    cases h4
    obtain ⟨dx, ex, rfl⟩ := enum_get e
    obtain ⟨v, e1, r2⟩ := (reps_far r1 f).get ex
    have h5 : vs[i]? = some u2 := h5
    rw [h5] at e1; cases e1
    rw [Nat.zero_add]
    exact ypair_ok (x := .ref TT) w hT h3 rfl r2
  by_cases ht : isTup d = true
  · refine (pi_enumT hg (c.blt _ (by simp [bltNames])) (pa_cons h pa_nil (star_cons hn)) (star_cons hn)).run pins s σ H R I ⟨z, ρ, pl, d, pl1, er, e2, fun v H1 s1 w1 r rb => ?_⟩
    obtain ⟨a, vs, rfl, r1, k | k⟩ := src_seq r rb e4
    · rw [k.1] at ht; cases ht
    · have k0 := k.2 z H1 (Far.refl b z H1)
      exact ⟨a, vs, rfl, by rw [c.K]; exact k0, q _ H1 s1 w1 ⟨fun H => SqT X.K H a vs, _, by rw [enum_len, r1.length]; exact walk_enumT, fun z2 H2 f => by rw [c.K]; exact k.2 z2 H2 f, yok (a := a) r1⟩⟩
  · refine (pi_enum hg (c.blt _ (by simp [bltNames])) (pa_cons h pa_nil (star_cons hn)) (star_cons hn)).run pins s σ H R I ⟨z, ρ, pl, d, pl1, er, e2, fun v H1 s1 w1 r rb => ?_⟩
    obtain ⟨a, vs, rfl, r1, k | k⟩ := src_seq r rb e4
    · have k0 := k.2 z H1 (Far.refl b z H1)
      exact ⟨a, vs, rfl, by rw [c.K]; exact k0, q _ H1 s1 w1 ⟨fun H => SqL X.K H a vs, _, by rw [enum_len, r1.length]; exact walk_enum, fun z2 H2 f => by rw [c.K]; exact k.2 z2 H2 f, yok (a := a) r1⟩⟩
    · exact absurd k.1 ht
/-- the first operand behind a step of the second one -/
theorem far_stp {z : Zn} {H1 H2 : Hp} (s : Stp z H1 H2) : Far b z z H1 H2 := ⟨s.x, fun _ a h => ⟨h, s.own a (.inr h)⟩⟩
theorem Far.trans {z z1 z2 : Zn} {H H1 H2 : Hp} (f : Far b z z1 H H1) (g : Far b z1 z2 H1 H2) : Far b z z2 H H2 :=
  ⟨f.1.trans g.1, fun hb a h => ⟨(g.2 hb a (f.2 hb a h).1).1, (g.2 hb a (f.2 hb a h).1).2.trans (f.2 hb a h).2⟩⟩
theorem pi_zipD (c : CxOk X G T C N sc fnB) (h : PE X e (tB b G F)) (h2 : PE X e2 (tB b G F2)) (hg : Gl X "zip") (hn : noStar e = true) (hn2 : noStar e2 = true) {elts : List Expr} {kk : Nat} {tpos : Pos} :
    PI X (.Tuple elts kk tpos) (.Call (.Name "zip" p) [e, e2] [] pos) (tI b G fun ρ p => (F ρ p).bind fun x => (F2 ρ x.2).bind fun y => (seqOf x.1).bind fun xs => (seqOf y.1).bind fun ys => if isTup x.1 == isTup y.1 then some (pairs xs ys, y.2) else none) := by
  refine PI.imp (RZ.pi_zipA hg (c.blt _ (by simp [bltNames])) (pa_cons h (pa_cons h2 pa_nil (star_cons hn2)) (star_cons hn)) (star_cons hn) (by rw [star_cons hn2]; rfl)) fun σ H R q => ?_
  obtain ⟨z, ρ, pl, items, pl', er, e1, q⟩ := q
  obtain ⟨⟨d, pl1⟩, e2, e3⟩ := Option.bind_eq_some_iff.mp e1
  obtain ⟨⟨d2, pl2⟩, e4, e5⟩ := Option.bind_eq_some_iff.mp e3
  obtain ⟨xs, e6, e7⟩ := Option.bind_eq_some_iff.mp e5
  obtain ⟨ys, e8, e9⟩ := Option.bind_eq_some_iff.mp e7
  have e9 : (if (isTup d == isTup d2) = true then some (pairs xs ys, pl2) else none) = some (items, pl') := e9
  split at e9
  · rename_i hk
    cases e9
    refine ⟨z, ρ, pl, d, pl1, er, e2, fun v H1 s1 w1 r rb => ?_⟩
    refine ⟨z, ρ, pl1, d2, pl', er.stp s1 w1, e4, fun v2 H2 s2 w2 r2 rb2 => ?_⟩
    have f1 := far_stp (b := b) s2
    obtain ⟨a, vs, rfl, r1, k1⟩ := src_seq r rb e6
    obtain ⟨a2, us, rfl, r3, k2⟩ := src_seq r2 rb2 e8
    have r1 := Reps.same s2.same _ _ r1
    have yok : ∀ z3 pl3 i H3 x H4 d, Far b z z3 H2 H3 → W G z3 pl3 H3 → (pairs xs ys)[i]? = some d → YPair (fun i => vs[i]?) (fun i => us[i]?) i H3 x H4 → Stp z3 H3 H4 ∧ W G z3 pl3 H4 ∧ Rep G z3.pa (hide z3 H4) d x := by
      intro z3 pl3 i H3 x H4 d f w e y
      obtain ⟨TT, u1, u2, rfl, hT, h3, h4, h5⟩ := y
      obtain ⟨dx, dy, ex, ey, rfl⟩ := pairs_get e
      obtain ⟨v1, g1, g2⟩ := (reps_far r1 f).get ex
      obtain ⟨v2, g3, g4⟩ := (reps_far r3 f).get ey
      have h4 : vs[i]? = some u1 := h4
      have h5 : us[i]? = some u2 := h5
      rw [h4] at g1; cases g1
      rw [h5] at g3; cases g3
      exact ypair_ok (x := .ref TT) w hT h3 g2 g4
    have hlen : (pairs xs ys).length = min vs.length us.length := by rw [pairs_len, r1.length, r3.length]
    refine ⟨a, a2, vs, us, rfl, ?_⟩
    rcases k1 with ⟨t1, k1⟩ | ⟨t1, k1⟩
    · rcases k2 with ⟨t2, k2⟩ | ⟨t2, k2⟩
      · refine .inl ⟨by rw [c.K]; exact k1 z H2 f1, by rw [c.K]; exact k2 z H2 (Far.refl b z H2), q _ H2 (s1.trans s2) w2 ⟨_, _, walk_zip hlen, fun z3 H3 f => ⟨by rw [c.K]; exact k1 z3 H3 (f1.trans f), by rw [c.K]; exact k2 z3 H3 f⟩, yok⟩⟩
      · rw [t1, t2] at hk; cases hk
    · rcases k2 with ⟨t2, k2⟩ | ⟨t2, k2⟩
      · rw [t1, t2] at hk; cases hk
      · refine .inr ⟨by rw [c.K]; exact k1 z H2 f1, by rw [c.K]; exact k2 z H2 (Far.refl b z H2), q _ H2 (s1.trans s2) w2 ⟨_, _, walk_zipT hlen, fun z3 H3 f => ⟨by rw [c.K]; exact k1 z3 H3 (f1.trans f), by rw [c.K]; exact k2 z3 H3 f⟩, yok⟩⟩
  · cases e9
end
end FW
/-! FW11: new lists; comprehensions. -/
namespace FW
open PySem PySem.Spec PyProof.Rows L2

def Zn.plus (z : Zn) (a : Addr) : Zn := ⟨z.pa, z.Z, a :: z.O⟩
theorem plus_hid {z : Zn} {a b : Addr} : (z.plus a).hid b ↔ b = a ∨ z.hid b := by
  unfold Zn.hid Zn.plus
  simp only [List.mem_cons]
  constructor
  · rintro (h | (h | h) | h)
    · exact .inr (.inl h)
    · exact .inl h
    · exact .inr (.inr (.inl h))
    · exact .inr (.inr (.inr h))
  · rintro (h | h | h | h)
    · exact .inr (.inl (.inl h))
    · exact .inl h
    · exact .inr (.inl (.inr h))
    · exact .inr (.inr h)
theorem hide_plus {z : Zn} {H : Hp} {a : Addr} {o : HO} (h : H a = none) : hide (z.plus a) (upd H a o) = hide z H := by
  funext b
  unfold hide
  by_cases e : b = a
  · subst e
    rw [if_pos (plus_hid.mpr (.inl rfl)), h]
    split <;> rfl
  · by_cases k : z.hid b
    · rw [if_pos k, if_pos (plus_hid.mpr (.inr k))]
    · rw [if_neg k, if_neg (fun q => (plus_hid.mp q).elim e k), upd_ne e]
theorem hide_plus_set {z : Zn} {H : Hp} {a : Addr} {o : HO} : hide (z.plus a) (upd H a o) = hide (z.plus a) H := by
  funext b
  unfold hide
  by_cases e : b = a
  · subst e
    rw [if_pos (plus_hid.mpr (.inl rfl)), if_pos (plus_hid.mpr (.inl rfl))]
  · by_cases k : (z.plus a).hid b
    · rw [if_pos k, if_pos k]
    · rw [if_neg k, if_neg k, upd_ne e]
theorem plus_same {z : Zn} {H : Hp} {a : Addr} : Same (hide (z.plus a) H) (hide z H) := Same.of_le fun b h => plus_hid.mpr (.inr h)
section
variable {G : GC} {z : Zn} {pl : Pl} {H H' : Hp} {a : Addr} {o : HO} {ρ : En} {σ : L2.St}
theorem W.plus (w : W G z pl H) (h : H a = none) : W G (z.plus a) pl (upd H a o) := by
  have hn : ∀ {b u}, H b = some u → upd H a o b = some u := fun {b u} e => by rw [upd_ne (ne_of_none e h)]; exact e
  refine ⟨fun b hb => ?_, fun b hb => ?_, fun b hb => ?_, fun b hb => ?_⟩
  · by_cases e : b = a
    · subst e; exact ⟨o, upd_same⟩
    · have : b ∈ z.Z ∨ b ∈ z.O := by
        rcases hb with hb | hb
        · exact .inl hb
        · exact .inr ((List.mem_cons.mp hb).resolve_left e)
      obtain ⟨u, e2⟩ := w.dom b this
      exact ⟨u, hn e2⟩
  · rcases List.mem_cons.mp hb with rfl | hb
    · intro hz
      obtain ⟨u, e2⟩ := w.dom b (.inl hz)
      rw [h] at e2; cases e2
    · exact w.apart b hb
  · refine ⟨(w.papart b hb).1, fun hm => ?_⟩
    rcases List.mem_cons.mp hm with rfl | hm
    · obtain ⟨xs, e2, _⟩ := w.pool b hb
      rw [h] at e2; cases e2
    · exact (w.papart b hb).2 hm
  · obtain ⟨xs, e2, r⟩ := w.pool b hb
    exact ⟨xs, hn e2, by rw [hide_plus h]; exact r⟩
theorem W.unplus (w : W G (z.plus a) pl H) : W G z pl H := by
  refine ⟨fun b hb => w.dom b ?_, fun b hb => w.apart b (List.mem_cons_of_mem _ hb), fun b hb => ⟨(w.papart b hb).1, fun h => (w.papart b hb).2 (List.mem_cons_of_mem _ h)⟩, fun b hb => ?_⟩
  · rcases hb with hb | hb
    · exact .inl hb
    · exact .inr (List.mem_cons_of_mem _ hb)
  · obtain ⟨xs, e, r⟩ := w.pool b hb
    exact ⟨xs, e, Reps.same plus_same _ _ r⟩
/-- a list of the zone is written -/
theorem W.put (w : W G (z.plus a) pl H) : W G (z.plus a) pl (upd H a o) := by
  refine ⟨fun b hb => ?_, w.apart, w.papart, fun b hb => ?_⟩
  · by_cases e : b = a
    · subst e; exact ⟨o, upd_same⟩
    · obtain ⟨u, q⟩ := w.dom b hb
      exact ⟨u, by rw [upd_ne e]; exact q⟩
  · obtain ⟨xs, e, r⟩ := w.pool b hb
    have hne : b ≠ a := fun z => (w.papart b hb).2 (by rw [z]; exact List.mem_cons_self)
    exact ⟨xs, by rw [upd_ne hne]; exact e, by rw [hide_plus_set]; exact r⟩
theorem ER.plus (h : ER G z ρ pl σ H) (hn : H a = none) : ER G (z.plus a) ρ pl σ (upd H a o) := by
  refine ⟨h.w.plus hn, h.len, fun i => ?_, h.sep⟩
  have s := h.slot i
  cases q : ρ[i]?.getD .no with
  | no => trivial
  | dat d =>
    rw [q] at s
    obtain ⟨v, e, r⟩ := s
    exact ⟨v, e, by rw [hide_plus hn]; exact r⟩
  | own ds =>
    rw [q] at s
    obtain ⟨b, xs, e, m, e2, r⟩ := s
    exact ⟨b, xs, e, List.mem_cons_of_mem _ m, by rw [upd_ne (ne_of_none e2 hn)]; exact e2, by rw [hide_plus hn]; exact r⟩
theorem ER.setNo (h : ER G z ρ pl σ H) (i : Nat) : ER G z (ρ.set i .no) pl (σ.set i none) H := by
  by_cases hi : i < ρ.length
  · have hi' : i < σ.length := by rw [← h.len]; exact hi
    refine ⟨h.w, by simp [h.len], fun j => ?_, fun j k ds es a e1 e2 e3 e4 => ?_⟩
    · rw [sl_set hi, at_set hi']
      by_cases e : i = j
      · rw [if_pos e]; trivial
      · rw [if_neg e, if_neg e]; exact h.slot j
    · rw [sl_set hi] at e1 e2
      rw [at_set hi'] at e3 e4
      by_cases k1 : i = j
      · rw [if_pos k1] at e1; cases e1
      · by_cases k2 : i = k
        · rw [if_pos k2] at e2; cases e2
        · rw [if_neg k1] at e1 e3
          rw [if_neg k2] at e2 e4
          exact h.sep j k ds es a e1 e2 e3 e4
  · rw [List.set_eq_of_length_le (by omega), List.set_eq_of_length_le (by rw [← h.len]; omega)]
    exact h
theorem ER.wipe (h : ER G z ρ pl σ H) : ∀ vs : List Nat, ER G z (wipeE ρ vs) pl (wipe σ vs) H
  | [] => h
  | v :: vs => (ER.wipe h vs).setNo v
end
theorem wipe_at (σ : L2.St) : ∀ (vs : List Nat) (i : Nat), (wipe σ vs)[i]? = if i ∈ vs ∧ i < σ.length then some none else σ[i]?
  | [], i => by simp [wipe]
  | v :: vs, i => by
    unfold wipe
    have hl := wipe_length σ vs
    by_cases e : v = i
    · subst e
      by_cases h : v < σ.length
      · rw [List.getElem?_set_self (by rw [hl]; exact h), if_pos ⟨List.mem_cons_self, h⟩]
      · rw [List.set_eq_of_length_le (by rw [hl]; omega), wipe_at σ vs v, if_neg (fun q => h q.2), if_neg (fun q => h q.2)]
    · rw [List.getElem?_set_ne e, wipe_at σ vs i]
      have : (i ∈ v :: vs ∧ i < σ.length) ↔ (i ∈ vs ∧ i < σ.length) := by
        rw [List.mem_cons]
        constructor
        · rintro ⟨h1 | h1, h2⟩
          · exact absurd h1.symm e
          · exact ⟨h1, h2⟩
        · rintro ⟨h1, h2⟩; exact ⟨.inr h1, h2⟩
      by_cases h : i ∈ vs ∧ i < σ.length
      · rw [if_pos h, if_pos (this.mpr h)]
      · rw [if_neg h, if_neg (fun q => h (this.mp q))]
theorem wipe_congr {σ σ' : L2.St} {vs : List Nat} (hl : σ'.length = σ.length) (h : ∀ i, i ∉ vs → σ'[i]? = σ[i]?) : wipe σ' vs = wipe σ vs := by
  apply List.ext_getElem?
  intro i
  rw [wipe_at, wipe_at, hl]
  by_cases k : i ∈ vs
  · by_cases k2 : i < σ.length
    · rw [if_pos ⟨k, k2⟩, if_pos ⟨k, k2⟩]
    · rw [if_neg (fun q => k2 q.2), if_neg (fun q => k2 q.2), List.getElem?_eq_none (by rw [hl]; omega), List.getElem?_eq_none (by omega)]
  · rw [if_neg (fun q => k q.1), if_neg (fun q => k q.1), h i k]
theorem wipe_twice (σ : L2.St) (vs : List Nat) : wipe (wipe σ vs) vs = wipe σ vs := wipe_congr (wipe_length σ vs) fun i hi => by rw [wipe_at, if_neg (fun q => hi q.1)]
theorem tgIn_has {vs : List Nat} : ∀ {t : Tg}, tgIn vs t = true → ∀ i, i ∉ vs → tgHas t i = false
  | .nm j, h, i, hi => by
    have h : vs.contains j = true := h
    show (j == i) = false
    rw [List.contains_iff_mem] at h
    exact beq_eq_false_iff_ne.mpr fun e => hi (e ▸ h)
  | .cons t ts, h, i, hi => by
    obtain ⟨h1, h2⟩ := Bool.and_eq_true_iff.mp (show (tgIn vs t && tgIn vs ts) = true from h)
    show (tgHas t i || tgHas ts i) = false
    rw [tgIn_has h1 i hi, tgIn_has h2 i hi]; rfl
  | .nil, _, _, _ => rfl
  | .sub _ _, h, _, _ => by cases h
theorem tgIn_pure {vs : List Nat} : ∀ {t : Tg}, tgIn vs t = true → pureTg t = true
  | .nm j, _ => rfl
  | .cons t ts, h => by
    obtain ⟨h1, h2⟩ := Bool.and_eq_true_iff.mp (show (tgIn vs t && tgIn vs ts) = true from h)
    show (pureTg t && pureTg ts) = true
    rw [tgIn_pure h1, tgIn_pure h2]; rfl
  | .nil, _ => rfl
  | .sub _ _, h => by cases h

/-- a new list, kept apart -/
def tNew (G : GC) (F : En → Pl → M D) : TE := fun σ H Q => ∃ z ρ pl ds pl', ER G z ρ pl σ H ∧ F ρ pl = some (.lst ds, pl') ∧
  ∀ a xs H', H a = none → H' a = some (.lst xs) → Same (hide z H) (hide (z.plus a) H') → (∀ b, b ∈ z.Z ∨ b ∈ z.O → H' b = H b) → W G (z.plus a) pl' H' → Reps G z.pa (hide (z.plus a) H') ds xs → Q (.ref a) H'
theorem tNew_of {G : GC} {F : En → Pl → M D} (hF : ∀ ρ p d p', F ρ p = some (d, p') → ∃ ds, d = .lst ds) {σ : L2.St} {H : Hp} {Q : VK} (h : tE G F σ H Q) : tNew G F σ H Q := by
  obtain ⟨z, ρ, pl, d, pl', er, e, q⟩ := h
  obtain ⟨ds, rfl⟩ := hF _ _ _ _ e
  refine ⟨z, ρ, pl, ds, pl', er, e, fun a xs H' hn ha sm ow w r => ?_⟩
  have hs : ¬ z.hid a := er.w.seen hn
  exact q _ H' ⟨sm.trans plus_same, ow⟩ w.unplus ⟨a, xs, rfl, hide_some.mpr ⟨hs, ha⟩, Reps.same plus_same _ _ r⟩
theorem lc_read {G : GC} {t : Tg} {vs : List Nat} {Fs : En → Pl → M (List D)} {Fc Fe : En → Pl → M D} (hin : tgIn vs t = true) {σ : L2.St} {H : Hp} {Q : VK} (h : tNew G (lcE t vs Fs Fc Fe) σ H Q) :
    tLc (tI true G Fs) (tTg G t) (tT G Fc) (tE G Fe) vs σ H Q := by
  obtain ⟨z, ρ, pl, ds, pl', er, e, q⟩ := h
  obtain ⟨⟨items, pl1⟩, e1, e2⟩ := Option.bind_eq_some_iff.mp e
  obtain ⟨⟨q1, q2⟩, e3, e4⟩ := Option.bind_eq_some_iff.mp e2
  have e4 : (if q1.length ≤ 1000000 then some (D.lst q1, q2) else none) = some (.lst ds, pl') := e4
  split at e4
  · rename_i hlen
    cases e4
    refine ⟨z, ρ, pl, items, pl1, er, e1, fun J H1 s1 w1 ⟨Gd, Y, wk, gd, yy⟩ => fun a ha => ?_⟩
    have hHa : H a = none := by
      cases k : H a with
      | none => rfl
      | some o =>
        exfalso
        by_cases hh : z.hid a
        · rcases hh with hh | hh | hh
          · rw [s1.own a (.inl hh), k] at ha; cases ha
          · rw [s1.own a (.inr hh), k] at ha; cases ha
          · obtain ⟨xs, e, _⟩ := w1.pool a hh
            rw [ha] at e; cases e
        · have := s1.same a o (hide_some.mpr ⟨hh, k⟩)
          rw [(hide_some.mp this).2] at ha; cases ha
    have er1 := er.stp s1 w1
    have h0 : hide (z.plus a) (upd H1 a (.lst [])) = hide z H1 := hide_plus ha
    -- between turns
    refine lc_it wk (fun i H2 => ∃ pl2 acc accV rest, mapF (lcF t vs Fc Fe ρ) (items.drop i) pl2 = some (rest, pl') ∧ acc ++ rest = ds ∧ W G (z.plus a) pl2 H2 ∧ Same (hide z H1) (hide (z.plus a) H2) ∧ (∀ b, b ∈ z.Z ∨ b ∈ z.O → H2 b = H1 b) ∧ H2 a = some (.lst accV) ∧ Reps G z.pa (hide (z.plus a) H2) acc accV) ?_ ?_ ?_ ?_
    · refine ⟨pl1, [], [], ds, e3, rfl, w1.plus ha, by rw [h0]; exact Same.refl _, fun b hb => ?_, upd_same, Reps.nil⟩
      obtain ⟨o, eo⟩ := w1.dom b hb
      exact upd_ne (ne_of_none eo ha)
    · rintro i H2 _ ⟨pl2, acc, accV, rest, m1, m2, w2, sm, ow, hD, rA⟩
      exact gd (z.plus a) H2 ⟨⟨rfl, rfl, sm, fun b hb => ow b (.inl hb)⟩, fun _ b hb => ⟨List.mem_cons_of_mem _ hb, ow b (.inr hb)⟩⟩
    · rintro i x H2 H3 hi ⟨pl2, acc, accV, rest, m1, m2, w2, sm, ow, hD, rA⟩ y
      have hget : items[i]? = some items[i] := List.getElem?_eq_getElem hi
      obtain ⟨s3, w3, r3⟩ := yy (z.plus a) pl2 i H2 x H3 items[i] ⟨⟨rfl, rfl, sm, fun b hb => ow b (.inl hb)⟩, fun _ b hb => ⟨List.mem_cons_of_mem _ hb, ow b (.inr hb)⟩⟩ w2 hget y
      rw [List.drop_eq_getElem_cons hi] at m1
      obtain ⟨⟨o1, pl3⟩, m3, m4⟩ := Option.bind_eq_some_iff.mp (show (lcF t vs Fc Fe ρ items[i] pl2).bind _ = _ from m1)
      obtain ⟨⟨rest2, pl4⟩, m5, m6⟩ := Option.bind_eq_some_iff.mp m4
      obtain ⟨⟨ρ', pl5⟩, m7, m8⟩ := Option.bind_eq_some_iff.mp m3
      obtain ⟨⟨dc, pl6⟩, m9, m10⟩ := Option.bind_eq_some_iff.mp (show (Fc ρ' pl5).bind _ = _ from m8)
      obtain ⟨b, m11, m12⟩ := Option.bind_eq_some_iff.mp m10
      -- the slots at this turn
      have er0 : ER G (z.plus a) ρ pl1 σ (upd H1 a (.lst [])) := er1.plus ha
      have erT : ER G (z.plus a) (wipeE ρ vs) pl2 (wipe σ vs) H3 := by
        refine ER.wipe ⟨w3, er1.len, fun j => ?_, er1.sep⟩ vs
        have k := er0.slot j
        cases qq : ρ[j]?.getD .no with
        | no => trivial
        | dat d =>
          rw [qq] at k
          obtain ⟨v, e, r⟩ := k
          refine ⟨v, e, Rep.same s3.same _ _ (Rep.same ?_ _ _ r)⟩
          rw [h0]; exact sm
        | own es =>
          have k := er1.slot j
          rw [qq] at k
          obtain ⟨c, xs, e, m, e2, r⟩ := k
          exact ⟨c, xs, e, List.mem_cons_of_mem _ m, by rw [s3.own c (.inr (List.mem_cons_of_mem _ m)), ow c (.inr m)]; exact e2, Reps.same s3.same _ _ (Reps.same sm _ _ r)⟩
      refine ⟨z.plus a, wipeE ρ vs, pl2, items[i], ρ', pl5, erT, r3, m7, fun σ2 hl hsame er2 hpl => ⟨?_, ?_⟩⟩
      · rw [wipe_congr hl fun j hj => hsame j (tgIn_has hin j hj), wipe_twice]
      · refine ⟨z.plus a, ρ', pl5, dc, pl6, b, er2, m9, m11, fun H4 s4 w4 => ?_⟩
        have s34 := s3.trans s4
        have hD4 : H4 a = some (.lst accV) := by
          rw [s34.own a (.inr List.mem_cons_self)]; exact hD
        have ow4 : ∀ b, b ∈ z.Z ∨ b ∈ z.O → H4 b = H1 b := fun b hb => by
          rw [s34.own b (hb.imp id (List.mem_cons_of_mem _))]; exact ow b hb
        cases b with
        | false =>
          refine iteF ?_
          cases m12
          cases m6
          exact ⟨_, acc, accV, _, m5, m2, w4, sm.trans s34.same, ow4, hD4, Reps.same s34.same _ _ rA⟩
        | true =>
          refine iteT ?_
          obtain ⟨⟨dy, pl7⟩, m13, m14⟩ := Option.bind_eq_some_iff.mp (show (Fe ρ' pl6).bind _ = _ from m12)
          cases m14
          cases m6
          refine ⟨z.plus a, ρ', pl6, dy, _, er2.stp s4 w4, m13, fun yv H5 s5 w5 r5 => ?_⟩
          have s35 := s34.trans s5
          have rA5 := Reps.same s35.same _ _ rA
          have hD5 : H5 a = some (.lst accV) := by
            rw [s35.own a (.inr List.mem_cons_self)]; exact hD
          refine ⟨accV, hD5, ?_, _, acc ++ [dy], accV ++ [yv], _, m5, by rw [← m2]; simp, w5.put, ?_, fun b hb => ?_, upd_same, ?_⟩
          · rw [← rA.length]
            have : acc.length ≤ ds.length := by rw [← m2]; simp
            exact Nat.lt_of_le_of_lt (Nat.le_trans this hlen) (by rw [sizeLine_eq]; decide)
          · rw [hide_plus_set]
            exact sm.trans s35.same
          · have hne : b ≠ a := by
              rintro rfl
              obtain ⟨o, eo⟩ := w1.dom b hb
              rw [ha] at eo; cases eo
            rw [upd_ne hne, s35.own b (hb.imp id (List.mem_cons_of_mem _))]
            exact ow b hb
          · rw [hide_plus_set]
            exact rA5.append (.cons r5 Reps.nil)
    · rintro H2 ⟨pl2, acc, accV, rest, m1, m2, w2, sm, ow, hD, rA⟩
      rw [List.drop_of_length_le (Nat.le_refl _)] at m1
      cases m1
      rw [List.append_nil] at m2
      subst m2
      exact q a accV H2 hHa hD (s1.same.trans sm) (fun b hb => (ow b hb).trans (s1.own b hb)) w2 rA
  · cases e4
theorem lcE_lst {t : Tg} {vs : List Nat} {Fs : En → Pl → M (List D)} {Fc Fe : En → Pl → M D} : ∀ ρ p d p', lcE t vs Fs Fc Fe ρ p = some (d, p') → ∃ ds, d = .lst ds := by
  intro ρ p d p' e
  obtain ⟨x, e1, e2⟩ := Option.bind_eq_some_iff.mp e
  obtain ⟨q, e3, e4⟩ := Option.bind_eq_some_iff.mp e2
  split at e4
  · cases e4; exact ⟨_, rfl⟩
  · cases e4
end FW
set_option maxHeartbeats 8000000
/-! FW12: expressions keep what the evaluator says. -/
namespace FW
open PySem PySem.Spec PyProof.Rows L2

theorem any_backTo {es : List Expr} {pos : Pos} {env : Env} : es.all noStar = true → (backTo pos (starEach es env)).any (·.1) = false := by
  induction es with
  | nil => intro _; rfl
  | cons e es ih =>
    intro h
    rw [List.all_cons, Bool.and_eq_true] at h
    rw [star_cons h.1]
    exact ih h.2
def plainTest : Expr → Bool
  | .UnaryOp .Not _ _ => false
  | .BoolOp .. => false
  | .IfExp .. => false
  | .Compare .. => false
  | _ => true
theorem plain_test {e : Expr} (h : plainTest e = true) (env : Env) (whole : Sem Value) : isTrue e env whole = (do let v ← whole; standAt e.pos; holding [v] (truthy v)) := by
  cases e with
  | UnaryOp op _ _ => cases op <;> first | rfl | cases h
  | _ => first | rfl | cases h
/-- a if c else b, as a test -/
theorem pt_ite {X : Cx} {c a b : Expr} {pos : Pos} {tc ta tb : TT} (hc : PT X c tc) (ha : PT X a ta) (hb : PT X b tb) : PT X (.IfExp c a b pos) (fun σ H Q => tc σ H fun k H1 => if k = true then ta σ H1 Q else tb σ H1 Q) := by
  refine ⟨fun pins s σ H Q I h => ?_⟩
  show wpAny _ _ (do if ← isTrue c X.env (eval c X.env) then isTrue a X.env (eval a X.env) else isTrue b X.env (eval b X.env)) _ _ _
  refine wpAny_bind (thn (hc.run pins s σ H _ I h) fun k s1 ⟨H1, I1, q1⟩ => ?_)
  cases k with
  | true => exact ha.run pins s1 σ H1 Q I1 q1
  | false => exact hb.run pins s1 σ H1 Q I1 q1

section
variable {X : Cx} {G : GC} {T : Tab} {C : Cf} {N : List Str} {sc : Scope} {fnB : Str → Bool} {e e2 e3 : Expr} {F F2 F3 : En → Pl → M D} {pos : Pos}
/-- what one piece gives: its value, its truth -/
structure Both (X : Cx) (G : GC) (e : Expr) (F : En → Pl → M D) : Prop where
  v : PE X e (tE G F)
  t : PT X e (tT G F)
theorem Both.of_v (h : PE X e (tE G F)) (hK : X.K = G.K) (hp : plainTest e = true) : Both X G e F := by
  refine ⟨h, PT.imp (pt_truth h (plain_test hp X.env)) fun σ H Q q => ?_⟩
  obtain ⟨z, ρ, pl, d, pl', b, er, e1, e2, q⟩ := q
  exact ⟨z, ρ, pl, d, pl', er, e1, fun v H' s w r => ⟨b, by rw [hK]; exact r.o.tru e2, q H' s w⟩⟩

theorem se_var (c : CxOk X G T C N sc fnB) {i : Nat} {x : Str} (h : (nmB N i x && (visB sc x && plainN x)) = true) : PE X (.Name x pos) (tE G (ev C (.var i))) := by
  obtain ⟨h1, h⟩ := Bool.and_eq_true_iff.mp h
  obtain ⟨h2, h3⟩ := Bool.and_eq_true_iff.mp h
  obtain ⟨n1, n2, _⟩ := plainN_ok h3
  refine PE.imp (pe_var (nmB_ok c h1) (visB_ok c h2) n1 n2) fun σ H Q q => ?_
  obtain ⟨z, ρ, pl, d, pl', er, e, q⟩ := q
  obtain ⟨d', e1, e2⟩ := Option.bind_eq_some_iff.mp (show (rd ρ i).bind _ = _ from e)
  cases e2
  obtain ⟨v, e3, r⟩ := er.rd e1
  exact ⟨v, e3, q v H (Stp.refl _ _) er.w r⟩
theorem so_var (c : CxOk X G T C N sc fnB) {i : Nat} {x : Str} (h : (nmB N i x && (visB sc x && plainN x)) = true) : PE X (.Name x pos) (tO G (evO C (.var i))) := by
  obtain ⟨h1, h⟩ := Bool.and_eq_true_iff.mp h
  obtain ⟨h2, h3⟩ := Bool.and_eq_true_iff.mp h
  obtain ⟨n1, n2, _⟩ := plainN_ok h3
  refine PE.imp (pe_var (nmB_ok c h1) (visB_ok c h2) n1 n2) fun σ H Q q => ?_
  obtain ⟨z, ρ, pl, d, pl', er, e, q⟩ := q
  obtain ⟨d', e1, e2⟩ := Option.bind_eq_some_iff.mp (show (pk ρ i).bind _ = _ from e)
  cases e2
  obtain ⟨v, e3, r⟩ := er.pk e1
  exact ⟨v, e3, q v H (Stp.refl _ _) er.w r⟩
theorem se_con {d : D} {k : Const} {n : Nat} (h : conB d k = true) : PE X (.Constant k n pos) (tE G (ev C (.con d))) := by
  have fin : ∀ {v : V}, (∀ pa H, Rep G pa H d v) → PE X (.Constant k n pos) (tC v) → PE X (.Constant k n pos) (tE G (ev C (.con d))) := fun {v} r p => by
    refine PE.imp p fun σ H Q q => ?_
    obtain ⟨z, ρ, pl, d', pl', er, e, q⟩ := q
    cases (show some (d, pl) = some (d', pl') from e)
    exact q v H (Stp.refl _ _) er.w (r _ _)
  cases d with
  | non => cases k <;> first | (exact fin (fun _ _ => rfl) pe_non) | cases h
  | bl a =>
    cases k with
    | bool b =>
      have : a = b := by simpa [conB] using h
      subst this
      exact fin (v := .bl a) (fun _ _ => rfl) pe_bl
    | _ => cases h
  | int a =>
    cases k with
    | int b =>
      have : a = b := of_decide_eq_true h
      subst this
      exact fin (v := .int a) (fun _ _ => rfl) pe_int
    | _ => cases h
  | str a =>
    cases k with
    | str b =>
      have : a = b := of_decide_eq_true h
      subst this
      exact fin (v := .str a) (fun _ _ => rfl) pe_str
    | _ => cases h
  | _ => cases k <;> cases h
theorem se_glo (c : CxOk X G T C N sc fnB) {k : Nat} {x : Str} (h : (match T.cons[k]? with
    | some c => decide (c.1 = x) && (glB sc x && plainN x)
    | none => false) = true) : PE X (.Name x pos) (tE G (ev C (.glo k))) := by
  split at h
  · rename_i cc e
    obtain ⟨h1, h⟩ := Bool.and_eq_true_iff.mp h
    obtain ⟨h2, h3⟩ := Bool.and_eq_true_iff.mp h
    obtain ⟨n1, n2, _⟩ := plainN_ok h3
    have h1 := of_decide_eq_true h1
    obtain ⟨cx, cd⟩ := cc
    have h1 : cx = x := h1
    subst h1
    obtain ⟨g1, u, v, g2, g3, g4⟩ := c.cons k cx cd e
    refine PE.imp (pe_glob (glB_ok c h2) g2 g3 n1) fun σ H Q q => ?_
    obtain ⟨z, ρ, pl, d', pl', er, e, q⟩ := q
    obtain ⟨d2, e1, e2⟩ := Option.bind_eq_some_iff.mp (show (C.cons[k]?).bind _ = _ from e)
    rw [g1] at e1
    cases e1; cases e2
    exact q v H (Stp.refl _ _) er.w (g4 _ _)
  · cases h
theorem se_fnv (c : CxOk X G T C N sc fnB) {g : Nat} {x : Str} (h : (match T.defs[g]? with
    | some c => decide (c.nm = x) && (glB sc x && plainN x)
    | none => false) = true) : PE X (.Name x pos) (tE G (ev C (.fnv g))) := by
  split at h
  · rename_i df e
    obtain ⟨h1, h⟩ := Bool.and_eq_true_iff.mp h
    obtain ⟨h2, h3⟩ := Bool.and_eq_true_iff.mp h
    obtain ⟨n1, n2, _⟩ := plainN_ok h3
    have h1 := of_decide_eq_true h1
    subst h1
    obtain ⟨f, fd, k, g1, g2, _⟩ := (c.defs g df e).ex
    refine PE.imp (pe_glob (v := .ref f) (glB_ok c h2) g2 rfl n1) fun σ H Q q => ?_
    obtain ⟨z, ρ, pl, d', pl', er, e, q⟩ := q
    cases (show some (D.fn g, pl) = some (d', pl') from e)
    exact q _ H (Stp.refl _ _) er.w ⟨f, g1, rfl⟩
  · cases h
theorem se_bin (c : CxOk X G T C N sc fnB) {op : Operator} (ha : PE X e (tE G F)) (hb : PE X e2 (tE G F2)) : PE X (.BinOp e op e2 pos) (tE G fun ρ p => (F ρ p).bind fun x => (F2 ρ x.2).bind fun y => (opD op x.1 y.1).bind fun d => some (d, y.2)) := by
  refine PE.imp (pe_op (op_bin c.K op) ha hb) fun σ H Q q => ?_
  obtain ⟨z, ρ, pl, d, pl', er, e, q⟩ := q
  obtain ⟨⟨x, p1⟩, e1, e2⟩ := Option.bind_eq_some_iff.mp e
  obtain ⟨⟨y, p2⟩, e3, e4⟩ := Option.bind_eq_some_iff.mp e2
  obtain ⟨d', e5, e6⟩ := Option.bind_eq_some_iff.mp e4
  cases e6
  refine ⟨z, ρ, pl, x, p1, er, e1, fun v H1 s1 w1 r1 => ?_⟩
  refine ⟨z, ρ, p1, y, _, er.stp s1 w1, e3, fun u H2 s2 w2 r2 => ?_⟩
  exact ⟨z, _, x, y, d, w2, .inl (Rep.same s2.same _ _ r1), r2.o, e5, fun v' H' s w r => q v' H' ((s1.trans s2).trans s) w r⟩
theorem se_neg (c : CxOk X G T C N sc fnB) (ha : PE X e (tE G F)) : PE X (.UnaryOp .USub e pos) (tE G fun ρ p => (F ρ p).bind fun x => match x.1 with
    | .int i => some (.int (-i), x.2)
    | _ => none) := by
  refine PE.imp (pe_un un_neg ha) fun σ H Q q => ?_
  obtain ⟨z, ρ, pl, d, pl', er, e, q⟩ := q
  obtain ⟨⟨x, p1⟩, e1, e2⟩ := Option.bind_eq_some_iff.mp e
  cases x with
  | int i =>
    cases e2
    refine ⟨z, ρ, pl, _, _, er, e1, fun v H1 s1 w1 r1 => ⟨i, r1, q _ H1 s1 w1 rfl⟩⟩
  | _ => cases e2
theorem se_not (c : CxOk X G T C N sc fnB) (ha : PE X e (tE G F)) : PE X (.UnaryOp .Not e pos) (tE G fun ρ p => (F ρ p).bind fun x => (truD x.1).bind fun b => some (.bl (!b), x.2)) := by
  refine PE.imp (pe_notT ha) fun σ H Q q => ?_
  obtain ⟨z, ρ, pl, d, pl', er, e, q⟩ := q
  obtain ⟨⟨x, p1⟩, e1, e2⟩ := Option.bind_eq_some_iff.mp e
  obtain ⟨b, e3, e4⟩ := Option.bind_eq_some_iff.mp e2
  cases e4
  exact ⟨z, ρ, pl, x, _, er, e1, fun v H1 s1 w1 r1 => ⟨b, by rw [c.K]; exact r1.o.tru e3, q _ H1 s1 w1 rfl⟩⟩
theorem st_not (ha : PT X e (tT G F)) : PT X (.UnaryOp .Not e pos) (tT G fun ρ p => (F ρ p).bind fun x => (truD x.1).bind fun b => some (.bl (!b), x.2)) := by
  refine PT.imp (pt_not ha) fun σ H Q q => ?_
  obtain ⟨z, ρ, pl, d, pl', b, er, e, eb, q⟩ := q
  obtain ⟨⟨x, p1⟩, e1, e2⟩ := Option.bind_eq_some_iff.mp e
  obtain ⟨b', e3, e4⟩ := Option.bind_eq_some_iff.mp e2
  cases e4
  cases eb
  exact ⟨z, ρ, pl, x, _, b', er, e1, e3, fun H1 s1 w1 => q H1 s1 w1⟩
theorem se_cmp (c : CxOk X G T C N sc fnB) {op : CmpOp} (ha : PE X e (tO G F)) (hb : PE X e2 (tO G F2)) (hs : noSet e2 = true) : Both X G (.Compare e [op] [e2] pos) fun ρ p => (F ρ p).bind fun x => (F2 ρ x.2).bind fun y => (cmpD op x.1 y.1).bind fun d => some (d, y.2) := by
  refine ⟨PE.imp (pe_cmpR (op_cmp c.K c.hu op) ha hb (behind_of hs)) fun σ H Q q => ?_, PT.imp (pt_cmpR (op_cmp c.K c.hu op) ha hb (behind_of hs)) fun σ H Q q => ?_⟩
  · obtain ⟨z, ρ, pl, d, pl', er, e, q⟩ := q
    obtain ⟨⟨x, p1⟩, e1, e2⟩ := Option.bind_eq_some_iff.mp e
    obtain ⟨⟨y, p2⟩, e3, e4⟩ := Option.bind_eq_some_iff.mp e2
    obtain ⟨d', e5, e6⟩ := Option.bind_eq_some_iff.mp e4
    cases e6
    refine ⟨z, ρ, pl, x, p1, er, e1, fun v H1 s1 w1 r1 => ?_⟩
    refine ⟨z, ρ, p1, y, _, er.stp s1 w1, e3, fun u H2 s2 w2 r2 => ?_⟩
    exact ⟨z, _, x, y, d, w2, r1.stp s2, r2, e5, fun v' H' s w r => q v' H' ((s1.trans s2).trans s) w r⟩
  · obtain ⟨z, ρ, pl, d, pl', b, er, e, eb, q⟩ := q
    obtain ⟨⟨x, p1⟩, e1, e2⟩ := Option.bind_eq_some_iff.mp e
    obtain ⟨⟨y, p2⟩, e3, e4⟩ := Option.bind_eq_some_iff.mp e2
    obtain ⟨d', e5, e6⟩ := Option.bind_eq_some_iff.mp e4
    cases e6
    refine ⟨z, ρ, pl, x, p1, er, e1, fun v H1 s1 w1 r1 => ?_⟩
    refine ⟨z, ρ, p1, y, _, er.stp s1 w1, e3, fun u H2 s2 w2 r2 => ?_⟩
    refine ⟨z, _, x, y, d, w2, r1.stp s2, r2, e5, fun v' H' s w r => ?_⟩
    obtain ⟨k, rfl⟩ : ∃ k, d = .bl k := by
      have e5' := e5
      unfold cmpD at e5'
      split at e5' <;> first
        | (cases e5'; exact ⟨_, rfl⟩)
        | (obtain ⟨r, _, rfl⟩ := Option.map_eq_some_iff.mp e5'; exact ⟨_, rfl⟩)
        | cases e5'
    cases eb
    exact ⟨_, r, q H' ((s1.trans s2).trans s) w⟩
end
end FW
/-! FW13: expressions, further. -/
namespace FW
open PySem PySem.Spec PyProof.Rows L2
section
variable {X : Cx} {G : GC} {T : Tab} {C : Cf} {N : List Str} {sc : Scope} {fnB : Str → Bool} {e e2 e3 : Expr} {F F2 F3 : En → Pl → M D} {pos : Pos}

theorem cmp_bl {op : CmpOp} {x y d : D} (h : cmpD op x y = some d) : ∃ k, d = .bl k := by
  unfold cmpD at h
  split at h <;> first
    | (cases h; exact ⟨_, rfl⟩)
    | (obtain ⟨r, _, rfl⟩ := Option.map_eq_some_iff.mp h; exact ⟨_, rfl⟩)
    | cases h
def chnF (op op' : CmpOp) (F F2 F3 : En → Pl → M D) : En → Pl → M D := fun ρ p => (F ρ p).bind fun x => (F2 ρ x.2).bind fun y => (cmpD op x.1 y.1).bind fun d => match d with
    | .bl true => (F3 ρ y.2).bind fun w => (cmpD op' y.1 w.1).bind fun d' => some (d', w.2)
    | .bl false => some (.bl false, y.2)
    | _ => none
theorem se_chn (c : CxOk X G T C N sc fnB) {op op' : CmpOp} (ha : PE X e (tE G F)) (hb : PE X e2 (tE G F2)) (hc : PE X e3 (tE G F3)) (hs : noSet e3 = true) : Both X G (.Compare e [op, op'] [e2, e3] pos) (chnF op op' F F2 F3) := by
  have hm : lastMarks [op, op'] [e2, e3] = false := behind_of hs
  have key : ∀ {σ : L2.St} {H : Hp} {z : Zn} {ρ : En} {pl : Pl} {d : D} {pl' : Pl} {Q : VK}, ER G z ρ pl σ H → chnF op op' F F2 F3 ρ pl = some (d, pl') → (∀ v H', Stp z H H' → W G z pl' H' → Rep G z.pa (hide z H') d v → Q v H') →
      tChain (r2 G (cmpD op)) (r2 G (cmpD op')) (tE G F) (tE G F2) (tE G F3) σ H Q := by
    intro σ H z ρ pl d pl' Q er e q
    obtain ⟨⟨x, p1⟩, e1, e2⟩ := Option.bind_eq_some_iff.mp e
    obtain ⟨⟨y, p2⟩, e3, e4⟩ := Option.bind_eq_some_iff.mp e2
    obtain ⟨d', e5, e6⟩ := Option.bind_eq_some_iff.mp e4
    refine ⟨z, ρ, pl, x, p1, er, e1, fun v H1 s1 w1 r1 => ?_⟩
    refine ⟨z, ρ, p1, y, p2, er.stp s1 w1, e3, fun u H2 s2 w2 r2 => ?_⟩
    refine ⟨z, p2, x, y, d', w2, .inl (Rep.same s2.same _ _ r1), r2.o, e5, fun k H3 s3 w3 r3 => ?_⟩
    obtain ⟨b, rfl⟩ := cmp_bl e5
    refine ⟨b, r3, ?_⟩
    cases b with
    | false =>
      cases e6
      exact iteF (q _ H3 ((s1.trans s2).trans s3) w3 rfl)
    | true =>
      obtain ⟨⟨w, p3⟩, e7, e8⟩ := Option.bind_eq_some_iff.mp (show (F3 ρ p2).bind _ = _ from e6)
      obtain ⟨d2, e9, e10⟩ := Option.bind_eq_some_iff.mp e8
      cases e10
      refine iteT ⟨z, ρ, p2, w, _, (er.stp (s1.trans s2) w2).stp s3 w3, e7, fun wv H4 s4 w4 r4 => ?_⟩
      exact ⟨z, _, y, w, d, w4, .inl (Rep.same (s3.trans s4).same _ _ r2), r4.o, e9, fun v' H' s w r => q v' H' ((((s1.trans s2).trans s3).trans s4).trans s) w r⟩
  have bl : ∀ {ρ : En} {pl : Pl} {d : D} {pl' : Pl}, chnF op op' F F2 F3 ρ pl = some (d, pl') → ∃ b, d = .bl b := by
    intro ρ pl d pl' e
    obtain ⟨⟨x, p1⟩, e1, e2⟩ := Option.bind_eq_some_iff.mp e
    obtain ⟨⟨y, p2⟩, e3, e4⟩ := Option.bind_eq_some_iff.mp e2
    obtain ⟨d', e5, e6⟩ := Option.bind_eq_some_iff.mp e4
    obtain ⟨b, rfl⟩ := cmp_bl e5
    cases b with
    | false => cases e6; exact ⟨_, rfl⟩
    | true =>
      obtain ⟨⟨w, p3⟩, e7, e8⟩ := Option.bind_eq_some_iff.mp (show (F3 ρ p2).bind _ = _ from e6)
      obtain ⟨d2, e9, e10⟩ := Option.bind_eq_some_iff.mp e8
      cases e10
      exact cmp_bl e9
  refine ⟨PE.imp (pe_chain (op_cmp c.K c.hu op) (op_cmp c.K c.hu op') ha hb hc hm) fun σ H Q q => ?_, PT.imp (pt_chain (op_cmp c.K c.hu op) (op_cmp c.K c.hu op') ha hb hc hm) fun σ H Q q => ?_⟩
  · obtain ⟨z, ρ, pl, d, pl', er, e, q⟩ := q
    exact key er e q
  · obtain ⟨z, ρ, pl, d, pl', b, er, e, eb, q⟩ := q
    obtain ⟨k, rfl⟩ := bl e
    cases eb
    exact key er e fun v H' s w r => ⟨_, r, q H' s w⟩

/-! ### and, or -/
def andF (F F2 : En → Pl → M D) : En → Pl → M D := fun ρ p => (F ρ p).bind fun x => (truD x.1).bind fun t => match t with
    | true => F2 ρ x.2
    | false => some x
def orF (F F2 : En → Pl → M D) : En → Pl → M D := fun ρ p => (F ρ p).bind fun x => (truD x.1).bind fun t => match t with
    | true => some x
    | false => F2 ρ x.2
theorem se_and (c : CxOk X G T C N sc fnB) {r : List Expr} (ha : PE X e (tE G F)) (hb : PE X (.BoolOp .And (e2 :: r) pos) (tE G F2)) : PE X (.BoolOp .And (e :: e2 :: r) pos) (tE G (andF F F2)) := by
  refine PE.imp (pe_andT ha hb) fun σ H Q q => ?_
  obtain ⟨z, ρ, pl, d, pl', er, e, q⟩ := q
  obtain ⟨⟨x, p1⟩, e1, e2⟩ := Option.bind_eq_some_iff.mp e
  obtain ⟨t, e3, e4⟩ := Option.bind_eq_some_iff.mp e2
  refine ⟨z, ρ, pl, x, p1, er, e1, fun v H1 s1 w1 r1 => ⟨t, by rw [c.K]; exact r1.o.tru e3, ?_⟩⟩
  cases t with
  | true => exact iteT ⟨z, ρ, p1, d, pl', er.stp s1 w1, e4, fun v' H' s w r => q v' H' (s1.trans s) w r⟩
  | false =>
    cases e4
    exact iteF (q v H1 s1 w1 r1)
theorem se_or (c : CxOk X G T C N sc fnB) {r : List Expr} (ha : PE X e (tE G F)) (hb : PE X (.BoolOp .Or (e2 :: r) pos) (tE G F2)) : PE X (.BoolOp .Or (e :: e2 :: r) pos) (tE G (orF F F2)) := by
  refine PE.imp (pe_orT ha hb) fun σ H Q q => ?_
  obtain ⟨z, ρ, pl, d, pl', er, e, q⟩ := q
  obtain ⟨⟨x, p1⟩, e1, e2⟩ := Option.bind_eq_some_iff.mp e
  obtain ⟨t, e3, e4⟩ := Option.bind_eq_some_iff.mp e2
  refine ⟨z, ρ, pl, x, p1, er, e1, fun v H1 s1 w1 r1 => ⟨t, by rw [c.K]; exact r1.o.tru e3, ?_⟩⟩
  cases t with
  | false => exact iteF ⟨z, ρ, p1, d, pl', er.stp s1 w1, e4, fun v' H' s w r => q v' H' (s1.trans s) w r⟩
  | true =>
    cases e4
    exact iteT (q v H1 s1 w1 r1)
theorem sw_and {r : List Expr} (ha : PT X e (tT G F)) (hb : PW X (.BoolOp .And (e2 :: r) pos) (tT G F2)) : PW X (.BoolOp .And (e :: e2 :: r) pos) (tT G (andF F F2)) := by
  refine ⟨fun wh pins s σ H Q I q => (pw_and ha hb).run wh pins s σ H Q I ?_⟩
  obtain ⟨z, ρ, pl, d, pl', b, er, e, eb, q⟩ := q
  obtain ⟨⟨x, p1⟩, e1, e2⟩ := Option.bind_eq_some_iff.mp e
  obtain ⟨t, e3, e4⟩ := Option.bind_eq_some_iff.mp e2
  refine ⟨z, ρ, pl, x, p1, t, er, e1, e3, fun H1 s1 w1 => ?_⟩
  cases t with
  | true => exact iteT ⟨z, ρ, p1, d, pl', b, er.stp s1 w1, e4, eb, fun H' s w => q H' (s1.trans s) w⟩
  | false =>
    cases e4
    have e3 : truD d = some false := e3
    rw [e3] at eb
    cases eb
    exact iteF (q H1 s1 w1)
theorem sw_or {r : List Expr} (ha : PT X e (tT G F)) (hb : PW X (.BoolOp .Or (e2 :: r) pos) (tT G F2)) : PW X (.BoolOp .Or (e :: e2 :: r) pos) (tT G (orF F F2)) := by
  refine ⟨fun wh pins s σ H Q I q => (pw_or ha hb).run wh pins s σ H Q I ?_⟩
  obtain ⟨z, ρ, pl, d, pl', b, er, e, eb, q⟩ := q
  obtain ⟨⟨x, p1⟩, e1, e2⟩ := Option.bind_eq_some_iff.mp e
  obtain ⟨t, e3, e4⟩ := Option.bind_eq_some_iff.mp e2
  refine ⟨z, ρ, pl, x, p1, t, er, e1, e3, fun H1 s1 w1 => ?_⟩
  cases t with
  | false => exact iteF ⟨z, ρ, p1, d, pl', b, er.stp s1 w1, e4, eb, fun H' s w => q H' (s1.trans s) w⟩
  | true =>
    cases e4
    have e3 : truD d = some true := e3
    rw [e3] at eb
    cases eb
    exact iteT (q H1 s1 w1)
def iteFn (F F2 F3 : En → Pl → M D) : En → Pl → M D := fun ρ p => (F ρ p).bind fun x => (truD x.1).bind fun t => match t with
    | true => F2 ρ x.2
    | false => F3 ρ x.2
theorem se_ite (hc : PT X e (tT G F)) (ha : Both X G e2 F2) (hb : Both X G e3 F3) : Both X G (.IfExp e e2 e3 pos) (iteFn F F2 F3) := by
  refine ⟨PE.imp (pe_ifExp hc ha.v hb.v) fun σ H Q q => ?_, PT.imp (pt_ite hc ha.t hb.t) fun σ H Q q => ?_⟩
  · obtain ⟨z, ρ, pl, d, pl', er, e, q⟩ := q
    obtain ⟨⟨x, p1⟩, e1, e2⟩ := Option.bind_eq_some_iff.mp e
    obtain ⟨t, e3, e4⟩ := Option.bind_eq_some_iff.mp e2
    refine ⟨z, ρ, pl, x, p1, t, er, e1, e3, fun H1 s1 w1 => ?_⟩
    cases t with
    | true => exact iteT ⟨z, ρ, p1, d, pl', er.stp s1 w1, e4, fun v' H' s w r => q v' H' (s1.trans s) w r⟩
    | false => exact iteF ⟨z, ρ, p1, d, pl', er.stp s1 w1, e4, fun v' H' s w r => q v' H' (s1.trans s) w r⟩
  · obtain ⟨z, ρ, pl, d, pl', b, er, e, eb, q⟩ := q
    obtain ⟨⟨x, p1⟩, e1, e2⟩ := Option.bind_eq_some_iff.mp e
    obtain ⟨t, e3, e4⟩ := Option.bind_eq_some_iff.mp e2
    refine ⟨z, ρ, pl, x, p1, t, er, e1, e3, fun H1 s1 w1 => ?_⟩
    cases t with
    | true => exact iteT ⟨z, ρ, p1, d, pl', b, er.stp s1 w1, e4, eb, fun H' s w => q H' (s1.trans s) w⟩
    | false => exact iteF ⟨z, ρ, p1, d, pl', b, er.stp s1 w1, e4, eb, fun H' s w => q H' (s1.trans s) w⟩

/-! ### displays, subscripts -/
variable {es : List Expr} {FL : En → Pl → M (List D)}
theorem se_tup (h : PA X es (tAs G FL)) {k : Nat} : PE X (.Tuple es k pos) (tE G fun ρ p => (FL ρ p).bind fun x => if x.1.length ≤ 1000000 then some (.tup x.1, x.2) else none) := by
  refine PE.imp (pe_tup h) fun σ H Q q => ?_
  obtain ⟨z, ρ, pl, d, pl', er, e, q⟩ := q
  obtain ⟨⟨x, p1⟩, e1, e2⟩ := Option.bind_eq_some_iff.mp e
  split at e2
  · rename_i hl
    cases e2
    refine ⟨z, ρ, pl, x, _, er, e1, fun vs H1 s1 w1 r1 => ⟨by rw [← r1.length]; exact line_ok hl, fun p hp => ?_⟩⟩
    exact q _ _ (s1.trans (.laid w1 hp)) (w1.laid hp) ⟨p, _, rfl, SqT.of (w1.hide_new hp), Reps.same (Stp.laid w1 hp).same _ _ r1⟩
  · cases e2
theorem se_lst (h : PA X es (tAs G FL)) : PE X (.List es pos) (tE G fun ρ p => (FL ρ p).bind fun x => if x.1.length ≤ 1000000 then some (.lst x.1, x.2) else none) := by
  refine PE.imp (pe_lst h) fun σ H Q q => ?_
  obtain ⟨z, ρ, pl, d, pl', er, e, q⟩ := q
  obtain ⟨⟨x, p1⟩, e1, e2⟩ := Option.bind_eq_some_iff.mp e
  split at e2
  · rename_i hl
    cases e2
    refine ⟨z, ρ, pl, x, _, er, e1, fun vs H1 s1 w1 r1 => ⟨by rw [← r1.length]; exact line_ok hl, fun p hp => ?_⟩⟩
    exact q _ _ (s1.trans (.laid w1 hp)) (w1.laid hp) ⟨p, _, rfl, w1.hide_new hp, Reps.same (Stp.laid w1 hp).same _ _ r1⟩
  · cases e2
theorem ixP_eq {x y : D} {p : Pl} : (match x, y with
    | .pool, .int k => (atI p k).bind fun d => some (d, p)
    | x1, y1 => (ixD x1 y1).bind fun d => some (d, p)) = (ixP x y p).bind fun d => some (d, p) := by
  unfold ixP
  cases x <;> cases y <;> rfl
theorem se_ix (c : CxOk X G T C N sc fnB) (ha : PE X e (tO G F)) (hb : PE X e2 (tE G F2)) (hs : noSlice e2 = true) : PE X (.Subscript e e2 pos) (tE G fun ρ p => (F ρ p).bind fun x => (F2 ρ x.2).bind fun y => match x.1, y.1 with
    | .pool, .int k => (atI y.2 k).bind fun d => some (d, y.2)
    | x1, y1 => (ixD x1 y1).bind fun d => some (d, y.2)) := by
  refine PE.imp (pe_ix (op_ix c.K) ha hb (plainIx_of hs)) fun σ H Q q => ?_
  obtain ⟨z, ρ, pl, d, pl', er, e, q⟩ := q
  obtain ⟨⟨x, p1⟩, e1, e2⟩ := Option.bind_eq_some_iff.mp e
  obtain ⟨⟨y, p2⟩, e3, e4⟩ := Option.bind_eq_some_iff.mp e2
  have e4 := ixP_eq.symm.trans e4
  obtain ⟨d', e5, e6⟩ := Option.bind_eq_some_iff.mp e4
  cases e6
  refine ⟨z, ρ, pl, x, p1, er, e1, fun v H1 s1 w1 r1 => ?_⟩
  refine ⟨z, ρ, p1, y, _, er.stp s1 w1, e3, fun u H2 s2 w2 r2 => ?_⟩
  exact ⟨z, _, x, y, d, w2, r1.stp s2, r2.o, e5, fun v' r => q v' H2 (s1.trans s2) w2 r⟩
/-- an end of a slice -/
def tP (G : GC) (ab : Bool) (F : En → Pl → M D) : TO := fun σ H Q => ∃ z ρ pl d pl' l, ER G z ρ pl σ H ∧ F ρ pl = some (d, pl') ∧ partD ab d = some l ∧ ∀ H', Stp z H H' → W G z pl' H' → Q l H'
theorem po_abs : PO X none (tP G true fun _ p => some (.non, p)) := ⟨fun pins s σ H Q I q => by
  obtain ⟨z, ρ, pl, d, pl', l, er, e, e2, q⟩ := q
  cases e
  cases e2
  exact po_none.run pins s σ H Q I (q H (Stp.refl _ _) er.w)⟩
theorem po_ok (h : PE X e (tE G F)) : PO X (some e) (tP G false F) := ⟨fun pins s σ H Q I q => by
  obtain ⟨z, ρ, pl, d, pl', l, er, e, e2, q⟩ := q
  refine (po_some h).run pins s σ H Q I ⟨z, ρ, pl, d, pl', er, e, fun v H' s w r => ?_⟩
  cases d with
  | int i =>
    cases e2
    exact ⟨i, r, q H' s w⟩
  | _ => cases e2⟩
theorem se_sl (c : CxOk X G T C N sc fnB) {lo hi : Option Expr} {a1 a2 : Bool} {p2 : Pos} (ha : PE X e (tO G F)) (hl : PO X lo (tP G a1 F2)) (hh : PO X hi (tP G a2 F3)) :
    PE X (.Subscript e (.Slice lo hi none p2) pos) (tE G fun ρ p => (F ρ p).bind fun x => (F2 ρ x.2).bind fun y => (partD a1 y.1).bind fun l => (F3 ρ y.2).bind fun w => (partD a2 w.1).bind fun h => (slD x.1 l h).bind fun d => some (d, w.2)) := by
  refine PE.imp (pe_slice (op_sl c.K) ha hl hh) fun σ H Q q => ?_
  obtain ⟨z, ρ, pl, d, pl', er, e, q⟩ := q
  obtain ⟨⟨x, p1⟩, e1, e2⟩ := Option.bind_eq_some_iff.mp e
  obtain ⟨⟨y, p2⟩, e3, e4⟩ := Option.bind_eq_some_iff.mp e2
  obtain ⟨l, e5, e6⟩ := Option.bind_eq_some_iff.mp e4
  obtain ⟨⟨w, p3⟩, e7, e8⟩ := Option.bind_eq_some_iff.mp e6
  obtain ⟨h, e9, e10⟩ := Option.bind_eq_some_iff.mp e8
  obtain ⟨d', e11, e12⟩ := Option.bind_eq_some_iff.mp e10
  cases e12
  refine ⟨z, ρ, pl, x, p1, er, e1, fun v H1 s1 w1 r1 => ?_⟩
  refine ⟨z, ρ, p1, y, p2, l, er.stp s1 w1, e3, e5, fun H2 s2 w2 => ?_⟩
  refine ⟨z, ρ, p2, w, _, h, er.stp (s1.trans s2) w2, e7, e9, fun H3 s3 w3 => ?_⟩
  exact ⟨z, _, x, d, w3, (r1.stp s2).stp s3, e11, fun v' H' s w r => q v' H' (((s1.trans s2).trans s3).trans s) w r⟩
end
end FW
/-! FW14: calls; all expressions. -/
namespace FW
open PySem PySem.Spec PyProof.Rows L2

def Zn.flat (z : Zn) : Zn := ⟨z.pa, z.Z ++ z.O, []⟩
theorem flat_hid {z : Zn} {b : Addr} : z.flat.hid b ↔ z.hid b := by
  unfold Zn.hid Zn.flat
  simp only [List.mem_append, List.not_mem_nil, false_or]
  constructor
  · rintro ((h | h) | h)
    · exact .inl h
    · exact .inr (.inl h)
    · exact .inr (.inr h)
  · rintro (h | h | h)
    · exact .inl (.inl h)
    · exact .inl (.inr h)
    · exact .inr h
theorem hide_flat (z : Zn) (H : Hp) : hide z.flat H = hide z H := by
  funext b
  unfold hide
  by_cases h : z.hid b
  · rw [if_pos h, if_pos (flat_hid.mpr h)]
  · rw [if_neg h, if_neg fun q => h (flat_hid.mp q)]
section
variable {G : GC} {z : Zn} {pl pl' : Pl} {H H' : Hp}
theorem W.flat (w : W G z pl H) : W G z.flat pl H := by
  refine ⟨fun a ha => w.dom a ?_, fun a ha => (by cases ha), fun a ha => ⟨fun hm => ?_, fun hm => (by cases hm)⟩, fun a ha => ?_⟩
  · rcases ha with ha | ha
    · exact List.mem_append.mp ha
    · cases ha
  · rcases List.mem_append.mp hm with hm | hm
    · exact (w.papart a ha).1 hm
    · exact (w.papart a ha).2 hm
  · obtain ⟨xs, e, r⟩ := w.pool a ha
    exact ⟨xs, e, by rw [hide_flat]; exact r⟩
theorem Stp.unflat (s : Stp z.flat H H') : Stp z H H' := ⟨by have := s.same; rw [hide_flat, hide_flat] at this; exact this, fun a ha => s.own a (.inl (List.mem_append.mpr ha))⟩
theorem W.unflat (w : W G z.flat pl' H') (w0 : W G z pl H) : W G z pl' H' := by
  refine ⟨fun a ha => w.dom a (.inl (List.mem_append.mpr ha)), w0.apart, w0.papart, fun a ha => ?_⟩
  obtain ⟨xs, e, r⟩ := w.pool a ha
  rw [hide_flat] at r
  exact ⟨xs, e, r⟩
/-- what a callee is asked -/
theorem spR_of {call : Nat → List D → Pl → M D} {g n : Nat} {vs : List V} {ds : List D} {d : D} {Q : VK} {E : XK} (hn : vs.length = n) (w : W G z pl H) (r : Reps G z.pa (hide z H) ds vs) (e : call g ds pl = some (d, pl'))
    (q : ∀ v H', Stp z H H' → W G z pl' H' → Rep G z.pa (hide z H') d v → Q v H') : spR G call g n vs H Q E := by
  refine ⟨hn, z.flat, pl, ds, d, pl', rfl, w.flat, by rw [hide_flat]; exact r, e, fun v H' s w' r' => q v H' s.unflat (w'.unflat w) ?_⟩
  rw [hide_flat] at r'
  exact r'
end

section
variable {X : Cx} {G : GC} {T : Tab} {C : Cf} {N : List Str} {sc : Scope} {fnB : Str → Bool} {e e2 : Expr} {es : List Expr} {FL : En → Pl → M (List D)} {F : En → Pl → M D} {p pos : Pos} {x : Str} {g : Nat} {df : Df}
theorem reps_len {pa : Option Addr} {H : Hp} {ds : List D} {vs : List V} (h : Reps G pa H ds vs) : vs.length = ds.length := h.length.symm
theorem se_call (c : CxOk X G T C N sc fnB) (hd : T.defs[g]? = some df) (hx : df.nm = x) (hg : Gl X x) (hp : plainN x = true) (ha : PA X (e :: es) (tAs G FL)) (hs : (e :: es).all noStar = true) (hl : ∀ ρ p r, FL ρ p = some r → r.1.length = df.ps.length) :
    PE X (.Call (.Name x p) (e :: es) [] pos) (tE G fun ρ p => (FL ρ p).bind fun x => C.call g x.1 x.2) := by
  subst hx
  obtain ⟨f, fd, k, g1, g2, g3, g4, g5, g6, _⟩ := (c.defs g df hd).ex
  rw [List.all_cons, Bool.and_eq_true] at hs
  refine PE.imp (pe_call (E := E0) g5 g4 hg g2 g3 g6 .nil pass0 ha (plainN_ok hp).1 (star_cons hs.1) (any_backTo hs.2)) fun σ H Q q => ?_
  obtain ⟨z, ρ, pl, d, pl', er, e, q⟩ := q
  obtain ⟨⟨y, p1⟩, e1, e2⟩ := Option.bind_eq_some_iff.mp e
  refine ⟨z, ρ, pl, y, p1, er, e1, fun vs H1 s1 w1 r1 => ?_⟩
  show spR _ _ _ _ (vs ++ []) _ _ _
  rw [List.append_nil]
  exact spR_of ((reps_len r1).trans (hl _ _ _ e1)) w1 r1 e2 fun v H' s w r => q v H' (s1.trans s) w r
theorem se_calld (c : CxOk X G T C N sc fnB) (hd : T.defs[g]? = some df) (hx : df.nm = x) (hg : Gl X x) (hp : plainN x = true) (ha : PA X (e :: es) (tAs G FL)) (hs : (e :: es).all noStar = true) (hl : ∀ ρ p r, FL ρ p = some r → r.1.length + df.dfl.length = df.ps.length) (hne : df.dfl ≠ []) :
    PE X (.Call (.Name x p) (e :: es) [] pos) (tE G fun ρ p => (FL ρ p).bind fun x => C.call g (x.1 ++ C.dfl g) x.2) := by
  subst hx
  obtain ⟨f, fd, k, g1, g2, g3, g4, g5, _, g7⟩ := (c.defs g df hd).ex
  obtain ⟨dv, dvs, b1, b2, b3⟩ := g7 hne
  rw [List.all_cons, Bool.and_eq_true] at hs
  refine PE.imp (pe_call (E := E0) g5 g4 hg g2 g3 b1 b2 pass0 ha (plainN_ok hp).1 (star_cons hs.1) (any_backTo hs.2)) fun σ H Q q => ?_
  obtain ⟨z, ρ, pl, d, pl', er, e, q⟩ := q
  obtain ⟨⟨y, p1⟩, e1, e2⟩ := Option.bind_eq_some_iff.mp e
  rw [(c.defs g df hd).dfl] at e2
  refine ⟨z, ρ, pl, y, p1, er, e1, fun vs H1 s1 w1 r1 => ?_⟩
  have rr := r1.append (b3 z.pa (hide z H1))
  exact spR_of ((reps_len rr).trans (by rw [List.length_append]; exact hl _ _ _ e1)) w1 rr e2 fun v H' s w r => q v H' (s1.trans s) w r
theorem se_callv (c : CxOk X G T C N sc fnB) {i : Nat} (hi : nmB N i x = true) (hv : visB sc x = true) (hp : plainN x = true) (ha : PA X (e :: es) (tAs G FL)) (hs : (e :: es).all noStar = true)
    (hcall : ∀ (g : Nat) ds p r, C.call g ds p = some r → ∃ df, T.defs[g]? = some df ∧ ds.length = df.ps.length) :
    PE X (.Call (.Name x p) (e :: es) [] pos) (tE G fun ρ p => match rd ρ i with
    | some (.fn g) => (FL ρ p).bind fun x => C.call g x.1 x.2
    | _ => none) := by
  refine ⟨fun pins s σ H Q I q => ?_⟩
  obtain ⟨z, ρ, pl, d, pl', er, e, q⟩ := q
  have e : (match rd ρ i with
    | some (.fn g) => (FL ρ pl).bind fun x => C.call g x.1 x.2
    | _ => none) = some (d, pl') := e
  split at e
  · rename_i g hr
    obtain ⟨⟨y, p1⟩, e1, e2⟩ := Option.bind_eq_some_iff.mp e
    obtain ⟨df, hd, hlen⟩ := hcall _ _ _ _ e2
    obtain ⟨f, fd, k, g1, g2, g3, g4, g5, g6, _⟩ := (c.defs g df hd).ex
    rw [List.all_cons, Bool.and_eq_true] at hs
    obtain ⟨v, hv1, rv⟩ := er.rd hr
    obtain ⟨f', h1, rfl⟩ := rv
    rw [g1] at h1; cases h1
    refine (pe_callL (E := E0) g5 g4 (nmB_ok c hi) (visB_ok c hv) g3 g6 .nil pass0 ha (plainN_ok hp).1 (plainN_ok hp).2.1 (star_cons hs.1) (any_backTo hs.2)).run pins s σ H Q I ⟨hv1, z, ρ, pl, y, p1, er, e1, fun vs H1 s1 w1 r1 => ?_⟩
    show spR _ _ _ _ (vs ++ []) _ _ _
    rw [List.append_nil]
    exact spR_of ((reps_len r1).trans hlen) w1 r1 e2 fun v H' s w r => q v H' (s1.trans s) w r
  · cases e

/-! ### built-ins -/
theorem biName_blt : ∀ b : Bi, b ≠ .gcd → b.name ∈ bltNames := by
  intro b hb
  cases b <;> first | (exact absurd rfl hb) | (simp [Bi.name, bltNames])
theorem boot_bi : ∀ b : Bi, b ≠ .gcd → bootBuiltins b.name = some b.val := by
  intro b hb
  cases b <;> first | (exact absurd rfl hb) | decide +kernel
theorem rBi_read {b : Bi} {σ : L2.St} {H : Hp} {Q : VK} (h : tE G (fun ρ p => (FL ρ p).bind fun x => (biD b x.1).bind fun d => some (d, x.2)) σ H Q) : tCB (rBi G b) (tAOs G FL) σ H Q := by
  obtain ⟨z, ρ, pl, d, pl', er, e, q⟩ := h
  obtain ⟨⟨y, p1⟩, e1, e2⟩ := Option.bind_eq_some_iff.mp e
  obtain ⟨d', e3, e4⟩ := Option.bind_eq_some_iff.mp e2
  cases e4
  exact ⟨z, ρ, pl, y, _, er, e1, fun vs H1 s1 w1 r1 => ⟨z, _, y, d, w1, r1, e3, fun v H' s w r => q v H' (s1.trans s) w r⟩⟩
theorem se_bi (c : CxOk X G T C N sc fnB) {b : Bi} (hx : b.name = x) (hg : Gl X x) (hp : plainN x = true) (ha : PA X (e :: es) (tAOs G FL)) (hs : (e :: es).all noStar = true) :
    PE X (.Call (.Name x p) (e :: es) [] pos) (tE G fun ρ p => (FL ρ p).bind fun x => (biD b x.1).bind fun d => some (d, x.2)) := by
  subst hx
  rw [List.all_cons, Bool.and_eq_true] at hs
  obtain ⟨n1, n2, n3⟩ := plainN_ok hp
  have cr := call_bi (X := X) (G := G) c.K c.calm b
  by_cases hb : b = .gcd
  · subst hb
    exact PE.imp (pe_callBfun cr hg c.gcd ha n1 (star_cons hs.1) (any_backTo hs.2)) fun σ H Q q => rBi_read q
  · have hm := c.blt _ (biName_blt b hb)
    have hv := boot_bi b hb
    have viaB : ∀ id, b.val = .builtin id → PE X (.Call (.Name b.name p) (e :: es) [] pos) (tCB (rBi G b) (tAOs G FL)) := fun id hid =>
      pe_callB (id := id) (by rw [← hid]; exact cr) hg hm (by rw [hv, hid]) ha n3 n1 (star_cons hs.1) (any_backTo hs.2)
    have viaT : ∀ id, b.val = .type id → PE X (.Call (.Name b.name p) (e :: es) [] pos) (tCB (rBi G b) (tAOs G FL)) := fun id hid =>
      pe_callTy (T := id) (by rw [← hid]; exact cr) hg hm (by rw [hv, hid]) ha n3 n1 (star_cons hs.1) (any_backTo hs.2)
    have all : PE X (.Call (.Name b.name p) (e :: es) [] pos) (tCB (rBi G b) (tAOs G FL)) := by
      cases b <;> first | exact viaB _ rfl | exact viaT _ rfl
    exact PE.imp all fun σ H Q q => rBi_read q
theorem boot_tn : ∀ n : Tn, bootBuiltins (Str.ofString n.nm) = some (.type n.nm) := by
  intro n
  cases n <;> decide +kernel
theorem tn_blt : ∀ n : Tn, Str.ofString n.nm ∈ bltNames := by
  intro n
  cases n <;> simp [Tn.nm, bltNames]
theorem tn_plain : ∀ n : Tn, Str.ofString n.nm ≠ "__name__" ∧ (Str.ofString n.nm == ("__debug__" : Str)) = false := by
  intro n
  cases n <;> exact ⟨by decide +kernel, by decide +kernel⟩
theorem se_isi (c : CxOk X G T C N sc fnB) {n : Tn} {q1 q2 : Pos} (hg : Gl X "isinstance") (hg2 : Gl X (Str.ofString n.nm)) (ha : PE X e (tE G F)) (hs : noStar e = true) :
    PE X (.Call (.Name "isinstance" q1) [e, .Name (Str.ofString n.nm) q2] [] pos) (tE G fun ρ p => (F ρ p).bind fun x => (isiD n x.1).bind fun b => some (.bl b, x.2)) := by
  have hb : PE X (.Name (Str.ofString n.nm) q2) (tC (.ty n.nm)) := pe_bltn hg2 (c.blt _ (tn_blt n)) (boot_tn n) rfl (tn_plain n).1 (tn_plain n).2
  refine PE.imp (pe_callB (call_isD c.K) hg (c.blt _ (by simp [bltNames])) (by decide +kernel) (pa_cons ha (pa_cons hb pa_nil) (star_cons hs)) (by decide +kernel) (by decide +kernel) (star_cons hs) rfl) fun σ H Q q => ?_
  obtain ⟨z, ρ, pl, d, pl', er, e, q⟩ := q
  obtain ⟨⟨y, p1⟩, e1, e2⟩ := Option.bind_eq_some_iff.mp e
  obtain ⟨b, e3, e4⟩ := Option.bind_eq_some_iff.mp e2
  cases e4
  exact ⟨z, ρ, pl, y, _, er, e1, fun v H1 s1 w1 r1 => ⟨z, y, v, n, b, rfl, r1.o, e3, q _ H1 s1 w1 rfl⟩⟩
/-! ### comprehensions -/
theorem own_ix (N : List Str) (vs : List Nat) : (ownOf N vs).map (·.2) = vs := by
  unfold ownOf
  rw [List.map_map]
  exact (List.map_congr_left fun _ _ => rfl).trans (List.map_id vs)
theorem se_lc (c : CxOk X G T C N sc fnB) {elt tg iter : Expr} {ifs : List Expr} {scope : Scope} {vs : List Nat} {t : Tg} {Fs : En → Pl → M (List D)} {Fc Fe : En → Pl → M D} (hi : PI X tg iter (tI true G Fs)) (ok : blkC N sc scope (ownOf N vs) = true) (hin : tgIn vs t = true) (hs : noSet iter = true)
    (hg : ∀ s H C0 cl fp, PG (X.blk s H scope (compEnvC scope cl C0 X.env) fp) tg (tTg G t)) (ht : ∀ s H C0 cl fp, PTs (X.blk s H scope (compEnvC scope cl C0 X.env) fp) ifs (tT G Fc)) (he : ∀ s H C0 cl fp, PE (X.blk s H scope (compEnvC scope cl C0 X.env) fp) elt (tE G Fe)) :
    PE X (.ListComp elt [⟨tg, iter, ifs, 0⟩] scope pos) (tE G (lcE t vs Fs Fc Fe)) := by
  have ok2 : BlkOk X.N X.env.scope scope (ownOf N vs) := by
    rw [c.names, c.sc]
    exact blkOk_by ok
  refine PE.imp (pe_lc c.calm (by rw [c.names]; exact c.nd) hi ok2 hg ht he (fun v => folded_of hs _ v)) fun σ H Q q => ?_
  rw [own_ix]
  exact lc_read hin (tNew_of lcE_lst q)
theorem pts_yes {X : Cx} : PTs X [] (tT G (ev C (.con (.bl true)))) := ⟨fun pins s σ H Q I q => by
  obtain ⟨z, ρ, pl, d, pl', b, er, e, eb, q⟩ := q
  cases (show some (D.bl true, pl) = some (d, pl') from e)
  cases eb
  exact pts_nil.run pins s σ H Q I (q H (Stp.refl _ _) er.w)⟩
end
end FW
/-! FW15: every expression keeps what the evaluator says. -/
namespace FW
open PySem PySem.Spec PyProof.Rows L2
def isBoolE : Expr → Bool
  | .BoolOp .. => true
  | _ => false
structure Gd (X : Cx) (G : GC) (C : Cf) (x : PX) (e : Expr) : Prop where
  b : Both X G e (ev C x)
  o : PE X e (tO G (evO C x))
  w : isBoolE e = true → PW X e (tT G (ev C x))
section
variable {X : Cx} {G : GC} {C : Cf} {x : PX} {e : Expr}
theorem Gd.v (g : Gd X G C x e) : PE X e (tE G (ev C x)) := g.b.v
theorem Gd.t (g : Gd X G C x e) : PT X e (tT G (ev C x)) := g.b.t
theorem Gd.of (h : Both X G e (ev C x)) (ho : ∀ ρ p, evO C x ρ p = ev C x ρ p) (hw : isBoolE e = false) : Gd X G C x e := by
  refine ⟨h, PE.imp h.v fun σ H Q q => tE_o ?_, fun k => by rw [hw] at k; cases k⟩
  have : (evO C x) = ev C x := funext fun ρ => funext fun p => ho ρ p
  rw [← this]; exact q
theorem Gd.ofV (hK : X.K = G.K) (h : PE X e (tE G (ev C x))) (ho : ∀ ρ p, evO C x ρ p = ev C x ρ p) (hw : isBoolE e = false) (hp : plainTest e = true) : Gd X G C x e :=
  .of (.of_v h hK hp) ho hw
theorem Gd.bot : Gd X G C .bot e := ⟨⟨⟨fun pins s σ H Q I q => by obtain ⟨z, ρ, pl, d, pl', er, e, q⟩ := q; cases e⟩, ⟨fun pins s σ H Q I q => by obtain ⟨z, ρ, pl, d, pl', b, er, e, q⟩ := q; cases e⟩⟩,
  ⟨fun pins s σ H Q I q => by obtain ⟨z, ρ, pl, d, pl', er, e, q⟩ := q; cases e⟩, fun _ => ⟨fun wh pins s σ H Q I q => by obtain ⟨z, ρ, pl, d, pl', b, er, e, q⟩ := q; cases e⟩⟩
theorem and_l {a b : Bool} (h : (a && b) = true) : a = true := (Bool.and_eq_true_iff.mp h).1
theorem and_r {a b : Bool} (h : (a && b) = true) : b = true := (Bool.and_eq_true_iff.mp h).2
theorem pa_nilD : PA X [] (tAs G fun _ p => some ([], p)) := PA.imp pa_nil fun σ H Q q => by
  obtain ⟨z, ρ, pl, d, pl', er, e, q⟩ := q
  cases e
  exact q [] H (Stp.refl _ _) er.w rfl
theorem pa_nilO : PA X [] (tAOs G fun _ p => some ([], p)) := PA.imp pa_nil fun σ H Q q => by
  obtain ⟨z, ρ, pl, d, pl', er, e, q⟩ := q
  cases e
  exact q [] H (Stp.refl _ _) er.w rfl
variable {es : List Expr} {F : En → Pl → M D} {FL : En → Pl → M (List D)}
theorem pa_consD (ha : PE X e (tE G F)) (hr : PA X es (tAs G FL)) (hs : noStar e = true) : PA X (e :: es) (tAs G fun ρ p => (F ρ p).bind fun x => (FL ρ x.2).bind fun y => some (x.1 :: y.1, y.2)) := by
  refine PA.imp (pa_cons ha hr (star_cons hs)) fun σ H Q q => ?_
  obtain ⟨z, ρ, pl, d, pl', er, e, q⟩ := q
  obtain ⟨⟨x, p1⟩, e1, e2⟩ := Option.bind_eq_some_iff.mp e
  obtain ⟨⟨y, p2⟩, e3, e4⟩ := Option.bind_eq_some_iff.mp e2
  cases e4
  refine ⟨z, ρ, pl, x, p1, er, e1, fun v H1 s1 w1 r1 => ?_⟩
  refine ⟨z, ρ, p1, y, _, er.stp s1 w1, e3, fun vs H2 s2 w2 r2 => ?_⟩
  exact q _ _ (s1.trans s2) w2 ⟨v, vs, rfl, Rep.same s2.same _ _ r1, r2⟩
theorem pa_consO (ha : PE X e (tO G F)) (hr : PA X es (tAOs G FL)) (hs : noStar e = true) : PA X (e :: es) (tAOs G fun ρ p => (F ρ p).bind fun x => (FL ρ x.2).bind fun y => some (x.1 :: y.1, y.2)) := by
  refine PA.imp (pa_cons ha hr (star_cons hs)) fun σ H Q q => ?_
  obtain ⟨z, ρ, pl, d, pl', er, e, q⟩ := q
  obtain ⟨⟨x, p1⟩, e1, e2⟩ := Option.bind_eq_some_iff.mp e
  obtain ⟨⟨y, p2⟩, e3, e4⟩ := Option.bind_eq_some_iff.mp e2
  cases e4
  refine ⟨z, ρ, pl, x, p1, er, e1, fun v H1 s1 w1 r1 => ?_⟩
  refine ⟨z, ρ, p1, y, _, er.stp s1 w1, e3, fun vs H2 s2 w2 r2 => ?_⟩
  exact q _ _ (s1.trans s2) w2 ⟨v, vs, rfl, r1.stp s2, r2⟩
end
theorem isYes_eq {d : PX} (h : isYes d = true) : d = .con (.bl true) := by
  unfold isYes at h
  split at h
  · rfl
  · cases h
/-- what a call's answer says of the callee's parameters -/
def CallOk (T : Tab) (C : Cf) : Prop := ∀ (g : Nat) ds p r, C.call g ds p = some r → ∃ df, T.defs[g]? = some df ∧ ds.length = df.ps.length
def lenPs : PXs → Nat
  | .nil => 0
  | .cons _ es => lenPs es + 1
theorem evs_len (C : Cf) : ∀ (es : PXs) ρ p r, evs C es ρ p = some r → r.1.length = lenPs es
  | .nil, ρ, p, r, h => by cases h; rfl
  | .cons e es, ρ, p, r, h => by
    obtain ⟨⟨x, p1⟩, e1, e2⟩ := Option.bind_eq_some_iff.mp (show (ev C e ρ p).bind (fun x => (evs C es ρ x.2).bind fun y => some (x.1 :: y.1, y.2)) = some r from h)
    obtain ⟨⟨y, p2⟩, e3, e4⟩ := Option.bind_eq_some_iff.mp e2
    cases e4
    show y.length + 1 = lenPs es + 1
    rw [evs_len C es _ _ _ e3]
theorem chk_len {T : Tab} {N : List Str} {sc : Scope} : ∀ (es : PXs) (xs : List Expr), chkEs T N es sc xs = true → xs.all noStar = true ∧ lenPs es = xs.length
  | .nil, [], _ => ⟨rfl, rfl⟩
  | .nil, _ :: _, h => by cases h
  | .cons _ _, [], h => by cases h
  | .cons e es, x :: xs, h => by
    obtain ⟨h1, h2⟩ := chk_len es xs (and_r (and_r (show (noStar x && (chkE T N e sc x && chkEs T N es sc xs)) = true from h)))
    exact ⟨by rw [List.all_cons, h1, and_l h]; rfl, by show lenPs es + 1 = _; rw [h2]; rfl⟩
theorem evOs_len (C : Cf) : ∀ (es : PXs) ρ p r, evOs C es ρ p = some r → r.1.length = lenPs es
  | .nil, ρ, p, r, h => by cases h; rfl
  | .cons e es, ρ, p, r, h => by
    obtain ⟨⟨x, p1⟩, e1, e2⟩ := Option.bind_eq_some_iff.mp (show (evO C e ρ p).bind (fun x => (evOs C es ρ x.2).bind fun y => some (x.1 :: y.1, y.2)) = some r from h)
    obtain ⟨⟨y, p2⟩, e3, e4⟩ := Option.bind_eq_some_iff.mp e2
    cases e4
    show y.length + 1 = lenPs es + 1
    rw [evOs_len C es _ _ _ e3]
section
variable {G : GC} {T : Tab} {C : Cf} {N : List Str}
abbrev OkE (G : GC) (T : Tab) (C : Cf) (N : List Str) (x : PX) : Prop := ∀ {X : Cx} {sc : Scope} {fnB : Str → Bool} (_ : CxOk X G T C N sc fnB) (e : Expr), chkE T N x sc e = true → Gd X G C x e
abbrev OkL (G : GC) (T : Tab) (C : Cf) (N : List Str) (es : PXs) : Prop := ∀ {X : Cx} {sc : Scope} {fnB : Str → Bool} (_ : CxOk X G T C N sc fnB) (xs : List Expr), chkEs T N es sc xs = true → PA X xs (tAs G (evs C es)) ∧ PA X xs (tAOs G (evOs C es))
abbrev OkR (G : GC) (T : Tab) (C : Cf) (N : List Str) (s : Sr) : Prop := ∀ {X : Cx} {sc : Scope} {fnB : Str → Bool} (_ : CxOk X G T C N sc fnB) (tg it : Expr), chkSr T N s sc tg it = true → PI X tg it (tI true G (evSr C s))
theorem c_bot : OkE G T C N (.bot) := fun {X sc fnB} c e h => .bot
theorem c_abs : OkE G T C N (.abs) := fun {X sc fnB} c e h => by cases e <;> cases h
theorem c_var {i : Nat} : OkE G T C N (.var i) := fun {X sc fnB} c e h => by
    cases e with
    | Name x p => exact ⟨.of_v (se_var c h) c.K rfl, so_var c h, fun k => by cases k⟩
    | _ => cases h
theorem c_con {d : D} : OkE G T C N (.con d) := fun {X sc fnB} c e h => by
    cases e with
    | Constant k n p => exact .ofV c.K (se_con h) (fun _ _ => rfl) rfl rfl
    | _ => cases h
theorem c_glo {k : Nat} : OkE G T C N (.glo k) := fun {X sc fnB} c e h => by
    cases e with
    | Name x p => exact .ofV c.K (se_glo c h) (fun _ _ => rfl) rfl rfl
    | _ => cases h
theorem c_fnv {g : Nat} : OkE G T C N (.fnv g) := fun {X sc fnB} c e h => by
    cases e with
    | Name x p => exact .ofV c.K (se_fnv c h) (fun _ _ => rfl) rfl rfl
    | _ => cases h
theorem c_bin {op : Operator} {a : PX} {b : PX} (ih_a : OkE G T C N a) (ih_b : OkE G T C N b) : OkE G T C N (.bin op a b) := fun {X sc fnB} c e h => by
    cases e with
    | BinOp l op' r p =>
      have e1 : op = op' := of_decide_eq_true (and_l h)
      subst e1
      exact .ofV c.K (se_bin c (ih_a c l (and_l (and_r h))).v (ih_b c r (and_r (and_r h))).v) (fun _ _ => rfl) rfl rfl
    | _ => cases h
theorem c_neg {a : PX} (ih_a : OkE G T C N a) : OkE G T C N (.neg a) := fun {X sc fnB} c e h => by
    cases e with
    | UnaryOp op l p =>
      cases op with
      | USub => exact .ofV c.K (se_neg c (ih_a c l h).v) (fun _ _ => rfl) rfl rfl
      | _ => cases h
    | _ => cases h
theorem c_not {a : PX} (ih_a : OkE G T C N a) : OkE G T C N (.not a) := fun {X sc fnB} c e h => by
    cases e with
    | UnaryOp op l p =>
      cases op with
      | Not =>
        have g := ih_a c l h
        exact .of ⟨se_not c g.v, st_not g.t⟩ (fun _ _ => rfl) rfl
      | _ => cases h
    | _ => cases h
theorem c_cmp {op : CmpOp} {a : PX} {b : PX} (ih_a : OkE G T C N a) (ih_b : OkE G T C N b) : OkE G T C N (.cmp op a b) := fun {X sc fnB} c e h => by
    cases e with
    | Compare l ops rs p =>
      cases ops with
      | nil => cases h
      | cons o1 ops =>
        cases ops with
        | cons _ _ => cases h
        | nil =>
          cases rs with
          | nil => cases h
          | cons r rs =>
            cases rs with
            | cons _ _ => cases h
            | nil =>
              have e1 : op = o1 := of_decide_eq_true (and_l h)
              subst e1
              exact .of (se_cmp c (ih_a c l (and_l (and_r h))).o (ih_b c r (and_l (and_r (and_r h)))).o (and_r (and_r (and_r h)))) (fun _ _ => rfl) rfl
    | _ => cases h
theorem c_chn {op : CmpOp} {op' : CmpOp} {a : PX} {b : PX} {d : PX} (ih_a : OkE G T C N a) (ih_b : OkE G T C N b) (ih_d : OkE G T C N d) : OkE G T C N (.chn op op' a b d) := fun {X sc fnB} c e h => by
    cases e with
    | Compare l ops rs p =>
      cases ops with
      | nil => cases h
      | cons o1 ops =>
        cases ops with
        | nil => cases h
        | cons o2 ops =>
          cases ops with
          | cons _ _ => cases h
          | nil =>
            cases rs with
            | nil => cases h
            | cons r1 rs =>
              cases rs with
              | nil => cases h
              | cons r2 rs =>
                cases rs with
                | cons _ _ => cases h
                | nil =>
                  have e1 : op = o1 := of_decide_eq_true (and_l h)
                  have e2 : op' = o2 := of_decide_eq_true (and_l (and_r h))
                  subst e1; subst e2
                  have h := and_r (and_r h)
                  exact .of (se_chn c (ih_a c l (and_l h)).v (ih_b c r1 (and_l (and_r h))).v (ih_d c r2 (and_l (and_r (and_r h)))).v (and_r (and_r (and_r h)))) (fun _ _ => rfl) rfl
    | _ => cases h
theorem c_and {a : PX} {b : PX} (ih_a : OkE G T C N a) (ih_b : OkE G T C N b) : OkE G T C N (.and a b) := fun {X sc fnB} c e h => by
    cases e with
    | BoolOp op es p =>
      cases op with
      | Or => cases es with
        | nil => cases h
        | cons x es => cases es with
          | nil => cases h
          | cons y es => cases es <;> cases h
      | And =>
        cases es with
        | nil => cases h
        | cons x es =>
          cases es with
          | nil => cases h
          | cons y es =>
            cases es with
            | nil =>
              have g1 := ih_a c x (and_l h)
              have g2 := ih_b c y (and_r h)
              have k : PE X (.BoolOp .And [x, y] p) (tE G (ev C (.and a b))) := se_and c g1.v (pe_one g2.v)
              have kw : PW X (.BoolOp .And [x, y] p) (tT G (ev C (.and a b))) := sw_and g1.t (pw_and1 g2.t)
              exact ⟨⟨k, kw.pt⟩, PE.imp k fun σ H Q q => tE_o q, fun _ => kw⟩
            | cons w r =>
              have g1 := ih_a c x (and_l h)
              have g2 := ih_b c (.BoolOp .And (y :: w :: r) p) (and_r h)
              have k : PE X (.BoolOp .And (x :: y :: w :: r) p) (tE G (ev C (.and a b))) := se_and c g1.v g2.v
              have kw : PW X (.BoolOp .And (x :: y :: w :: r) p) (tT G (ev C (.and a b))) := sw_and g1.t (g2.w rfl)
              exact ⟨⟨k, kw.pt⟩, PE.imp k fun σ H Q q => tE_o q, fun _ => kw⟩
    | _ => cases h
theorem c_or {a : PX} {b : PX} (ih_a : OkE G T C N a) (ih_b : OkE G T C N b) : OkE G T C N (.or a b) := fun {X sc fnB} c e h => by
    cases e with
    | BoolOp op es p =>
      cases op with
      | And => cases es with
        | nil => cases h
        | cons x es => cases es with
          | nil => cases h
          | cons y es => cases es <;> cases h
      | Or =>
        cases es with
        | nil => cases h
        | cons x es =>
          cases es with
          | nil => cases h
          | cons y es =>
            cases es with
            | nil =>
              have g1 := ih_a c x (and_l h)
              have g2 := ih_b c y (and_r h)
              have k : PE X (.BoolOp .Or [x, y] p) (tE G (ev C (.or a b))) := se_or c g1.v (pe_one g2.v)
              have kw : PW X (.BoolOp .Or [x, y] p) (tT G (ev C (.or a b))) := sw_or g1.t (pw_or1 g2.t)
              exact ⟨⟨k, kw.pt⟩, PE.imp k fun σ H Q q => tE_o q, fun _ => kw⟩
            | cons w r =>
              have g1 := ih_a c x (and_l h)
              have g2 := ih_b c (.BoolOp .Or (y :: w :: r) p) (and_r h)
              have k : PE X (.BoolOp .Or (x :: y :: w :: r) p) (tE G (ev C (.or a b))) := se_or c g1.v g2.v
              have kw : PW X (.BoolOp .Or (x :: y :: w :: r) p) (tT G (ev C (.or a b))) := sw_or g1.t (g2.w rfl)
              exact ⟨⟨k, kw.pt⟩, PE.imp k fun σ H Q q => tE_o q, fun _ => kw⟩
    | _ => cases h
theorem c_ite {d : PX} {a : PX} {b : PX} (ih_d : OkE G T C N d) (ih_a : OkE G T C N a) (ih_b : OkE G T C N b) : OkE G T C N (.ite d a b) := fun {X sc fnB} c e h => by
    cases e with
    | IfExp d' a' b' p => exact .of (se_ite (ih_d c d' (and_l h)).t (ih_a c a' (and_l (and_r h))).b (ih_b c b' (and_r (and_r h))).b) (fun _ _ => rfl) rfl
    | _ => cases h
theorem c_tup {es : PXs} (ih_es : OkL G T C N es) : OkE G T C N (.tup es) := fun {X sc fnB} c e h => by
    cases e with
    | Tuple xs k p => exact .ofV c.K (se_tup (ih_es c xs h).1) (fun _ _ => rfl) rfl rfl
    | _ => cases h
theorem c_lst {es : PXs} (ih_es : OkL G T C N es) : OkE G T C N (.lst es) := fun {X sc fnB} c e h => by
    cases e with
    | List xs p => exact .ofV c.K (se_lst (ih_es c xs h).1) (fun _ _ => rfl) rfl rfl
    | _ => cases h
theorem c_snoc {a : PX} {b : PX} : OkE G T C N (.snoc a b) := fun {X sc fnB} c e h => by cases e <;> cases h
theorem c_ix {a : PX} {i : PX} (ih_a : OkE G T C N a) (ih_i : OkE G T C N i) : OkE G T C N (.ix a i) := fun {X sc fnB} c e h => by
    cases e with
    | Subscript a' i' p =>
      exact .ofV c.K (se_ix c (ih_a c a' (and_l h)).o (ih_i c i' (and_l (and_r h))).v (and_r (and_r h))) (fun _ _ => rfl) rfl rfl
    | _ => cases h
theorem c_sl {a : PX} {lo : PX} {hi : PX} (ih_lo : OkE G T C N lo) (ih_hi : OkE G T C N hi) (ih_a : OkE G T C N a) : OkE G T C N (.sl a lo hi) := fun {X sc fnB} c e h => by
    cases e with
    | Subscript a' i' p =>
      cases i' with
      | Slice lo' hi' st p2 =>
        cases st with
        | some _ => cases h
        | none =>
          have hl : PO X lo' (tP G (isAbs lo) (ev C lo)) := by
            have h := and_l (and_r h)
            cases lo' with
            | none =>
              have h : isAbs lo = true := h
              cases lo <;> first | exact po_abs | cases h
            | some q =>
              have h1 := and_r h
              have h1 : isAbs lo = false := by cases k : isAbs lo with
                | false => rfl
                | true => rw [k] at h1; cases h1
              rw [h1]
              exact po_ok (ih_lo c q (and_l h)).v
          have hh : PO X hi' (tP G (isAbs hi) (ev C hi)) := by
            have h := and_r (and_r h)
            cases hi' with
            | none =>
              have h : isAbs hi = true := h
              cases hi <;> first | exact po_abs | cases h
            | some q =>
              have h1 := and_r h
              have h1 : isAbs hi = false := by cases k : isAbs hi with
                | false => rfl
                | true => rw [k] at h1; cases h1
              rw [h1]
              exact po_ok (ih_hi c q (and_l h)).v
          exact .ofV c.K (se_sl c (ih_a c a' (and_l h)).o hl hh) (fun _ _ => rfl) rfl rfl
      | _ => cases h
    | _ => cases h
theorem c_call {g : Nat} {es : PXs} (ih_es : OkL G T C N es) : OkE G T C N (.call g es) := fun {X sc fnB} c e h => by
    cases e with
    | Call fe args kw p =>
      cases fe with
      | Name x p2 =>
        cases args with
        | nil => cases h
        | cons a args =>
          cases kw with
          | cons _ _ => cases h
          | nil =>
            replace h : (match T.defs[g]? with
              | some df => decide (df.nm = x) && (glB sc x && (plainN x && (decide (df.ps.length = (a :: args).length) && chkEs T N es sc (a :: args))))
              | none => false) = true := h
            split at h
            · rename_i df hd
              have h1 := and_r (and_r (and_r h))
              have k := chk_len es _ (and_r h1)
              exact .ofV c.K (se_call c hd (of_decide_eq_true (and_l h)) (glB_ok c (and_l (and_r h))) (and_l (and_r (and_r h))) (ih_es c _ (and_r h1)).1 k.1
                fun ρ p r e => by rw [evs_len C es ρ p r e, k.2]; exact (of_decide_eq_true (and_l h1)).symm) (fun _ _ => rfl) rfl rfl
            · cases h
      | _ => cases args <;> cases kw <;> cases h
    | _ => cases h
theorem c_calld {g : Nat} {es : PXs} (ih_es : OkL G T C N es) : OkE G T C N (.calld g es) := fun {X sc fnB} c e h => by
    cases e with
    | Call fe args kw p =>
      cases fe with
      | Name x p2 =>
        cases args with
        | nil => cases h
        | cons a args =>
          cases kw with
          | cons _ _ => cases h
          | nil =>
            replace h : (match T.defs[g]? with
              | some df => decide (df.nm = x) && (glB sc x && (plainN x && (decide (df.ps.length = (a :: args).length + df.dfl.length) && chkEs T N es sc (a :: args))))
              | none => false) = true := h
            split at h
            · rename_i df hd
              have h1 := and_r (and_r (and_r h))
              have k := chk_len es _ (and_r h1)
              by_cases hne : df.dfl = []
              · exact .ofV c.K (PE.imp (se_call c hd (of_decide_eq_true (and_l h)) (glB_ok c (and_l (and_r h))) (and_l (and_r (and_r h))) (ih_es c _ (and_r h1)).1 k.1
                  fun ρ p r e => by rw [evs_len C es ρ p r e, k.2]; have := of_decide_eq_true (and_l h1); rw [hne] at this; exact this.symm) fun σ H Q q => by
                    obtain ⟨z, ρ, pl, d, pl', er, e, q⟩ := q
                    obtain ⟨⟨x, p1⟩, e1, e2⟩ := Option.bind_eq_some_iff.mp e
                    refine ⟨z, ρ, pl, d, pl', er, Option.bind_eq_some_iff.mpr ⟨⟨x, p1⟩, e1, ?_⟩, q⟩
                    have e2 : C.call g (x ++ C.dfl g) p1 = some (d, pl') := e2
                    rw [(c.defs g df hd).dfl, hne, List.append_nil] at e2
                    exact e2) (fun _ _ => rfl) rfl rfl
              · exact .ofV c.K (se_calld c hd (of_decide_eq_true (and_l h)) (glB_ok c (and_l (and_r h))) (and_l (and_r (and_r h))) (ih_es c _ (and_r h1)).1 k.1
                  (fun ρ p r e => by rw [evs_len C es ρ p r e, k.2]; exact (of_decide_eq_true (and_l h1)).symm) hne) (fun _ _ => rfl) rfl rfl
            · cases h
      | _ => cases args <;> cases kw <;> cases h
    | _ => cases h
theorem c_callv {i : Nat} {es : PXs} (hC : CallOk T C) (ih_es : OkL G T C N es) : OkE G T C N (.callv i es) := fun {X sc fnB} c e h => by
    cases e with
    | Call fe args kw p =>
      cases fe with
      | Name x p2 =>
        cases args with
        | nil => cases h
        | cons a args =>
          cases kw with
          | cons _ _ => cases h
          | nil =>
            have h1 := and_r (and_r (and_r h))
            exact .ofV c.K (se_callv c (and_l h) (and_l (and_r h)) (and_l (and_r (and_r h))) (ih_es c _ h1).1 (chk_len es _ h1).1 hC) (fun _ _ => rfl) rfl rfl
      | _ => cases args <;> cases kw <;> cases h
    | _ => cases h
theorem c_bi {b : Bi} {es : PXs} (ih_es : OkL G T C N es) : OkE G T C N (.bi b es) := fun {X sc fnB} c e h => by
    cases e with
    | Call fe args kw p =>
      cases fe with
      | Name x p2 =>
        cases args with
        | nil => cases h
        | cons a args =>
          cases kw with
          | cons _ _ => cases h
          | nil =>
            have h1 := and_r (and_r (and_r (and_r h)))
            exact .ofV c.K (se_bi c (of_decide_eq_true (and_l h)) (glB_ok c (and_l (and_r h))) (and_l (and_r (and_r h))) (ih_es c _ h1).2 (chk_len es _ h1).1) (fun _ _ => rfl) rfl rfl
      | _ => cases args <;> cases kw <;> cases h
    | _ => cases h
theorem c_isi {a : PX} {n : Tn} (ih_a : OkE G T C N a) : OkE G T C N (.isi a n) := fun {X sc fnB} c e h => by
    cases e with
    | Call fe args kw p =>
      cases fe with
      | Name x p2 =>
        cases args with
        | nil => cases h
        | cons q1 args =>
          cases args with
          | nil => cases h
          | cons q2 args =>
            cases args with
            | cons _ _ => cases q2 <;> cases h
            | nil =>
              cases kw with
              | cons _ _ => cases q2 <;> cases h
              | nil =>
                cases q2 with
                | Name y p3 =>
                  have e1 : x = "isinstance" := of_decide_eq_true (and_l h)
                  have e2 : y = Str.ofString n.nm := of_decide_eq_true (and_l (and_r (and_r h)))
                  subst e1; subst e2
                  have h1 := and_r (and_r (and_r (and_r h)))
                  exact .ofV c.K (se_isi c (glB_ok c (and_l (and_r h))) (glB_ok c (and_l (and_r (and_r (and_r h))))) (ih_a c q1 (and_l h1)).v (and_r h1)) (fun _ _ => rfl) rfl rfl
                | _ => cases h
      | _ =>
        cases args with
        | nil => cases h
        | cons q1 args => cases args with
          | nil => cases h
          | cons q2 args => cases q2 <;> cases args <;> cases kw <;> cases h
    | _ => cases h
theorem c_lc {elt : PX} {tg : Tg} {src : Sr} {d : PX} {vs : List Nat} (ih_src : OkR G T C N src) (ih_elt : OkE G T C N elt) (ih_d : OkE G T C N d) : OkE G T C N (.lc elt tg src d vs) := fun {X sc fnB} c e h => by
    cases e with
    | ListComp elt' gens scope p =>
      cases gens with
      | nil => cases h
      | cons g gens =>
        cases gens with
        | cons _ _ => obtain ⟨_, _, _, k⟩ := g; (cases k with
          | ofNat k => cases k <;> cases h
          | negSucc _ => cases h)
        | nil =>
          obtain ⟨tg', it', ifs', k⟩ := g
          cases k with
          | negSucc k => cases h
          | ofNat k => cases k with
           | succ k => cases h
           | zero =>
             have h1 := and_l h
             have h2 := and_l (and_r h)
             have h3 := and_l (and_r (and_r h))
             have h4 := and_l (and_r (and_r (and_r h)))
             have h5 := and_l (and_r (and_r (and_r (and_r h))))
             have h6 := and_l (and_r (and_r (and_r (and_r (and_r h)))))
             have h7 := and_r (and_r (and_r (and_r (and_r (and_r h)))))
             refine .ofV c.K (se_lc c (ih_src c tg' it' h3) h1 h7 h4 (fun s H C0 cl fp => pg_ok (c.blk s H scope C0 cl fp) tg tg' (tgIn_pure h7) h2) (fun s H C0 cl fp => ?_)
               (fun s H C0 cl fp => (ih_elt (c.blk s H scope C0 cl fp) elt' h6).v)) (fun _ _ => rfl) rfl rfl
             cases ifs' with
             | nil =>
               have h5 : isYes d = true := h5
               have : d = .con (.bl true) := isYes_eq h5
               subst this
               exact pts_yes
             | cons q r =>
               cases r with
               | nil => exact pts_one (ih_d (c.blk s H scope C0 cl fp) q h5).t
               | cons _ _ => cases h5
    | _ => cases h
theorem r_it {e : PX} (ih_e : OkE G T C N e) : OkR G T C N (.it e) := fun {X sc fnB} c tg it h => pi_itD c (PE.toB (ih_e c it h).o)
theorem r_rng1 {e : PX} (ih_e : OkE G T C N e) : OkR G T C N (.rng1 e) := fun {X sc fnB} c tg it h => by
    cases it with
    | Call fe args kw p =>
      cases fe with
      | Name x p2 =>
        cases args with
        | nil => cases h
        | cons a args => cases args with
          | cons _ _ => cases h
          | nil => cases kw with
            | cons _ _ => cases h
            | nil =>
              have e1 : x = "range" := of_decide_eq_true (and_l h)
              have h1 := and_r (and_r (and_r h))
              have h2 := glB_ok c (and_l (and_r h))
              have h3 := and_l (and_r (and_r h))
              subst e1
              exact pi_rng1D c (ih_e c a h1).v h2 h3
      | _ => cases args with
        | nil => cases h
        | cons _ args => cases args <;> cases kw <;> cases h
    | _ => cases h
theorem r_rng2 {e : PX} {f : PX} (ih_e : OkE G T C N e) (ih_f : OkE G T C N f) : OkR G T C N (.rng2 e f) := fun {X sc fnB} c tg it h => by
    cases it with
    | Call fe args kw p =>
      cases fe with
      | Name x p2 =>
        cases args with
        | nil => cases h
        | cons a args => cases args with
          | nil => cases h
          | cons b args => cases args with
            | cons _ _ => cases h
            | nil => cases kw with
              | cons _ _ => cases h
              | nil =>
                have e1 : x = "range" := of_decide_eq_true (and_l h)
                have h1 := and_r (and_r (and_r (and_r h)))
                have h2 := glB_ok c (and_l (and_r h))
                have h3 := and_l (and_r (and_r h))
                have h4 := and_l (and_r (and_r (and_r h)))
                subst e1
                exact pi_rng2D c (ih_e c a (and_l h1)).v (ih_f c b (and_r h1)).v h2 h3 h4
      | _ => cases args with
        | nil => cases h
        | cons _ args => cases args with
          | nil => cases h
          | cons _ args => cases args <;> cases kw <;> cases h
    | _ => cases h
theorem r_enm {e : PX} (ih_e : OkE G T C N e) : OkR G T C N (.enm e) := fun {X sc fnB} c tg it h => by
    cases it with
    | Call fe args kw p =>
      cases fe with
      | Name x p2 =>
        cases args with
        | nil => cases h
        | cons a args => cases args with
          | cons _ _ => cases h
          | nil => cases kw with
            | cons _ _ => cases h
            | nil =>
              have e1 : x = "enumerate" := of_decide_eq_true (and_l h)
              have h2 : isTupE tg = true := and_l (and_r h)
              have h3 := and_r (and_r h)
              have h4 := glB_ok c (and_l h3)
              have h5 := and_l (and_r h3)
              have h6 := and_r (and_r h3)
              subst e1
              clear h h3
              cases tg with
              | Tuple _ _ _ => exact pi_enmD c (PE.toB (ih_e c a h6).o) h4 h5
              | _ => cases h2
      | _ => cases args with
        | nil => cases h
        | cons _ args => cases args <;> cases kw <;> cases h
    | _ => cases h
theorem r_zip {e : PX} {f : PX} (ih_e : OkE G T C N e) (ih_f : OkE G T C N f) : OkR G T C N (.zip e f) := fun {X sc fnB} c tg it h => by
    cases it with
    | Call fe args kw p =>
      cases fe with
      | Name x p2 =>
        cases args with
        | nil => cases h
        | cons a args => cases args with
          | nil => cases h
          | cons b args => cases args with
            | cons _ _ => cases h
            | nil => cases kw with
              | cons _ _ => cases h
              | nil =>
                have e1 : x = "zip" := of_decide_eq_true (and_l h)
                have h2 : isTupE tg = true := and_l (and_r h)
                have h3 := and_r (and_r h)
                have h4 := and_r (and_r (and_r h3))
                have h5 := glB_ok c (and_l h3)
                have h6 := and_l (and_r h3)
                have h7 := and_l (and_r (and_r h3))
                subst e1
                clear h h3
                cases tg with
                | Tuple _ _ _ => exact pi_zipD c (PE.toB (ih_e c a (and_l h4)).o) (PE.toB (ih_f c b (and_r h4)).o) h5 h6 h7
                | _ => cases h2
      | _ => cases args with
        | nil => cases h
        | cons _ args => cases args with
          | nil => cases h
          | cons _ args => cases args <;> cases kw <;> cases h
    | _ => cases h
theorem l_nil : OkL G T C N .nil := fun {X sc fnB} c xs h => by
  cases xs with
  | nil => exact ⟨pa_nilD, pa_nilO⟩
  | cons _ _ => cases h
theorem l_cons {e : PX} {es : PXs} (ih_e : OkE G T C N e) (ih_es : OkL G T C N es) : OkL G T C N (.cons e es) := fun {X sc fnB} c xs h => by
  cases xs with
  | nil => cases h
  | cons x xs =>
    have g := ih_e c x (and_l (and_r h))
    have k := ih_es c xs (and_r (and_r h))
    exact ⟨pa_consD g.v k.1 (and_l h), pa_consO g.o k.2 (and_l h)⟩
mutual
theorem ev_ok (hC : CallOk T C) : ∀ (x : PX), OkE G T C N x
  | .bot => c_bot
  | .abs => c_abs
  | .var i => c_var
  | .con d => c_con
  | .glo k => c_glo
  | .fnv g => c_fnv
  | .bin op a b => c_bin (ev_ok hC a) (ev_ok hC b)
  | .neg a => c_neg (ev_ok hC a)
  | .not a => c_not (ev_ok hC a)
  | .cmp op a b => c_cmp (ev_ok hC a) (ev_ok hC b)
  | .chn op op' a b d => c_chn (ev_ok hC a) (ev_ok hC b) (ev_ok hC d)
  | .and a b => c_and (ev_ok hC a) (ev_ok hC b)
  | .or a b => c_or (ev_ok hC a) (ev_ok hC b)
  | .ite d a b => c_ite (ev_ok hC d) (ev_ok hC a) (ev_ok hC b)
  | .tup es => c_tup (evs_ok hC es)
  | .lst es => c_lst (evs_ok hC es)
  | .snoc a b => c_snoc
  | .ix a i => c_ix (ev_ok hC a) (ev_ok hC i)
  | .sl a lo hi => c_sl (ev_ok hC lo) (ev_ok hC hi) (ev_ok hC a)
  | .call g es => c_call (evs_ok hC es)
  | .calld g es => c_calld (evs_ok hC es)
  | .callv i es => c_callv hC (evs_ok hC es)
  | .bi b es => c_bi (evs_ok hC es)
  | .isi a n => c_isi (ev_ok hC a)
  | .lc elt tg src d vs => c_lc (evSr_ok hC src) (ev_ok hC elt) (ev_ok hC d)
theorem evs_ok (hC : CallOk T C) : ∀ (es : PXs), OkL G T C N es
  | .nil => l_nil
  | .cons e es => l_cons (ev_ok hC e) (evs_ok hC es)
theorem evSr_ok (hC : CallOk T C) : ∀ (s : Sr), OkR G T C N s
  | .it e => r_it (ev_ok hC e)
  | .rng1 e => r_rng1 (ev_ok hC e)
  | .rng2 e f => r_rng2 (ev_ok hC e) (ev_ok hC f)
  | .enm e => r_enm (ev_ok hC e)
  | .zip e f => r_zip (ev_ok hC e) (ev_ok hC f)
end
end
end FW
/-! FW16: statements: frames that change; readings. -/
namespace FW
open PySem PySem.Spec PyProof.Rows L2

/-! ### frames that change -/
section
variable {G : GC} {z : Zn} {pl : Pl} {ρ : En} {σ : L2.St} {H : Hp} {a : Addr} {o : HO}
theorem hide_upd (h : z.hid a) : hide z (upd H a o) = hide z H := by
  funext b
  unfold hide
  by_cases hb : z.hid b
  · rw [if_pos hb, if_pos hb]
  · rw [if_neg hb, if_neg hb]
    exact upd_ne fun e => hb (e ▸ h)
theorem XSt.putO (h : a ∈ z.O) (w : W G z pl H) : XSt z z H (upd H a o) := by
  refine ⟨rfl, rfl, by rw [hide_upd (.inr (.inl h))]; exact Same.refl _, fun b hb => upd_ne fun e => ?_⟩
  subst e
  exact w.apart _ h hb
theorem XSt.putPl (h : z.pa = some a) (w : W G z pl H) : XSt z z H (upd H a o) := by
  refine ⟨rfl, rfl, by rw [hide_upd (.inr (.inr h))]; exact Same.refl _, fun b hb => upd_ne fun e => ?_⟩
  subst e
  exact (w.papart _ h).1 hb
/-- a list of the frame's own is written -/
theorem ER.put {i : Nat} {ds es : List D} {xs : List V} (h : ER G z ρ pl σ H) (hi : ρ[i]?.getD .no = .own ds) (ha : at_ σ i = some (.ref a)) (r : Reps G z.pa (hide z H) es xs) :
    ER G z (ρ.set i (.own es)) pl σ (upd H a (.lst xs)) := by
  have s := h.slot i
  rw [hi] at s
  obtain ⟨a', xs0, e1, m, e2, r0⟩ := s
  rw [ha] at e1; cases e1
  have hl : i < ρ.length := by
    rcases Nat.lt_or_ge i ρ.length with q | q
    · exact q
    · rw [List.getElem?_eq_none q] at hi; cases hi
  have hd := hide_upd (o := .lst xs) (H := H) (show z.hid a from .inr (.inl m))
  refine ⟨⟨fun b hb => ?_, h.w.apart, h.w.papart, fun b hb => ?_⟩, by simp [h.len], fun j => ?_, fun j k ds1 ds2 b e1 e2 e3 e4 => ?_⟩
  · by_cases e : b = a
    · subst e; exact ⟨_, upd_same⟩
    · rw [upd_ne e]; exact h.w.dom b hb
  · obtain ⟨ys, e, rr⟩ := h.w.pool b hb
    refine ⟨ys, ?_, by rw [hd]; exact rr⟩
    rw [upd_ne (a := a) (b := b) (by intro q; subst q; exact (h.w.papart _ hb).2 m)]; exact e
  · rw [sl_set hl]
    by_cases e : i = j
    · subst e
      rw [if_pos rfl]
      exact ⟨a, xs, ha, m, upd_same, by rw [hd]; exact r⟩
    · rw [if_neg e]
      have s := h.slot j
      cases q : ρ[j]?.getD .no with
      | no => trivial
      | dat d => rw [q] at s; obtain ⟨v, e1, r1⟩ := s; exact ⟨v, e1, by rw [hd]; exact r1⟩
      | own ds' =>
        rw [q] at s
        obtain ⟨b, ys, e1, m', e2', r1⟩ := s
        refine ⟨b, ys, e1, m', ?_, by rw [hd]; exact r1⟩
        rw [upd_ne]
        · exact e2'
        · intro q2
          subst q2
          exact e (h.sep i j ds ds' _ hi q ha e1)
  · rw [sl_set hl] at e1 e2
    have k1 : ∃ ds', ρ[j]?.getD .no = .own ds' := by
      by_cases e : i = j
      · exact ⟨ds, e ▸ hi⟩
      · rw [if_neg e] at e1; exact ⟨_, e1⟩
    have k2 : ∃ ds', ρ[k]?.getD .no = .own ds' := by
      by_cases e : i = k
      · exact ⟨ds, e ▸ hi⟩
      · rw [if_neg e] at e2; exact ⟨_, e2⟩
    obtain ⟨_, k1⟩ := k1
    obtain ⟨_, k2⟩ := k2
    exact h.sep j k _ _ b k1 k2 e3 e4
/-- the pool is written -/
theorem ER.putP {k : Nat} {d : D} {v : V} {xs : List V} (h : ER G z ρ pl σ H) (hp : z.pa = some a) (hx : Reps G z.pa (hide z H) pl xs) (r : Rep G z.pa (hide z H) d v) :
    ER G z ρ (pl.set k d) σ (upd H a (.lst (xs.set k v))) := by
  have hd := hide_upd (o := .lst (xs.set k v)) (H := H) (show z.hid a from .inr (.inr hp))
  refine ⟨⟨fun b hb => ?_, h.w.apart, h.w.papart, fun b hb => ?_⟩, h.len, fun j => ?_, h.sep⟩
  · by_cases e : b = a
    · subst e; exact ⟨_, upd_same⟩
    · rw [upd_ne e]; exact h.w.dom b hb
  · rw [hp] at hb; cases hb
    exact ⟨_, upd_same, by rw [hd]; exact hx.set k r⟩
  · have s := h.slot j
    cases q : ρ[j]?.getD .no with
    | no => trivial
    | dat d => rw [q] at s; obtain ⟨v, e1, r1⟩ := s; exact ⟨v, e1, by rw [hd]; exact r1⟩
    | own ds' =>
      rw [q] at s
      obtain ⟨b, ys, e1, m', e2', r1⟩ := s
      refine ⟨b, ys, e1, m', ?_, by rw [hd]; exact r1⟩
      rw [upd_ne (by intro e; subst e; exact (h.w.papart _ hp).2 m')]
      exact e2'
/-- a new list of the frame's own -/
theorem ER.setOwn {i : Nat} {ds : List D} {xs : List V} (h : ER G z ρ pl σ H) (hn : H a = none) (hi : i < ρ.length) (r : Reps G z.pa (hide z H) ds xs) :
    ER G (z.plus a) (ρ.set i (.own ds)) pl (σ.set i (some (.ref a))) (upd H a (.lst xs)) := by
  have p := h.plus (a := a) (o := .lst xs) hn
  have hd : hide (z.plus a) (upd H a (.lst xs)) = hide z H := hide_plus hn
  have hi' : i < σ.length := by rw [← h.len]; exact hi
  refine ⟨p.w, by simp [h.len], fun j => ?_, fun j k ds1 ds2 b e1 e2 e3 e4 => ?_⟩
  · rw [sl_set hi, at_set hi']
    by_cases e : i = j
    · rw [if_pos e, if_pos e]
      exact ⟨a, xs, rfl, List.mem_cons_self .., upd_same, by rw [hd]; exact r⟩
    · rw [if_neg e, if_neg e]
      exact p.slot j
  · have no : ∀ j ds', ρ[j]?.getD .no = .own ds' → at_ σ j ≠ some (.ref a) := fun j ds' q e => by
      have s := h.slot j
      rw [q] at s
      obtain ⟨b, ys, e1, m', e2', r1⟩ := s
      rw [e] at e1; cases e1
      rw [hn] at e2'; cases e2'
    rw [sl_set hi] at e1 e2
    rw [at_set hi'] at e3 e4
    by_cases k1 : i = j
    · rw [if_pos k1] at e3
      by_cases k2 : i = k
      · exact k1.symm.trans k2
      · rw [if_neg k2] at e2 e4
        cases e3
        exact absurd e4 (no k _ e2)
    · rw [if_neg k1] at e1 e3
      by_cases k2 : i = k
      · rw [if_pos k2] at e4
        cases e4
        exact absurd e3 (no j _ e1)
      · rw [if_neg k2] at e2 e4
        exact h.sep j k ds1 ds2 b e1 e2 e3 e4
theorem XSt.plus {xs : List V} (w : W G z pl H) (hn : H a = none) : XSt z (z.plus a) H (L2.upd H a (.lst xs)) := by
  refine ⟨rfl, rfl, by rw [hide_plus hn]; exact Same.refl _, fun b hb => upd_ne fun e => ?_⟩
  subst e
  obtain ⟨o, e⟩ := w.dom _ (.inl hb)
  rw [hn] at e; cases e
/-- a list of the frame's own becomes data -/
def Zn.minus (z : Zn) (a : Addr) : Zn := ⟨z.pa, z.Z, z.O.filter fun b => b != a⟩
theorem ER.frz {i : Nat} {ds : List D} (h : ER G z ρ pl σ H) (hi : ρ[i]?.getD .no = .own ds) : ∃ z', XSt z z' H H ∧ ER G z' (ρ.set i (.dat (.lst ds))) pl σ H := by
  have s := h.slot i
  rw [hi] at s
  obtain ⟨a, xs, e1, m, e2, r⟩ := s
  have hl : i < ρ.length := by
    rcases Nat.lt_or_ge i ρ.length with q | q
    · exact q
    · rw [List.getElem?_eq_none q] at hi; cases hi
  have sm : Same (hide z H) (hide (z.minus a) H) := Same.of_le fun b hb => by
    rcases hb with hb | hb | hb
    · exact .inl hb
    · exact .inr (.inl (List.mem_filter.mp hb).1)
    · exact .inr (.inr hb)
  have vis : hide (z.minus a) H a = some (.lst xs) := by
    refine hide_some.mpr ⟨?_, e2⟩
    rintro (q | q | q)
    · exact h.w.apart a m q
    · have := (List.mem_filter.mp q).2
      simp at this
    · exact (h.w.papart a q).2 m
  refine ⟨z.minus a, ⟨rfl, rfl, sm, fun _ _ => rfl⟩, ⟨fun b hb => ?_, fun b hb => h.w.apart b (List.mem_filter.mp hb).1, fun b hb => ⟨(h.w.papart b hb).1, fun q => (h.w.papart b hb).2 (List.mem_filter.mp q).1⟩, fun b hb => ?_⟩, by simp [h.len], fun j => ?_, fun j k ds1 ds2 b k1 k2 k3 k4 => ?_⟩
  · rcases hb with hb | hb
    · exact h.w.dom b (.inl hb)
    · exact h.w.dom b (.inr (List.mem_filter.mp hb).1)
  · obtain ⟨ys, e, rr⟩ := h.w.pool b hb
    exact ⟨ys, e, Reps.same sm _ _ rr⟩
  · rw [sl_set hl]
    by_cases e : i = j
    · subst e
      rw [if_pos rfl]
      exact ⟨.ref a, e1, a, xs, rfl, vis, Reps.same sm _ _ r⟩
    · rw [if_neg e]
      have s := h.slot j
      cases q : ρ[j]?.getD .no with
      | no => trivial
      | dat d => rw [q] at s; obtain ⟨v, f1, r1⟩ := s; exact ⟨v, f1, Rep.same sm _ _ r1⟩
      | own ds' =>
        rw [q] at s
        obtain ⟨b, ys, f1, m', f2, r1⟩ := s
        refine ⟨b, ys, f1, List.mem_filter.mpr ⟨m', ?_⟩, f2, Reps.same sm _ _ r1⟩
        have : b ≠ a := fun q2 => by
          subst q2
          exact e (h.sep i j ds ds' _ hi q e1 f1)
        simpa using this
  · rw [sl_set hl] at k1 k2
    by_cases q1 : i = j
    · rw [if_pos q1] at k1; cases k1
    · by_cases q2 : i = k
      · rw [if_pos q2] at k2; cases k2
      · rw [if_neg q1] at k1
        rw [if_neg q2] at k2
        exact h.sep j k ds1 ds2 b k1 k2 k3 k4
end

/-! ### readings -/
def EndOk (G : GC) (z : Zn) (H : Hp) (D : Ends) : Fl × En × Pl → Prop
  | (.nx, ρ, pl) => ∀ z' σ' H', XSt z z' H H' → ER G z' ρ pl σ' H' → D.nx σ' H'
  | (.brk, ρ, pl) => ∀ z' σ' H', XSt z z' H H' → ER G z' ρ pl σ' H' → D.bk σ' H'
  | (.cnt, ρ, pl) => ∀ z' σ' H', XSt z z' H H' → ER G z' ρ pl σ' H' → D.ct σ' H'
  | (.ret d, _, pl) => ∀ z' v H', XSt z z' H H' → W G z' pl H' → RepO G z' H' d v → D.rt v H'
def tX (G : GC) (F : En → Pl → X3) : TS := fun D σ H => ∃ z ρ pl r, ER G z ρ pl σ H ∧ F ρ pl = some r ∧ EndOk G z H D r
section
variable {G : GC} {z z1 : Zn} {H H1 : Hp} {D : Ends} {r : Fl × En × Pl}
theorem EndOk.far (e : XSt z z1 H H1) (h : EndOk G z H D r) : EndOk G z1 H1 D r := by
  obtain ⟨f, ρ, pl⟩ := r
  cases f with
  | nx => exact fun z' σ' H' x er => h z' σ' H' (e.trans x) er
  | brk => exact fun z' σ' H' x er => h z' σ' H' (e.trans x) er
  | cnt => exact fun z' σ' H' x er => h z' σ' H' (e.trans x) er
  | ret d => exact fun z' v H' x w q => h z' v H' (e.trans x) w q
/-- targets of assignments -/
def tTx (G : GC) (t : Tg) : TG := fun v σ H Q => ∃ z ρ pl d r, ER G z ρ pl σ H ∧ Rep G z.pa (hide z H) d v ∧ bindT t d ρ pl = some r ∧ ∀ z' σ' H', XSt z z' H H' → ER G z' r.1 r.2 σ' H' → Q σ' H'
def tTxs (G : GC) (t : Tg) : TGs := fun vs σ H Q => ∃ z ρ pl ds r, ER G z ρ pl σ H ∧ Reps G z.pa (hide z H) ds vs ∧ bindT t (.tup ds) ρ pl = some r ∧ ∀ z' σ' H', XSt z z' H H' → ER G z' r.1 r.2 σ' H' → Q σ' H'
end
theorem ixN_lit {n k : Nat} (h : k < n) : ixN n (k : Int) = some k := by
  unfold ixN
  first
    | (rw [if_pos (by omega)]; simp [h])
    | (simp; omega)
section
variable {X : Cx} {G : GC} {T : Tab} {C : Cf} {N : List Str} {sc : Scope} {fnB : Str → Bool}
theorem pg_subx (c : CxOk X G T C N sc fnB) {i k : Nat} {x : Str} {p1 p2 p3 : Pos} {n : Nat} {j : Int} (h : (nmB N i x && visB sc x && plainN x && decide (j = (k : Int))) = true) : PG X (.Subscript (.Name x p1) (.Constant (.int j) n p2) p3) (tTx G (.sub i k)) := by
  simp only [Bool.and_eq_true, decide_eq_true_eq] at h
  obtain ⟨⟨⟨h1, h2⟩, h3⟩, rfl⟩ := h
  obtain ⟨n1, n2, _⟩ := plainN_ok h3
  refine PG.imp (pg_sub (pe_var (nmB_ok c h1) (visB_ok c h2) n1 n2) pe_int set_list) fun v σ H Q q => ?_
  obtain ⟨z, ρ, pl, d, r, er, rv, e, q⟩ := q
  have s := er.slot i
  unfold bindT at e
  cases hs : ρ[i]?.getD .no with
  | no => rw [hs] at e; cases e
  | dat d' =>
    rw [hs] at e s
    cases d' with
    | pool =>
      have e : (if k < pl.length then some (ρ, pl.set k d) else none) = some r := e
      split at e
      · rename_i hk
        cases e
        obtain ⟨v', e1, a, e2, rfl⟩ := s
        obtain ⟨xs, e3, r3⟩ := er.w.pool a e2
        refine ⟨.ref a, at_some e1, a, xs, k, k, rfl, rfl, e3, ixN_lit (by rw [← r3.length]; exact hk), ?_⟩
        exact q z σ _ (.putPl e2 er.w) (er.putP e2 r3 rv)
      · cases e
    | _ => cases e
  | own ds =>
    rw [hs] at e s
    have e : (if k < ds.length then some (ρ.set i (.own (ds.set k d)), pl) else none) = some r := e
    split at e
    · rename_i hk
      cases e
      obtain ⟨a, xs, e1, m, e3, r3⟩ := s
      refine ⟨.ref a, at_some e1, a, xs, k, k, rfl, rfl, e3, ixN_lit (by rw [← r3.length]; exact hk), ?_⟩
      exact q z σ _ (.putO m er.w) (er.put hs e1 (r3.set k rv))
    · cases e
mutual
theorem pgx_ok (c : CxOk X G T C N sc fnB) : ∀ (t : Tg) (e : Expr), chkT N sc fnB t e = true → PG X e (tTx G t)
  | .nm i, e, h => PG.imp (pg_ok c (.nm i) e rfl h) fun v σ H Q q => by
    obtain ⟨z, ρ, pl, d, ⟨ρ', pl'⟩, er, r, e, q⟩ := q
    exact ⟨z, ρ, pl, d, ρ', pl', er, r, e, fun σ' l k er' ep => q z σ' H (.refl _ _) (ep ▸ er')⟩
  | .sub i k, e, h => by
    cases e with
    | Subscript a b p =>
      cases a with
      | Name x p1 =>
        cases b with
        | Constant kk n p2 =>
          cases kk with
          | int j => exact pg_subx c h
          | _ => cases h
        | _ => cases h
      | _ => cases b <;> cases h
    | _ => cases h
  | .cons t ts, e, h => by
    cases e with
    | Tuple es k p =>
      obtain ⟨h1, h2, h3⟩ := pgxs_ok c (.cons t ts) es k p h
      obtain ⟨n1, n2⟩ := names_of (env := X.env) h2
      refine PG.imp (pg_tup (n := es.length) c.calm h1 n1 n2) fun v σ H Q q => ?_
      obtain ⟨z, ρ, pl, d, r, er, rv, e, q⟩ := q
      cases d with
      | tup ds =>
        obtain ⟨a, vs, rfl, r1, r2⟩ := rv
        refine ⟨a, vs, rfl, by rw [c.K]; exact SqT.same (hide_same z H) r1, ?_, z, ρ, pl, ds, r, er, r2, e, q⟩
        rw [← r2.length]
        exact h3 _ _ _ _ e
      | _ => cases e
    | _ => cases h
  | .nil, e, h => by
    cases e with
    | Tuple es k p =>
      obtain ⟨h1, h2, h3⟩ := pgxs_ok c .nil es k p h
      obtain ⟨n1, n2⟩ := names_of (env := X.env) h2
      refine PG.imp (pg_tup (n := es.length) c.calm h1 n1 n2) fun v σ H Q q => ?_
      obtain ⟨z, ρ, pl, d, r, er, rv, e, q⟩ := q
      cases d with
      | tup ds =>
        obtain ⟨a, vs, rfl, r1, r2⟩ := rv
        refine ⟨a, vs, rfl, by rw [c.K]; exact SqT.same (hide_same z H) r1, ?_, z, ρ, pl, ds, r, er, r2, e, q⟩
        rw [← r2.length]
        exact h3 _ _ _ _ e
      | _ => cases e
    | _ => cases h
theorem pgxs_ok (c : CxOk X G T C N sc fnB) : ∀ (t : Tg) (es : List Expr) (k : Nat) (p : Pos), chkT N sc fnB t (.Tuple es k p) = true →
    PGs X es (tTxs G t) ∧ es.all noStar = true ∧ ∀ ds ρ pl r, bindT t (.tup ds) ρ pl = some r → ds.length = es.length
  | .nm _, es, k, p, h => by cases h
  | .sub _ _, es, k, p, h => by cases h
  | .nil, [], k, p, _ => by
    refine ⟨⟨fun pins s σ H vs us Q I r q => ?_⟩, rfl, fun ds ρ pl r e => ?_⟩
    · obtain ⟨z, ρ, pl, ds, r', er, r2, e, q⟩ := q
      cases ds with
      | nil =>
        cases (show vs = [] from r2)
        cases e
        exact pgs_nil.run pins s σ H _ us Q I r ⟨rfl, q z σ H (.refl _ _) er⟩
      | cons _ _ => cases e
    · cases ds with
      | nil => rfl
      | cons _ _ => cases e
  | .nil, _ :: _, k, p, h => by cases h
  | .cons t ts, [], k, p, h => by cases h
  | .cons t ts, e :: es, k, p, h => by
    obtain ⟨h1, h⟩ := Bool.and_eq_true_iff.mp (show (noStar e && (chkT N sc fnB t e && chkT N sc fnB ts (.Tuple es k p))) = true from h)
    obtain ⟨h2, h3⟩ := Bool.and_eq_true_iff.mp h
    have g1 := pgx_ok c t e h2
    obtain ⟨g2, g3, g4⟩ := pgxs_ok c ts es k p h3
    refine ⟨⟨fun pins s σ H vs us Q I r q => ?_⟩, by rw [List.all_cons, h1, g3]; rfl, fun ds ρ pl r e => ?_⟩
    · refine (pgs_cons g1 g2 (by rw [assign_cons h1]; rfl)).run pins s σ H vs us Q I r ?_
      obtain ⟨z, ρ, pl, ds, r', er, r2, e, q⟩ := q
      cases ds with
      | nil => cases e
      | cons d ds =>
        obtain ⟨v, vr, rfl, r3, r4⟩ := r2
        obtain ⟨⟨ρ1, pl1⟩, e1, e2⟩ := Option.bind_eq_some_iff.mp (show (bindT t d ρ pl).bind (fun r => bindT ts (.tup ds) r.1 r.2) = some r' from e)
        refine ⟨v, vr, rfl, z, ρ, pl, d, _, er, r3, e1, fun z1 σ1 H1 x1 er1 => ?_⟩
        refine ⟨z1, ρ1, pl1, ds, r', er1, by rw [x1.pa]; exact Reps.same x1.same _ _ r4, e2, fun z2 σ2 H2 x2 er2 => ?_⟩
        exact q z2 σ2 H2 (x1.trans x2) er2
    · cases ds with
      | nil => cases e
      | cons d ds =>
        obtain ⟨⟨ρ1, pl1⟩, e1, e2⟩ := Option.bind_eq_some_iff.mp (show (bindT t d ρ pl).bind (fun r => bindT ts (.tup ds) r.1 r.2) = some r from e)
        simp [g4 ds ρ1 pl1 r e2]
end
end
end FW
/-! FW17: statements keep what the evaluator says. -/
namespace FW
open PySem PySem.Spec PyProof.Rows L2

theorem ps_imp {X : Cx} {st : Stmt} {t u : TS} (h : PS X st t) (k : ∀ D σ H, u D σ H → t D σ H) : PS X st u := ⟨fun pins s σ H D I q => h.run pins s σ H D I (k _ _ _ q)⟩
theorem pss_imp {X : Cx} {st : List Stmt} {t u : TS} (h : PSs X st t) (k : ∀ D σ H, u D σ H → t D σ H) : PSs X st u := ⟨fun pins s σ H D I q => h.run pins s σ H D I (k _ _ _ q)⟩
section
variable {X : Cx} {G : GC} {T : Tab} {C : Cf} {N : List Str} {sc : Scope} {fnB : Str → Bool} {e e2 tg : Expr} {F F2 : En → Pl → M D} {pos : Pos} {st : Stmt} {sts : List Stmt}
theorem ps_bot : PS X st (tX G fun _ _ => none) := ⟨fun pins s σ H D I q => by obtain ⟨z, ρ, pl, r, er, e, q⟩ := q; cases e⟩
theorem pss_bot {F : En → Pl → X3} (h : ∀ ρ p, F ρ p = none) : PSs X sts (tX G F) := ⟨fun pins s σ H D I q => by obtain ⟨z, ρ, pl, r, er, e, q⟩ := q; rw [h] at e; cases e⟩
theorem st_pass : PS X (.Pass pos) (tX G fun ρ p => some (.nx, ρ, p)) := ps_imp ps_pass fun D σ H q => by
  obtain ⟨z, ρ, pl, r, er, e, q⟩ := q
  cases e
  exact q z σ H (.refl _ _) er
theorem st_brk : PS X (.Break pos) (tX G fun ρ p => some (.brk, ρ, p)) := ps_imp ps_break fun D σ H q => by
  obtain ⟨z, ρ, pl, r, er, e, q⟩ := q
  cases e
  exact q z σ H (.refl _ _) er
theorem st_cnt : PS X (.Continue pos) (tX G fun ρ p => some (.cnt, ρ, p)) := ps_imp ps_continue fun D σ H q => by
  obtain ⟨z, ρ, pl, r, er, e, q⟩ := q
  cases e
  exact q z σ H (.refl _ _) er
theorem st_retn : PS X (.Return none pos) (tX G fun ρ p => some (.ret .non, ρ, p)) := ps_imp ps_retN fun D σ H q => by
  obtain ⟨z, ρ, pl, r, er, e, q⟩ := q
  cases e
  exact q z .non H (.refl _ _) er.w (.inl rfl)
theorem st_ret (h : PE X e (tO G F)) : PS X (.Return (some e) pos) (tX G fun ρ p => (F ρ p).bind fun x => some (.ret x.1, ρ, x.2)) := ps_imp (ps_ret h) fun D σ H q => by
  obtain ⟨z, ρ, pl, r, er, e, q⟩ := q
  obtain ⟨⟨x, p1⟩, e1, e2⟩ := Option.bind_eq_some_iff.mp e
  cases e2
  exact ⟨z, ρ, pl, x, p1, er, e1, fun v H' s w r => q z v H' s.x w r⟩
theorem st_exp (h : PE X e (tE G F)) (hs : swapsWith e none pos.line X.env = pure false) : PS X (.Expr e pos) (tX G fun ρ p => (F ρ p).bind fun x => some (.nx, ρ, x.2)) := ps_imp (ps_expr h hs) fun D σ H q => by
  obtain ⟨z, ρ, pl, r, er, e, q⟩ := q
  obtain ⟨⟨x, p1⟩, e1, e2⟩ := Option.bind_eq_some_iff.mp e
  cases e2
  exact ⟨z, ρ, pl, x, p1, er, e1, fun v H' s w r => q z σ H' s.x (er.stp s w)⟩
theorem st_asg {t : Tg} (h : PE X e (tE G F)) (hg : PG X tg (tTx G t)) (hs : swapsWithSole [tg] e pos.line X.env = pure false) (hw : swappedStores [tg] e X.env = pure none) (hn : noStar tg = true) :
    PS X (.Assign [tg] e pos) (tX G fun ρ p => (F ρ p).bind fun x => (bindT t x.1 ρ x.2).bind fun r => some (.nx, r)) := ps_imp (ps_asg h hg hs hw (by rw [assign_cons hn]; rfl)) fun D σ H q => by
  obtain ⟨z, ρ, pl, r, er, e, q⟩ := q
  obtain ⟨⟨x, p1⟩, e1, e2⟩ := Option.bind_eq_some_iff.mp e
  obtain ⟨r', e3, e4⟩ := Option.bind_eq_some_iff.mp e2
  cases e4
  refine ⟨z, ρ, pl, x, p1, er, e1, fun v H' s w rv => ⟨z, ρ, p1, x, r', er.stp s w, rv, e3, fun z' σ' H2 x' er' => ?_⟩⟩
  exact q z' σ' H2 (s.x.trans x') er'
/-- subscripts as targets -/
theorem assign_sub {o i : Expr} {env : Env} (h : noSlice i = true) (v : Value) : assign (.Subscript o i pos) env v = (do
      let ov ← holding [v] (eval o env)
      let iv ← holding [v, ov] (eval i env)
      standAt pos
      holding [v, ov, iv] (setItem ov iv v)
      release [v, ov, iv] []) := by
  cases i <;> first | rfl | cases h
theorem st_setix (c : CxOk X G T C N sc fnB) {i : Nat} {x : Str} {p1 p3 : Pos} {Fk : En → Pl → M D} (h : PE X e (tE G F)) (hk : PE X e2 (tE G Fk)) (hx : (nmB N i x && (visB sc x && plainN x)) = true) (hn : noSlice e2 = true)
    (hs : swapsWithSole [.Subscript (.Name x p1) e2 p3] e pos.line X.env = pure false) :
    PS X (.Assign [.Subscript (.Name x p1) e2 p3] e pos) (tX G fun ρ p => (F ρ p).bind fun x => (Fk ρ x.2).bind fun y => match ρ[i]?.getD .no, y.1 with
      | .own ds, .int k => (ixN ds.length k).bind fun j => (setS ρ i (.own (ds.set j x.1))).bind fun ρ => some (.nx, ρ, y.2)
      | .dat .pool, .int k => (ixN y.2.length k).bind fun j => some (.nx, ρ, y.2.set j x.1)
      | _, _ => none) := by
  obtain ⟨h1, h2⟩ := Bool.and_eq_true_iff.mp hx
  obtain ⟨h2, h3⟩ := Bool.and_eq_true_iff.mp h2
  obtain ⟨n1, n2, _⟩ := plainN_ok h3
  refine ps_imp (ps_asg h (pg_sub (pe_var (nmB_ok c h1) (visB_ok c h2) n1 n2) hk set_list (assign_sub hn)) hs rfl rfl) fun D σ H q => ?_
  obtain ⟨z, ρ, pl, r, er, e, q⟩ := q
  obtain ⟨⟨x, pa⟩, e1, e2⟩ := Option.bind_eq_some_iff.mp e
  obtain ⟨⟨y, pb⟩, e3, e4⟩ := Option.bind_eq_some_iff.mp e2
  refine ⟨z, ρ, pl, x, pa, er, e1, fun v H1 s1 w1 rv => ?_⟩
  have er1 := er.stp s1 w1
  have s := er1.slot i
  cases hs2 : ρ[i]?.getD .no with
  | no => rw [hs2] at e4; cases e4
  | dat d' =>
    rw [hs2] at e4 s
    cases d' with
    | pool =>
      cases y with
      | int k =>
        obtain ⟨j, e5, e6⟩ := Option.bind_eq_some_iff.mp (show (ixN pb.length k).bind (fun j => some (Fl.nx, ρ, pb.set j x)) = some r from e4)
        cases e6
        obtain ⟨v', f1, a, f2, rfl⟩ := s
        refine ⟨.ref a, at_some f1, z, ρ, pa, .int k, pb, er1, e3, fun u H2 s2 w2 ru => ?_⟩
        cases (show u = V.int k from ru)
        have er2 := er1.stp s2 w2
        obtain ⟨xs, f3, r3⟩ := w2.pool a f2
        refine ⟨a, xs, k, j, rfl, rfl, f3, by rw [← r3.length]; exact e5, ?_⟩
        exact q z σ _ ((s1.trans s2).x.trans (.putPl f2 w2)) (er2.putP f2 r3 (Rep.same s2.same _ _ rv))
      | _ => cases e4
    | _ => cases y <;> cases e4
  | own ds =>
    rw [hs2] at e4 s
    cases y with
    | int k =>
      obtain ⟨j, e5, e6⟩ := Option.bind_eq_some_iff.mp (show (ixN ds.length k).bind (fun j => (setS ρ i (.own (ds.set j x))).bind fun ρ => some (Fl.nx, ρ, pb)) = some r from e4)
      obtain ⟨ρ', e7, e8⟩ := Option.bind_eq_some_iff.mp e6
      cases e8
      unfold setS at e7
      split at e7
      · cases e7
        obtain ⟨a, xs, f1, m, f3, r3⟩ := s
        refine ⟨.ref a, at_some f1, z, ρ, pa, .int k, pb, er1, e3, fun u H2 s2 w2 ru => ?_⟩
        cases (show u = V.int k from ru)
        have er2 := er1.stp s2 w2
        refine ⟨a, xs, k, j, rfl, rfl, by rw [s2.own a (.inr m)]; exact f3, by rw [← r3.length]; exact e5, ?_⟩
        exact q z σ _ ((s1.trans s2).x.trans (.putO m w2)) (er2.put hs2 f1 ((Reps.same s2.same _ _ r3).set j (Rep.same s2.same _ _ rv)))
      · cases e7
    | _ => cases e4
/-! ### lists of the frame's own -/
theorem st_own (c : CxOk X G T C N sc fnB) {i : Nat} {x : Str} {p1 p2 : Pos} {es : List Expr} {FL : En → Pl → M (List D)} (h : PA X es (tAs G FL)) (hx : nmB N i x = true) (hl : Loc X.env.scope x ∧ (X.fn x = true ∨ X.env.scope.names.lookup x = some .local)) :
    PS X (.Assign [.Name x p1] (.List es p2) pos) (tX G fun ρ p => (FL ρ p).bind fun x => if x.1.length ≤ 1000000 then (setS ρ i (.own x.1)).bind fun ρ => some (.nx, ρ, x.2) else none) := by
  refine ps_imp (ps_set (by rw [c.names]; exact c.nd) (nmB_ok c hx) hl.1 (pe_lst h) rfl hl.2) fun D σ H q => ?_
  obtain ⟨z, ρ, pl, r, er, e, q⟩ := q
  obtain ⟨⟨x, pa⟩, e1, e2⟩ := Option.bind_eq_some_iff.mp e
  split at e2
  · rename_i hlen
    obtain ⟨ρ', e3, e4⟩ := Option.bind_eq_some_iff.mp e2
    cases e4
    unfold setS at e3
    split at e3
    · rename_i hi
      cases e3
      refine ⟨z, ρ, pl, x, pa, er, e1, fun vs H1 s1 w1 r1 => ⟨by rw [← r1.length]; exact line_ok hlen, fun a ha => ?_⟩⟩
      exact q (z.plus a) _ _ (s1.x.trans (.plus w1 ha)) ((er.stp s1 w1).setOwn ha hi r1)
    · cases e3
  · cases e2
theorem st_app (c : CxOk X G T C N sc fnB) {i : Nat} {x : Str} {p1 apos cpos : Pos} (h : PE X e (tE G F)) (hx : (nmB N i x && (visB sc x && plainN x)) = true) (hs : noStar e = true) (hl : (apos.endLine == cpos.line) = true) :
    PS X (.Expr (.Call (.Attribute (.Name x p1) "append" apos) [e] [] cpos) pos) (tX G fun ρ p => (F ρ p).bind fun x => match ρ[i]?.getD .no with
      | .own ds => if ds.length ≤ 1000000 then (setS ρ i (.own (ds ++ [x.1]))).bind fun ρ => some (.nx, ρ, x.2) else none
      | _ => none) := by
  obtain ⟨h1, h2⟩ := Bool.and_eq_true_iff.mp hx
  obtain ⟨h2, h3⟩ := Bool.and_eq_true_iff.mp h2
  obtain ⟨n1, n2, _⟩ := plainN_ok h3
  refine ps_imp (ps_expr (pe_bm PySem.F.plainAttrs_list PySem.F.slot_list_append PySem.F.type_list_append mt_append (pe_var (nmB_ok c h1) (visB_ok c h2) n1 n2) (pa_cons h pa_nil (star_cons hs)) rfl (by rw [star_cons hs]; rfl) hl (star_cons hs) rfl) rfl) fun D σ H q => ?_
  obtain ⟨z, ρ, pl, r, er, e, q⟩ := q
  obtain ⟨⟨x, pa⟩, e1, e2⟩ := Option.bind_eq_some_iff.mp e
  cases hs2 : ρ[i]?.getD .no with
  | no => rw [hs2] at e2; cases e2
  | dat d' => rw [hs2] at e2; cases e2
  | own ds =>
    rw [hs2] at e2
    have e2 : (if ds.length ≤ 1000000 then (setS ρ i (.own (ds ++ [x]))).bind (fun ρ => some (Fl.nx, ρ, pa)) else none) = some r := e2
    split at e2
    · rename_i hlen
      obtain ⟨ρ', e3, e4⟩ := Option.bind_eq_some_iff.mp e2
      cases e4
      unfold setS at e3
      split at e3
      · cases e3
        have s := er.slot i
        rw [hs2] at s
        obtain ⟨a, xs, f1, m, f3, r3⟩ := s
        refine ⟨.ref a, at_some f1, .inl ⟨rfl, xs, SqL.of f3⟩, z, ρ, pl, x, pa, er, e1, fun v H1 s1 w1 rv => ?_⟩
        have er1 := er.stp s1 w1
        refine ⟨a, xs, v, rfl, rfl, by rw [s1.own a (.inr m)]; exact f3, by rw [← r3.length, sizeLine_eq]; exact Nat.lt_of_le_of_lt hlen (by decide), ?_⟩
        exact q z σ _ (s1.x.trans (.putO m w1)) (er1.put hs2 f1 ((Reps.same s1.same _ _ r3).append (.cons rv .nil)))
      · cases e3
    · cases e2
theorem st_ext (c : CxOk X G T C N sc fnB) {i : Nat} {x : Str} {p1 apos cpos : Pos} (h : PE X e (tE G F)) (hx : (nmB N i x && (visB sc x && plainN x)) = true) (hs : noStar e = true) (hl : (apos.endLine == cpos.line) = true) :
    PS X (.Expr (.Call (.Attribute (.Name x p1) "extend" apos) [e] [] cpos) pos) (tX G fun ρ p => (F ρ p).bind fun x => match ρ[i]?.getD .no, x.1 with
      | .own ds, .lst es => if ds.length + es.length ≤ 1000000 then (setS ρ i (.own (ds ++ es))).bind fun ρ => some (.nx, ρ, x.2) else none
      | _, _ => none) := by
  obtain ⟨h1, h2⟩ := Bool.and_eq_true_iff.mp hx
  obtain ⟨h2, h3⟩ := Bool.and_eq_true_iff.mp h2
  obtain ⟨n1, n2, _⟩ := plainN_ok h3
  refine ps_imp (ps_expr (pe_bm PySem.F.plainAttrs_list PySem.F.slot_list_extend PySem.F.type_list_extend mt_extend (pe_var (nmB_ok c h1) (visB_ok c h2) n1 n2) (pa_cons h pa_nil (star_cons hs)) rfl (by rw [star_cons hs]; rfl) hl (star_cons hs) rfl) rfl) fun D σ H q => ?_
  obtain ⟨z, ρ, pl, r, er, e, q⟩ := q
  obtain ⟨⟨x, pa⟩, e1, e2⟩ := Option.bind_eq_some_iff.mp e
  cases hs2 : ρ[i]?.getD .no with
  | no => rw [hs2] at e2; cases e2
  | dat d' => rw [hs2] at e2; cases e2
  | own ds =>
    rw [hs2] at e2
    cases x with
    | lst es =>
      have e2 : (if ds.length + es.length ≤ 1000000 then (setS ρ i (.own (ds ++ es))).bind (fun ρ => some (Fl.nx, ρ, pa)) else none) = some r := e2
      split at e2
      · rename_i hlen
        obtain ⟨ρ', e3, e4⟩ := Option.bind_eq_some_iff.mp e2
        cases e4
        unfold setS at e3
        split at e3
        · cases e3
          have s := er.slot i
          rw [hs2] at s
          obtain ⟨a, xs, f1, m, f3, r3⟩ := s
          refine ⟨.ref a, at_some f1, .inl ⟨rfl, xs, SqL.of f3⟩, z, ρ, pl, _, pa, er, e1, fun v H1 s1 w1 rv => ?_⟩
          have er1 := er.stp s1 w1
          obtain ⟨b, ys, rfl, g1, g2⟩ := rv
          refine ⟨a, b, xs, ys, rfl, rfl, by rw [s1.own a (.inr m)]; exact f3, (hide_some.mp g1).2, by rw [← r3.length, ← g2.length]; exact line_ok hlen, ?_⟩
          exact q z σ _ (s1.x.trans (.putO m w1)) (er1.put hs2 f1 ((Reps.same s1.same _ _ r3).append g2))
        · cases e3
      · cases e2
    | _ => cases e2
end
end FW
/-! FW18: statements, further; the checks; suites. -/
namespace FW
open PySem PySem.Spec PyProof.Rows L2

/-! ### what a store's order asks -/
def swB (sc scope : Scope) (y : Str) (py pos : Pos) : Bool := sc.names.lookup y == some .local && py.line == pos.line && !(scope.names.any fun (n, k) => n == y && (k == .local || k == .cell))
theorem sw_eq {elt : Expr} {gs : List Comprehension} {scope : Scope} {pos py : Pos} {y : Str} {l : Nat} {env : Env} (hk : env.scope.kind = .function) :
    swapsWith (.ListComp elt gs scope pos) (some (.Name y py)) l env = pure (swB env.scope scope y py pos) := by
  have hb : env.blockKind = .function := by unfold Env.blockKind; rw [hk]; rfl
  unfold swapsWith
  show (pure (env.blockKind == .function && env.kindOf y == some .local && py.line == pos.line && !(scope.names.any fun (n, k) => n == y && (k == .local || k == .cell))) : Sem Bool) = _
  rw [hb]
  rfl
def parB (sc : Scope) (x y : Str) (px py : Pos) (a b : Expr) : Bool :=
  sc.names.lookup x == some .local && (sc.names.lookup y == some .local && (px.line == py.line && (!(x == y) && (noStar a && (noStar b && (!([a, b].all (foldedForSure 8)) && !([a, b].all (constantsAlone 8))))))))
theorem par_eq {x y : Str} {px py pt pt2 : Pos} {kt k2 : _} {a b : Expr} {env : Env} (hk : env.scope.kind = .function) (h : parB env.scope x y px py a b = true) :
    swappedStores [.Tuple [.Name x px, .Name y py] kt pt] (.Tuple [a, b] k2 pt2) env = pure (some [x, y]) := by
  have hb : env.blockKind = .function := by unfold Env.blockKind; rw [hk]; rfl
  unfold parB at h
  simp only [Bool.and_eq_true, Bool.not_eq_true'] at h
  obtain ⟨h1, h2, h3, h4, h5, h6, h7, h8⟩ := h
  have sa : ∀ {e : Expr}, noStar e = true → (match e with | .Starred .. => true | _ => false) = false := fun {e} h => by
    cases e <;> first | rfl | cases h
  have kx : env.kindOf x = some .local := by show env.scope.names.lookup x = _; simpa using h1
  have ky : env.kindOf y = some .local := by show env.scope.names.lookup y = _; simpa using h2
  have hl : px.line = py.line := by simpa using h3
  have hne : x ≠ y := by simpa using h4
  unfold swappedStores
  simp only [List.length_cons, List.length_nil, List.any_cons, List.any_nil, hb, sa h5, sa h6, List.filterMap_cons, List.filterMap_nil, List.head?_cons, Option.map_some, Option.getD_some, Expr.pos, kx, ky, hl, h7, h8]
  simp [List.eraseDups_cons, hne, Ne.symm hne]
  intro h
  exfalso
  rcases h with h | h
  · cases a <;> first | (cases h5; done) | (cases h; done)
  · cases b <;> first | (cases h6; done) | (cases h; done)
section
variable {X : Cx} {G : GC} {T : Tab} {C : Cf} {N : List Str} {sc : Scope} {fnB : Str → Bool} {e e2 tg : Expr} {F F2 : En → Pl → M D} {pos : Pos} {st : Stmt} {sts : List Stmt}
theorem st_setLc (c : CxOk X G T C N sc fnB) {elt tg iter : Expr} {ifs : List Expr} {scope : Scope} {vs : List Nat} {t : Tg} {Fs : En → Pl → M (List D)} {Fc Fe : En → Pl → M D} {i : Nat} {y : Str} {py lpos : Pos} (hi : PI X tg iter (tI true G Fs)) (ok : blkC N sc scope (ownOf N vs) = true) (hin : tgIn vs t = true) (hs : noSet iter = true)
    (hg : ∀ s H C0 cl fp, PG (X.blk s H scope (compEnvC scope cl C0 X.env) fp) tg (tTg G t)) (ht : ∀ s H C0 cl fp, PTs (X.blk s H scope (compEnvC scope cl C0 X.env) fp) ifs (tT G Fc)) (he : ∀ s H C0 cl fp, PE (X.blk s H scope (compEnvC scope cl C0 X.env) fp) elt (tE G Fe))
    (hx : nmB N i y = true) (hyl : X.env.scope.names.lookup y = some .local) (hsw : swapsWith (.ListComp elt [⟨tg, iter, ifs, 0⟩] scope lpos) (some (.Name y py)) pos.line X.env = pure true) :
    PS X (.Assign [.Name y py] (.ListComp elt [⟨tg, iter, ifs, 0⟩] scope lpos) pos) (tX G fun ρ p => (lcE t vs Fs Fc Fe ρ p).bind fun x => (bindT (.nm i) x.1 ρ x.2).bind fun r => some (.nx, r)) := by
  have ok2 : BlkOk X.N X.env.scope scope (ownOf N vs) := by
    rw [c.names, c.sc]
    exact blkOk_by ok
  refine ps_imp (ps_setLc c.calm (by rw [c.names]; exact c.nd) (nmB_ok c hx) hyl hsw hi ok2 hg ht he (fun v => folded_of hs _ v)) fun D σ H q => ?_
  show tLc _ _ _ _ _ σ H fun x H1 => D.nx (σ.set i (some x)) H1
  rw [own_ix]
  refine lc_read hin (tNew_of lcE_lst ?_)
  obtain ⟨z, ρ, pl, r, er, e, q⟩ := q
  obtain ⟨⟨x, p1⟩, e1, e2⟩ := Option.bind_eq_some_iff.mp e
  obtain ⟨r', e3, e4⟩ := Option.bind_eq_some_iff.mp e2
  cases e4
  have e3 : (if i < ρ.length then some (ρ.set i (.dat x), p1) else none) = some r' := e3
  split at e3
  · rename_i hl
    cases e3
    exact ⟨z, ρ, pl, x, p1, er, e1, fun v H' s w rv => q z _ H' s.x ((er.stp s w).set hl rv)⟩
  · cases e3
theorem st_par (c : CxOk X G T C N sc fnB) {i j : Nat} {x y : Str} {px py pt pt2 : Pos} {kt k2 : _} (hf : sc.kind = .function) (ha : PE X e (tE G F)) (hb : PE X e2 (tE G F2)) (hx : nmB N i x = true) (hy : nmB N j y = true) (hij : i ≠ j) (hp : parB sc x y px py e e2 = true) :
    PS X (.Assign [.Tuple [.Name x px, .Name y py] kt pt] (.Tuple [e, e2] k2 pt2) pos) (tX G fun ρ p => (F ρ p).bind fun x => (F2 ρ x.2).bind fun y => (setS ρ i (.dat x.1)).bind fun ρ => (setS ρ j (.dat y.1)).bind fun ρ => some (.nx, ρ, y.2)) := by
  have hp' := hp
  unfold parB at hp'
  simp only [Bool.and_eq_true, Bool.not_eq_true'] at hp'
  obtain ⟨h1, h2, h3, h4, h5, h6, h7, h8⟩ := hp'
  refine ps_imp (ps_par c.calm (by rw [c.names]; exact c.nd) (nmB_ok c hx) (nmB_ok c hy) hij (by rw [c.sc]; simpa using h1) (by rw [c.sc]; simpa using h2) (pa_cons ha (pa_cons hb pa_nil (star_cons h6)) (star_cons h5))
    (par_eq (by rw [c.sc]; exact hf) (by rw [c.sc]; exact hp)) rfl) fun D σ H q => ?_
  obtain ⟨z, ρ, pl, r, er, e, q⟩ := q
  obtain ⟨⟨x, p1⟩, e1, e2⟩ := Option.bind_eq_some_iff.mp e
  obtain ⟨⟨y, p2⟩, e3, e4⟩ := Option.bind_eq_some_iff.mp e2
  obtain ⟨ρ1, e5, e6⟩ := Option.bind_eq_some_iff.mp e4
  obtain ⟨ρ2, e7, e8⟩ := Option.bind_eq_some_iff.mp e6
  cases e8
  unfold setS at e5 e7
  split at e5
  · rename_i hl
    cases e5
    split at e7
    · rename_i hl2
      cases e7
      refine ⟨z, ρ, pl, x, p1, er, e1, fun v H1 s1 w1 rv => ⟨z, ρ, p1, y, p2, er.stp s1 w1, e3, fun u H2 s2 w2 ru => ⟨v, u, rfl, ?_⟩⟩⟩
      exact q z _ H2 (s1.trans s2).x ((((er.stp s1 w1).stp s2 w2).set hl (Rep.same s2.same _ _ rv)).set hl2 ru)
    · cases e7
  · cases e5
theorem st_paro (c : CxOk X G T C N sc fnB) {i j : Nat} {x y : Str} {px py pt pt2 p3 : Pos} {kt k2 : _} (hf : sc.kind = .function) (ha : PE X e (tE G F)) (hx : nmB N i x = true) (hy : nmB N j y = true) (hij : i ≠ j) (hp : parB sc x y px py e (.List [] p3) = true) :
    PS X (.Assign [.Tuple [.Name x px, .Name y py] kt pt] (.Tuple [e, .List [] p3] k2 pt2) pos) (tX G fun ρ p => (F ρ p).bind fun x => (setS ρ i (.dat x.1)).bind fun ρ => (setS ρ j (.own [])).bind fun ρ => some (.nx, ρ, x.2)) := by
  have hp' := hp
  unfold parB at hp'
  simp only [Bool.and_eq_true, Bool.not_eq_true'] at hp'
  obtain ⟨h1, h2, h3, h4, h5, h6, h7, h8⟩ := hp'
  refine ps_imp (ps_par c.calm (by rw [c.names]; exact c.nd) (nmB_ok c hx) (nmB_ok c hy) hij (by rw [c.sc]; simpa using h1) (by rw [c.sc]; simpa using h2) (pa_cons ha (pa_cons (pe_lst pa_nil) pa_nil (star_cons h6)) (star_cons h5))
    (par_eq (by rw [c.sc]; exact hf) (by rw [c.sc]; exact hp)) rfl) fun D σ H q => ?_
  obtain ⟨z, ρ, pl, r, er, e, q⟩ := q
  obtain ⟨⟨x, p1⟩, e1, e2⟩ := Option.bind_eq_some_iff.mp e
  obtain ⟨ρ1, e5, e6⟩ := Option.bind_eq_some_iff.mp e2
  obtain ⟨ρ2, e7, e8⟩ := Option.bind_eq_some_iff.mp e6
  cases e8
  unfold setS at e5 e7
  split at e5
  · rename_i hl
    cases e5
    split at e7
    · rename_i hl2
      cases e7
      refine ⟨z, ρ, pl, x, p1, er, e1, fun v H1 s1 w1 rv => ⟨Nat.zero_le _, fun a ha => ⟨v, .ref a, rfl, ?_⟩⟩⟩
      exact q (z.plus a) _ _ (s1.x.trans (.plus w1 ha)) (((er.stp s1 w1).set hl rv).setOwn ha hl2 .nil)
    · cases e7
  · cases e5
/-! ### suites -/
theorem sts_nil : PSs X [] (tX G fun ρ p => some (.nx, ρ, p)) := pss_imp pss_nil fun D σ H q => by
  obtain ⟨z, ρ, pl, r, er, e, q⟩ := q
  cases e
  exact q z σ H (.refl _ _) er
variable {S S2 : En → Pl → X3}
theorem sts_cons (h1 : PS X st (tX G S)) (h2 : PSs X sts (tX G S2)) : PSs X (st :: sts) (tX G fun ρ p => (S ρ p).bind fun x => match x.1 with
    | .nx => S2 x.2.1 x.2.2
    | _ => some x) := pss_imp (pss_cons h1 h2) fun D σ H q => by
  obtain ⟨z, ρ, pl, r, er, e, q⟩ := q
  obtain ⟨⟨f, ρ1, p1⟩, e1, e2⟩ := Option.bind_eq_some_iff.mp e
  refine ⟨z, ρ, pl, _, er, e1, ?_⟩
  cases f with
  | nx => exact fun z' σ' H' x er' => ⟨z', ρ1, p1, r, er', e2, q.far x⟩
  | brk => cases e2; exact q
  | cnt => cases e2; exact q
  | ret d => cases e2; exact q
theorem sts_frz {i : Nat} (h : PSs X sts (tX G S)) : PSs X sts (tX G fun ρ p => (match ρ[i]?.getD .no with
    | .own ds => (setS ρ i (.dat (.lst ds))).bind fun ρ => some (Fl.nx, ρ, p)
    | _ => none).bind fun x => match x.1 with
    | .nx => S x.2.1 x.2.2
    | _ => some x) := pss_imp h fun D σ H q => by
  obtain ⟨z, ρ, pl, r, er, e, q⟩ := q
  obtain ⟨⟨f, ρ1, p1⟩, e1, e2⟩ := Option.bind_eq_some_iff.mp e
  cases hs2 : ρ[i]?.getD .no with
  | no => rw [hs2] at e1; cases e1
  | dat d' => rw [hs2] at e1; cases e1
  | own ds =>
    rw [hs2] at e1
    obtain ⟨ρ', e3, e4⟩ := Option.bind_eq_some_iff.mp e1
    cases e4
    unfold setS at e3
    split at e3
    · cases e3
      obtain ⟨z', x, er'⟩ := er.frz hs2
      exact ⟨z', _, pl, r, er', e2, q.far x⟩
    · cases e3
theorem st_if {a b : List Stmt} (hc : PT X e (tT G F)) (ha : PSs X a (tX G S)) (hb : PSs X b (tX G S2)) : PS X (.If e a b pos) (tX G fun ρ p => (F ρ p).bind fun x => (truD x.1).bind fun t => match t with
    | true => S ρ x.2
    | false => S2 ρ x.2) := ps_imp (ps_if hc ha hb) fun D σ H q => by
  obtain ⟨z, ρ, pl, r, er, e, q⟩ := q
  obtain ⟨⟨x, p1⟩, e1, e2⟩ := Option.bind_eq_some_iff.mp e
  obtain ⟨t, e3, e4⟩ := Option.bind_eq_some_iff.mp e2
  refine ⟨z, ρ, pl, x, p1, t, er, e1, e3, fun H1 s1 w1 => ?_⟩
  cases t with
  | true => exact iteT ⟨z, ρ, p1, r, er.stp s1 w1, e4, q.far s1.x⟩
  | false => exact iteF ⟨z, ρ, p1, r, er.stp s1 w1, e4, q.far s1.x⟩
theorem st_while {a : List Stmt} (hp : PassesOwn (model X.prog X.w) X.A X.env X.xe) (hc : PT X e (tT G F)) (ha : PSs X a (tX G S)) (n : Nat) : PS X (.While e a [] pos)
    (tX G fun ρ p => whileF (fun ρ p => (F ρ p).bind fun x => (truD x.1).bind fun t => some (t, x.2)) S n ρ p) := ps_imp (ps_while hp hc ha) fun D σ H q => by
  obtain ⟨z, ρ, pl, r, er, e, q⟩ := q
  refine ⟨fun m σ' H' => ∃ z' ρ' pl', XSt z z' H H' ∧ ER G z' ρ' pl' σ' H' ∧ whileF (fun ρ p => (F ρ p).bind fun x => (truD x.1).bind fun t => some (t, x.2)) S m ρ' pl' = some r, ⟨n, z, ρ, pl, .refl _ _, er, e⟩, fun m σ1 H1 w => ?_⟩
  obtain ⟨z1, ρ1, pl1, x1, er1, e1⟩ := w
  cases m with
  | zero => cases e1
  | succ m =>
    obtain ⟨⟨t, p2⟩, e2, e3⟩ := Option.bind_eq_some_iff.mp (show (((F ρ1 pl1).bind fun x => (truD x.1).bind fun t => some (t, x.2)).bind fun t => match t.1 with
      | false => some (Fl.nx, ρ1, t.2)
      | true => (S ρ1 t.2).bind fun r => match r.1 with
        | .nx => whileF _ S m r.2.1 r.2.2
        | .cnt => whileF _ S m r.2.1 r.2.2
        | .brk => some (.nx, r.2)
        | .ret d => some (.ret d, r.2)) = some r from e1)
    obtain ⟨⟨d, p3⟩, e4, e5⟩ := Option.bind_eq_some_iff.mp e2
    obtain ⟨t', e6, e7⟩ := Option.bind_eq_some_iff.mp e5
    cases e7
    refine ⟨z1, ρ1, pl1, d, _, t, er1, e4, e6, fun H2 s2 w2 => ?_⟩
    have er2 := er1.stp s2 w2
    have x2 := x1.trans s2.x
    cases t with
    | false =>
      cases e3
      exact iteF (q z1 σ1 H2 x2 er2)
    | true =>
      obtain ⟨⟨f, ρ3, p3'⟩, e8, e9⟩ := Option.bind_eq_some_iff.mp e3
      refine iteT ⟨fun σ' H' => ∃ z' ρ' pl', XSt z z' H H' ∧ ER G z' ρ' pl' σ' H' ∧ whileF (fun ρ p => (F ρ p).bind fun x => (truD x.1).bind fun t => some (t, x.2)) S m ρ' pl' = some r, fun σ' H' h => ⟨m, Nat.lt_succ_self m, h⟩, z1, ρ1, _, _, er2, e8, ?_⟩
      cases f with
      | nx => exact fun z' σ' H' x er' => ⟨z', _, _, x2.trans x, er', e9⟩
      | cnt => exact fun z' σ' H' x er' => ⟨z', _, _, x2.trans x, er', e9⟩
      | brk => cases e9; exact fun z' σ' H' x er' => q z' σ' H' (x2.trans x) er'
      | ret d => cases e9; exact fun z' v H' x w' r' => q z' v H' (x2.trans x) w' r'
theorem st_for {a : List Stmt} {it : Expr} {t : Tg} {Fs : En → Pl → M (List D)} (c : CxOk X G T C N sc fnB) (hp : PassesOwn (model X.prog X.w) X.A X.env X.xe) (hi : PI X tg it (tI false G Fs)) (hg : PG X tg (tTg G t)) (ha : PSs X a (tX G S)) (hs : noSet it = true) : PS X (.For tg it a [] pos)
    (tX G fun ρ p => (Fs ρ p).bind fun x => forF (fun d ρ p => (bindT t d ρ p).bind fun r => S r.1 r.2) x.1 ρ x.2) := ps_imp (ps_for hp c.calm hi hg ha (fun v => folded_of hs _ v)) fun D σ H q => by
  obtain ⟨z, ρ, pl, r, er, e, q⟩ := q
  obtain ⟨⟨items, p1⟩, e1, e2⟩ := Option.bind_eq_some_iff.mp e
  refine ⟨z, ρ, pl, items, p1, er, e1, fun J H1 s1 w1 sk => ?_⟩
  obtain ⟨Gd, Y, wk, gd, yl⟩ := sk
  have q1 := q.far s1.x
  refine for_it wk (fun i σ' H' => ∃ z' ρ' pl', Far false z z' H1 H' ∧ ER G z' ρ' pl' σ' H' ∧ forF (fun d ρ p => (bindT t d ρ p).bind fun r => S r.1 r.2) (items.drop i) ρ' pl' = some r) ⟨z, ρ, p1, .refl _ _ _, er.stp s1 w1, e2⟩ (fun i σ' H' hi pv => ?_) (fun i x σ' H' H2 hi pv y => ?_) (fun σ' H' pv => ?_)
  · obtain ⟨z', ρ', pl', f, _, _⟩ := pv
    exact gd z' H' f
  · obtain ⟨z', ρ', pl', f, er', e3⟩ := pv
    have hd : items.drop i = items[i] :: items.drop (i + 1) := (List.drop_eq_getElem_cons hi)
    rw [hd] at e3
    obtain ⟨⟨fl, ρ3, p3⟩, e4, e5⟩ := Option.bind_eq_some_iff.mp (show ((bindT t items[i] ρ' pl').bind (fun r => S r.1 r.2)).bind (fun r => match r.1 with
      | .nx => forF _ (items.drop (i + 1)) r.2.1 r.2.2
      | .cnt => forF _ (items.drop (i + 1)) r.2.1 r.2.2
      | .brk => some (.nx, r.2)
      | .ret d => some (.ret d, r.2)) = some r from e3)
    obtain ⟨⟨ρ2, p2⟩, e6, e7⟩ := Option.bind_eq_some_iff.mp e4
    obtain ⟨s2, w2, rx⟩ := yl z' pl' i H' x H2 items[i] f er'.w (List.getElem?_eq_getElem hi) y
    refine ⟨z', ρ', pl', items[i], ρ2, p2, er'.stp s2 w2, rx, e6, fun σ2 _ _ er2 _ => ?_⟩
    have fx : XSt z z' H1 H2 := f.1.trans s2.x
    refine ⟨z', ρ2, p2, _, er2, e7, ?_⟩
    cases fl with
    | nx => exact fun z3 σ3 H3 x3 er3 => ⟨z3, _, _, ⟨fx.trans x3, fun h => by cases h⟩, er3, e5⟩
    | cnt => exact fun z3 σ3 H3 x3 er3 => ⟨z3, _, _, ⟨fx.trans x3, fun h => by cases h⟩, er3, e5⟩
    | brk => cases e5; exact fun z3 σ3 H3 x3 er3 => q1 z3 σ3 H3 (fx.trans x3) er3
    | ret d => cases e5; exact fun z3 v H3 x3 w3 r3 => q1 z3 v H3 (fx.trans x3) w3 r3
  · obtain ⟨z', ρ', pl', f, er', e3⟩ := pv
    rw [List.drop_length] at e3
    cases e3
    exact q1 z' σ' H' f.1 er'
end
end FW
/-! FW19: the checks of statements; every suite keeps what the evaluator says. -/
namespace FW
open PySem PySem.Spec PyProof.Rows L2
section
variable {G : GC} {T : Tab} {C : Cf} {N : List Str}
abbrev OkQ (G : GC) (T : Tab) (C : Cf) (N : List Str) (s : Sr) : Prop := ∀ {X : Cx} {sc : Scope} {fnB : Str → Bool} (_ : CxOk X G T C N sc fnB) (tg it : Expr), chkSr T N s sc tg it = true → PI X tg it (tI false G (evSrS C s))
theorem q_it {e : PX} (ih_e : OkE G T C N e) : OkQ G T C N (.it e) := fun {X sc fnB} c tg it h => pi_itD c (PE.toB0 (ih_e c it h).v)
theorem q_rng1 {e : PX} (ih_e : OkE G T C N e) : OkQ G T C N (.rng1 e) := fun {X sc fnB} c tg it h => by
    cases it with
    | Call fe args kw p =>
      cases fe with
      | Name x p2 =>
        cases args with
        | nil => cases h
        | cons a args => cases args with
          | cons _ _ => cases h
          | nil => cases kw with
            | cons _ _ => cases h
            | nil =>
              have e1 : x = "range" := of_decide_eq_true (and_l h)
              have h1 := and_r (and_r (and_r h))
              have h2 := glB_ok c (and_l (and_r h))
              have h3 := and_l (and_r (and_r h))
              subst e1
              exact pi_rng1D c (ih_e c a h1).v h2 h3
      | _ => cases args with
        | nil => cases h
        | cons _ args => cases args <;> cases kw <;> cases h
    | _ => cases h
theorem q_rng2 {e : PX} {f : PX} (ih_e : OkE G T C N e) (ih_f : OkE G T C N f) : OkQ G T C N (.rng2 e f) := fun {X sc fnB} c tg it h => by
    cases it with
    | Call fe args kw p =>
      cases fe with
      | Name x p2 =>
        cases args with
        | nil => cases h
        | cons a args => cases args with
          | nil => cases h
          | cons b args => cases args with
            | cons _ _ => cases h
            | nil => cases kw with
              | cons _ _ => cases h
              | nil =>
                have e1 : x = "range" := of_decide_eq_true (and_l h)
                have h1 := and_r (and_r (and_r (and_r h)))
                have h2 := glB_ok c (and_l (and_r h))
                have h3 := and_l (and_r (and_r h))
                have h4 := and_l (and_r (and_r (and_r h)))
                subst e1
                exact pi_rng2D c (ih_e c a (and_l h1)).v (ih_f c b (and_r h1)).v h2 h3 h4
      | _ => cases args with
        | nil => cases h
        | cons _ args => cases args with
          | nil => cases h
          | cons _ args => cases args <;> cases kw <;> cases h
    | _ => cases h
theorem q_enm {e : PX} (ih_e : OkE G T C N e) : OkQ G T C N (.enm e) := fun {X sc fnB} c tg it h => by
    cases it with
    | Call fe args kw p =>
      cases fe with
      | Name x p2 =>
        cases args with
        | nil => cases h
        | cons a args => cases args with
          | cons _ _ => cases h
          | nil => cases kw with
            | cons _ _ => cases h
            | nil =>
              have e1 : x = "enumerate" := of_decide_eq_true (and_l h)
              have h2 : isTupE tg = true := and_l (and_r h)
              have h3 := and_r (and_r h)
              have h4 := glB_ok c (and_l h3)
              have h5 := and_l (and_r h3)
              have h6 := and_r (and_r h3)
              subst e1
              clear h h3
              cases tg with
              | Tuple _ _ _ => exact pi_enmD c (PE.toB0 (ih_e c a h6).v) h4 h5
              | _ => cases h2
      | _ => cases args with
        | nil => cases h
        | cons _ args => cases args <;> cases kw <;> cases h
    | _ => cases h
theorem q_zip {e : PX} {f : PX} (ih_e : OkE G T C N e) (ih_f : OkE G T C N f) : OkQ G T C N (.zip e f) := fun {X sc fnB} c tg it h => by
    cases it with
    | Call fe args kw p =>
      cases fe with
      | Name x p2 =>
        cases args with
        | nil => cases h
        | cons a args => cases args with
          | nil => cases h
          | cons b args => cases args with
            | cons _ _ => cases h
            | nil => cases kw with
              | cons _ _ => cases h
              | nil =>
                have e1 : x = "zip" := of_decide_eq_true (and_l h)
                have h2 : isTupE tg = true := and_l (and_r h)
                have h3 := and_r (and_r h)
                have h4 := and_r (and_r (and_r h3))
                have h5 := glB_ok c (and_l h3)
                have h6 := and_l (and_r h3)
                have h7 := and_l (and_r (and_r h3))
                subst e1
                clear h h3
                cases tg with
                | Tuple _ _ _ => exact pi_zipD c (PE.toB0 (ih_e c a (and_l h4)).v) (PE.toB0 (ih_f c b (and_r h4)).v) h5 h6 h7
                | _ => cases h2
      | _ => cases args with
        | nil => cases h
        | cons _ args => cases args with
          | nil => cases h
          | cons _ args => cases args <;> cases kw <;> cases h
    | _ => cases h
theorem srS_ok (hC : CallOk T C) : ∀ (s : Sr), OkQ G T C N s
  | .it e => q_it (ev_ok hC e)
  | .rng1 e => q_rng1 (ev_ok hC e)
  | .rng2 e f => q_rng2 (ev_ok hC e) (ev_ok hC f)
  | .enm e => q_enm (ev_ok hC e)
  | .zip e f => q_zip (ev_ok hC e) (ev_ok hC f)
end
/-! ### the checks -/
def isLC : Expr → Bool
  | .ListComp .. => true
  | .SetComp .. => true
  | .DictComp .. => true
  | _ => false
def isLstE : Expr → Bool
  | .List .. => true
  | _ => false
def isNmE : Expr → Bool
  | .Name .. => true
  | _ => false
def asgB (tg e : Expr) : Bool := (!isLC e || isNmE tg) && !(isTupE e && (isTupE tg || isLstE tg))
def locB (sc : Scope) (fnB : Str → Bool) (x : Str) : Bool := match sc.names.lookup x with
  | some .local => true
  | some .cell => fnB x
  | _ => false
def two : Expr → Option (Expr × Expr × Nat × Pos)
  | .Tuple [a, b] k p => some (a, b, k, p)
  | _ => none
theorem two_ok {e a b : Expr} {k : Nat} {p : Pos} (h : two e = some (a, b, k, p)) : e = .Tuple [a, b] k p := by
  unfold two at h
  split at h
  · cases h; rfl
  · cases h
def isBot : QS → Bool
  | .bot => true
  | _ => false
def frzOf : QS → Option Nat
  | .frz i => some i
  | _ => none
mutual
def chkS (T : Tab) (N : List Str) (sc : Scope) (fnB : Str → Bool) : QS → Stmt → Bool
  | .bot, _ => true
  | .asg t e, .Assign [tg] e' _ => chkT N sc fnB t tg && (chkE T N e sc e' && (noStar tg && asgB tg e'))
  | .own i es, .Assign [.Name x _] (.List xs _) _ => nmB N i x && (locB sc fnB x && chkEs T N es sc xs)
  | .par i j a b, .Assign [tg] e' _ => (match two tg, two e' with
    | some (.Name x px, .Name y py, _, _), some (a', b', _, _) => nmB N i x && (nmB N j y && (!(i == j) && (parB sc x y px py a' b' && (chkE T N a sc a' && chkE T N b sc b'))))
    | _, _ => false)
  | .paro i j a, .Assign [tg] e' _ => (match two tg, two e' with
    | some (.Name x px, .Name y py, _, _), some (a', .List [] p3, _, _) => nmB N i x && (nmB N j y && (!(i == j) && (parB sc x y px py a' (.List [] p3) && chkE T N a sc a')))
    | _, _ => false)
  | .app i e, .Expr (.Call (.Attribute (.Name x _) m apos) [a] [] cpos) _ => (nmB N i x && (visB sc x && plainN x)) && (decide (m = "append") && (apos.endLine == cpos.line && (noStar a && chkE T N e sc a)))
  | .ext i e, .Expr (.Call (.Attribute (.Name x _) m apos) [a] [] cpos) _ => (nmB N i x && (visB sc x && plainN x)) && (decide (m = "extend") && (apos.endLine == cpos.line && (noStar a && chkE T N e sc a)))
  | .setix i k e, .Assign [.Subscript (.Name x _) k' _] e' _ => (nmB N i x && (visB sc x && plainN x)) && (noSlice k' && (!isLC e' && (chkE T N k sc k' && chkE T N e sc e')))
  | .ifs c a b, .If c' a' b' _ => chkE T N c sc c' && (chkSs T N sc fnB a a' && chkSs T N sc fnB b b')
  | .whl c b, .While c' b' [] _ => chkE T N c sc c' && chkSs T N sc fnB b b'
  | .fr t src b, .For tg it b' [] _ => pureTg t && (chkT N sc fnB t tg && (chkSr T N src sc tg it && (noSet it && chkSs T N sc fnB b b')))
  | .ret e, .Return (some e') _ => chkE T N e sc e'
  | .retn, .Return none _ => true
  | .brk, .Break _ => true
  | .cnt, .Continue _ => true
  | .pass, .Pass _ => true
  | .exp e, .Expr e' _ => !isLC e' && chkE T N e sc e'
  | _, _ => false
termination_by structural x => x
def chkSs (T : Tab) (N : List Str) (sc : Scope) (fnB : Str → Bool) : QSs → List Stmt → Bool
  | .nil, sts => sts.isEmpty
  | .cons s r, sts => isBot s || (match frzOf s with
    | some _ => chkSs T N sc fnB r sts
    | none => match sts with
      | [] => false
      | st :: rest => chkS T N sc fnB s st && chkSs T N sc fnB r rest)
termination_by structural x => x
end
section
variable {X : Cx} {G : GC} {T : Tab} {C : Cf} {N : List Str} {sc : Scope} {fnB : Str → Bool}
theorem locB_ok (c : CxOk X G T C N sc fnB) {x : Str} (h : locB sc fnB x = true) : Loc X.env.scope x ∧ (X.fn x = true ∨ X.env.scope.names.lookup x = some .local) := by
  rw [c.sc]
  unfold locB at h
  split at h
  · exact ⟨.inl (by assumption), .inr (by assumption)⟩
  · exact ⟨.inr (by assumption), .inl (c.fn x h)⟩
  · cases h
theorem not_tt {b : Bool} (h : (!b) = true) : b = false := by simpa using h
theorem sw_none {e : Expr} (h : isLC e = false) (t : Option Expr) (l : Nat) (env : Env) : swapsWith e t l env = pure false := by
  cases e <;> first | rfl | cases h
theorem sst_none {tg e : Expr} {env : Env} (h : (isTupE e && (isTupE tg || isLstE tg)) = false) : swappedStores [tg] e env = pure none := by
  cases e with
  | Tuple es k p => cases tg <;> first | rfl | cases h
  | _ => cases tg <;> rfl
abbrev OkS (X : Cx) (G : GC) (T : Tab) (C : Cf) (N : List Str) (sc : Scope) (fnB : Str → Bool) (s : QS) : Prop := ∀ st, chkS T N sc fnB s st = true → PS X st (tX G (ex C s))
abbrev OkSs (X : Cx) (G : GC) (T : Tab) (C : Cf) (N : List Str) (sc : Scope) (fnB : Str → Bool) (s : QSs) : Prop := ∀ sts, chkSs T N sc fnB s sts = true → PSs X sts (tX G (exs C s))
theorem k_lc (c : CxOk X G T C N sc fnB) (hC : CallOk T C) (hf : sc.kind = .function) {i : Nat} {elt : PX} {tg0 : Tg} {src : Sr} {d : PX} {vs : List Nat} {y : Str} {py pos lpos : Pos} {elt' tg it : Expr} {ifs : List Expr} {scope : Scope}
    (hx : nmB N i y = true) (hl : chkT N sc fnB (.nm i) (.Name y py) = true) (h : chkE T N (.lc elt tg0 src d vs) sc (.ListComp elt' [⟨tg, it, ifs, 0⟩] scope lpos) = true) :
    PS X (.Assign [.Name y py] (.ListComp elt' [⟨tg, it, ifs, 0⟩] scope lpos) pos) (tX G (ex C (.asg (.nm i) (.lc elt tg0 src d vs)))) := by
  have sw := sw_eq (elt := elt') (gs := [⟨tg, it, ifs, 0⟩]) (scope := scope) (pos := lpos) (py := py) (y := y) (l := pos.line) (env := X.env) (by rw [c.sc]; exact hf)
  cases hb : swB X.env.scope scope y py lpos with
  | false =>
    rw [hb] at sw
    exact st_asg (ev_ok hC _ c _ h).v (pgx_ok c _ _ hl) sw rfl rfl
  | true =>
    rw [hb] at sw
    have h1 := and_l h
    have h2 := and_l (and_r h)
    have h3 := and_l (and_r (and_r h))
    have h4 := and_l (and_r (and_r (and_r h)))
    have h5 := and_l (and_r (and_r (and_r (and_r h))))
    have h6 := and_l (and_r (and_r (and_r (and_r (and_r h)))))
    have h7 := and_r (and_r (and_r (and_r (and_r (and_r h)))))
    have hy : X.env.scope.names.lookup y = some .local := by
      unfold swB at hb
      simp only [Bool.and_eq_true] at hb
      simpa using hb.1.1
    refine st_setLc c (evSr_ok hC src c tg it h3) h1 h7 h4 (fun s H C0 cl fp => pg_ok (c.blk s H scope C0 cl fp) tg0 tg (tgIn_pure h7) h2) (fun s H C0 cl fp => ?_)
      (fun s H C0 cl fp => (ev_ok hC elt (c.blk s H scope C0 cl fp) elt' h6).v) hx hy sw
    cases ifs with
    | nil =>
      have := isYes_eq h5
      subst this
      exact pts_yes
    | cons q r =>
      cases r with
      | nil => exact pts_one (ev_ok hC d (c.blk s H scope C0 cl fp) q h5).t
      | cons _ _ => cases h5
theorem k_asg (c : CxOk X G T C N sc fnB) (hC : CallOk T C) (hf : sc.kind = .function) {t : Tg} {e : PX} : OkS X G T C N sc fnB (.asg t e) := fun st h => by
  cases st with
  | Assign tgs e' pos =>
    cases tgs with
    | nil => cases h
    | cons tg tgs => cases tgs with
      | cons _ _ => cases h
      | nil =>
        have h1 : chkT N sc fnB t tg = true := and_l h
        have h2 : chkE T N e sc e' = true := and_l (and_r h)
        have h3 : noStar tg = true := and_l (and_r (and_r h))
        have h4 : asgB tg e' = true := and_r (and_r (and_r h))
        have h5 : (isTupE e' && (isTupE tg || isLstE tg)) = false := not_tt (and_r h4)
        have h6 : (!isLC e' || isNmE tg) = true := and_l h4
        by_cases hl : isLC e' = true
        · rw [hl] at h6
          have h6 : isNmE tg = true := h6
          cases tg with
          | Name y py =>
            cases t with
            | nm i =>
              cases e with
              | bot => exact ⟨fun pins s σ H D I q => by obtain ⟨z, ρ, pl, r, er, e, q⟩ := q; cases e⟩
              | lc elt tg0 src d vs =>
                cases e' with
                | ListComp elt' gens scope lpos =>
                  cases gens with
                  | nil => cases h2
                  | cons g gens =>
                    cases gens with
                    | cons _ _ => obtain ⟨_, _, _, k⟩ := g; (cases k with
                      | ofNat k => cases k <;> cases h2
                      | negSucc _ => cases h2)
                    | nil =>
                      obtain ⟨tg', it', ifs', k⟩ := g
                      cases k with
                      | negSucc k => cases h2
                      | ofNat k => cases k with
                        | succ k => cases h2
                        | zero => exact k_lc c hC hf (and_l h1) h1 h2
                | _ => cases h2
              | _ => cases e' <;> first | (cases h2; done) | (cases hl; done)
            | _ => cases h1
          | _ => cases h6
        · have hl : isLC e' = false := by simpa using hl
          exact st_asg (ev_ok hC e c e' h2).v (pgx_ok c t tg h1) (sw_none hl _ _ _) (sst_none h5) h3
  | _ => cases h
theorem k_own (c : CxOk X G T C N sc fnB) (hC : CallOk T C) {i : Nat} {es : PXs} : OkS X G T C N sc fnB (.own i es) := fun st h => by
  cases st with
  | Assign tgs e' pos =>
    cases tgs with
    | nil => cases h
    | cons tg tgs => cases tg with
      | Name x p =>
        cases e' with
        | List xs p2 => cases tgs with
          | cons _ _ => cases h
          | nil => exact st_own c (evs_ok hC es c xs (and_r (and_r h))).1 (and_l h) (locB_ok c (and_l (and_r h)))
        | _ => cases tgs <;> cases h
      | _ => cases tgs <;> cases e' <;> cases h
  | _ => cases h
theorem k_app (c : CxOk X G T C N sc fnB) (hC : CallOk T C) {i : Nat} {e : PX} : OkS X G T C N sc fnB (.app i e) := fun st h => by
  cases st with
  | Expr ce pos =>
    cases ce with
    | Call fe args kw cpos =>
      cases fe with
      | Attribute o m apos =>
        cases o with
        | Name x p =>
          cases args with
          | nil => cases h
          | cons a args => cases args with
            | cons _ _ => cases h
            | nil => cases kw with
              | cons _ _ => cases h
              | nil =>
                have h1 := and_l h
                have h2 : m = "append" := of_decide_eq_true (and_l (and_r h))
                have h3 := and_l (and_r (and_r h))
                have h4 := and_l (and_r (and_r (and_r h)))
                have h5 := and_r (and_r (and_r (and_r h)))
                subst h2
                exact st_app c (ev_ok hC e c a h5).v h1 h4 h3
        | _ => cases args with
          | nil => cases h
          | cons _ args => cases args <;> cases kw <;> cases h
      | _ => cases args with
        | nil => cases h
        | cons _ args => cases args <;> cases kw <;> cases h
    | _ => cases h
  | _ => cases h
theorem k_ext (c : CxOk X G T C N sc fnB) (hC : CallOk T C) {i : Nat} {e : PX} : OkS X G T C N sc fnB (.ext i e) := fun st h => by
  cases st with
  | Expr ce pos =>
    cases ce with
    | Call fe args kw cpos =>
      cases fe with
      | Attribute o m apos =>
        cases o with
        | Name x p =>
          cases args with
          | nil => cases h
          | cons a args => cases args with
            | cons _ _ => cases h
            | nil => cases kw with
              | cons _ _ => cases h
              | nil =>
                have h1 := and_l h
                have h2 : m = "extend" := of_decide_eq_true (and_l (and_r h))
                have h3 := and_l (and_r (and_r h))
                have h4 := and_l (and_r (and_r (and_r h)))
                have h5 := and_r (and_r (and_r (and_r h)))
                subst h2
                exact st_ext c (ev_ok hC e c a h5).v h1 h4 h3
        | _ => cases args with
          | nil => cases h
          | cons _ args => cases args <;> cases kw <;> cases h
      | _ => cases args with
        | nil => cases h
        | cons _ args => cases args <;> cases kw <;> cases h
    | _ => cases h
  | _ => cases h
theorem k_setix (c : CxOk X G T C N sc fnB) (hC : CallOk T C) {i : Nat} {k e : PX} : OkS X G T C N sc fnB (.setix i k e) := fun st h => by
  cases st with
  | Assign tgs e' pos =>
    cases tgs with
    | nil => cases h
    | cons tg tgs => cases tg with
      | Subscript o k' p3 => cases o with
        | Name x p1 => cases tgs with
          | cons _ _ => cases h
          | nil =>
            have h3 := and_r (and_r (and_r h))
            exact st_setix c (ev_ok hC e c e' (and_r h3)).v (ev_ok hC k c k' (and_l h3)).v (and_l h) (and_l (and_r h)) (show swapsWith e' (some (.Subscript (.Name x p1) k' p3)) pos.line X.env = pure false from sw_none (not_tt (and_l (and_r (and_r h)))) _ _ _)
        | _ => cases tgs <;> cases h
      | _ => cases tgs <;> cases h
  | _ => cases h
theorem k_par (c : CxOk X G T C N sc fnB) (hC : CallOk T C) (hf : sc.kind = .function) {i j : Nat} {a b : PX} : OkS X G T C N sc fnB (.par i j a b) := fun st h => by
  cases st with
  | Assign tgs e' pos =>
    cases tgs with
    | nil => cases h
    | cons tg tgs => cases tgs with
      | cons _ _ => cases h
      | nil =>
        replace h : (match two tg, two e' with
          | some (.Name x px, .Name y py, _, _), some (a', b', _, _) => nmB N i x && (nmB N j y && (!(i == j) && (parB sc x y px py a' b' && (chkE T N a sc a' && chkE T N b sc b'))))
          | _, _ => false) = true := h
        split at h
        · rename_i x px y py k1 p1 a' b' k2 p2 e1 e2
          rw [two_ok e1, two_ok e2]
          have h3 := and_r (and_r (and_r (and_r h)))
          exact st_par c hf (ev_ok hC a c a' (and_l h3)).v (ev_ok hC b c b' (and_r h3)).v (and_l h) (and_l (and_r h)) (by simpa using and_l (and_r (and_r h))) (and_l (and_r (and_r (and_r h))))
        · cases h
  | _ => cases h
theorem k_paro (c : CxOk X G T C N sc fnB) (hC : CallOk T C) (hf : sc.kind = .function) {i j : Nat} {a : PX} : OkS X G T C N sc fnB (.paro i j a) := fun st h => by
  cases st with
  | Assign tgs e' pos =>
    cases tgs with
    | nil => cases h
    | cons tg tgs => cases tgs with
      | cons _ _ => cases h
      | nil =>
        replace h : (match two tg, two e' with
          | some (.Name x px, .Name y py, _, _), some (a', .List [] p3, _, _) => nmB N i x && (nmB N j y && (!(i == j) && (parB sc x y px py a' (.List [] p3) && chkE T N a sc a')))
          | _, _ => false) = true := h
        split at h
        · rename_i x px y py k1 p1 a' p3 k2 p2 e1 e2
          rw [two_ok e1, two_ok e2]
          have h3 := and_r (and_r (and_r (and_r h)))
          exact st_paro c hf (ev_ok hC a c a' h3).v (and_l h) (and_l (and_r h)) (by simpa using and_l (and_r (and_r h))) (and_l (and_r (and_r (and_r h))))
        · cases h
  | _ => cases h
theorem k_ifs (c : CxOk X G T C N sc fnB) (hC : CallOk T C) {e : PX} {a b : QSs} (ha : OkSs X G T C N sc fnB a) (hb : OkSs X G T C N sc fnB b) : OkS X G T C N sc fnB (.ifs e a b) := fun st h => by
  cases st with
  | If e' a' b' pos => exact st_if (ev_ok hC e c e' (and_l h)).t (ha a' (and_l (and_r h))) (hb b' (and_r (and_r h)))
  | _ => cases h
theorem k_whl (c : CxOk X G T C N sc fnB) (hC : CallOk T C) (hp : PassesOwn (model X.prog X.w) X.A X.env X.xe) {e : PX} {b : QSs} (hb : OkSs X G T C N sc fnB b) : OkS X G T C N sc fnB (.whl e b) := fun st h => by
  cases st with
  | While e' b' o pos => cases o with
    | cons _ _ => cases h
    | nil => exact st_while hp (ev_ok hC e c e' (and_l h)).t (hb b' (and_r h)) C.fuel
  | _ => cases h
theorem k_fr (c : CxOk X G T C N sc fnB) (hC : CallOk T C) (hp : PassesOwn (model X.prog X.w) X.A X.env X.xe) {t : Tg} {src : Sr} {b : QSs} (hb : OkSs X G T C N sc fnB b) : OkS X G T C N sc fnB (.fr t src b) := fun st h => by
  cases st with
  | For tg it b' o pos => cases o with
    | cons _ _ => cases h
    | nil => exact st_for c hp (srS_ok hC src c tg it (and_l (and_r (and_r h)))) (pg_ok c t tg (and_l h) (and_l (and_r h))) (hb b' (and_r (and_r (and_r (and_r h))))) (and_l (and_r (and_r (and_r h))))
  | _ => cases h
theorem k_ret (c : CxOk X G T C N sc fnB) (hC : CallOk T C) {e : PX} : OkS X G T C N sc fnB (.ret e) := fun st h => by
  cases st with
  | Return v pos => cases v with
    | none => cases h
    | some e' => exact st_ret (ev_ok hC e c e' h).o
  | _ => cases h
theorem k_exp (c : CxOk X G T C N sc fnB) (hC : CallOk T C) {e : PX} : OkS X G T C N sc fnB (.exp e) := fun st h => by
  cases st with
  | Expr e' pos => exact st_exp (ev_ok hC e c e' (and_r h)).v (sw_none (not_tt (and_l h)) _ _ _)
  | _ => cases h
theorem k_bot : OkS X G T C N sc fnB .bot := fun st h => ps_bot
theorem k_frz {i : Nat} : OkS X G T C N sc fnB (.frz i) := fun st h => by cases st <;> cases h
theorem k_ownc {i : Nat} {elt : PX} {tg : Tg} {src : Sr} {d : PX} {vs : List Nat} : OkS X G T C N sc fnB (.ownc i elt tg src d vs) := fun st h => by cases st <;> cases h
theorem k_retn : OkS X G T C N sc fnB .retn := fun st h => by
  cases st with
  | Return v pos => cases v with
    | none => exact st_retn
    | some e' => cases h
  | _ => cases h
theorem k_brk : OkS X G T C N sc fnB .brk := fun st h => by
  cases st with
  | Break pos => exact st_brk
  | _ => cases h
theorem k_cnt : OkS X G T C N sc fnB .cnt := fun st h => by
  cases st with
  | Continue pos => exact st_cnt
  | _ => cases h
theorem k_pass : OkS X G T C N sc fnB .pass := fun st h => by
  cases st with
  | Pass pos => exact st_pass
  | _ => cases h
theorem ks_nil : OkSs X G T C N sc fnB .nil := fun sts h => by
  cases sts with
  | nil => exact sts_nil
  | cons _ _ => cases h
theorem ks_cons {s : QS} {r : QSs} (hs : OkS X G T C N sc fnB s) (hr : OkSs X G T C N sc fnB r) : OkSs X G T C N sc fnB (.cons s r) := fun sts h => by
  cases s with
  | bot => exact pss_bot fun ρ p => rfl
  | frz i => exact sts_frz (hr sts h)
  | ownc i elt tg src d vs =>
    cases sts with
    | nil => cases h
    | cons st rest => cases st <;> cases h
  | _ =>
    cases sts with
    | nil => cases h
    | cons st rest => exact sts_cons (hs st (and_l h)) (hr rest (and_r h))
mutual
theorem ex_ok (c : CxOk X G T C N sc fnB) (hC : CallOk T C) (hf : sc.kind = .function) (hp : PassesOwn (model X.prog X.w) X.A X.env X.xe) : ∀ (s : QS), OkS X G T C N sc fnB s
  | .bot => k_bot
  | .asg t e => k_asg c hC hf
  | .own i es => k_own c hC
  | .ownc i elt tg src d vs => k_ownc
  | .par i j a b => k_par c hC hf
  | .paro i j a => k_paro c hC hf
  | .app i e => k_app c hC
  | .ext i e => k_ext c hC
  | .frz i => k_frz
  | .setix i k e => k_setix c hC
  | .ifs e a b => k_ifs c hC (exs_ok c hC hf hp a) (exs_ok c hC hf hp b)
  | .whl e b => k_whl c hC hp (exs_ok c hC hf hp b)
  | .fr t src b => k_fr c hC hp (exs_ok c hC hf hp b)
  | .ret e => k_ret c hC
  | .retn => k_retn
  | .brk => k_brk
  | .cnt => k_cnt
  | .pass => k_pass
  | .exp e => k_exp c hC
theorem exs_ok (c : CxOk X G T C N sc fnB) (hC : CallOk T C) (hf : sc.kind = .function) (hp : PassesOwn (model X.prog X.w) X.A X.env X.xe) : ∀ (s : QSs), OkSs X G T C N sc fnB s
  | .nil => ks_nil
  | .cons s r => ks_cons (ex_ok c hC hf hp s) (exs_ok c hC hf hp r)
end
end
end FW
/-! FW20: defs keep what the run of their table says; what the head must show. -/
namespace FW
open PySem PySem.Spec PyProof.Rows L2

/-! ### a def's body, by its reading -/
section
variable {G : GC} {z : Zn} {pl : Pl} {H : Hp}
theorem st_at {vs : List V} {n i : Nat} : at_ (vs.map some ++ List.replicate n none) i = vs[i]? := by
  unfold at_
  by_cases h : i < vs.length
  · rw [List.getElem?_append_left (by simpa using h), List.getElem?_map, List.getElem?_eq_getElem h]; rfl
  · rw [List.getElem?_append_right (by simpa using h), List.getElem?_replicate, List.getElem?_eq_none (Nat.le_of_not_lt h)]
    split <;> rfl
def slotAt (ds : List D) (i : Nat) : Slot := match ds[i]? with
  | some d => .dat d
  | none => .no
theorem er_start {N : List Str} {ds : List D} {vs : List V} (w : W G z pl H) (r : Reps G z.pa (hide z H) ds vs) : ER G z (startE N.length ds) pl (L2.start N vs) H := by
  have hl := r.length
  have sl : ∀ i, (startE N.length ds)[i]?.getD .no = slotAt ds i := fun i => by
    unfold startE slotAt
    by_cases h : i < ds.length
    · rw [List.getElem?_append_left (by simpa using h), List.getElem?_map, List.getElem?_eq_getElem h]; rfl
    · rw [List.getElem?_append_right (by simpa using h), List.getElem?_replicate, List.getElem?_eq_none (Nat.le_of_not_lt h)]
      split <;> rfl
  refine ⟨w, by simp [startE, L2.start, hl], fun i => ?_, fun i j ds1 ds2 a e1 e2 e3 e4 => ?_⟩
  · rw [sl]
    unfold slotAt
    cases e : ds[i]? with
    | none => trivial
    | some d =>
      obtain ⟨v, e1, r1⟩ := r.get e
      exact ⟨v, by unfold L2.start; rw [st_at]; exact e1, r1⟩
  · rw [sl] at e1
    unfold slotAt at e1
    cases e : ds[i]? with
    | none => rw [e] at e1; cases e1
    | some d => rw [e] at e1; cases e1
theorem back_same {z' : Zn} {H' : Hp} (hO : z.O = []) (x : XSt z z' H H') : Same (hide z' H') (hide z H') := Same.of_le fun b hb => by
  rcases hb with hb | hb | hb
  · exact .inl (by rw [x.zz]; exact hb)
  · rw [hO] at hb; cases hb
  · exact .inr (.inr (by rw [x.pa]; exact hb))
theorem back_stp {z' : Zn} {H' : Hp} (hO : z.O = []) (x : XSt z z' H H') : Stp z H H' := ⟨x.same.trans (back_same hO x), fun a ha => by
  rcases ha with ha | ha
  · exact x.zone a ha
  · rw [hO] at ha; cases ha⟩
theorem back_w {z' : Zn} {pl' : Pl} {H' : Hp} (hO : z.O = []) (x : XSt z z' H H') (w : W G z' pl' H') : W G z pl' H' := by
  refine ⟨fun a ha => w.dom a ?_, fun a ha => (by rw [hO] at ha; cases ha), fun a ha => ⟨?_, fun q => (by rw [hO] at q; cases q)⟩, fun a ha => ?_⟩
  · rcases ha with ha | ha
    · exact .inl (by rw [x.zz]; exact ha)
    · rw [hO] at ha; cases ha
  · have := (w.papart a (by rw [x.pa]; exact ha)).1
    rw [x.zz] at this
    exact this
  · obtain ⟨xs, e, r⟩ := w.pool a (by rw [x.pa]; exact ha)
    rw [x.pa] at r
    exact ⟨xs, e, Reps.same (back_same hO x) _ _ r⟩
theorem back_rep {z' : Zn} {pl' : Pl} {H' : Hp} {d : D} {v : V} (hO : z.O = []) (x : XSt z z' H H') (w : W G z' pl' H') (r : RepO G z' H' d v) : Rep G z.pa (hide z H') d v := by
  rcases r with r | ⟨a, xs, ds, rfl, rfl, m, e, r⟩
  · rw [x.pa] at r
    exact Rep.same (back_same hO x) _ _ r
  · rw [x.pa] at r
    refine ⟨a, xs, rfl, hide_some.mpr ⟨?_, e⟩, Reps.same (back_same hO x) _ _ r⟩
    rintro (q | q | q)
    · exact w.apart a m (by rw [x.zz]; exact q)
    · rw [hO] at q; cases q
    · exact (w.papart a (by rw [x.pa]; exact q)).2 m
end
theorem body_reads {G : GC} {T : Tab} {cons : List D} {fuel n g : Nat} {df : Df} {vs : List V} {H : Hp} {Q : VK} {E : XK} (hd : T.defs[g]? = some df) (h : spR G (run T.defs cons fuel (n + 1)) g df.ps.length vs H Q E) :
    tX G (exs ⟨cons, run T.defs cons fuel n, dfls T.defs, fuel⟩ df.body) { nx := fun _ H' => Q .non H', rt := Q } (L2.start df.N vs) H := by
  obtain ⟨hl, z, pl, ds, d, pl', hO, w, r, e, q⟩ := h
  unfold run at e
  rw [hd] at e
  have e : (if ds.length = df.ps.length then endE (exs ⟨cons, run T.defs cons fuel n, dfls T.defs, fuel⟩ df.body (startE df.N.length ds) pl) else none) = some (d, pl') := e
  split at e
  · cases hx : exs ⟨cons, run T.defs cons fuel n, dfls T.defs, fuel⟩ df.body (startE df.N.length ds) pl with
    | none => rw [hx] at e; cases e
    | some r' =>
      rw [hx] at e
      obtain ⟨f, ρ', p'⟩ := r'
      refine ⟨z, _, pl, _, er_start w r, hx, ?_⟩
      cases f with
      | nx => cases e; exact fun z' σ' H' x er => q .non H' (back_stp hO x) (back_w hO x er.w) rfl
      | brk => cases e
      | cnt => cases e
      | ret d' => cases e; exact fun z' v H' x w' r' => q v H' (back_stp hO x) (back_w hO x w') (back_rep hO x w' r')
  · cases e
theorem run_call {T : Tab} {cons : List D} {fuel n : Nat} : CallOk T ⟨cons, run T.defs cons fuel n, dfls T.defs, fuel⟩ := fun g ds p r e => by
  cases n with
  | zero => cases e
  | succ n =>
    have e : run T.defs cons fuel (n + 1) g ds p = some r := e
    unfold run at e
    cases hd : T.defs[g]? with
    | none => rw [hd] at e; cases e
    | some df =>
      rw [hd] at e
      have e : (if ds.length = df.ps.length then endE (exs ⟨cons, run T.defs cons fuel n, dfls T.defs, fuel⟩ df.body (startE df.N.length ds) p) else none) = some r := e
      split at e
      · exact ⟨df, rfl, by assumption⟩
      · cases e

/-! ### constants that the top wrote -/
def atomOk : D → Bool
  | .non => true
  | .bl _ => true
  | .int _ => true
  | .str _ => true
  | _ => false
mutual
theorem repB_ok {K : PySem.W.Frag} : ∀ (d : D) (u : Value), repB K d u = true → ∃ v, RelV v u ∧ ∀ fa pa H, Rep ⟨K, fa⟩ pa H d v
  | .non, u, h => by
    cases u with
    | none => exact ⟨.non, rfl, fun _ _ _ => rfl⟩
    | _ => cases h
  | .bl a, u, h => by
    cases u with
    | bool b =>
      have e : a = b := eq_of_beq h
      subst e
      exact ⟨.bl a, rfl, fun _ _ _ => rfl⟩
    | _ => cases h
  | .int a, u, h => by
    cases u with
    | int b t =>
      have e : a = b := of_decide_eq_true h
      subst e
      exact ⟨.int a, ⟨t, rfl⟩, fun _ _ _ => rfl⟩
    | _ => cases h
  | .str a, u, h => by
    cases u with
    | str b t =>
      have e : a = b := of_decide_eq_true h
      subst e
      exact ⟨.str a, ⟨t, rfl⟩, fun _ _ _ => rfl⟩
    | _ => cases h
  | .tup ds, u, h => by
    cases u with
    | ref a =>
      replace h : (match K.lookup a with
        | some ⟨.type c, _, .seq its _, _⟩ => decide (c = "tuple") && (decide (its.size ≤ sizeLine) && repsB K ds its.toList)
        | _ => false) = true := h
      split at h
      · rename_i c od its n sl e
        have h1 : c = "tuple" := of_decide_eq_true (and_l h)
        obtain ⟨vs, r1, r2⟩ := repsB_ok ds its.toList (and_r (and_r h))
        subst h1
        exact ⟨.ref a, rfl, fun fa pa H => ⟨a, vs, rfl, .inr ⟨_, its, n, e, rfl, rfl, of_decide_eq_true (and_l (and_r h)), r1⟩, r2 fa pa H⟩⟩
      · cases h
    | _ => cases h
  | .lst _, u, h => by cases u <;> cases h
  | .frl _, u, h => by cases u <;> cases h
  | .fn _, u, h => by cases u <;> cases h
  | .pool, u, h => by cases u <;> cases h
theorem repsB_ok {K : PySem.W.Frag} : ∀ (ds : List D) (us : List Value), repsB K ds us = true → ∃ vs, Vals vs us ∧ ∀ fa pa H, Reps ⟨K, fa⟩ pa H ds vs
  | [], [], _ => ⟨[], .nil, fun _ _ _ => rfl⟩
  | [], _ :: _, h => by cases h
  | _ :: _, [], h => by cases h
  | d :: ds, u :: us, h => by
    obtain ⟨v, r1, r2⟩ := repB_ok d u (and_l h)
    obtain ⟨vs, r3, r4⟩ := repsB_ok ds us (and_r h)
    exact ⟨v :: vs, .cons r1 r3, fun fa pa H => ⟨v, vs, rfl, r2 fa pa H, r4 fa pa H⟩⟩
end
/-! ### what the head shows -/
theorem nsB_ok {K : PySem.W.Frag} {h : Heap} {mg : Str → Option Value} (X : K.In h) (Gn : h.Ns mainGlobals mg) {x : Str} {p : Value → Bool} (c : nsB K x p = true) : ∃ u, mg x = some u ∧ p u = true := by
  unfold nsB at c
  split at c
  · rename_i u e
    exact ⟨u, PySem.W.mg_of X Gn e, c⟩
  · cases c
end FW
/-! FW21: a table of defs, its head, its run. -/
namespace FW
open PySem PySem.Spec PyProof.Rows L2

abbrev mkD (df : Df) (st : Stmt) : He.DefD := mkF df.nm df.dfl st
theorem dvOf_v {K : PySem.W.Frag} (d : D) : (dvOf d).v K = atomV d := by cases d <;> rfl
abbrev SaysT (T : Tab) (fn : List He.DefD) (K : PySem.W.Frag) : Prop := SaysC T.cons fn K
abbrev dds (T : Tab) (sts : List Stmt) : List He.DefD := List.zipWith mkD T.defs sts
structure HeadOk (T : Tab) (sts : List Stmt) (K : PySem.W.Frag) (mg : Str → Option Value) : Prop where
  cons : ∀ (k : Nat) x d, T.cons[k]? = some (x, d) → ∃ u v, mg x = some u ∧ RelV v u ∧ ∀ fa pa H, Rep ⟨K, fa⟩ pa H d v
  blt : ∀ x, x ∈ bltNames → mg x = none
  gcd : mg "gcd" = some (.builtin "math.gcd")
  defs : ∀ (g : Nat) df st, T.defs[g]? = some df → sts[g]? = some st → mg df.nm = some (.ref (He.ga K df.nm)) ∧ ∃ fd, FunD K df.nm df.nm (C8.fnArgs st) (C8.fnBody st) (C8.fnScope st) (df.dfl.map atomV) [] (He.ga K df.nm) fd
theorem HeadOk.of {T : Tab} {sts : List Stmt} {rest : List He.DefD} {K : PySem.W.Frag} {h : Heap} {mg : Str → Option Value} (X : K.In h) (Gn : h.Ns mainGlobals mg) (c : SaysT T (dds T sts ++ rest) K) : HeadOk T sts K mg := by
  have c1 : (headB T.cons ((dds T sts ++ rest).map (·.name)) K && (dds T sts ++ rest).all fun d => d.ok K) = true := congrArg (fun z : He.AlD => z.1) c
  have t := and_l c1
  refine ⟨fun k x d e => ?_, fun x hx => ?_, ?_, fun g df st e1 e2 => ?_⟩
  · have h1 := List.all_eq_true.mp (and_l t) (x, d) (List.mem_of_getElem? e)
    obtain ⟨u, hu, hr⟩ := nsB_ok X Gn h1
    obtain ⟨v, r1, r2⟩ := repB_ok d u hr
    exact ⟨u, v, hu, r1, r2⟩
  · exact PySem.W.mg_none_of X Gn (He.eqO_ok (List.all_eq_true.mp (and_l (and_r t)) x hx))
  · obtain ⟨u, hu, hr⟩ := nsB_ok X Gn (and_l (and_r (and_r t)))
    rw [of_decide_eq_true (show decide (u = Value.builtin "math.gcd") = true from hr)] at hu
    exact hu
  · have hz : (dds T sts ++ rest)[g]? = some (mkD df st) := by
      have hz : (dds T sts)[g]? = some (mkD df st) := by
        unfold dds
        rw [List.getElem?_zipWith, e1, e2]
      rw [List.getElem?_append_left (List.getElem?_eq_some_iff.mp hz).1]
      exact hz
    have h1 := List.all_eq_true.mp (and_r (and_r (and_r t))) df.nm (List.mem_map.mpr ⟨mkD df st, List.mem_of_getElem? hz, rfl⟩)
    have h2 := List.all_eq_true.mp (and_r c1) (mkD df st) (List.mem_of_getElem? hz)
    have e : (dds T sts ++ rest).map (fun d => He.fnW K d.at_) = (dds T sts ++ rest).map He.DefD.val := congrArg (fun z : He.AlD => z.2) c
    have e3 : ((dds T sts ++ rest).map fun d => He.fnW K d.at_)[g]? = ((dds T sts ++ rest).map He.DefD.val)[g]? := by rw [e]
    rw [List.getElem?_map, List.getElem?_map, hz] at e3
    obtain ⟨fd, F⟩ := He.DefD.funD (Option.some.inj e3) h2
    refine ⟨PySem.W.mg_of X Gn (He.eqO_ok h1), fd, ?_⟩
    have hv : (mkD df st).dvs K = df.dfl.map atomV := by
      show (df.dfl.map dvOf).map (He.Dv.v K) = _
      rw [List.map_map]
      exact List.map_congr_left fun d _ => dvOf_v d
    rw [hv] at F
    exact F
/-- the law's own def -/
theorem SaysT.law {T : Tab} {fn : List He.DefD} {st : Stmt} {K : PySem.W.Frag} {h : Heap} {mg : Str → Option Value} (X : K.In h) (Gn : h.Ns mainGlobals mg) (c : SaysT T (fn ++ [lawD st]) K) :
    mg "law" = some (.ref (He.ga K "law")) ∧ ∃ fd, FunD K "law" "law" (C8.fnArgs st) (C8.fnBody st) (C8.fnScope st) [] [] (He.ga K "law") fd := by
  have c1 : (headB T.cons ((fn ++ [lawD st]).map (·.name)) K && (fn ++ [lawD st]).all fun d => d.ok K) = true := congrArg (fun z : He.AlD => z.1) c
  have h2 := List.all_eq_true.mp (and_r c1) (lawD st) (by simp)
  have e : (fn ++ [lawD st]).map (fun d => He.fnW K d.at_) = (fn ++ [lawD st]).map He.DefD.val := congrArg (fun z : He.AlD => z.2) c
  rw [List.map_append, List.map_append] at e
  have e3 := (List.append_inj e (by simp)).2
  obtain ⟨fd, F⟩ := He.DefD.funD (List.cons.inj e3).1 h2
  exact ⟨PySem.W.mg_of X Gn (He.eqO_ok (List.all_eq_true.mp (and_r (and_r (and_r (and_l c1)))) "law" (by simp [lawD]))), fd, F⟩
/-! ### the checks of a def -/
def chkDef (T : Tab) (df : Df) (st : Stmt) : Bool := C8.scC df.N df.ps (C8.fnScope st) && (chkSs T df.N (C8.fnScope st) (fun _ => true) df.body (C8.fnBody st) && df.dfl.all atomOk)
structure BindOk (df : Df) (st : Stmt) : Prop where
  all : ∀ (K : PySem.W.Frag) f fd, FunD K df.nm df.nm (C8.fnArgs st) (C8.fnBody st) (C8.fnScope st) (df.dfl.map atomV) [] f fd → Binds K fd df.ps []
  few : ∀ (K : PySem.W.Frag) f fd, FunD K df.nm df.nm (C8.fnArgs st) (C8.fnBody st) (C8.fnScope st) (df.dfl.map atomV) [] f fd → df.dfl ≠ [] → ∃ ds, Vals (df.dfl.map atomV) ds ∧ Binds K fd df.ps ds
structure TabOk (T : Tab) (sts : List Stmt) : Prop where
  st : ∀ (g : Nat) df, T.defs[g]? = some df → ∃ st, sts[g]? = some st ∧ chkDef T df st = true ∧ BindOk df st
theorem rep_atom {G : GC} {pa : Option Addr} {H : Hp} {d : D} (h : atomOk d = true) : Rep G pa H d (atomV d) := by
  cases d <;> first | rfl | cases h
theorem reps_atom {G : GC} {pa : Option Addr} {H : Hp} : ∀ {ds : List D}, ds.all atomOk = true → Reps G pa H ds (ds.map atomV)
  | [], _ => rfl
  | d :: ds, h => by
    rw [List.all_cons, Bool.and_eq_true] at h
    exact ⟨_, _, rfl, rep_atom h.1, reps_atom h.2⟩
def faT (T : Tab) (K : PySem.W.Frag) : Nat → Option Addr := fun g => (T.defs[g]?).map fun df => He.ga K df.nm
abbrev conT (T : Tab) : List D := T.cons.map (·.2)
section
variable {T : Tab} {sts : List Stmt} {K : PySem.W.Frag} {mg : Str → Option Value} {P : Program} {w : World} {base : Heap} {fuel : Nat}
theorem cx_ok (hT : TabOk T sts) (hh : HeadOk T sts K mg) (n : Nat)
    (ih : ∀ (g : Nat) df st fd, T.defs[g]? = some df → sts[g]? = some st → FunD K df.nm df.nm (C8.fnArgs st) (C8.fnBody st) (C8.fnScope st) (df.dfl.map atomV) [] (He.ga K df.nm) fd → FnOk P w K mg base CX0 n (He.ga K df.nm) fd df.ps (spR ⟨K, faT T K⟩ (run T.defs (conT T) fuel n) g df.ps.length))
    {X : Cx} {N : List Str} {sc : Scope} {fnB : Str → Bool} (hp : X.prog = P) (hw : X.w = w) (hK : X.K = K) (hm : X.mg = mg) (hb : X.base = base) (hr : Room n X.A) (hN : X.N = N) (nd : N.Nodup) (hs : X.env.scope = sc) (hc : X.calm = true) (hf : ∀ x, fnB x = true → X.fn x = true) :
    CxOk X ⟨K, faT T K⟩ T ⟨conT T, run T.defs (conT T) fuel n, dfls T.defs, fuel⟩ N sc fnB := by
  refine ⟨hN, nd, hs, hc, hK, hf, hr.units, fun k x d e => ?_, fun x hx => by rw [hm]; exact hh.blt x hx, by rw [hm]; exact hh.gcd, fun g df e => ?_⟩
  · obtain ⟨u, v, h1, h2, h3⟩ := hh.cons k x d e
    refine ⟨?_, u, v, by rw [hm]; exact h1, h2, fun pa H => h3 _ pa H⟩
    show (T.cons.map (·.2))[k]? = some d
    rw [List.getElem?_map, e]; rfl
  · obtain ⟨st, e2, hk, hB⟩ := hT.st g df e
    obtain ⟨h1, fd, F⟩ := hh.defs g df st e e2
    have hat : df.dfl.all atomOk = true := and_r (and_r hk)
    refine ⟨⟨He.ga K df.nm, fd, n, ?_, by rw [hm]; exact h1, by rw [hK]; exact F.kp, hr, ?_, by rw [hK]; exact hB.all K _ fd F, fun hne => ?_⟩, ?_⟩
    · show (T.defs[g]?).map _ = _
      rw [e]; rfl
    · rw [hp, hw, hK, hm, hb]
      exact ih g df st fd e e2 F
    · obtain ⟨ds, d1, d2⟩ := hB.few K _ fd F hne
      exact ⟨ds, df.dfl.map atomV, by rw [hK]; exact d2, d1, fun pa H => reps_atom hat⟩
    · show dfls T.defs g = _
      unfold dfls
      rw [e]
theorem fn_ok (hT : TabOk T sts) (hh : HeadOk T sts K mg) : ∀ (n g : Nat) (df : Df) (st : Stmt) (fd : FuncData), T.defs[g]? = some df → sts[g]? = some st → FunD K df.nm df.nm (C8.fnArgs st) (C8.fnBody st) (C8.fnScope st) (df.dfl.map atomV) [] (He.ga K df.nm) fd →
    FnOk P w K mg base CX0 n (He.ga K df.nm) fd df.ps (spR ⟨K, faT T K⟩ (run T.defs (conT T) fuel n) g df.ps.length)
  | 0, g, df, st, fd, e1, e2, F => ⟨fun vs H Q E h => h.1, fun A outer s H args us vs Q E _ _ _ _ h => by
    obtain ⟨_, z, pl, ds, d, pl', _, _, _, e, _⟩ := h
    cases e⟩
  | n + 1, g, df, st, fd, e1, e2, F => by
    obtain ⟨st', e2', hk, _⟩ := hT.st g df e1
    rw [e2] at e2'
    cases e2'
    have S := C8.fnScope_by (and_l hk)
    refine F.ok S (fun vs H Q E h => h.1) (fun cdv A outer s H vs Q E hr h => ⟨_, PSs.nox (exs_ok (cx_ok hT hh n (fn_ok hT hh n) rfl rfl rfl rfl rfl hr rfl S.nd rfl rfl fun _ _ => rfl) run_call S.kind PassesOwn.never df.body _ (and_l (and_r hk))), body_reads e1 h⟩)
end
end FW
/-! FW22: the law's def. -/
namespace FW
open PySem PySem.Spec PyProof.Rows L2

/-- the script: known to the object, or the module's -/
def Scr (K : PySem.W.Frag) (H : Hp) (a : Addr) (xs : List V) : Prop := (∃ o, H a = some (.frz o (.lst xs))) ∨
    ∃ (o : Obj) (its : Array Value) (n : Nat), K.lookup a = some o ∧ o.cls = .type "list" ∧ o.dict = none ∧ o.data = .seq its n ∧ its.size ≤ sizeLine ∧ Vals xs its.toList
theorem Scr.of {K : PySem.W.Frag} {H : Hp} {a : Addr} {xs : List V} (o : Only H) (h : SqL K H a xs) : Scr K H a xs := by
  rcases h with (h | h) | h
  · rcases o a with k | ⟨_, _, k⟩
    · rw [h] at k; cases k
    · rw [h] at k; cases k
  · exact .inl h
  · exact .inr h
theorem Scr.sq {K : PySem.W.Frag} {H : Hp} {a : Addr} {xs : List V} (h : Scr K H a xs) : SqL K H a xs := h.elim (fun h => .inl (.inr h)) .inr
theorem Scr.same {K : PySem.W.Frag} {H H' : Hp} {a : Addr} {xs : List V} (e : Same H H') (h : Scr K H a xs) : Scr K H' a xs := h.elim (fun ⟨o, h⟩ => .inl ⟨o, e _ _ h⟩) .inr
theorem Scr.out {K : PySem.W.Frag} {H H' : Hp} {a p : Addr} {xs ys : List V} (hp : H p = some (.lst ys)) (e : Same (hide ⟨some p, [], []⟩ H) (hide ⟨some p, [], []⟩ H')) (h : Scr K H a xs) : Scr K H' a xs := by
  rcases h with ⟨o, h⟩ | h
  · have hne : ¬ (⟨some p, [], []⟩ : Zn).hid a := by
      rintro (q | q | q)
      · cases q
      · cases q
      · cases q
        rw [hp] at h; cases h
    exact .inl ⟨o, (hide_some.mp (e _ _ (hide_some.mpr ⟨hne, h⟩))).2⟩
  · exact .inr h
def z0 : Zn := ⟨none, [], []⟩
theorem hide_z0 (H : Hp) : hide z0 H = H := by
  funext b
  unfold hide
  rw [if_neg]
  rintro (q | q | q) <;> cases q
theorem w_z0 {G : GC} {H : Hp} : W G z0 [] H := ⟨fun a h => (by rcases h with h | h <;> cases h), fun a h => (by cases h), fun a h => (by cases h), fun a h => (by cases h)⟩
theorem reps_ints {G : GC} {pa pa' : Option Addr} {H H' : Hp} : ∀ {is : List Int} {xs : List V}, Reps G pa H (is.map D.int) xs → Reps G pa' H' (is.map D.int) xs
  | [], _, h => h
  | i :: is, _, h => by
    obtain ⟨v, r, rfl, h1, h2⟩ := h
    exact ⟨v, r, rfl, h1, reps_ints h2⟩
/-- the law's def: for turn in range(e): if not right(pool(script, turn)): return False; return True -/
def lawB (T : Tab) (N : List Str) (sc : Scope) (gR gP : Nat) (src : PX) (body : List Stmt) : Bool := match body with
  | [.For tg (.Call (.Name rg _) [e] [] _) [.If (.UnaryOp .Not (.Call (.Name r _) [c] [] _) _) [.Return (some (.Constant (.bool false) _ _)) _] [] _] [] _, .Return (some (.Constant (.bool true) _ _)) _] =>
    decide (rg = "range") && (glB sc rg && (noStar e && (chkE T N src sc e && (chkT N sc (fun _ => true) (.nm 1) tg && (noStar c && (chkE T N (.call gP (.cons (.var 0) (.cons (.var 1) .nil))) sc c && (glB sc r && (plainN r && match T.defs[gR]? with
      | some df => decide (df.nm = r) && decide (df.ps.length = 1)
      | none => false))))))))
  | _ => false
/-- what the law's def is promised for -/
def spLaw (K : PySem.W.Frag) (lim : Nat) : Sp := fun vs H Q _ => ∃ (a : Addr) (ns : List Int), vs = [.ref a] ∧ ns.length ≤ lim ∧ (∀ z ∈ ns, Builtin.Int.intBits z ≤ 1048576) ∧ Scr K H a (ns.map V.int) ∧ ∀ H', Q (.bl true) H'
def scrD (ns : List Int) : D := .frl (ns.map D.int)
/-- the plain law -/
def Plain (T : Tab) (C : Cf) (gR gP : Nat) (src : PX) (lim : Nat) : Prop := ∀ ns : List Int, ns.length ≤ lim → (∀ z ∈ ns, Builtin.Int.intBits z ≤ 1048576) → ∃ m : Nat, m < 1000 ∧ (∀ s, ev C src [.dat (scrD ns), s] [] = some (.int m, [])) ∧
  ∀ t, t < m → ∃ (is : List Int) (pl : Pl), C.call gP [scrD ns, .int (t : Nat)] [] = some (.lst (is.map D.int), []) ∧ C.call gR [.pool] (is.map D.int) = some (.bl true, pl)
theorem law_reads {X : Cx} {K : PySem.W.Frag} {fa : Nat → Option Addr} {T : Tab} {C : Cf} {N : List Str} {sc : Scope} {gR gP : Nat} {src : PX} {body : List Stmt} {lim : Nat} {s t : Str} (c : CxOk X ⟨K, fa⟩ T C N sc (fun _ => true)) (hC : CallOk T C) (hp : PassesOwn (model X.prog X.w) X.A X.env X.xe) (hN : N = [s, t])
    (h : lawB T N sc gR gP src body = true) (hpl : Plain T C gR gP src lim) : ∃ tt, PSs X body tt ∧ ∀ (vs : List V) (H : Hp) (Q : VK) (E : XK), spLaw K lim vs H Q E → tt { nx := fun _ H' => Q .non H', rt := Q } (L2.start N vs) H := by
  unfold lawB at h
  split at h
  · rename_i tg rg p1 e p2 r p3 c' p4 p5 n1 p6 p7 p8 p9 n2 p10 p11
    have h1 : rg = "range" := of_decide_eq_true (and_l h)
    have h2 := glB_ok c (and_l (and_r h))
    have h3 := and_l (and_r (and_r h))
    have h4 := and_l (and_r (and_r (and_r h)))
    have h5 := and_l (and_r (and_r (and_r (and_r h))))
    have h6 := and_l (and_r (and_r (and_r (and_r (and_r h)))))
    have h7 := and_l (and_r (and_r (and_r (and_r (and_r (and_r h))))))
    have h8 := glB_ok c (and_l (and_r (and_r (and_r (and_r (and_r (and_r (and_r h))))))))
    have h9 := and_l (and_r (and_r (and_r (and_r (and_r (and_r (and_r (and_r h))))))))
    have h10 := and_r (and_r (and_r (and_r (and_r (and_r (and_r (and_r (and_r h))))))))
    subst h1
    split at h10
    · rename_i df hd
      have k1 : df.nm = r := of_decide_eq_true (and_l h10)
      have k2 : df.ps.length = 1 := of_decide_eq_true (and_r h10)
      subst k1
      obtain ⟨f, fd, k, g1, g2, g3, g4, g5, g6, _⟩ := (c.defs gR df hd).ex
      have pe1 : PE X (.Call (.Name df.nm p3) [c'] [] p4) _ := pe_call (E := E0) g5 g4 h8 g2 g3 g6 .nil pass0 (pa_cons (ev_ok hC _ c c' h7).v pa_nil (star_cons h6)) (plainN_ok h9).1 (star_cons h6) rfl
      refine ⟨_, pss_cons (ps_for hp c.calm (pi_range1 h2 (c.blt _ (by simp [bltNames])) (pa_cons (ev_ok hC src c e h4).v pa_nil (star_cons h3)) (star_cons h3)) (pg_ok c (.nm 1) tg rfl h5)
        (pss_one (ps_if (pt_not (pt_truth pe1 fun whole => rfl)) (pss_one (ps_ret pe_bl)) pss_nil))) (pss_one (ps_ret pe_bl)), fun vs H Q E q => ?_⟩
      obtain ⟨a, ns, rfl, hn, hbt, hs, hQ⟩ := q
      obtain ⟨m, hm, em, ht⟩ := hpl ns hn hbt
      subst hN
      have rs : ∀ {H : Hp}, Scr K H a (ns.map V.int) → Rep ⟨K, fa⟩ z0.pa (hide z0 H) (scrD ns) (.ref a) := fun {H} hs => by
        rw [hide_z0]
        exact ⟨a, _, rfl, hs.sq, Reps.ints⟩
      have er1 : ∀ {H : Hp} {o : Option V}, Scr K H a (ns.map V.int) → ER ⟨K, fa⟩ z0 [.dat (scrD ns), .no] [] [some (.ref a), o] H := fun {H o} hs => by
        refine ⟨w_z0, rfl, fun i => ?_, fun i j ds1 ds2 b e1 => ?_⟩
        · match i with
          | 0 => exact ⟨.ref a, rfl, rs hs⟩
          | 1 => trivial
          | i + 2 => trivial
        · match i with
          | 0 => cases e1
          | 1 => cases e1
          | i + 2 => cases e1
      have er2 : ∀ {H : Hp} {i : Int}, Scr K H a (ns.map V.int) → ER ⟨K, fa⟩ z0 [.dat (scrD ns), .dat (.int i)] [] [some (.ref a), some (.int i)] H := fun {H i} hs => by
        refine ⟨w_z0, rfl, fun j => ?_, fun i j ds1 ds2 b e1 => ?_⟩
        · match j with
          | 0 => exact ⟨.ref a, rfl, rs hs⟩
          | 1 => exact ⟨.int i, rfl, rfl⟩
          | j + 2 => trivial
        · match i with
          | 0 => cases e1
          | 1 => cases e1
          | i + 2 => cases e1
      refine ⟨z0, _, [], _, _, er1 (o := none) hs, em .no, fun v H1 s1 w1 rv => ?_⟩
      cases (show v = V.int m from rv)
      have hs1 : Scr K H1 a (ns.map V.int) := hs.same (by have := s1.same; rw [hide_z0, hide_z0] at this; exact this)
      refine ⟨(m : Int), rfl, by omega, by omega, ?_⟩
      refine for_range (fun i σ' H' => ∃ o, σ' = [some (.ref a), o] ∧ Scr K H' a (ns.map V.int)) ⟨none, rfl, hs1⟩ (fun i σ' H' hi pv => ?_) (fun σ' H' pv => ?_)
      · obtain ⟨o, rfl, hs'⟩ := pv
        refine ⟨z0, _, [], .int (0 + (i : Nat)), _, [], er1 hs', rfl, rfl, fun σ2 hl hk er _ => ?_⟩
        have hσ : σ2 = [some (.ref a), some (.int (0 + (i : Nat)))] := by
          obtain ⟨x, y, rfl⟩ : ∃ x y, σ2 = [x, y] := by
            match σ2, hl with
            | [x, y], _ => exact ⟨x, y, rfl⟩
          have a0 := hk 0 rfl
          obtain ⟨v, b1, b2⟩ := er.slot 1
          cases (show v = V.int _ from b2)
          have b1 : y = some (.int (0 + (i : Nat))) := b1
          have a0 : some x = some (some (V.ref a)) := a0
          cases a0
          rw [show y = some (V.int (0 + (i : Nat))) from b1]
        subst hσ
        obtain ⟨is, pl2, q1, q2⟩ := ht i (by simpa using hi)
        have ec : ev C (.call gP (.cons (.var 0) (.cons (.var 1) .nil))) [.dat (scrD ns), .dat (.int (0 + (i : Nat)))] [] = some (.lst (is.map D.int), []) := by
          show C.call gP [scrD ns, .int (0 + (i : Nat))] [] = _
          rw [Int.zero_add]; exact q1
        refine ⟨z0, _, [], _, _, er2 hs', ec, fun v H2 s2 w2 rv => ?_⟩
        obtain ⟨p, xs, rfl, e2, r2⟩ := rv
        rw [hide_z0] at e2 r2
        have hs2 : Scr K H2 a (ns.map V.int) := hs'.same (by have := s2.same; rw [hide_z0, hide_z0] at this; exact this)
        have wp : W ⟨K, fa⟩ ⟨some p, [], []⟩ (is.map D.int) H2 := ⟨fun b hb => (by rcases hb with hb | hb <;> cases hb), fun b hb => (by cases hb), fun b hb => ⟨fun q => (by cases q), fun q => (by cases q)⟩, fun b hb => (by
          cases hb
          exact ⟨xs, e2, reps_ints r2⟩)⟩
        refine ⟨k2.symm, ⟨some p, [], []⟩, is.map D.int, [.pool], .bl true, pl2, rfl, wp, ⟨.ref p, [], rfl, ⟨p, rfl, rfl⟩, rfl⟩, q2, fun v H3 s3 w3 rv => ?_⟩
        cases (show v = V.bl true from rv)
        refine ⟨true, rfl, ?_⟩
        refine iteF ?_
        exact ⟨_, rfl, hs2.out e2 s3.same⟩
      · obtain ⟨o, rfl, hs'⟩ := pv
        exact hQ H'
    · cases h10
  · cases h
end FW
/-! FW23: the law's def keeps its promise. -/
namespace FW
open PySem PySem.Spec PyProof.Rows L2
theorem law_fn {T : Tab} {sts : List Stmt} {K : PySem.W.Frag} {mg : Str → Option Value} {P : Program} {w : World} {base : Heap} {fuel n gR gP lim : Nat} {src : PX} {st : Stmt} {s t : Str} {f : Addr} {fd : FuncData} (hT : TabOk T sts) (hh : HeadOk T sts K mg)
    (F : FunD K "law" "law" (C8.fnArgs st) (C8.fnBody st) (C8.fnScope st) [] [] f fd) (hS : C8.scC [s, t] [s] (C8.fnScope st) = true) (hB : lawB T [s, t] (C8.fnScope st) gR gP src (C8.fnBody st) = true)
    (hpl : Plain T ⟨conT T, run T.defs (conT T) fuel n, dfls T.defs, fuel⟩ gR gP src lim) : FnOk P w K mg base CX0 (n + 1) f fd [s] (spLaw K lim) := by
  have S := C8.fnScope_by hS
  refine F.ok S (fun vs H Q E h => by obtain ⟨a, ns, rfl, _⟩ := h; rfl) (fun cdv A outer s0 H vs Q E hr h => ?_)
  obtain ⟨tt, h1, h2⟩ := law_reads (X := (cxOf CX0 P w K mg base [s, t] "law" (C8.fnScope st) f cdv A outer s0 H E).nox) (fa := faT T K) (cx_ok (w := w) (P := P) (mg := mg) (base := base) (fuel := fuel) hT hh n (fn_ok hT hh n) rfl rfl rfl rfl rfl hr rfl S.nd rfl rfl fun _ _ => rfl) run_call PassesOwn.never rfl hB hpl
  exact ⟨tt, h1.nox, h2 vs H Q E h⟩
end FW
/-! FW24: a table's checks in parts. -/
namespace FW
open PySem PySem.Spec PyProof.Rows L2
def chkAll (T : Tab) : List Df → List Stmt → Bool
  | [], [] => true
  | d :: ds, s :: ss => chkDef T d s && chkAll T ds ss
  | _, _ => false
def AllB : List Df → List Stmt → Prop
  | [], [] => True
  | d :: ds, s :: ss => BindOk d s ∧ AllB ds ss
  | _, _ => False
theorem chkAll_app {T : Tab} : ∀ {ds es : List Df} {ss ts : List Stmt}, chkAll T ds ss = true → chkAll T es ts = true → chkAll T (ds ++ es) (ss ++ ts) = true
  | [], _, [], _, _, h => h
  | [], _, _ :: _, _, h, _ => by cases h
  | _ :: _, _, [], _, h, _ => by cases h
  | d :: ds, _, s :: ss, _, h, h' => by
    show (chkDef T d s && chkAll T (ds ++ _) (ss ++ _)) = true
    rw [and_l h, chkAll_app (and_r h) h']
    rfl
theorem allB_app : ∀ {ds es : List Df} {ss ts : List Stmt}, AllB ds ss → AllB es ts → AllB (ds ++ es) (ss ++ ts)
  | [], _, [], _, _, h => h
  | [], _, _ :: _, _, h, _ => h.elim
  | _ :: _, _, [], _, h, _ => h.elim
  | _ :: _, _, _ :: _, _, h, h' => ⟨h.1, allB_app h.2 h'⟩
theorem at_of {T : Tab} : ∀ {ds : List Df} {ss : List Stmt} {g : Nat} {df : Df}, chkAll T ds ss = true → AllB ds ss → ds[g]? = some df → ∃ st, ss[g]? = some st ∧ chkDef T df st = true ∧ BindOk df st
  | [], _, _, _, _, _, e => by simp at e
  | _ :: _, [], _, _, h, _, _ => by cases h
  | d :: ds, s :: ss, 0, _, h, b, e => by
    simp at e
    subst e
    exact ⟨s, rfl, and_l h, b.1⟩
  | d :: ds, s :: ss, g + 1, _, h, b, e => by
    obtain ⟨st, e1, h1⟩ := at_of (and_r h) b.2 (show ds[g]? = some _ by simpa using e)
    exact ⟨st, by simpa using e1, h1⟩
theorem tabOk_of {T : Tab} {sts : List Stmt} (h : chkAll T T.defs sts = true) (b : AllB T.defs sts) : TabOk T sts := ⟨fun _ _ e => at_of h b e⟩
end FW
/-! FW25: what the evaluator gives, step by step. -/
namespace FW
open PySem PySem.Spec PyProof.Rows L2
section
variable {C : Cf} {ρ ρ' ρ2 ρ3 : En} {p p1 p2 p3 p4 : Pl} {a b c e : PX} {es : PXs} {x y d d2 : D} {ds : List D} {i g : Nat}
theorem v_var (h : rd ρ i = some d) : ev C (.var i) ρ p = some (d, p) := by show (rd ρ i).bind _ = _; rw [h]; rfl
theorem v_con : ev C (.con d) ρ p = some (d, p) := rfl
theorem v_glo {k : Nat} (h : C.cons[k]? = some d) : ev C (.glo k) ρ p = some (d, p) := by show (C.cons[k]?).bind _ = _; rw [h]; rfl
theorem v_fnv : ev C (.fnv g) ρ p = some (.fn g, p) := rfl
theorem v_abs : ev C .abs ρ p = some (.non, p) := rfl
theorem v_bin {op : Operator} (ha : ev C a ρ p = some (x, p1)) (hb : ev C b ρ p1 = some (y, p2)) (h : opD op x y = some d) : ev C (.bin op a b) ρ p = some (d, p2) := by
  show (ev C a ρ p).bind _ = _
  rw [ha]
  show (ev C b ρ p1).bind _ = _
  rw [hb]
  show (opD op x y).bind _ = _
  rw [h]; rfl
theorem v_neg {j : Int} (ha : ev C a ρ p = some (.int j, p1)) : ev C (.neg a) ρ p = some (.int (-j), p1) := by
  show (ev C a ρ p).bind _ = _
  rw [ha]; rfl
theorem v_not {t : Bool} (ha : ev C a ρ p = some (x, p1)) (h : truD x = some t) : ev C (.not a) ρ p = some (.bl (!t), p1) := by
  show (ev C a ρ p).bind _ = _
  rw [ha]
  show (truD x).bind _ = _
  rw [h]; rfl
theorem o_var (h : pk ρ i = some d) : evO C (.var i) ρ p = some (d, p) := by show (pk ρ i).bind _ = _; rw [h]; rfl
theorem o_of (h : ev C e ρ p = some (d, p1)) (hv : ∀ i, e ≠ .var i) : evO C e ρ p = some (d, p1) := by
  unfold evO
  cases e <;> first | exact h | exact absurd rfl (hv _)
theorem v_cmp {op : CmpOp} (ha : evO C a ρ p = some (x, p1)) (hb : evO C b ρ p1 = some (y, p2)) (h : cmpD op x y = some d) : ev C (.cmp op a b) ρ p = some (d, p2) := by
  show (evO C a ρ p).bind _ = _
  rw [ha]
  show (evO C b ρ p1).bind _ = _
  rw [hb]
  show (cmpD op x y).bind _ = _
  rw [h]; rfl
theorem v_chn {op op' : CmpOp} {t t' : Bool} {z : D} (ha : ev C a ρ p = some (x, p1)) (hb : ev C b ρ p1 = some (y, p2)) (h : cmpD op x y = some (.bl t)) (hc : ev C c ρ p2 = some (z, p2)) (h2 : cmpD op' y z = some (.bl t')) : ev C (.chn op op' a b c) ρ p = some (.bl (t && t'), p2) := by
  show (ev C a ρ p).bind _ = _
  rw [ha]
  show (ev C b ρ p1).bind _ = _
  rw [hb]
  show (cmpD op x y).bind _ = _
  rw [h]
  cases t with
  | false => rfl
  | true =>
    show (ev C c ρ p2).bind _ = _
    rw [hc]
    show (cmpD op' y z).bind _ = _
    rw [h2]; rfl
theorem v_and {t : Bool} {r : D × Pl} (ha : ev C a ρ p = some (x, p1)) (h : truD x = some t) (hb : (if t then ev C b ρ p1 else some (x, p1)) = some r) : ev C (.and a b) ρ p = some r := by
  show (ev C a ρ p).bind _ = _
  rw [ha]
  show (truD x).bind _ = _
  rw [h]
  cases t <;> exact hb
theorem v_or {t : Bool} {r : D × Pl} (ha : ev C a ρ p = some (x, p1)) (h : truD x = some t) (hb : (if t then some (x, p1) else ev C b ρ p1) = some r) : ev C (.or a b) ρ p = some r := by
  show (ev C a ρ p).bind _ = _
  rw [ha]
  show (truD x).bind _ = _
  rw [h]
  cases t <;> exact hb
/-- and, or of truths: both sides told, the pool left alone -/
theorem v_and2 {t u : Bool} (ha : ev C a ρ p = some (.bl t, p)) (hb : t = true → ev C b ρ p = some (.bl u, p)) : ev C (.and a b) ρ p = some (.bl (t && u), p) := by
  refine v_and (t := t) ha rfl ?_
  cases t with
  | false => rfl
  | true => exact hb rfl
theorem v_or2 {t u : Bool} (ha : ev C a ρ p = some (.bl t, p)) (hb : t = false → ev C b ρ p = some (.bl u, p)) : ev C (.or a b) ρ p = some (.bl (t || u), p) := by
  refine v_or (t := t) ha rfl ?_
  cases t with
  | true => rfl
  | false => exact hb rfl
theorem v_ite {t : Bool} {r : D × Pl} (hc : ev C c ρ p = some (x, p1)) (h : truD x = some t) (hb : (if t then ev C a ρ p1 else ev C b ρ p1) = some r) : ev C (.ite c a b) ρ p = some r := by
  show (ev C c ρ p).bind _ = _
  rw [hc]
  show (truD x).bind _ = _
  rw [h]
  cases t <;> exact hb
theorem v_iteT {r : D × Pl} (hc : ev C c ρ p = some (x, p1)) (h : truD x = some true) (hb : ev C a ρ p1 = some r) : ev C (.ite c a b) ρ p = some r := v_ite hc h hb
theorem v_iteF {r : D × Pl} (hc : ev C c ρ p = some (x, p1)) (h : truD x = some false) (hb : ev C b ρ p1 = some r) : ev C (.ite c a b) ρ p = some r := v_ite hc h hb
theorem vs_nil : evs C .nil ρ p = some ([], p) := rfl
theorem vs_cons (ha : ev C e ρ p = some (x, p1)) (hb : evs C es ρ p1 = some (ds, p2)) : evs C (.cons e es) ρ p = some (x :: ds, p2) := by
  show (ev C e ρ p).bind _ = _
  rw [ha]
  show (evs C es ρ p1).bind _ = _
  rw [hb]; rfl
theorem os_nil : evOs C .nil ρ p = some ([], p) := rfl
theorem os_cons (ha : evO C e ρ p = some (x, p1)) (hb : evOs C es ρ p1 = some (ds, p2)) : evOs C (.cons e es) ρ p = some (x :: ds, p2) := by
  show (evO C e ρ p).bind _ = _
  rw [ha]
  show (evOs C es ρ p1).bind _ = _
  rw [hb]; rfl
theorem v_tup (h : evs C es ρ p = some (ds, p1)) (hl : ds.length ≤ 1000000) : ev C (.tup es) ρ p = some (.tup ds, p1) := by
  show (evs C es ρ p).bind _ = _
  rw [h]
  show (if ds.length ≤ 1000000 then _ else _) = _
  rw [if_pos hl]
theorem v_lst (h : evs C es ρ p = some (ds, p1)) (hl : ds.length ≤ 1000000) : ev C (.lst es) ρ p = some (.lst ds, p1) := by
  show (evs C es ρ p).bind _ = _
  rw [h]
  show (if ds.length ≤ 1000000 then _ else _) = _
  rw [if_pos hl]
theorem v_ix (ha : evO C a ρ p = some (x, p1)) (hb : ev C b ρ p1 = some (y, p2)) (h : ixP x y p2 = some d) : ev C (.ix a b) ρ p = some (d, p2) := by
  show (evO C a ρ p).bind _ = _
  rw [ha]
  show (ev C b ρ p1).bind _ = _
  rw [hb]
  refine ixP_eq.trans ?_
  rw [h]; rfl
theorem v_sl {l h : Option Int} (ha : evO C a ρ p = some (x, p1)) (hb : ev C b ρ p1 = some (y, p2)) (hl : partD (isAbs b) y = some l) (hc : ev C c ρ p2 = some (d2, p3)) (hh : partD (isAbs c) d2 = some h) (hd : slD x l h = some d) : ev C (.sl a b c) ρ p = some (d, p3) := by
  show (evO C a ρ p).bind _ = _
  rw [ha]
  show (ev C b ρ p1).bind _ = _
  rw [hb]
  show (partD (isAbs b) y).bind _ = _
  rw [hl]
  show (ev C c ρ p2).bind _ = _
  rw [hc]
  show (partD (isAbs c) d2).bind _ = _
  rw [hh]
  show (slD x l h).bind _ = _
  rw [hd]; rfl
theorem v_call {r : D × Pl} (ha : evs C es ρ p = some (ds, p1)) (h : C.call g ds p1 = some r) : ev C (.call g es) ρ p = some r := by
  show (evs C es ρ p).bind _ = _
  rw [ha]
  exact h
theorem v_calld {r : D × Pl} (ha : evs C es ρ p = some (ds, p1)) (h : C.call g (ds ++ C.dfl g) p1 = some r) : ev C (.calld g es) ρ p = some r := by
  show (evs C es ρ p).bind _ = _
  rw [ha]
  exact h
theorem v_callv {r : D × Pl} (hi : rd ρ i = some (.fn g)) (ha : evs C es ρ p = some (ds, p1)) (h : C.call g ds p1 = some r) : ev C (.callv i es) ρ p = some r := by
  show (match rd ρ i with
    | some (.fn g) => (evs C es ρ p).bind fun x => C.call g x.1 x.2
    | _ => none) = _
  rw [hi]
  show (evs C es ρ p).bind _ = _
  rw [ha]
  exact h
theorem v_bi {bb : Bi} (ha : evOs C es ρ p = some (ds, p1)) (h : biD bb ds = some d) : ev C (.bi bb es) ρ p = some (d, p1) := by
  show (evOs C es ρ p).bind _ = _
  rw [ha]
  show (biD bb ds).bind _ = _
  rw [h]; rfl
theorem v_isi {n : Tn} {t : Bool} (ha : ev C a ρ p = some (x, p1)) (h : isiD n x = some t) : ev C (.isi a n) ρ p = some (.bl t, p1) := by
  show (ev C a ρ p).bind _ = _
  rw [ha]
  show (isiD n x).bind _ = _
  rw [h]; rfl
theorem v_lc {elt : PX} {tg : Tg} {src : Sr} {cc : PX} {vs : List Nat} {items out : List D} (hs : evSr C src ρ p = some (items, p1)) (hm : mapF (lcF tg vs (ev C cc) (ev C elt) ρ) items p1 = some (out, p2)) (hl : out.length ≤ 1000000) : ev C (.lc elt tg src cc vs) ρ p = some (.lst out, p2) := by
  show (evSr C src ρ p).bind _ = _
  rw [hs]
  show (mapF _ items p1).bind _ = _
  rw [hm]
  show (if out.length ≤ 1000000 then _ else _) = _
  rw [if_pos hl]
theorem sr_it (ha : evO C a ρ p = some (x, p1)) (h : seqOf x = some ds) : evSr C (.it a) ρ p = some (ds, p1) := by
  show (evO C a ρ p).bind _ = _
  rw [ha]
  show (seqOf x).bind _ = _
  rw [h]; rfl
theorem rng_nat {n : Nat} (h : n < 1000000) : rngOk (n : Int) = true := by
  unfold rngOk
  simp only [Bool.and_eq_true, decide_eq_true_eq]
  omega
theorem sr_rng1 {n : Nat} (ha : ev C a ρ p = some (.int n, p1)) (h : n < 1000000) : evSr C (.rng1 a) ρ p = some (rangeD 0 n, p1) := by
  have e : evSr C (.rng1 a) ρ p = (ev C a ρ p).bind (fun x => match x.1 with
    | .int j => if rngOk j then some (rangeD 0 j.toNat, x.2) else none
    | _ => none) := rfl
  rw [e, ha, Option.bind_some]
  simp only [rng_nat h, if_true, Int.toNat_natCast]
theorem sr_enm (ha : evO C a ρ p = some (x, p1)) (h : seqOf x = some ds) : evSr C (.enm a) ρ p = some (enumF 0 ds, p1) := by
  show (evO C a ρ p).bind _ = _
  rw [ha]
  show (seqOf x).bind _ = _
  rw [h]; rfl
theorem sr_zip {xs ys : List D} (ha : evO C a ρ p = some (x, p1)) (hb : evO C b ρ p1 = some (y, p2)) (h : seqOf x = some xs) (h2 : seqOf y = some ys) (h3 : (isTup x == isTup y) = true) : evSr C (.zip a b) ρ p = some (pairs xs ys, p2) := by
  show (evO C a ρ p).bind _ = _
  rw [ha]
  show (evO C b ρ p1).bind _ = _
  rw [hb]
  show (seqOf x).bind _ = _
  rw [h]
  show (seqOf y).bind _ = _
  rw [h2]
  show (if isTup x == isTup y then _ else _) = _
  rw [if_pos h3]
theorem sq_it (ha : ev C a ρ p = some (x, p1)) (h : seqOf x = some ds) : evSrS C (.it a) ρ p = some (ds, p1) := by
  show (ev C a ρ p).bind _ = _
  rw [ha]
  show (seqOf x).bind _ = _
  rw [h]; rfl
theorem sq_rng1 {n : Nat} (ha : ev C a ρ p = some (.int n, p1)) (h : n < 1000000) : evSrS C (.rng1 a) ρ p = some (rangeD 0 n, p1) := (show evSrS C (.rng1 a) ρ p = evSr C (.rng1 a) ρ p from rfl).trans (sr_rng1 ha h)
theorem sq_enm (ha : ev C a ρ p = some (x, p1)) (h : seqOf x = some ds) : evSrS C (.enm a) ρ p = some (enumF 0 ds, p1) := by
  show (ev C a ρ p).bind _ = _
  rw [ha]
  show (seqOf x).bind _ = _
  rw [h]; rfl
theorem sq_zip {xs ys : List D} (ha : ev C a ρ p = some (x, p1)) (hb : ev C b ρ p1 = some (y, p2)) (h : seqOf x = some xs) (h2 : seqOf y = some ys) (h3 : (isTup x == isTup y) = true) : evSrS C (.zip a b) ρ p = some (pairs xs ys, p2) := by
  show (ev C a ρ p).bind _ = _
  rw [ha]
  show (ev C b ρ p1).bind _ = _
  rw [hb]
  show (seqOf x).bind _ = _
  rw [h]
  show (seqOf y).bind _ = _
  rw [h2]
  show (if isTup x == isTup y then _ else _) = _
  rw [if_pos h3]
/-! ### statements -/
variable {t : Tg} {s : QS} {r : QSs} {f : Fl} {w : Fl × En × Pl} {j k : Nat}
theorem x_asg (h : ev C e ρ p = some (x, p1)) (hb : bindT t x ρ p1 = some (ρ', p2)) : ex C (.asg t e) ρ p = some (.nx, ρ', p2) := by
  show (ev C e ρ p).bind _ = _
  rw [h]
  show (bindT t x ρ p1).bind _ = _
  rw [hb]; rfl
theorem x_own (h : evs C es ρ p = some (ds, p1)) (hl : ds.length ≤ 1000000) (hb : setS ρ i (.own ds) = some ρ') : ex C (.own i es) ρ p = some (.nx, ρ', p1) := by
  show (evs C es ρ p).bind _ = _
  rw [h]
  show (if ds.length ≤ 1000000 then _ else _) = _
  rw [if_pos hl]
  show (setS ρ i (.own ds)).bind _ = _
  rw [hb]; rfl
theorem x_par (ha : ev C a ρ p = some (x, p1)) (hb : ev C b ρ p1 = some (y, p2)) (h1 : setS ρ i (.dat x) = some ρ') (h2 : setS ρ' j (.dat y) = some ρ2) : ex C (.par i j a b) ρ p = some (.nx, ρ2, p2) := by
  show (ev C a ρ p).bind _ = _
  rw [ha]
  show (ev C b ρ p1).bind _ = _
  rw [hb]
  show (setS ρ i (.dat x)).bind _ = _
  rw [h1]
  show (setS ρ' j (.dat y)).bind _ = _
  rw [h2]; rfl
theorem x_paro (ha : ev C a ρ p = some (x, p1)) (h1 : setS ρ i (.dat x) = some ρ') (h2 : setS ρ' j (.own []) = some ρ2) : ex C (.paro i j a) ρ p = some (.nx, ρ2, p1) := by
  show (ev C a ρ p).bind _ = _
  rw [ha]
  show (setS ρ i (.dat x)).bind _ = _
  rw [h1]
  show (setS ρ' j (.own [])).bind _ = _
  rw [h2]; rfl
theorem x_app (h : ev C e ρ p = some (x, p1)) (ho : ρ[i]?.getD .no = .own ds) (hl : ds.length ≤ 1000000) (hb : setS ρ i (.own (ds ++ [x])) = some ρ') : ex C (.app i e) ρ p = some (.nx, ρ', p1) := by
  show (ev C e ρ p).bind _ = _
  rw [h]
  show (match ρ[i]?.getD .no with
    | .own ds => if ds.length ≤ 1000000 then (setS ρ i (.own (ds ++ [x]))).bind fun ρ => some (Fl.nx, ρ, p1) else none
    | _ => none) = _
  rw [ho]
  show (if ds.length ≤ 1000000 then _ else _) = _
  rw [if_pos hl, hb]; rfl
theorem x_ext {es : List D} (h : ev C e ρ p = some (.lst es, p1)) (ho : ρ[i]?.getD .no = .own ds) (hl : ds.length + es.length ≤ 1000000) (hb : setS ρ i (.own (ds ++ es)) = some ρ') : ex C (.ext i e) ρ p = some (.nx, ρ', p1) := by
  show (ev C e ρ p).bind _ = _
  rw [h]
  show (match ρ[i]?.getD .no, D.lst es with
    | .own ds, .lst es => if ds.length + es.length ≤ 1000000 then (setS ρ i (.own (ds ++ es))).bind fun ρ => some (Fl.nx, ρ, p1) else none
    | _, _ => none) = _
  rw [ho]
  show (if ds.length + es.length ≤ 1000000 then _ else _) = _
  rw [if_pos hl, hb]; rfl
theorem x_frz (ho : ρ[i]?.getD .no = .own ds) (hb : setS ρ i (.dat (.lst ds)) = some ρ') : ex C (.frz i) ρ p = some (.nx, ρ', p) := by
  show (match ρ[i]?.getD .no with
    | .own ds => (setS ρ i (.dat (.lst ds))).bind fun ρ => some (Fl.nx, ρ, p)
    | _ => none) = _
  rw [ho]
  show (setS ρ i (.dat (.lst ds))).bind _ = _
  rw [hb]; rfl
theorem x_setP {z : Int} {e2 : PX} (h : ev C e ρ p = some (x, p1)) (hk : ev C e2 ρ p1 = some (.int z, p2)) (ho : ρ[i]?.getD .no = .dat .pool) (hx : ixN p2.length z = some j) : ex C (.setix i e2 e) ρ p = some (.nx, ρ, p2.set j x) := by
  show (ev C e ρ p).bind _ = _
  rw [h]
  show (ev C e2 ρ p1).bind _ = _
  rw [hk]
  show (match ρ[i]?.getD .no, D.int z with
    | .own ds, .int k => (ixN ds.length k).bind fun j => (setS ρ i (.own (ds.set j x))).bind fun ρ => some (Fl.nx, ρ, p2)
    | .dat .pool, .int k => (ixN p2.length k).bind fun j => some (.nx, ρ, p2.set j x)
    | _, _ => none) = _
  rw [ho]
  show (ixN p2.length z).bind _ = _
  rw [hx]; rfl
theorem x_if {tt : Bool} {q1 q2 : QSs} (h : ev C e ρ p = some (x, p1)) (ht : truD x = some tt) (hb : (if tt then exs C q1 ρ p1 else exs C q2 ρ p1) = some w) : ex C (.ifs e q1 q2) ρ p = some w := by
  show (ev C e ρ p).bind _ = _
  rw [h]
  show (truD x).bind _ = _
  rw [ht]
  cases tt <;> exact hb
theorem x_ifT {q1 q2 : QSs} (h : ev C e ρ p = some (x, p1)) (ht : truD x = some true) (hb : exs C q1 ρ p1 = some w) : ex C (.ifs e q1 q2) ρ p = some w := x_if h ht hb
theorem x_ifF {q1 q2 : QSs} (h : ev C e ρ p = some (x, p1)) (ht : truD x = some false) (hb : exs C q2 ρ p1 = some w) : ex C (.ifs e q1 q2) ρ p = some w := x_if h ht hb
theorem x_fr {src : Sr} {q : QSs} {items : List D} (h : evSrS C src ρ p = some (items, p1)) (hb : forF (fun d ρ p => (bindT t d ρ p).bind fun r => exs C q r.1 r.2) items ρ p1 = some w) : ex C (.fr t src q) ρ p = some w := by
  show (evSrS C src ρ p).bind _ = _
  rw [h]
  exact hb
theorem x_ret (h : evO C e ρ p = some (x, p1)) : ex C (.ret e) ρ p = some (.ret x, ρ, p1) := by
  show (evO C e ρ p).bind _ = _
  rw [h]; rfl
theorem x_exp (h : ev C e ρ p = some (x, p1)) : ex C (.exp e) ρ p = some (.nx, ρ, p1) := by
  show (ev C e ρ p).bind _ = _
  rw [h]; rfl
theorem xs_nil : exs C .nil ρ p = some (.nx, ρ, p) := rfl
theorem xs_nx (h : ex C s ρ p = some (.nx, ρ', p1)) (hr : exs C r ρ' p1 = some w) : exs C (.cons s r) ρ p = some w := by
  show (ex C s ρ p).bind _ = _
  rw [h]
  exact hr
theorem xs_ret (h : ex C s ρ p = some (.ret d, ρ', p1)) : exs C (.cons s r) ρ p = some (.ret d, ρ', p1) := by
  show (ex C s ρ p).bind _ = _
  rw [h]; rfl
/-- one statement, by what it gives -/
theorem xs_cons (h : ex C s ρ p = some w) (hr : (match w.1 with | .nx => exs C r w.2.1 w.2.2 | _ => some w) = some (f, ρ2, p2)) : exs C (.cons s r) ρ p = some (f, ρ2, p2) := by
  show (ex C s ρ p).bind _ = _
  rw [h]
  exact hr
/-! ### calls -/
theorem fn_ret {T : Tab} {cons : List D} {F n g : Nat} {df : Df} (hd : T.defs[g]? = some df) (hl : ds.length = df.ps.length) (h : exs ⟨cons, run T.defs cons F n, dfls T.defs, F⟩ df.body (startE df.N.length ds) p = some (.ret d, ρ', p1)) : run T.defs cons F (n + 1) g ds p = some (d, p1) := by
  unfold run
  rw [hd]
  show (if ds.length = df.ps.length then _ else none) = _
  rw [if_pos hl, h]; rfl
theorem fn_nx {T : Tab} {cons : List D} {F n g : Nat} {df : Df} (hd : T.defs[g]? = some df) (hl : ds.length = df.ps.length) (h : exs ⟨cons, run T.defs cons F n, dfls T.defs, F⟩ df.body (startE df.N.length ds) p = some (.nx, ρ', p1)) : run T.defs cons F (n + 1) g ds p = some (.non, p1) := by
  unfold run
  rw [hd]
  show (if ds.length = df.ps.length then _ else none) = _
  rw [if_pos hl, h]; rfl
/-! ### loops -/
theorem for_nil {fb : D → En → Pl → X3} : forF fb [] ρ p = some (.nx, ρ, p) := rfl
theorem for_nx {fb : D → En → Pl → X3} (h : fb d ρ p = some (.nx, ρ', p1)) (hr : forF fb ds ρ' p1 = some w) : forF fb (d :: ds) ρ p = some w := by
  show (fb d ρ p).bind _ = _
  rw [h]
  exact hr
theorem body_nx {fb : En → Pl → X3} (hb : bindT t d ρ p = some (ρ', p1)) (h : fb ρ' p1 = some w) : ((bindT t d ρ p).bind fun r => fb r.1 r.2) = some w := by
  rw [hb]
  exact h
theorem map_nil {F : D → Pl → Option (Option D × Pl)} : mapF F [] p = some ([], p) := rfl
theorem map_some {F : D → Pl → Option (Option D × Pl)} (h : F d p = some (some x, p1)) {ds' : List D} (hr : mapF F ds p1 = some (ds', p2)) : mapF F (d :: ds) p = some (x :: ds', p2) := by
  show (F d p).bind _ = _
  rw [h]
  show (mapF F ds p1).bind _ = _
  rw [hr]; rfl
theorem map_none {F : D → Pl → Option (Option D × Pl)} (h : F d p = some (none, p1)) {ds' : List D} (hr : mapF F ds p1 = some (ds', p2)) : mapF F (d :: ds) p = some (ds', p2) := by
  show (F d p).bind _ = _
  rw [h]
  show (mapF F ds p1).bind _ = _
  rw [hr]; rfl
/-- every item kept, the pool left alone -/
theorem map_all {F : D → Pl → Option (Option D × Pl)} {α : Type} {gi go : α → D} : ∀ {l : List α}, (∀ x ∈ l, F (gi x) p = some (some (go x), p)) → mapF F (l.map gi) p = some (l.map go, p)
  | [], _ => rfl
  | x :: l, h => map_some (h x (List.mem_cons_self ..)) (map_all fun y hy => h y (List.mem_cons_of_mem _ hy))
/-- some items kept -/
theorem map_if {F : D → Pl → Option (Option D × Pl)} {α : Type} {gi go : α → D} {q : α → Bool} : ∀ {l : List α}, (∀ x ∈ l, F (gi x) p = some (if q x then some (go x) else none, p)) → mapF F (l.map gi) p = some ((l.filter q).map go, p)
  | [], _ => rfl
  | x :: l, h => by
    have h1 := h x (List.mem_cons_self ..)
    have h2 := map_if (l := l) fun y hy => h y (List.mem_cons_of_mem _ hy)
    cases e : q x with
    | true =>
      rw [e] at h1
      rw [List.filter_cons_of_pos e]
      exact map_some h1 h2
    | false =>
      rw [e] at h1
      rw [List.filter_cons_of_neg (by rw [e]; decide)]
      exact map_none h1 h2
theorem lc_yes {vs : List Nat} {Fe : En → Pl → M D} (hb : bindT t d (wipeE ρ vs) p = some (ρ', p1)) (he : Fe ρ' p1 = some (x, p2)) : lcF t vs (ev C (.con (.bl true))) Fe ρ d p = some (some x, p2) := by
  unfold lcF
  rw [hb]
  show (Fe ρ' p1).bind _ = _
  rw [he]; rfl
theorem lc_if {vs : List Nat} {Fc Fe : En → Pl → M D} {tt : Bool} (hb : bindT t d (wipeE ρ vs) p = some (ρ', p1)) (hc : Fc ρ' p1 = some (y, p1)) (ht : truD y = some tt) (he : tt = true → Fe ρ' p1 = some (x, p1)) : lcF t vs Fc Fe ρ d p = some (if tt then some x else none, p1) := by
  unfold lcF
  rw [hb]
  show (Fc ρ' p1).bind _ = _
  rw [hc]
  show (truD y).bind _ = _
  rw [ht]
  cases tt with
  | false => rfl
  | true =>
    show (Fe ρ' p1).bind _ = _
    rw [he rfl]; rfl
end
end FW
/-! FW26: the same, where a truth is known. -/
namespace FW
open PySem PySem.Spec PyProof.Rows L2
section
variable {C : Cf} {ρ ρ' ρ2 ρ3 : En} {p p1 p2 p3 p4 : Pl} {a b c e : PX} {es : PXs} {x y d d2 : D} {ds : List D} {i g : Nat} {r : D × Pl} {w : Fl × En × Pl}
theorem v_notT (ha : ev C a ρ p = some (x, p1)) (h : truD x = some true) : ev C (.not a) ρ p = some (.bl false, p1) := v_not ha h
theorem v_notF (ha : ev C a ρ p = some (x, p1)) (h : truD x = some false) : ev C (.not a) ρ p = some (.bl true, p1) := v_not ha h
theorem v_andT (ha : ev C a ρ p = some (x, p1)) (h : truD x = some true) (hb : ev C b ρ p1 = some r) : ev C (.and a b) ρ p = some r := v_and ha h hb
theorem v_andF (ha : ev C a ρ p = some (x, p1)) (h : truD x = some false) : ev C (.and a b) ρ p = some (x, p1) := v_and ha h rfl
theorem v_orF (ha : ev C a ρ p = some (x, p1)) (h : truD x = some false) (hb : ev C b ρ p1 = some r) : ev C (.or a b) ρ p = some r := v_or ha h hb
theorem v_orT (ha : ev C a ρ p = some (x, p1)) (h : truD x = some true) : ev C (.or a b) ρ p = some (x, p1) := v_or ha h rfl
theorem fn_ret2 {T : Tab} {cons : List D} {F n g : Nat} {df : Df} (hd : T.defs[g]? = some df) (hl : ds.length = df.ps.length) (h : exs ⟨cons, run T.defs cons F n, dfls T.defs, F⟩ df.body (startE df.N.length ds) p = some (.ret d, ρ', p1)) (e : d = d2) : run T.defs cons F (n + 1) g ds p = some (d2, p1) := by
  rw [← e]
  exact fn_ret hd hl h
theorem xs_ifF {q1 : QSs} {r : QSs} {w : Fl × En × Pl} (h : ev C e ρ p = some (x, p1)) (ht : truD x = some false) (hr : exs C r ρ p1 = some w) : exs C (.cons (.ifs e q1 .nil) r) ρ p = some w := xs_nx (x_ifF h ht xs_nil) hr
theorem xs_exp {r : QSs} {w : Fl × En × Pl} (h : ev C e ρ p = some (x, p1)) (hr : exs C r ρ p1 = some w) : exs C (.cons (.exp e) r) ρ p = some w := xs_nx (x_exp h) hr
theorem bl_eq {a b : Bool} (h : a = b) : D.bl a = D.bl b := by rw [h]
/-- a loop over no items -/
theorem xs_frNil {t : Tg} {src : Sr} {q r : QSs} {w : Fl × En × Pl} (h : evSrS C src ρ p = some ([], p1)) (hr : exs C r ρ p1 = some w) : exs C (.cons (.fr t src q) r) ρ p = some w := xs_nx (x_fr h rfl) hr
end
end FW
set_option maxHeartbeats 400000
/-! FW27: the evaluator backwards: what has to hold behind it. -/
namespace FW
open PySem PySem.Spec PyProof.Rows L2
inductive WV {α : Type} (m : Option α) (Q : α → Prop) : Prop where
  | mk (d : α) (h0 : m = some d) (h1 : Q d) : WV m Q
inductive WE (C : Cf) (e : PX) (ρ : En) (p : Pl) (Q : D → Pl → Prop) : Prop where
  | mk (d : D) (p' : Pl) (h0 : ev C e ρ p = some (d, p')) (h1 : Q d p') : WE C e ρ p Q
inductive WO (C : Cf) (e : PX) (ρ : En) (p : Pl) (Q : D → Pl → Prop) : Prop where
  | mk (d : D) (p' : Pl) (h0 : evO C e ρ p = some (d, p')) (h1 : Q d p') : WO C e ρ p Q
inductive WEs (C : Cf) (es : PXs) (ρ : En) (p : Pl) (Q : List D → Pl → Prop) : Prop where
  | mk (d : List D) (p' : Pl) (h0 : evs C es ρ p = some (d, p')) (h1 : Q d p') : WEs C es ρ p Q
inductive WOs (C : Cf) (es : PXs) (ρ : En) (p : Pl) (Q : List D → Pl → Prop) : Prop where
  | mk (d : List D) (p' : Pl) (h0 : evOs C es ρ p = some (d, p')) (h1 : Q d p') : WOs C es ρ p Q
/-- items of a comprehension; of a for -/
inductive WL (C : Cf) (s : Sr) (ρ : En) (p : Pl) (Q : List D → Pl → Prop) : Prop where
  | mk (d : List D) (p' : Pl) (h0 : evSr C s ρ p = some (d, p')) (h1 : Q d p') : WL C s ρ p Q
inductive WS (C : Cf) (s : Sr) (ρ : En) (p : Pl) (Q : List D → Pl → Prop) : Prop where
  | mk (d : List D) (p' : Pl) (h0 : evSrS C s ρ p = some (d, p')) (h1 : Q d p') : WS C s ρ p Q
inductive WT (t : Tg) (d : D) (ρ : En) (p : Pl) (Q : En → Pl → Prop) : Prop where
  | mk (ρ' : En) (p' : Pl) (h0 : bindT t d ρ p = some (ρ', p')) (h1 : Q ρ' p') : WT t d ρ p Q
inductive WX (C : Cf) (q : QSs) (ρ : En) (p : Pl) (Q : Fl → En → Pl → Prop) : Prop where
  | mk (f : Fl) (ρ' : En) (p' : Pl) (h0 : exs C q ρ p = some (f, ρ', p')) (h1 : Q f ρ' p') : WX C q ρ p Q
inductive WX1 (C : Cf) (q : QS) (ρ : En) (p : Pl) (Q : Fl → En → Pl → Prop) : Prop where
  | mk (f : Fl) (ρ' : En) (p' : Pl) (h0 : ex C q ρ p = some (f, ρ', p')) (h1 : Q f ρ' p') : WX1 C q ρ p Q
inductive WC (C : Cf) (g : Nat) (ds : List D) (p : Pl) (Q : D → Pl → Prop) : Prop where
  | mk (d : D) (p' : Pl) (h0 : C.call g ds p = some (d, p')) (h1 : Q d p') : WC C g ds p Q
/-- by a truth -/
inductive WB (d : D) (A B : Prop) : Prop where
  | mk (t : Bool) (h0 : truD d = some t) (h1 : (t = true → A)) (h2 : (t = false → B)) : WB d A B
inductive CB (d : D) (A B : Prop) : Prop where
  | mk (t : Bool) (h0 : d = .bl t) (h1 : (t = true → A)) (h2 : (t = false → B)) : CB d A B
def negD : D → Option D
  | .int i => some (.int (-i))
  | _ => none
/-- a slot set -/
inductive Up : En → Nat → Slot → En → Prop where
  | z {a : Slot} {l : En} {s : Slot} : Up (a :: l) 0 s (s :: l)
  | s {a : Slot} {l l' : En} {n : Nat} {s : Slot} (h : Up l n s l') : Up (a :: l) (n + 1) s (a :: l')
theorem Up.set {ρ ρ' : En} {i : Nat} {s : Slot} (h : Up ρ i s ρ') : setS ρ i s = some ρ' := by
  have e : i < ρ.length ∧ ρ.set i s = ρ' := by
    induction h with
    | z => exact ⟨by simp, rfl⟩
    | s h ih =>
      obtain ⟨h1, h2⟩ := ih
      exact ⟨by simpa using h1, by rw [List.set_cons_succ, h2]⟩
  unfold setS
  rw [if_pos e.1, e.2]
theorem Up.lt {ρ ρ' : En} {i : Nat} {s : Slot} (h : Up ρ i s ρ') : i < ρ.length := by
  induction h with
  | z => simp
  | s h ih => simpa using ih
theorem Up.eq {ρ ρ' : En} {i : Nat} {s : Slot} (h : Up ρ i s ρ') : ρ.set i s = ρ' := by
  induction h with
  | z => rfl
  | s h ih => rw [List.set_cons_succ, ih]
/-- slots wiped -/
inductive Wp : En → List Nat → En → Prop where
  | nil {ρ : En} : Wp ρ [] ρ
  | cons {ρ ρ1 ρ2 : En} {v : Nat} {vs : List Nat} (h : Wp ρ vs ρ1) (h2 : Up ρ1 v .no ρ2) : Wp ρ (v :: vs) ρ2
theorem Wp.eq {ρ ρ' : En} {vs : List Nat} (h : Wp ρ vs ρ') : wipeE ρ vs = ρ' := by
  induction h with
  | nil => rfl
  | cons h h2 ih =>
    show (wipeE _ _).set _ .no = _
    rw [ih, h2.eq]
section
variable {C : Cf} {ρ ρ' ρ2 ρ3 : En} {p p1 p2 p3 p4 : Pl} {a b c e : PX} {es : PXs} {x y d d2 : D} {ds : List D} {i g : Nat} {Q : D → Pl → Prop} {QL : List D → Pl → Prop}
theorem wv {α : Type} {m : Option α} {Q : α → Prop} {d : α} (h : m = some d) (q : Q d) : WV m Q := ⟨d, h, q⟩
theorem wb_T {A B : Prop} (h : truD d = some true) (q : A) : WB d A B := ⟨true, h, fun _ => q, fun h => by cases h⟩
theorem wb_F {A B : Prop} (h : truD d = some false) (q : B) : WB d A B := ⟨false, h, fun h => (by cases h), fun _ => q⟩
theorem wb_bT {A B : Prop} {t : Bool} (h : t = true) (q : A) : WB (.bl t) A B := ⟨t, rfl, fun _ => q, fun h2 => by rw [h] at h2; cases h2⟩
theorem wb_bF {A B : Prop} {t : Bool} (h : t = false) (q : B) : WB (.bl t) A B := ⟨t, rfl, fun h2 => (by rw [h] at h2; cases h2), fun _ => q⟩
theorem wb_c {A B : Prop} {t : Bool} (h : t = true → A) (h2 : t = false → B) : WB (.bl t) A B := ⟨t, rfl, h, h2⟩
theorem wb_d {A B P : Prop} {_ : Decidable P} (h : P → A) (h2 : ¬ P → B) : WB (.bl (decide P)) A B := ⟨_, rfl, fun t => h (of_decide_eq_true t), fun t => h2 (of_decide_eq_false t)⟩
theorem wb_n {A B P : Prop} {_ : Decidable P} (h : ¬ P → A) (h2 : P → B) : WB (.bl (!decide P)) A B := ⟨_, rfl, fun t => h (fun q => by rw [decide_eq_true q] at t; cases t), fun t => h2 (by
  by_cases q : P
  · exact q
  · rw [decide_eq_false q] at t; cases t)⟩
theorem cb_T {A B : Prop} {t : Bool} (h : t = true) (q : A) : CB (.bl t) A B := ⟨t, rfl, fun _ => q, fun h2 => by rw [h] at h2; cases h2⟩
theorem cb_F {A B : Prop} {t : Bool} (h : t = false) (q : B) : CB (.bl t) A B := ⟨t, rfl, fun h2 => (by rw [h] at h2; cases h2), fun _ => q⟩
theorem cb_d {A B P : Prop} {_ : Decidable P} (h : P → A) (h2 : ¬ P → B) : CB (.bl (decide P)) A B := ⟨_, rfl, fun t => h (of_decide_eq_true t), fun t => h2 (of_decide_eq_false t)⟩
theorem w_of (h : ev C e ρ p = some (d, p1)) (q : Q d p1) : WE C e ρ p Q := ⟨d, p1, h, q⟩
theorem WE.imp {Q' : D → Pl → Prop} (h : WE C e ρ p Q) (q : ∀ d p, Q d p → Q' d p) : WE C e ρ p Q' := by obtain ⟨d, p1, h1, h2⟩ := h; exact ⟨d, p1, h1, q _ _ h2⟩
theorem WC.imp {Q' : D → Pl → Prop} (h : WC C g ds p Q) (q : ∀ d p, Q d p → Q' d p) : WC C g ds p Q' := by obtain ⟨d, p1, h1, h2⟩ := h; exact ⟨d, p1, h1, q _ _ h2⟩
theorem w_var (h : rd ρ i = some d) (q : Q d p) : WE C (.var i) ρ p Q := ⟨d, p, v_var h, q⟩
theorem w_con (q : Q d p) : WE C (.con d) ρ p Q := ⟨d, p, rfl, q⟩
theorem w_glo {k : Nat} (h : C.cons[k]? = some d) (q : Q d p) : WE C (.glo k) ρ p Q := ⟨d, p, v_glo h, q⟩
theorem w_fnv (q : Q (.fn g) p) : WE C (.fnv g) ρ p Q := ⟨_, p, rfl, q⟩
theorem w_abs (q : Q .non p) : WE C .abs ρ p Q := ⟨_, p, rfl, q⟩
theorem w_bin {op : Operator} (h : WE C a ρ p fun x p1 => WE C b ρ p1 fun y p2 => WV (opD op x y) fun d => Q d p2) : WE C (.bin op a b) ρ p Q := by
  obtain ⟨x, p1, h1, y, p2, h2, d, h3, q⟩ := h
  exact ⟨d, p2, v_bin h1 h2 h3, q⟩
theorem w_neg (h : WE C a ρ p fun x p1 => WV (negD x) fun d => Q d p1) : WE C (.neg a) ρ p Q := by
  obtain ⟨x, p1, h1, d, h3, q⟩ := h
  cases x with
  | int j => cases h3; exact ⟨_, p1, v_neg h1, q⟩
  | _ => cases h3
theorem w_not (h : WE C a ρ p fun x p1 => WV (truD x) fun t => Q (.bl (!t)) p1) : WE C (.not a) ρ p Q := by
  obtain ⟨x, p1, h1, d, h3, q⟩ := h
  exact ⟨_, p1, v_not h1 h3, q⟩
theorem wo_var (h : pk ρ i = some d) (q : Q d p) : WO C (.var i) ρ p Q := ⟨d, p, o_var h, q⟩
theorem wo_of (h : WE C e ρ p Q) (hv : ∀ i, e ≠ .var i) : WO C e ρ p Q := by
  obtain ⟨d, p1, h1, q⟩ := h
  exact ⟨d, p1, o_of h1 hv, q⟩
theorem w_cmp {op : CmpOp} (h : WO C a ρ p fun x p1 => WO C b ρ p1 fun y p2 => WV (cmpD op x y) fun d => Q d p2) : WE C (.cmp op a b) ρ p Q := by
  obtain ⟨x, p1, h1, y, p2, h2, d, h3, q⟩ := h
  exact ⟨d, p2, v_cmp h1 h2 h3, q⟩
theorem w_chn {op op' : CmpOp} (h : WE C a ρ p fun x p1 => WE C b ρ p1 fun y p2 => WV (cmpD op x y) fun d => CB d (WE C c ρ p2 fun z p3 => WV (cmpD op' y z) fun d' => Q d' p3) (Q (.bl false) p2)) : WE C (.chn op op' a b c) ρ p Q := by
  obtain ⟨x, p1, h1, y, p2, h2, d, h3, t, rfl, hT, hF⟩ := h
  cases t with
  | false =>
    refine ⟨_, p2, ?_, hF rfl⟩
    show (ev C a ρ p).bind _ = _
    rw [h1]
    show (ev C b ρ p1).bind _ = _
    rw [h2]
    show (cmpD op x y).bind _ = _
    rw [h3]; rfl
  | true =>
    obtain ⟨z, p3, h4, d', h5, q⟩ := hT rfl
    refine ⟨_, p3, ?_, q⟩
    show (ev C a ρ p).bind _ = _
    rw [h1]
    show (ev C b ρ p1).bind _ = _
    rw [h2]
    show (cmpD op x y).bind _ = _
    rw [h3]
    show (ev C c ρ p2).bind _ = _
    rw [h4]
    show (cmpD op' y z).bind _ = _
    rw [h5]; rfl
theorem w_and (h : WE C a ρ p fun x p1 => WB x (WE C b ρ p1 Q) (Q x p1)) : WE C (.and a b) ρ p Q := by
  obtain ⟨x, p1, h1, t, h2, hT, hF⟩ := h
  cases t with
  | true => obtain ⟨d, p2, h3, q⟩ := hT rfl; exact ⟨d, p2, v_andT h1 h2 h3, q⟩
  | false => exact ⟨x, p1, v_andF h1 h2, hF rfl⟩
theorem w_or (h : WE C a ρ p fun x p1 => WB x (Q x p1) (WE C b ρ p1 Q)) : WE C (.or a b) ρ p Q := by
  obtain ⟨x, p1, h1, t, h2, hT, hF⟩ := h
  cases t with
  | false => obtain ⟨d, p2, h3, q⟩ := hF rfl; exact ⟨d, p2, v_orF h1 h2 h3, q⟩
  | true => exact ⟨x, p1, v_orT h1 h2, hT rfl⟩
theorem w_ite (h : WE C c ρ p fun x p1 => WB x (WE C a ρ p1 Q) (WE C b ρ p1 Q)) : WE C (.ite c a b) ρ p Q := by
  obtain ⟨x, p1, h1, t, h2, hT, hF⟩ := h
  cases t with
  | true => obtain ⟨d, p2, h3, q⟩ := hT rfl; exact ⟨d, p2, v_iteT h1 h2 h3, q⟩
  | false => obtain ⟨d, p2, h3, q⟩ := hF rfl; exact ⟨d, p2, v_iteF h1 h2 h3, q⟩
theorem ws_nil (q : QL [] p) : WEs C .nil ρ p QL := ⟨_, p, rfl, q⟩
theorem ws_cons (h : WE C e ρ p fun x p1 => WEs C es ρ p1 fun ds p2 => QL (x :: ds) p2) : WEs C (.cons e es) ρ p QL := by
  obtain ⟨x, p1, h1, ds, p2, h2, q⟩ := h
  exact ⟨_, p2, vs_cons h1 h2, q⟩
theorem wos_nil (q : QL [] p) : WOs C .nil ρ p QL := ⟨_, p, rfl, q⟩
theorem wos_cons (h : WO C e ρ p fun x p1 => WOs C es ρ p1 fun ds p2 => QL (x :: ds) p2) : WOs C (.cons e es) ρ p QL := by
  obtain ⟨x, p1, h1, ds, p2, h2, q⟩ := h
  exact ⟨_, p2, os_cons h1 h2, q⟩
/-- a short row -/
def Few (ds : List D) : Prop := ds.length ≤ 1000000
theorem w_tup (h : WEs C es ρ p fun ds p1 => Few ds ∧ Q (.tup ds) p1) : WE C (.tup es) ρ p Q := by
  obtain ⟨ds, p1, h1, hl, q⟩ := h
  exact ⟨_, p1, v_tup h1 hl, q⟩
theorem w_lst (h : WEs C es ρ p fun ds p1 => Few ds ∧ Q (.lst ds) p1) : WE C (.lst es) ρ p Q := by
  obtain ⟨ds, p1, h1, hl, q⟩ := h
  exact ⟨_, p1, v_lst h1 hl, q⟩
theorem w_snoc {e2 : PX} (h : WO C a ρ p fun x p1 => WE C e2 ρ p1 fun y p2 => ∃ xs, x = .lst xs ∧ Few xs ∧ Q (.lst (xs ++ [y])) p2) : WE C (.snoc a e2) ρ p Q := by
  obtain ⟨x, p1, h1, y, p2, h2, xs, rfl, hl, q⟩ := h
  refine ⟨_, p2, ?_, q⟩
  show (evO C a ρ p).bind _ = _
  rw [h1]
  show (ev C e2 ρ p1).bind _ = _
  rw [h2]
  exact if_pos hl
theorem w_ix (h : WO C a ρ p fun x p1 => WE C b ρ p1 fun y p2 => WV (ixP x y p2) fun d => Q d p2) : WE C (.ix a b) ρ p Q := by
  obtain ⟨x, p1, h1, y, p2, h2, d, h3, q⟩ := h
  exact ⟨d, p2, v_ix h1 h2 h3, q⟩
theorem w_sl (h : WO C a ρ p fun x p1 => WE C b ρ p1 fun y p2 => WV (partD (isAbs b) y) fun l => WE C c ρ p2 fun z p3 => WV (partD (isAbs c) z) fun h => WV (slD x l h) fun d => Q d p3) : WE C (.sl a b c) ρ p Q := by
  obtain ⟨x, p1, h1, y, p2, h2, l, h3, z, p3, h4, hh, h5, d, h6, q⟩ := h
  exact ⟨d, p3, v_sl h1 h2 h3 h4 h5 h6, q⟩
theorem w_call (h : WEs C es ρ p fun ds p1 => WC C g ds p1 Q) : WE C (.call g es) ρ p Q := by
  obtain ⟨ds, p1, h1, d, p2, h2, q⟩ := h
  exact ⟨d, p2, v_call h1 h2, q⟩
theorem w_calld (h : WEs C es ρ p fun ds p1 => WC C g (ds ++ C.dfl g) p1 Q) : WE C (.calld g es) ρ p Q := by
  obtain ⟨ds, p1, h1, d, p2, h2, q⟩ := h
  exact ⟨d, p2, v_calld h1 h2, q⟩
theorem w_callv (hi : rd ρ i = some (.fn g)) (h : WEs C es ρ p fun ds p1 => WC C g ds p1 Q) : WE C (.callv i es) ρ p Q := by
  obtain ⟨ds, p1, h1, d, p2, h2, q⟩ := h
  exact ⟨d, p2, v_callv hi h1 h2, q⟩
theorem w_bi {bb : Bi} (h : WOs C es ρ p fun ds p1 => WV (biD bb ds) fun d => Q d p1) : WE C (.bi bb es) ρ p Q := by
  obtain ⟨ds, p1, h1, d, h2, q⟩ := h
  exact ⟨d, p1, v_bi h1 h2, q⟩
theorem w_isi {n : Tn} (h : WE C a ρ p fun x p1 => WV (isiD n x) fun t => Q (.bl t) p1) : WE C (.isi a n) ρ p Q := by
  obtain ⟨x, p1, h1, t, h2, q⟩ := h
  exact ⟨_, p1, v_isi h1 h2, q⟩
theorem w_lc {elt : PX} {tg : Tg} {src : Sr} {cc : PX} {vs : List Nat} (h : WL C src ρ p fun items p1 => ∃ out p2, mapF (lcF tg vs (ev C cc) (ev C elt) ρ) items p1 = some (out, p2) ∧ Few out ∧ Q (.lst out) p2) : WE C (.lc elt tg src cc vs) ρ p Q := by
  obtain ⟨items, p1, h1, out, p2, h2, hl, q⟩ := h
  exact ⟨_, p2, v_lc h1 h2 hl, q⟩
/-- every item, the pool left alone -/
theorem w_lcA {α : Type} {elt : PX} {tg : Tg} {src : Sr} {vs : List Nat} {gi go : α → D} {L : List α} (hw : Wp ρ vs ρ') (hs : WL C src ρ p fun items p1 => items = L.map gi ∧ p1 = p) (hl : L.length ≤ 1000000)
    (hb : ∀ x ∈ L, WT tg (gi x) ρ' p fun ρ1 p1 => WE C elt ρ1 p1 fun d p2 => d = go x ∧ p2 = p ∧ p1 = p) (q : Q (.lst (L.map go)) p) : WE C (.lc elt tg src (.con (.bl true)) vs) ρ p Q := by
  obtain ⟨items, p1, h1, rfl, rfl⟩ := hs
  refine ⟨_, _, v_lc h1 (map_all (go := go) fun x hx => ?_) (by rw [List.length_map]; exact hl), q⟩
  obtain ⟨ρ1, p2, h2, d, p3, h3, rfl, rfl, rfl⟩ := hb x hx
  rw [← hw.eq] at h2
  exact lc_yes h2 h3
/-- the items for which a test holds -/
theorem w_lcI {α : Type} {elt : PX} {tg : Tg} {src : Sr} {cc : PX} {vs : List Nat} {gi go : α → D} {L : List α} (f : α → Bool) (hw : Wp ρ vs ρ') (hs : WL C src ρ p fun items p1 => items = L.map gi ∧ p1 = p) (hl : L.length ≤ 1000000)
    (hb : ∀ x ∈ L, WT tg (gi x) ρ' p fun ρ1 p1 => p1 = p ∧ WE C cc ρ1 p1 fun t p2 => p2 = p ∧ truD t = some (f x) ∧ (f x = true → WE C elt ρ1 p1 fun d p2 => d = go x ∧ p2 = p)) (q : Q (.lst ((L.filter f).map go)) p) : WE C (.lc elt tg src cc vs) ρ p Q := by
  obtain ⟨items, p1, h1, rfl, rfl⟩ := hs
  have hm : mapF (lcF tg vs (ev C cc) (ev C elt) ρ) (L.map gi) p1 = some (((L.filter f).map go), p1) := map_if fun x hx => by
    obtain ⟨ρ1, p2, h2, rfl, t, p3, h3, rfl, h4, h5⟩ := hb x hx
    rw [← hw.eq] at h2
    refine lc_if h2 h3 h4 fun hf => ?_
    obtain ⟨d, p4, h6, rfl, rfl⟩ := h5 hf
    exact h6
  refine ⟨_, _, v_lc h1 hm ?_, q⟩
  rw [List.length_map]
  exact Nat.le_trans (List.length_filter_le _ _) hl
/-- a comprehension with a state: items done, what came, the pool -/
theorem w_lcS {α : Type} {elt : PX} {tg : Tg} {src : Sr} {vs : List Nat} {gi : α → D} {L : List α} (Inv : List α → List D → Pl → Prop) (hw : Wp ρ vs ρ') (hs : WL C src ρ p fun items p1 => items = L.map gi ∧ Inv [] [] p1) (hl : L.length ≤ 1000000)
    (hb : ∀ pre x post out p, L = pre ++ x :: post → Inv pre out p → WT tg (gi x) ρ' p fun ρ1 p1 => WE C elt ρ1 p1 fun d p2 => Inv (pre ++ [x]) (out ++ [d]) p2) (q : ∀ out p, Inv L out p → out.length = L.length → Q (.lst out) p) : WE C (.lc elt tg src (.con (.bl true)) vs) ρ p Q := by
  obtain ⟨items, p1, h1, rfl, h0⟩ := hs
  have key : ∀ (post pre : List α) (out : List D) (p : Pl), L = pre ++ post → Inv pre out p → ∃ out' p', mapF (lcF tg vs (ev C (.con (.bl true))) (ev C elt) ρ) (post.map gi) p = some (out', p') ∧ Inv L (out ++ out') p' ∧ out'.length = post.length := by
    intro post
    induction post with
    | nil =>
      intro pre out p e h
      rw [List.append_nil] at e
      subst e
      exact ⟨[], p, rfl, by rw [List.append_nil]; exact h, rfl⟩
    | cons x post ih =>
      intro pre out p e h
      obtain ⟨ρ1, p2, h2, d, p3, h3, h4⟩ := hb pre x post out p e h
      rw [← hw.eq] at h2
      obtain ⟨out', p', k1, k2, k3⟩ := ih (pre ++ [x]) (out ++ [d]) p3 (by rw [e]; simp) h4
      exact ⟨d :: out', p', map_some (lc_yes h2 h3) k1, by simpa using k2, by simp [k3]⟩
  obtain ⟨out, p', k1, k2, k3⟩ := key L [] [] p1 rfl h0
  refine ⟨_, _, v_lc h1 k1 (by rw [k3]; exact hl), q _ _ (by simpa using k2) k3⟩
theorem wl_it (h : WO C a ρ p fun x p1 => WV (seqOf x) fun ds => QL ds p1) : WL C (.it a) ρ p QL := by
  obtain ⟨x, p1, h1, ds, h2, q⟩ := h
  exact ⟨ds, p1, sr_it h1 h2, q⟩
theorem wl_enm (h : WO C a ρ p fun x p1 => WV (seqOf x) fun ds => QL (enumF 0 ds) p1) : WL C (.enm a) ρ p QL := by
  obtain ⟨x, p1, h1, ds, h2, q⟩ := h
  exact ⟨_, p1, sr_enm h1 h2, q⟩
theorem wl_rng1 (h : WE C a ρ p fun x p1 => ∃ n : Nat, x = .int n ∧ n < 1000000 ∧ QL (rangeD 0 n) p1) : WL C (.rng1 a) ρ p QL := by
  obtain ⟨x, p1, h1, n, rfl, h2, q⟩ := h
  exact ⟨_, p1, sr_rng1 h1 h2, q⟩
def rngD (x y : D) : Option (List D) := match x, y with
  | .int i, .int j => if rngOk i && rngOk j then some (rangeD i (j - i).toNat) else none
  | _, _ => none
theorem sr_rng2 (ha : ev C a ρ p = some (x, p1)) (hb : ev C b ρ p1 = some (y, p2)) (h : rngD x y = some ds) : evSr C (.rng2 a b) ρ p = some (ds, p2) := by
  have e : evSr C (.rng2 a b) ρ p = (ev C a ρ p).bind (fun x => (ev C b ρ x.2).bind fun y => match x.1, y.1 with
    | .int i, .int j => if rngOk i && rngOk j then some (rangeD i (j - i).toNat, y.2) else none
    | _, _ => none) := rfl
  rw [e, ha, Option.bind_some, hb, Option.bind_some]
  cases x with
  | int i =>
    cases y with
    | int j =>
      have h : (if rngOk i && rngOk j then some (rangeD i (j - i).toNat) else none) = some ds := h
      dsimp only
      split at h
      · cases h
        rename_i hh
        rw [if_pos hh]
      · cases h
    | _ => cases h
  | _ => cases h
theorem wl_rng2 (h : WE C a ρ p fun x p1 => WE C b ρ p1 fun y p2 => WV (rngD x y) fun ds => QL ds p2) : WL C (.rng2 a b) ρ p QL := by
  obtain ⟨x, p1, h1, y, p2, h2, ds, h3, q⟩ := h
  exact ⟨_, p2, sr_rng2 h1 h2 h3, q⟩
theorem wl_zip (h : WO C a ρ p fun x p1 => WO C b ρ p1 fun y p2 => WV (seqOf x) fun xs => WV (seqOf y) fun ys => (isTup x == isTup y) = true ∧ QL (pairs xs ys) p2) : WL C (.zip a b) ρ p QL := by
  obtain ⟨x, p1, h1, y, p2, h2, xs, h3, ys, h4, h5, q⟩ := h
  exact ⟨_, p2, sr_zip h1 h2 h3 h4 h5, q⟩
theorem wq_it (h : WE C a ρ p fun x p1 => WV (seqOf x) fun ds => QL ds p1) : WS C (.it a) ρ p QL := by
  obtain ⟨x, p1, h1, ds, h2, q⟩ := h
  exact ⟨ds, p1, sq_it h1 h2, q⟩
theorem wq_enm (h : WE C a ρ p fun x p1 => WV (seqOf x) fun ds => QL (enumF 0 ds) p1) : WS C (.enm a) ρ p QL := by
  obtain ⟨x, p1, h1, ds, h2, q⟩ := h
  exact ⟨_, p1, sq_enm h1 h2, q⟩
theorem wq_rng1 (h : WE C a ρ p fun x p1 => ∃ n : Nat, x = .int n ∧ n < 1000000 ∧ QL (rangeD 0 n) p1) : WS C (.rng1 a) ρ p QL := by
  obtain ⟨x, p1, h1, n, rfl, h2, q⟩ := h
  exact ⟨_, p1, sq_rng1 h1 h2, q⟩
theorem wq_rng2 (h : WE C a ρ p fun x p1 => WE C b ρ p1 fun y p2 => WV (rngD x y) fun ds => QL ds p2) : WS C (.rng2 a b) ρ p QL := by
  obtain ⟨x, p1, h1, y, p2, h2, ds, h3, q⟩ := h
  exact ⟨_, p2, sr_rng2 h1 h2 h3, q⟩
theorem wq_zip (h : WE C a ρ p fun x p1 => WE C b ρ p1 fun y p2 => WV (seqOf x) fun xs => WV (seqOf y) fun ys => (isTup x == isTup y) = true ∧ QL (pairs xs ys) p2) : WS C (.zip a b) ρ p QL := by
  obtain ⟨x, p1, h1, y, p2, h2, xs, h3, ys, h4, h5, q⟩ := h
  have e : evSrS C (.zip a b) ρ p = (ev C a ρ p).bind (fun x => (ev C b ρ x.2).bind fun y => (seqOf x.1).bind fun xs => (seqOf y.1).bind fun ys => if isTup x.1 == isTup y.1 then some (pairs xs ys, y.2) else none) := rfl
  refine ⟨_, p2, ?_, q⟩
  rw [e, h1, Option.bind_some, h2, Option.bind_some, h3, Option.bind_some, h4, Option.bind_some]
  exact if_pos h5
/-! ### targets -/
variable {K : En → Pl → Prop} {t ts : Tg} {s : Slot}
theorem wt_nm (h : Up ρ i (.dat d) ρ') (q : K ρ' p) : WT (.nm i) d ρ p K := ⟨_, p, by
  show (if i < ρ.length then some (ρ.set i (.dat d), p) else none) = _
  rw [if_pos h.lt, h.eq], q⟩
theorem wt_nil (q : K ρ p) : WT .nil (.tup []) ρ p K := ⟨ρ, p, rfl, q⟩
theorem wt_cons {xs : List D} (h : WT t x ρ p fun ρ1 p1 => WT ts (.tup xs) ρ1 p1 K) : WT (.cons t ts) (.tup (x :: xs)) ρ p K := by
  obtain ⟨ρ1, p1, h1, ρ2, p2, h2, q⟩ := h
  refine ⟨ρ2, p2, ?_, q⟩
  show (bindT t x ρ p).bind _ = _
  rw [h1]
  exact h2
theorem wt_pool {k : Nat} (h : ρ[i]?.getD .no = .dat .pool) (hk : k < p.length) (q : K ρ (p.set k d)) : WT (.sub i k) d ρ p K := ⟨ρ, p.set k d, by
  show (match ρ[i]?.getD .no with
    | .dat .pool => if k < p.length then some (ρ, p.set k d) else none
    | .own ds => if k < ds.length then some (ρ.set i (.own (ds.set k d)), p) else none
    | _ => none) = _
  rw [h]
  exact if_pos hk, q⟩
/-! ### statements -/
variable {q1 q2 r : QSs} {QX : Fl → En → Pl → Prop} {j : Nat}
/-- behind a statement -/
def Kx (C : Cf) (r : QSs) (Q : Fl → En → Pl → Prop) : Fl → En → Pl → Prop
  | .nx, ρ, p => WX C r ρ p Q
  | f, ρ, p => Q f ρ p
theorem kx_nx (h : WX C r ρ p QX) : Kx C r QX .nx ρ p := h
theorem kx_ret (h : QX (.ret d) ρ p) : Kx C r QX (.ret d) ρ p := h
theorem kx_brk (h : QX .brk ρ p) : Kx C r QX .brk ρ p := h
theorem kx_cnt (h : QX .cnt ρ p) : Kx C r QX .cnt ρ p := h
theorem xw_nil (q : QX .nx ρ p) : WX C .nil ρ p QX := ⟨_, _, _, rfl, q⟩
theorem xw_cons {s : QS} (h : WX1 C s ρ p (Kx C r QX)) : WX C (.cons s r) ρ p QX := by
  obtain ⟨f, ρ1, p1, h1, h2⟩ := h
  cases f with
  | nx =>
    obtain ⟨f, ρ2, p2, h3, q⟩ := h2
    exact ⟨f, ρ2, p2, xs_nx h1 h3, q⟩
  | ret d => exact ⟨_, _, _, xs_ret h1, h2⟩
  | brk => exact ⟨.brk, ρ1, p1, by show (ex C s ρ p).bind _ = _; rw [h1]; rfl, h2⟩
  | cnt => exact ⟨.cnt, ρ1, p1, by show (ex C s ρ p).bind _ = _; rw [h1]; rfl, h2⟩
theorem xw_asg (h : WE C e ρ p fun x p1 => WT t x ρ p1 fun ρ' p2 => WX C r ρ' p2 QX) : WX C (.cons (.asg t e) r) ρ p QX := by
  obtain ⟨x, p1, h1, ρ', p2, h2, f, ρ3, p3, h3, q⟩ := h
  exact ⟨f, ρ3, p3, xs_nx (x_asg h1 h2) h3, q⟩
theorem xw_own (h : WEs C es ρ p fun ds p1 => Few ds ∧ ∃ ρ', Up ρ i (.own ds) ρ' ∧ WX C r ρ' p1 QX) : WX C (.cons (.own i es) r) ρ p QX := by
  obtain ⟨x, p1, h1, hl, ρ', h2, f, ρ3, p3, h3, q⟩ := h
  exact ⟨f, ρ3, p3, xs_nx (x_own h1 hl h2.set) h3, q⟩
theorem xw_ownc {elt : PX} {tg : Tg} {src : Sr} {vs : List Nat} (h : WE C (.lc elt tg src c vs) ρ p fun x p1 => ∃ ds, x = .lst ds ∧ ∃ ρ', Up ρ i (.own ds) ρ' ∧ WX C r ρ' p1 QX) : WX C (.cons (.ownc i elt tg src c vs) r) ρ p QX := by
  obtain ⟨x, p1, h1, ds, rfl, ρ', h2, f, ρ3, p3, h3, q⟩ := h
  refine ⟨f, ρ3, p3, xs_nx ?_ h3, q⟩
  show (ev C (.lc elt tg src c vs) ρ p).bind _ = _
  rw [h1]
  show (setS ρ i (.own ds)).bind _ = _
  rw [h2.set]; rfl
theorem xw_par (h : WE C a ρ p fun x p1 => WE C b ρ p1 fun y p2 => ∃ ρ1, Up ρ i (.dat x) ρ1 ∧ ∃ ρ2, Up ρ1 j (.dat y) ρ2 ∧ WX C r ρ2 p2 QX) : WX C (.cons (.par i j a b) r) ρ p QX := by
  obtain ⟨x, p1, h1, y, p2, h2, ρ1, h3, ρ2, h4, f, ρ3, p3, h5, q⟩ := h
  exact ⟨f, ρ3, p3, xs_nx (x_par h1 h2 h3.set h4.set) h5, q⟩
theorem xw_paro (h : WE C a ρ p fun x p1 => ∃ ρ1, Up ρ i (.dat x) ρ1 ∧ ∃ ρ2, Up ρ1 j (.own []) ρ2 ∧ WX C r ρ2 p1 QX) : WX C (.cons (.paro i j a) r) ρ p QX := by
  obtain ⟨x, p1, h1, ρ1, h3, ρ2, h4, f, ρ3, p3, h5, q⟩ := h
  exact ⟨f, ρ3, p3, xs_nx (x_paro h1 h3.set h4.set) h5, q⟩
theorem xw_app (h : WE C e ρ p fun x p1 => ∃ ds, ρ[i]?.getD .no = .own ds ∧ Few ds ∧ ∃ ρ1, Up ρ i (.own (ds ++ [x])) ρ1 ∧ WX C r ρ1 p1 QX) : WX C (.cons (.app i e) r) ρ p QX := by
  obtain ⟨x, p1, h1, ds, h2, hl, ρ1, h3, f, ρ3, p3, h5, q⟩ := h
  exact ⟨f, ρ3, p3, xs_nx (x_app h1 h2 hl h3.set) h5, q⟩
theorem xw_ext (h : WE C e ρ p fun x p1 => ∃ es, x = .lst es ∧ ∃ ds, ρ[i]?.getD .no = .own ds ∧ ds.length + es.length ≤ 1000000 ∧ ∃ ρ1, Up ρ i (.own (ds ++ es)) ρ1 ∧ WX C r ρ1 p1 QX) : WX C (.cons (.ext i e) r) ρ p QX := by
  obtain ⟨x, p1, h1, es, rfl, ds, h2, hl, ρ1, h3, f, ρ3, p3, h5, q⟩ := h
  exact ⟨f, ρ3, p3, xs_nx (x_ext h1 h2 hl h3.set) h5, q⟩
theorem xw_frz (h : ∃ ds, ρ[i]?.getD .no = .own ds ∧ ∃ ρ1, Up ρ i (.dat (.lst ds)) ρ1 ∧ WX C r ρ1 p QX) : WX C (.cons (.frz i) r) ρ p QX := by
  obtain ⟨ds, h2, ρ1, h3, f, ρ3, p3, h5, q⟩ := h
  exact ⟨f, ρ3, p3, xs_nx (x_frz h2 h3.set) h5, q⟩
/-- pool[k] = .. -/
theorem xw_setP {z : Int} (h0 : ρ[i]?.getD .no = .dat .pool) (h : WE C e ρ p fun x p1 => WV (ixN p1.length z) fun j => WX C r ρ (p1.set j x) QX) : WX C (.cons (.setix i (.con (.int z)) e) r) ρ p QX := by
  obtain ⟨x, p1, h1, j, hl, f, ρ3, p3, h5, q⟩ := h
  exact ⟨f, ρ3, p3, xs_nx (x_setP h1 v_con h0 hl) h5, q⟩
theorem xw_ifs (h : WE C e ρ p fun x p1 => WB x (WX C q1 ρ p1 (Kx C r QX)) (WX C q2 ρ p1 (Kx C r QX))) : WX C (.cons (.ifs e q1 q2) r) ρ p QX := by
  obtain ⟨x, p1, h1, t, h2, hT, hF⟩ := h
  refine xw_cons ?_
  cases t with
  | true => obtain ⟨f, ρ3, p3, h5, q⟩ := hT rfl; exact ⟨f, ρ3, p3, x_ifT h1 h2 h5, q⟩
  | false => obtain ⟨f, ρ3, p3, h5, q⟩ := hF rfl; exact ⟨f, ρ3, p3, x_ifF h1 h2 h5, q⟩
theorem xw_ret (h : WO C e ρ p fun d p1 => QX (.ret d) ρ p1) : WX C (.cons (.ret e) r) ρ p QX := by
  obtain ⟨d, p1, h1, q⟩ := h
  exact ⟨_, _, _, xs_ret (x_ret h1), q⟩
theorem xw_retn (h : QX (.ret .non) ρ p) : WX C (.cons .retn r) ρ p QX := ⟨_, _, _, rfl, h⟩
theorem xw_brk (h : QX .brk ρ p) : WX C (.cons .brk r) ρ p QX := ⟨_, _, _, rfl, h⟩
theorem xw_cnt (h : QX .cnt ρ p) : WX C (.cons .cnt r) ρ p QX := ⟨_, _, _, rfl, h⟩
theorem xw_pass (h : WX C r ρ p QX) : WX C (.cons .pass r) ρ p QX := xw_cons ⟨_, _, _, rfl, h⟩
theorem xw_exp (h : WE C e ρ p fun d p1 => WX C r ρ p1 QX) : WX C (.cons (.exp e) r) ρ p QX := by
  obtain ⟨x, p1, h1, f, ρ3, p3, h3, q⟩ := h
  exact ⟨f, ρ3, p3, xs_exp h1 h3, q⟩
/-- what a turn leaves -/
def Turn (Inv : En → Pl → Prop) (out : En → Pl → Prop) (QX : Fl → En → Pl → Prop) : Fl → En → Pl → Prop
  | .nx, ρ, p => Inv ρ p
  | .cnt, ρ, p => Inv ρ p
  | .brk, ρ, p => out ρ p
  | .ret d, ρ, p => QX (.ret d) ρ p
theorem turn_nx {Inv out : En → Pl → Prop} (h : Inv ρ p) : Turn Inv out QX .nx ρ p := h
theorem turn_cnt {Inv out : En → Pl → Prop} (h : Inv ρ p) : Turn Inv out QX .cnt ρ p := h
theorem turn_brk {Inv out : En → Pl → Prop} (h : out ρ p) : Turn Inv out QX .brk ρ p := h
theorem turn_ret {Inv out : En → Pl → Prop} (h : QX (.ret d) ρ p) : Turn Inv out QX (.ret d) ρ p := h
theorem for_w {q : QSs} {α : Type} {gi : α → D} {L : List α} {Inv : List α → En → Pl → Prop} (hb : ∀ pre x post ρ p, L = pre ++ x :: post → Inv pre ρ p → WT t (gi x) ρ p fun ρ1 p1 => WX C q ρ1 p1 (Turn (Inv (pre ++ [x])) (fun ρ2 p2 => WX C r ρ2 p2 QX) QX))
    (he : ∀ ρ p, Inv L ρ p → WX C r ρ p QX) : ∀ (post pre : List α) (ρ : En) (p : Pl), L = pre ++ post → Inv pre ρ p → ∃ f ρ' p', forF (fun d ρ p => (bindT t d ρ p).bind fun r => exs C q r.1 r.2) (post.map gi) ρ p = some (f, ρ', p') ∧ Kx C r QX f ρ' p'
  | [], pre, ρ, p, e, h => by
    rw [List.append_nil] at e
    subst e
    exact ⟨.nx, ρ, p, rfl, he ρ p h⟩
  | x :: post, pre, ρ, p, e, h => by
    obtain ⟨ρ1, p1, h1, f, ρ2, p2, h2, h3⟩ := hb pre x post ρ p e h
    have hf : (fun d ρ p => (bindT t d ρ p).bind fun r => exs C q r.1 r.2) (gi x) ρ p = some (f, ρ2, p2) := by
      show (bindT t (gi x) ρ p).bind _ = _
      rw [h1]
      exact h2
    have st : ∀ w, (match f with | .nx => forF (fun d ρ p => (bindT t d ρ p).bind fun r => exs C q r.1 r.2) (post.map gi) ρ2 p2 | .cnt => forF (fun d ρ p => (bindT t d ρ p).bind fun r => exs C q r.1 r.2) (post.map gi) ρ2 p2 | .brk => some (.nx, ρ2, p2) | .ret d => some (.ret d, ρ2, p2)) = some w → forF (fun d ρ p => (bindT t d ρ p).bind fun r => exs C q r.1 r.2) ((x :: post).map gi) ρ p = some w := fun w hw => by
      show ((fun d ρ p => (bindT t d ρ p).bind fun r => exs C q r.1 r.2) (gi x) ρ p).bind _ = _
      rw [hf]
      cases f <;> exact hw
    cases f with
    | nx =>
      obtain ⟨f, ρ3, p3, k1, k2⟩ := for_w hb he post (pre ++ [x]) ρ2 p2 (by rw [e]; simp) h3
      exact ⟨f, ρ3, p3, st _ k1, k2⟩
    | cnt =>
      obtain ⟨f, ρ3, p3, k1, k2⟩ := for_w hb he post (pre ++ [x]) ρ2 p2 (by rw [e]; simp) h3
      exact ⟨f, ρ3, p3, st _ k1, k2⟩
    | brk => exact ⟨.nx, ρ2, p2, st _ rfl, h3⟩
    | ret d => exact ⟨.ret d, ρ2, p2, st _ rfl, h3⟩
theorem xw_for {q : QSs} {α : Type} {gi : α → D} {L : List α} {src : Sr} (Inv : List α → En → Pl → Prop) (hs : WS C src ρ p fun items p1 => items = L.map gi ∧ Inv [] ρ p1)
    (hb : ∀ pre x post ρ p, L = pre ++ x :: post → Inv pre ρ p → WT t (gi x) ρ p fun ρ1 p1 => WX C q ρ1 p1 (Turn (Inv (pre ++ [x])) (fun ρ2 p2 => WX C r ρ2 p2 QX) QX))
    (he : ∀ ρ p, Inv L ρ p → WX C r ρ p QX) : WX C (.cons (.fr t src q) r) ρ p QX := by
  obtain ⟨items, p1, h1, rfl, h0⟩ := hs
  obtain ⟨f, ρ2, p2, k1, k2⟩ := for_w hb he L [] ρ p1 rfl h0
  exact xw_cons ⟨f, ρ2, p2, x_fr h1 k1, k2⟩
theorem while_w {q : QSs} {Inv : Nat → En → Pl → Prop} (hb : ∀ n ρ p, Inv n ρ p → WE C e ρ p fun x p1 => WB x (WX C q ρ p1 (Turn (fun ρ p => ∃ m, m < n ∧ Inv m ρ p) (fun ρ2 p2 => WX C r ρ2 p2 QX) QX)) (WX C r ρ p1 QX)) :
    ∀ (N n : Nat) (ρ : En) (p : Pl), n < N → Inv n ρ p → ∃ f ρ' p', whileF (fun ρ p => (ev C e ρ p).bind fun x => (truD x.1).bind fun t => some (t, x.2)) (fun ρ p => exs C q ρ p) N ρ p = some (f, ρ', p') ∧ Kx C r QX f ρ' p'
  | 0, n, _, _, h, _ => by omega
  | N + 1, n, ρ, p, hn, h => by
    obtain ⟨x, p1, h1, t, h2, hT, hF⟩ := hb n ρ p h
    have ht : (fun ρ p => (ev C e ρ p).bind fun x => (truD x.1).bind fun t => some (t, x.2)) ρ p = some (t, p1) := by
      show (ev C e ρ p).bind _ = _
      rw [h1]
      show (truD x).bind _ = _
      rw [h2]; rfl
    cases t with
    | false => exact ⟨.nx, ρ, p1, by
        show ((fun ρ p => (ev C e ρ p).bind fun x => (truD x.1).bind fun t => some (t, x.2)) ρ p).bind _ = _
        rw [ht]; rfl, hF rfl⟩
    | true =>
      obtain ⟨f, ρ2, p2, h3, h4⟩ := hT rfl
      have st : ∀ w, (match f with | .nx => whileF (fun ρ p => (ev C e ρ p).bind fun x => (truD x.1).bind fun t => some (t, x.2)) (fun ρ p => exs C q ρ p) N ρ2 p2 | .cnt => whileF (fun ρ p => (ev C e ρ p).bind fun x => (truD x.1).bind fun t => some (t, x.2)) (fun ρ p => exs C q ρ p) N ρ2 p2 | .brk => some (.nx, ρ2, p2) | .ret d => some (.ret d, ρ2, p2)) = some w → whileF (fun ρ p => (ev C e ρ p).bind fun x => (truD x.1).bind fun t => some (t, x.2)) (fun ρ p => exs C q ρ p) (N + 1) ρ p = some w := fun w hw => by
        show ((fun ρ p => (ev C e ρ p).bind fun x => (truD x.1).bind fun t => some (t, x.2)) ρ p).bind _ = _
        rw [ht]
        show (exs C q ρ p1).bind _ = _
        rw [h3]
        cases f <;> exact hw
      cases f with
      | nx =>
        obtain ⟨m, hm, hI⟩ := h4
        obtain ⟨f, ρ3, p3, k1, k2⟩ := while_w hb N m ρ2 p2 (by omega) hI
        exact ⟨f, ρ3, p3, st _ k1, k2⟩
      | cnt =>
        obtain ⟨m, hm, hI⟩ := h4
        obtain ⟨f, ρ3, p3, k1, k2⟩ := while_w hb N m ρ2 p2 (by omega) hI
        exact ⟨f, ρ3, p3, st _ k1, k2⟩
      | brk => exact ⟨.nx, ρ2, p2, st _ rfl, h4⟩
      | ret d => exact ⟨.ret d, ρ2, p2, st _ rfl, h4⟩
theorem xw_whl {q : QSs} (Inv : Nat → En → Pl → Prop) {n : Nat} (h0 : Inv n ρ p) (hn : n < C.fuel) (hb : ∀ n ρ p, Inv n ρ p → WE C e ρ p fun x p1 => WB x (WX C q ρ p1 (Turn (fun ρ p => ∃ m, m < n ∧ Inv m ρ p) (fun ρ2 p2 => WX C r ρ2 p2 QX) QX)) (WX C r ρ p1 QX)) : WX C (.cons (.whl e q) r) ρ p QX := by
  obtain ⟨f, ρ2, p2, k1, k2⟩ := while_w hb C.fuel n ρ p hn h0
  exact xw_cons ⟨f, ρ2, p2, k1, k2⟩
/-- a def's end -/
def Fin (Q : D → Pl → Prop) : Fl → En → Pl → Prop
  | .ret d, _, p => Q d p
  | .nx, _, p => Q .non p
  | _, _, _ => False
theorem fin_ret (h : Q d p) : Fin Q (.ret d) ρ p := h
theorem fin_nx (h : Q .non p) : Fin Q .nx ρ p := h
theorem w_fn {T : Tab} {cons : List D} {F n g : Nat} {df : Df} (hd : T.defs[g]? = some df) (hl : ds.length = df.ps.length) (h : WX ⟨cons, run T.defs cons F n, dfls T.defs, F⟩ df.body (startE df.N.length ds) p (Fin Q)) : ∃ d p', run T.defs cons F (n + 1) g ds p = some (d, p') ∧ Q d p' := by
  obtain ⟨f, ρ', p', h1, h2⟩ := h
  cases f with
  | ret d => exact ⟨d, p', fn_ret hd hl h1, h2⟩
  | nx => exact ⟨_, p', fn_nx hd hl h1, h2⟩
  | brk => exact h2.elim
  | cnt => exact h2.elim
end
end FW
set_option maxHeartbeats 4000000
/-! Q1: fractions as rational numbers; sizes. -/
namespace FW
open PySem
def fr (q : Rat) : D := .tup [.int q.num, .int (q.den : Nat)]
def Bd (k : Nat) (i : Int) : Prop := i.natAbs < 2 ^ k
theorem Bd.mono {k l : Nat} {i : Int} (h : Bd k i) (hl : k ≤ l) : Bd l i := Nat.lt_of_lt_of_le h (Nat.pow_le_pow_right (by decide) hl)
theorem Bd.neg {k : Nat} {i : Int} (h : Bd k i) : Bd k (-i) := by unfold Bd at *; rw [Int.natAbs_neg]; exact h
theorem Bd.mul {k l : Nat} {i j : Int} (h : Bd k i) (h2 : Bd l j) : Bd (k + l) (i * j) := by
  unfold Bd at *
  rw [Int.natAbs_mul, Nat.pow_add]
  exact Nat.mul_lt_mul'' h h2
theorem Bd.add {k : Nat} {i j : Int} (h : Bd k i) (h2 : Bd k j) : Bd (k + 1) (i + j) := by
  unfold Bd at *
  have := Int.natAbs_add_le i j
  rw [Nat.pow_succ]
  omega
theorem Bd.sub {k : Nat} {i j : Int} (h : Bd k i) (h2 : Bd k j) : Bd (k + 1) (i - j) := by
  rw [Int.sub_eq_add_neg]
  exact h.add h2.neg
theorem bits_le {k : Nat} {i : Int} (h : Bd k i) : Builtin.Int.intBits i ≤ k := by
  unfold Builtin.Int.intBits
  split
  · exact Nat.zero_le _
  · rename_i h0
    have h0 : i ≠ 0 := by simpa using h0
    have : i.natAbs.log2 < k := (Nat.log2_lt (by omega)).mpr h
    omega
theorem mul_ok {k l : Nat} {i j : Int} (h : Bd k i) (h2 : Bd l j) (hk : k + l ≤ 134217728) : mulOk i j = true := by
  unfold mulOk
  have := bits_le h
  have := bits_le h2
  exact decide_eq_true (by omega)
theorem div_ok {k : Nat} {i j : Int} (h0 : j ≠ 0) (h : Bd k j) (hk : k ≤ 8900) : divOk i j = true := by
  unfold divOk
  have h1 : Builtin.divisionGoesByPylong i j = false := by
    unfold Builtin.divisionGoesByPylong
    have h2 : j.natAbs.log2 < 8900 := (Nat.log2_lt (by omega)).mpr (h.mono hk)
    have h3 : (j == 0) = false := by simpa using h0
    simp only [h3, Bool.false_eq_true, if_false, Bool.and_eq_false_iff, decide_eq_false_iff_not]
    left
    omega
  rw [h1]
  simp [h0]
theorem op_mul {k l : Nat} {i j : Int} (h : Bd k i) (h2 : Bd l j) (hk : k + l ≤ 134217728) : opD .Mult (.int i) (.int j) = some (.int (i * j)) := by
  show (if mulOk i j then some (D.int (i * j)) else none) = _
  rw [if_pos (mul_ok h h2 hk)]
theorem op_fdiv {k : Nat} {i j : Int} (h0 : j ≠ 0) (h : Bd k j) (hk : k ≤ 8900) : opD .FloorDiv (.int i) (.int j) = some (.int (i.fdiv j)) := by
  show (if divOk i j then some (D.int (i.fdiv j)) else none) = _
  rw [if_pos (div_ok h0 h hk)]
theorem op_mod {i j : Int} (h0 : j ≠ 0) : opD .Mod (.int i) (.int j) = some (.int (i.fmod j)) := by
  show (if j = 0 then none else some (D.int (i.fmod j))) = _
  rw [if_neg h0]
/-- the sign's gcd -/
def sg (a b : Int) : Int := if 0 < b then (Nat.gcd a.natAbs b.natAbs : Int) else -(Nat.gcd a.natAbs b.natAbs : Int)
theorem sg_ne {a b : Int} (hb : b ≠ 0) : sg a b ≠ 0 := by
  have : 0 < Nat.gcd a.natAbs b.natAbs := Nat.gcd_pos_of_pos_right _ (by omega)
  unfold sg
  split <;> omega
theorem sg_bd {a b : Int} {k : Nat} (hb : b ≠ 0) (h : Bd k b) : Bd k (sg a b) := by
  have h1 : Nat.gcd a.natAbs b.natAbs ≤ b.natAbs := Nat.gcd_le_right _ (by omega)
  have h2 : Bd k (Nat.gcd a.natAbs b.natAbs : Int) := Nat.lt_of_le_of_lt (by simpa using h1) h
  unfold sg
  split
  · exact h2
  · exact h2.neg
theorem fdiv_neg_exact {g k : Int} (hg : 0 < g) : (g * k).fdiv (-g) = -k := by
  rw [show g * k = (-k) * (-g) by rw [Int.neg_mul_neg, Int.mul_comm]]
  exact Int.mul_fdiv_cancel _ (by omega)
theorem fdiv_exact {g k : Int} (hg : 0 < g) : (g * k).fdiv g = k := by
  rw [Int.mul_comm]
  exact Int.mul_fdiv_cancel _ (by omega)
theorem plain_num {a b : Int} (hb : b ≠ 0) : a.fdiv (sg a b) = (Rat.divInt a b).num ∧ b.fdiv (sg a b) = ((Rat.divInt a b).den : Int) := by
  rw [Rat.num_divInt, Rat.den_divInt, if_neg hb]
  have hg : 0 < Nat.gcd a.natAbs b.natAbs := Nat.gcd_pos_of_pos_right _ (by omega)
  have e : Int.gcd b a = Nat.gcd a.natAbs b.natAbs := Nat.gcd_comm ..
  rw [e]
  generalize hG : Nat.gcd a.natAbs b.natAbs = g at *
  obtain ⟨x, hx⟩ : (g : Int) ∣ a := Int.ofNat_dvd_left.mpr (hG ▸ Nat.gcd_dvd_left _ _)
  obtain ⟨y, hy⟩ : (g : Int) ∣ b := Int.ofNat_dvd_left.mpr (hG ▸ Nat.gcd_dvd_right _ _)
  have hg' : (0 : Int) < g := by omega
  have hyb : b.natAbs / g = y.natAbs := by
    rw [hy, Int.natAbs_mul, Int.natAbs_natCast, Nat.mul_div_cancel_left _ hg]
  rw [hyb]
  unfold sg
  rw [hG]
  by_cases h : 0 < b
  · rw [if_pos h, Int.sign_eq_one_of_pos h, Int.one_mul]
    have hy0 : 0 < y := by
      rcases Int.lt_trichotomy 0 y with q | q | q
      · exact q
      · rw [← q] at hy; omega
      · have := Int.mul_neg_of_pos_of_neg hg' q; omega
    constructor
    · rw [hx, fdiv_exact hg', Int.mul_ediv_cancel_left _ (by omega)]
    · rw [hy, fdiv_exact hg']; omega
  · have hb' : b < 0 := by omega
    rw [if_neg h, Int.sign_eq_neg_one_of_neg hb']
    have hy0 : y < 0 := by
      rcases Int.lt_trichotomy 0 y with q | q | q
      · have := Int.mul_pos hg' q; omega
      · rw [← q] at hy; omega
      · exact q
    constructor
    · rw [hx, fdiv_neg_exact hg', show -1 * ((g : Int) * x) = (g : Int) * (-x) by rw [Int.mul_neg]; omega, Int.mul_ediv_cancel_left _ (by omega)]
    · rw [hy, fdiv_neg_exact hg']; omega
/-- sizes of a fraction -/
def Sz (k : Nat) (q : Rat) : Prop := Bd k q.num ∧ Bd k (q.den : Int)
theorem Sz.mono {k l : Nat} {q : Rat} (h : Sz k q) (hl : k ≤ l) : Sz l q := ⟨h.1.mono hl, h.2.mono hl⟩
theorem Sz.neg {k : Nat} {q : Rat} (h : Sz k q) : Sz k (-q) := by
  unfold Sz
  rw [Rat.neg_num, Rat.neg_den]
  exact ⟨h.1.neg, h.2⟩
theorem sz_div {k l : Nat} {a b : Int} (hb : b ≠ 0) (ha : Bd k a) (h : Bd l b) (hk : k ≤ l) : Sz l (Rat.divInt a b) := by
  have hg : 0 < Nat.gcd a.natAbs b.natAbs := Nat.gcd_pos_of_pos_right _ (by omega)
  have e : Int.gcd b a = Nat.gcd a.natAbs b.natAbs := Nat.gcd_comm ..
  constructor
  · unfold Bd
    rw [Rat.num_divInt, e]
    refine Nat.lt_of_le_of_lt ?_ (ha.mono hk)
    have h1 : (b.sign * a / (Nat.gcd a.natAbs b.natAbs : Int)).natAbs ≤ (b.sign * a).natAbs := Int.natAbs_ediv_le_natAbs _ _
    have h2 : (b.sign * a).natAbs = a.natAbs := by rw [Int.natAbs_mul, Int.natAbs_sign_of_ne_zero hb, Nat.one_mul]
    omega
  · unfold Bd
    rw [Rat.den_divInt, if_neg hb]
    refine Nat.lt_of_le_of_lt ?_ h
    rw [Int.natAbs_natCast]
    exact Nat.div_le_self _ _
theorem den_ne (q : Rat) : (q.den : Int) ≠ 0 := by have := q.den_nz; omega
theorem den_pos' (q : Rat) : (0 : Int) < q.den := by have := q.den_pos; omega
theorem add_div (q r : Rat) : Rat.divInt (q.num * r.den + r.num * q.den) (q.den * r.den) = q + r := by
  rw [Rat.add_def', ← Rat.divInt_ofNat]; rfl
theorem mul_div (q r : Rat) : Rat.divInt (q.num * r.num) (q.den * r.den) = q * r := by
  rw [Rat.mul_def', ← Rat.divInt_ofNat]; rfl
theorem over_div (q r : Rat) : Rat.divInt (q.num * r.den) (q.den * r.num) = q / r := by
  rw [Rat.div_def, Rat.inv_def, ← Rat.divInt_mul_divInt, Rat.num_divInt_den]
theorem bd_nat {k : Nat} {n : Nat} (h : n < 2 ^ k) : Bd k (n : Int) := by unfold Bd; simpa using h
theorem Sz.add {k l : Nat} {q r : Rat} (h : Sz k q) (h2 : Sz l r) : Sz (k + l + 1) (q + r) := by
  rw [← add_div]
  refine sz_div (Int.mul_ne_zero (den_ne q) (den_ne r)) ((h.1.mul h2.2).add ((h2.1.mul h.2).mono (by omega))) ((h.2.mul h2.2).mono (by omega)) (Nat.le_refl _)
theorem Sz.sub {k l : Nat} {q r : Rat} (h : Sz k q) (h2 : Sz l r) : Sz (k + l + 1) (q - r) := by
  rw [Rat.sub_eq_add_neg]; exact h.add h2.neg
theorem Sz.mul {k l : Nat} {q r : Rat} (h : Sz k q) (h2 : Sz l r) : Sz (k + l) (q * r) := by
  rw [← mul_div]
  exact sz_div (Int.mul_ne_zero (den_ne q) (den_ne r)) (h.1.mul h2.1) (h.2.mul h2.2) (Nat.le_refl _)
theorem num_ne {q : Rat} (h : q ≠ 0) : q.num ≠ 0 := fun e => h (Rat.num_eq_zero.mp e)
theorem Sz.div {k l : Nat} {q r : Rat} (h : Sz k q) (h2 : Sz l r) (hr : r ≠ 0) : Sz (k + l) (q / r) := by
  rw [← over_div]
  exact sz_div (Int.mul_ne_zero (den_ne q) (num_ne hr)) (h.1.mul h2.2) (h.2.mul h2.1) (Nat.le_refl _)
end FW
set_option maxHeartbeats 400000
/-! Q2: whole numbers among the fractions; measures. -/
namespace FW
open PySem
def IsInt (q : Rat) : Prop := ∃ z : Int, q = z
theorem isInt_den {q : Rat} : IsInt q ↔ q.den = 1 := by
  constructor
  · rintro ⟨z, rfl⟩; exact Rat.den_intCast z
  · intro h
    have e : Rat.divInt q.num (q.den : Int) = q := Rat.num_divInt_den q
    rw [h, Rat.divInt_ofNat, Rat.mkRat_one] at e
    exact ⟨q.num, e.symm⟩
theorem IsInt.add {q r : Rat} (h : IsInt q) (h2 : IsInt r) : IsInt (q + r) := by
  obtain ⟨a, rfl⟩ := h
  obtain ⟨b, rfl⟩ := h2
  exact ⟨a + b, by rw [Rat.intCast_add]⟩
theorem IsInt.sub {q r : Rat} (h : IsInt q) (h2 : IsInt r) : IsInt (q - r) := by
  obtain ⟨a, rfl⟩ := h
  obtain ⟨b, rfl⟩ := h2
  exact ⟨a - b, by rw [Rat.intCast_sub]⟩
theorem IsInt.mul {q r : Rat} (h : IsInt q) (h2 : IsInt r) : IsInt (q * r) := by
  obtain ⟨a, rfl⟩ := h
  obtain ⟨b, rfl⟩ := h2
  exact ⟨a * b, by rw [Rat.intCast_mul]⟩
theorem IsInt.neg {q : Rat} (h : IsInt q) : IsInt (-q) := by
  obtain ⟨a, rfl⟩ := h
  exact ⟨-a, by rw [Rat.intCast_neg]⟩
theorem isInt_neg {q : Rat} : IsInt (-q) ↔ IsInt q := ⟨fun h => by have := h.neg; rwa [Rat.neg_neg] at this, IsInt.neg⟩
theorem isInt_int (z : Int) : IsInt (z : Rat) := ⟨z, rfl⟩
theorem isInt_zero : IsInt 0 := ⟨0, rfl⟩
theorem isInt_one : IsInt 1 := ⟨1, rfl⟩
theorem isInt_abs {q t : Rat} : IsInt (q.abs * t) ↔ IsInt (q * t) := by
  rcases Rat.le_total (a := 0) (b := q) with h | h
  · rw [Rat.abs_of_nonneg h]
  · rw [Rat.abs_of_nonpos h, Rat.neg_mul]; exact isInt_neg
theorem isInt_div {a b : Int} (hb : b ≠ 0) : IsInt (Rat.divInt a b) ↔ b ∣ a := by
  constructor
  · rintro ⟨z, hz⟩
    have h : Rat.divInt a b = Rat.divInt z 1 := by rw [hz, show (1 : Int) = ((1 : Nat) : Int) from rfl, Rat.divInt_ofNat, Rat.mkRat_one]
    have := (Rat.divInt_eq_divInt_iff hb (by decide)).mp h
    exact ⟨z, by rw [Int.mul_one] at this; rw [this, Int.mul_comm]⟩
  · rintro ⟨z, rfl⟩
    refine ⟨z, ?_⟩
    have : Rat.divInt (b * z) b = Rat.divInt z 1 := (Rat.divInt_eq_divInt_iff hb (by decide)).mpr (by rw [Int.mul_one, Int.mul_comm])
    rw [this, show (1 : Int) = ((1 : Nat) : Int) from rfl, Rat.divInt_ofNat, Rat.mkRat_one]
/-- the measure of two -/
def rg (q r : Rat) : Rat := Rat.divInt (Nat.gcd (q.num * r.den).natAbs (r.num * q.den).natAbs : Int) (q.den * r.den)
theorem rg_nonneg (q r : Rat) : 0 ≤ rg q r := Rat.divInt_nonneg (Int.natCast_nonneg _) (by have := den_pos' q; have := den_pos' r; exact Int.le_of_lt (Int.mul_pos ‹_› ‹_›))
theorem den_q (q r : Rat) : q = Rat.divInt (q.num * r.den) (q.den * r.den) := by
  rw [Rat.divInt_mul_right (den_ne r), Rat.num_divInt_den]
theorem den_r (q r : Rat) : r = Rat.divInt (r.num * q.den) (q.den * r.den) := by
  rw [Int.mul_comm (q.den : Int), Rat.divInt_mul_right (den_ne q), Rat.num_divInt_den]
theorem rg_int (q r t : Rat) : IsInt (rg q r * t) ↔ IsInt (q * t) ∧ IsInt (r * t) := by
  have hD : (q.den : Int) * r.den ≠ 0 := Int.mul_ne_zero (den_ne q) (den_ne r)
  have hDt := Int.mul_ne_zero hD (den_ne t)
  have e1 : q * t = Rat.divInt (q.num * r.den * t.num) (q.den * r.den * t.den) := by
    rw [← Rat.divInt_mul_divInt, ← den_q, Rat.num_divInt_den]
  have e2 : r * t = Rat.divInt (r.num * q.den * t.num) (q.den * r.den * t.den) := by
    rw [← Rat.divInt_mul_divInt, ← den_r, Rat.num_divInt_den]
  have e3 : rg q r * t = Rat.divInt ((Nat.gcd (q.num * r.den).natAbs (r.num * q.den).natAbs : Int) * t.num) (q.den * r.den * t.den) := by
    rw [← Rat.divInt_mul_divInt, Rat.num_divInt_den]; rfl
  rw [e1, e2, e3, isInt_div hDt, isInt_div hDt, isInt_div hDt]
  generalize (q.num * r.den : Int) = A
  generalize (r.num * q.den : Int) = B
  generalize (q.den * r.den * t.den : Int) = E
  rw [← Int.natAbs_dvd_natAbs, ← Int.natAbs_dvd_natAbs, ← Int.natAbs_dvd_natAbs, Int.natAbs_mul, Int.natAbs_mul, Int.natAbs_mul, Int.natAbs_natCast, ← Nat.gcd_mul_right]
  exact Nat.dvd_gcd_iff
/-- g measures these -/
structure IsM (g : Rat) (P : Rat → Prop) : Prop where
  nn : 0 ≤ g
  int : ∀ t, IsInt (g * t) ↔ ∀ x, P x → IsInt (x * t)
theorem pos_of {g : Rat} (h : 0 ≤ g) (h0 : g ≠ 0) : 0 < g := Rat.lt_of_le_of_ne h (Ne.symm h0)
theorem int_half {g : Rat} (h : ∀ t, IsInt (g * t)) : g = 0 := by
  by_cases h0 : g = 0
  · exact h0
  · have := h (g⁻¹ * mkRat 1 2)
    rw [← Rat.mul_assoc, Rat.mul_inv_cancel _ h0, Rat.one_mul, isInt_den] at this
    exact absurd this (by decide)
theorem isInt_one_le {q : Rat} (h : IsInt q) (h0 : 0 < q) : 1 ≤ q := by
  obtain ⟨z, rfl⟩ := h
  have := Rat.intCast_pos.mp h0
  have := Rat.intCast_le_intCast.mpr (show (1 : Int) ≤ z by omega)
  rwa [Rat.intCast_one] at this
theorem IsM.same {g g' : Rat} {P Q : Rat → Prop} (h : IsM g P) (h' : IsM g' Q) (e : ∀ t, (∀ x, P x → IsInt (x * t)) ↔ ∀ x, Q x → IsInt (x * t)) : g = g' := by
  have k : ∀ t, IsInt (g * t) ↔ IsInt (g' * t) := fun t => by rw [h.int, h'.int, e]
  by_cases h0 : g = 0
  · subst h0
    exact (int_half fun t => (k t).mp (by rw [Rat.zero_mul]; exact isInt_zero)).symm
  · by_cases h1 : g' = 0
    · subst h1
      exact int_half fun t => (k t).mpr (by rw [Rat.zero_mul]; exact isInt_zero)
    · have p0 := pos_of h.nn h0
      have p1 := pos_of h'.nn h1
      have a1 := (k g⁻¹).mp (by rw [Rat.mul_inv_cancel _ h0]; exact isInt_one)
      have a2 := (k g'⁻¹).mpr (by rw [Rat.mul_inv_cancel _ h1]; exact isInt_one)
      have b1 := isInt_one_le a1 (Rat.mul_pos p1 (Rat.inv_pos.mpr p0))
      have b2 := isInt_one_le a2 (Rat.mul_pos p0 (Rat.inv_pos.mpr p1))
      have c1 : g ≤ g' := by
        have := Rat.mul_le_mul_of_nonneg_right b1 h.nn
        rwa [Rat.one_mul, Rat.mul_assoc, Rat.inv_mul_cancel _ h0, Rat.mul_one] at this
      have c2 : g' ≤ g := by
        have := Rat.mul_le_mul_of_nonneg_right b2 h'.nn
        rwa [Rat.one_mul, Rat.mul_assoc, Rat.inv_mul_cancel _ h1, Rat.mul_one] at this
      exact Rat.le_antisymm c1 c2
/-- the measure of many -/
def meas (f : Rat) (L : List Rat) : Rat := L.foldl rg f
theorem meas_nn : ∀ {L : List Rat} {f : Rat}, 0 ≤ f → 0 ≤ meas f L
  | [], _, h => h
  | x :: L, f, _ => meas_nn (L := L) (rg_nonneg f x)
theorem meas_int : ∀ {L : List Rat} {f t : Rat}, IsInt (meas f L * t) ↔ IsInt (f * t) ∧ ∀ x ∈ L, IsInt (x * t)
  | [], f, t => by
    show IsInt (f * t) ↔ _
    simp
  | x :: L, f, t => by
    show IsInt (meas (rg f x) L * t) ↔ _
    rw [meas_int, rg_int]
    simp [and_assoc]
theorem meas_isM (L : List Rat) : IsM (meas 0 L) (· ∈ L) := ⟨meas_nn (by decide), fun t => by
  rw [meas_int, Rat.zero_mul]
  exact ⟨fun h => h.2, fun h => ⟨isInt_zero, h⟩⟩⟩
theorem rg_sz {k l : Nat} {q r : Rat} (h : Sz k q) (h2 : Sz l r) : Sz (k + l) (rg q r) := by
  refine sz_div (k := k + l) (Int.mul_ne_zero (den_ne q) (den_ne r)) ?_ (h.2.mul h2.2) (Nat.le_refl _)
  unfold Bd
  rw [Int.natAbs_natCast]
  rcases Nat.eq_zero_or_pos (q.num * r.den).natAbs with e | e
  · rcases Nat.eq_zero_or_pos (r.num * q.den).natAbs with e2 | e2
    · rw [e, e2, Nat.gcd_zero_left]
      exact Nat.two_pow_pos _
    · refine Nat.lt_of_le_of_lt (Nat.gcd_le_right _ e2) ?_
      have := h2.1.mul h.2
      rw [Nat.add_comm]; exact this
  · exact Nat.lt_of_le_of_lt (Nat.gcd_le_left _ e) (h.1.mul h2.2)
end FW
/-! Q3: fractions compared by the evaluator. -/
namespace FW
open PySem
theorem eqv_fr (q r : Rat) : eqv (fr q) (fr r) = decide (q = r) := by
  show ((q.num == r.num) && (((q.den : Int) == r.den) && true)) = _
  by_cases h : q = r
  · subst h; simp
  · rw [decide_eq_false h, Bool.and_true]
    by_cases h1 : q.num = r.num
    · have h2 : q.den ≠ r.den := fun e => h (Rat.ext h1 e)
      have : ((q.den : Int) == r.den) = false := by simpa using fun e => h2 (by omega)
      rw [this, Bool.and_false]
    · have : (q.num == r.num) = false := by simpa using h1
      rw [this, Bool.false_and]
theorem eqD_fr (q r : Rat) : eqD (fr q) (fr r) = some (decide (q = r)) := by
  show some (eqv (fr q) (fr r)) = _
  rw [eqv_fr]
theorem cmp_eq (q r : Rat) : cmpD .Eq (fr q) (fr r) = some (.bl (decide (q = r))) := by
  show (eqD (fr q) (fr r)).map D.bl = _
  rw [eqD_fr]; rfl
theorem cmp_ne (q r : Rat) : cmpD .NotEq (fr q) (fr r) = some (.bl (!decide (q = r))) := by
  have e : cmpD .NotEq (fr q) (fr r) = (eqD (fr q) (fr r)).map (fun r => D.bl (!r)) := by unfold cmpD; rfl
  rw [e, eqD_fr]; rfl
def nought : D := .tup [.int 0, .int 1]
theorem fr_zero : fr 0 = .tup [.int 0, .int 1] := rfl
theorem fr_one : fr 1 = .tup [.int 1, .int 1] := rfl
theorem cmp_eq0 (q : Rat) : cmpD .Eq (fr q) (.tup [.int 0, .int 1]) = some (.bl (decide (q = 0))) := cmp_eq q 0
theorem cmp_ne0 (q : Rat) : cmpD .NotEq (fr q) (.tup [.int 0, .int 1]) = some (.bl (!decide (q = 0))) := cmp_ne q 0
theorem sz_zero : Sz 1 0 := ⟨by unfold Bd; decide, by unfold Bd; decide⟩
theorem sz_one : Sz 1 1 := ⟨by unfold Bd; decide, by unfold Bd; decide⟩
theorem sz_int {k : Nat} {z : Int} (h : Bd k z) (hk : 1 ≤ k) : Sz k (z : Rat) := by
  unfold Sz
  rw [Rat.num_intCast, Rat.den_intCast]
  exact ⟨h, (show Bd 1 1 from by unfold Bd; decide).mono hk⟩
end FW
/-! Q4: loops that leave the pool alone; items by their place. -/
namespace FW
open PySem PySem.Spec PyProof.Rows L2
theorem for_inv {p : Pl} {fb : D → En → Pl → X3} {Inv : En → Prop} : ∀ {ds : List D} {ρ : En}, Inv ρ → (∀ d ∈ ds, ∀ ρ, Inv ρ → ∃ ρ', fb d ρ p = some (.nx, ρ', p) ∧ Inv ρ') → ∃ ρ', forF fb ds ρ p = some (.nx, ρ', p) ∧ Inv ρ'
  | [], ρ, h, _ => ⟨ρ, rfl, h⟩
  | d :: ds, ρ, h, hs => by
    obtain ⟨ρ1, e1, h1⟩ := hs d (List.mem_cons_self ..) ρ h
    obtain ⟨ρ2, e2, h2⟩ := for_inv h1 fun d hd => hs d (List.mem_cons_of_mem _ hd)
    exact ⟨ρ2, for_nx e1 e2, h2⟩
theorem enum_mem {α : Type} {g : α → D} {L : List α} {d : D} (h : d ∈ enumF 0 (L.map g)) : ∃ (i : Nat) (x : α), L[i]? = some x ∧ d = .tup [.int (i : Nat), g x] := by
  obtain ⟨i, hi⟩ := List.mem_iff_getElem?.mp h
  obtain ⟨x, h1, h2⟩ := enum_get hi
  rw [List.getElem?_map] at h1
  obtain ⟨y, h3, h4⟩ := Option.map_eq_some_iff.mp h1
  subst h4
  exact ⟨i, y, h3, by rw [h2, Nat.zero_add]⟩
theorem at_nat {xs : List D} {i : Nat} {d : D} (h : xs[i]? = some d) : atI xs (i : Int) = some d := by
  unfold atI
  have hi := (List.getElem?_eq_some_iff.mp h).1
  rw [ixN_lit hi]
  exact h
theorem ix_tup {xs : List D} {i : Nat} {d : D} {p : Pl} (h : xs[i]? = some d) : ixP (.tup xs) (.int (i : Nat)) p = some d := at_nat h
theorem ix_lst {xs : List D} {i : Nat} {d : D} {p : Pl} (h : xs[i]? = some d) : ixP (.lst xs) (.int (i : Nat)) p = some d := at_nat h
theorem op_sub1 {i : Nat} (h : 0 < i) : opD .Sub (.int (i : Nat)) (.int 1) = some (.int ((i - 1 : Nat) : Int)) := by
  show some (D.int ((i : Int) - 1)) = _
  rw [show ((i : Int) - 1) = ((i - 1 : Nat) : Int) by omega]
end FW
/-! Q5: slices. -/
namespace FW
open PySem PySem.Spec PyProof.Rows L2
theorem cut_tail (x : D) (xs : List D) : cutD (x :: xs) (some 1) none = xs := by
  unfold cutD
  rw [List.length_cons, HT.sIx_none, show (1 : Int) = ((1 : Nat) : Int) from rfl, HT.sIx_nat, Nat.min_eq_left (Nat.le_add_left 1 _)]
  simp
theorem cut_nil : cutD [] none (some 1) = [] := by simp [cutD]
theorem ix0 {x : D} {xs : List D} {p : Pl} : ixP (.tup (x :: xs)) (.int 0) p = some x := ix_tup (i := 0) rfl
theorem ix0L {x : D} {xs : List D} {p : Pl} : ixP (.lst (x :: xs)) (.int 0) p = some x := ix_lst (i := 0) rfl
end FW
/-! Q6: rows compared. -/
namespace FW
open PySem PySem.Spec PyProof.Rows L2
theorem plains_fr : ∀ L : List Rat, plains (L.map fr) = true
  | [] => rfl
  | x :: L => by show (plainD (fr x) && plains (L.map fr)) = true; rw [plains_fr L]; rfl
theorem deeps_fr : ∀ L : List Rat, deeps (L.map fr) ≤ 1
  | [] => Nat.zero_le _
  | x :: L => by
    show max (deep (fr x)) (deeps (L.map fr)) ≤ 1
    exact Nat.max_le.mpr ⟨by show max 0 (max 0 0) + 1 ≤ 1; decide, deeps_fr L⟩
theorem ok_row (L : List Rat) : okD (.tup (L.map fr)) = true := by
  unfold okD
  rw [Bool.and_eq_true]
  refine ⟨plains_fr L, decide_eq_true ?_⟩
  show deeps (L.map fr) + 1 ≤ 60
  have := deeps_fr L
  omega
theorem eqvs_fr : ∀ L M : List Rat, eqvs (L.map fr) (M.map fr) = decide (L = M)
  | [], [] => rfl
  | [], _ :: _ => rfl
  | _ :: _, [] => rfl
  | x :: L, y :: M => by
    show (eqv (fr x) (fr y) && eqvs (L.map fr) (M.map fr)) = _
    rw [eqv_fr, eqvs_fr L M]
    by_cases h1 : x = y <;> by_cases h2 : L = M <;> simp [h1, h2]
theorem cmp_row (L M : List Rat) : cmpD .Eq (.tup (L.map fr)) (.tup (M.map fr)) = some (.bl (decide (L = M))) := by
  have e : eqD (.tup (L.map fr)) (.tup (M.map fr)) = some (decide (L = M)) := by
    unfold eqD
    rw [ok_row, ok_row]
    show some (eqvs (L.map fr) (M.map fr)) = _
    rw [eqvs_fr]
  show (eqD (.tup (L.map fr)) (.tup (M.map fr))).map D.bl = _
  rw [e]; rfl
/-! rows of truths -/
theorem plains_bl : ∀ L : List Bool, plains (L.map D.bl) = true
  | [] => rfl
  | x :: L => plains_bl L
theorem deeps_bl : ∀ L : List Bool, deeps (L.map D.bl) = 0
  | [] => rfl
  | x :: L => by show max 0 (deeps (L.map D.bl)) = 0; rw [deeps_bl L]; rfl
theorem ok_bls (L : List Bool) : okD (.lst (L.map D.bl)) = true := by
  unfold okD
  rw [Bool.and_eq_true]
  refine ⟨plains_bl L, decide_eq_true ?_⟩
  show deeps (L.map D.bl) + 1 ≤ 60
  rw [deeps_bl]; decide
theorem eqvs_bl : ∀ L M : List Bool, eqvs (L.map D.bl) (M.map D.bl) = decide (L = M)
  | [], [] => rfl
  | [], _ :: _ => rfl
  | _ :: _, [] => rfl
  | x :: L, y :: M => by
    show ((x == y) && eqvs (L.map D.bl) (M.map D.bl)) = _
    rw [eqvs_bl L M]
    cases x <;> cases y <;> by_cases h2 : L = M <;> simp [h2]
theorem cmp_bls (L M : List Bool) : cmpD .NotEq (.lst (L.map D.bl)) (.lst (M.map D.bl)) = some (.bl (!decide (L = M))) := by
  have e : eqD (.lst (L.map D.bl)) (.lst (M.map D.bl)) = some (decide (L = M)) := by
    unfold eqD
    rw [ok_bls, ok_bls]
    show some (eqvs (L.map D.bl) (M.map D.bl)) = _
    rw [eqvs_bl]
  have e2 : cmpD .NotEq (.lst (L.map D.bl)) (.lst (M.map D.bl)) = (eqD (.lst (L.map D.bl)) (.lst (M.map D.bl))).map (fun r => D.bl (!r)) := by unfold cmpD; rfl
  rw [e2, e]; rfl
end FW
/-! FW28: the same, for fractions and numbers. -/
namespace FW
open PySem PySem.Spec PyProof.Rows L2
theorem nd_T {P : Prop} {_ : Decidable P} (h : ¬ P) : (!decide P) = true := by rw [decide_eq_false h]; rfl
theorem nd_F {P : Prop} {_ : Decidable P} (h : P) : (!decide P) = false := by rw [decide_eq_true h]; rfl
theorem few_lit {ds : List D} (h : Nat.ble ds.length 1000000 = true) : Few ds := Nat.le_of_ble_eq_true h
theorem few_map {α : Type} {f : α → D} {l : List α} (h : l.length ≤ 1000000) : Few (l.map f) := by unfold Few; rw [List.length_map]; exact h
theorem nt_F : (!true) = false := rfl
theorem nt_T : (!false) = true := rfl
theorem mul_den (x : Rat) : x * (x.den : Rat) = x.num := by
  have h := Rat.num_divInt_den x
  rw [Rat.divInt_eq_div, Rat.intCast_natCast] at h
  have hd : (x.den : Rat) ≠ 0 := fun h => x.den_nz (Rat.natCast_eq_zero_iff.mp h)
  have := Rat.div_mul_cancel (a := (x.num : Rat)) hd
  rw [h] at this
  exact this
theorem mem_zi {α : Type} {x : α × Nat} : ∀ {L : List α} {k : Nat}, x ∈ L.zipIdx k → x.1 ∈ L
  | [], _, h => by simp at h
  | y :: L, k, h => by
    rw [List.zipIdx_cons] at h
    rcases List.mem_cons.mp h with rfl | h
    · simp
    · exact List.mem_cons_of_mem _ (mem_zi h)
theorem bd_small {i : Int} (h : -18446744073709551616 < i ∧ i < 18446744073709551616) : Bd 64 i := by
  unfold Bd
  have : (2 : Nat) ^ 64 = 18446744073709551616 := by decide
  omega
theorem op_divmod {k : Nat} {i j : Int} (h0 : 0 < j) (h : Bd k j) (hk : k ≤ 8900) : biD .divmod [.int i, .int j] = some (.tup [.int (i / j), .int (i % j)]) := by
  have h1 := div_ok (i := i) (show j ≠ 0 by omega) h hk
  unfold divOk at h1
  have h2 : (!Builtin.divisionGoesByPylong i j) = true := (Bool.and_eq_true_iff.mp h1).2
  show (if decide (0 < j) && !Builtin.divisionGoesByPylong i j then some (D.tup [.int (i / j), .int (i % j)]) else none) = _
  rw [h2, decide_eq_true h0]; rfl
theorem fmod_rng {i m : Int} (h : 0 < m) : 0 ≤ i.fmod m ∧ i.fmod m < m := by
  rw [Int.fmod_eq_emod_of_nonneg _ (by omega)]
  exact ⟨Int.emod_nonneg _ (by omega), Int.emod_lt_of_pos _ h⟩
theorem fdiv_rng {i m : Int} (h : 0 < m) (hi : 0 ≤ i) : 0 ≤ i.fdiv m ∧ i.fdiv m ≤ i := by
  rw [Int.fdiv_eq_ediv_of_nonneg _ (by omega)]
  exact ⟨Int.ediv_nonneg hi (by omega), Int.ediv_le_self _ hi⟩
theorem cut_to {xs : List D} {k : Nat} (h : xs.length ≤ k) : cutD xs none (some (k : Int)) = xs := by
  unfold cutD
  rw [HT.sIx_none, HT.sIx_nat, List.drop_zero, Nat.sub_zero, Nat.min_eq_right h, List.take_length]
theorem bits_bd {i : Int} {k : Nat} (h : Builtin.Int.intBits i ≤ k) : Bd k i := by
  unfold Builtin.Int.intBits at h
  unfold Bd
  split at h
  · rename_i h0
    have h0 : i = 0 := by simpa using h0
    rw [h0]; exact Nat.two_pow_pos _
  · rename_i h0
    have h0 : i ≠ 0 := by simpa using h0
    exact (Nat.log2_lt (by omega)).mp (by omega)
theorem up_ex {ρ ρ' : En} {i : Nat} {s : Slot} {K : En → Prop} (h : Up ρ i s ρ') (k : K ρ') : ∃ ρ1, Up ρ i s ρ1 ∧ K ρ1 := ⟨ρ', h, k⟩
theorem own_ex {s : Slot} {ds : List D} {K : List D → Prop} (h : s = .own ds) (k : K ds) : ∃ es, s = .own es ∧ K es := ⟨ds, h, k⟩
theorem lst_ex {d : D} {ds : List D} {K : List D → Prop} (h : d = .lst ds) (k : K ds) : ∃ es, d = .lst es ∧ K es := ⟨ds, h, k⟩
section
variable {K : D → Prop} {q r : Rat} {i j : Int}
theorem wv_eq (h : K (.bl (decide (q = r)))) : WV (cmpD .Eq (fr q) (fr r)) K := wv (cmp_eq q r) h
theorem wv_ne (h : K (.bl (!decide (q = r)))) : WV (cmpD .NotEq (fr q) (fr r)) K := wv (cmp_ne q r) h
theorem wv_eq0 (h : K (.bl (decide (q = 0)))) : WV (cmpD .Eq (fr q) (.tup [.int 0, .int 1])) K := wv (cmp_eq0 q) h
theorem wv_ne0 (h : K (.bl (!decide (q = 0)))) : WV (cmpD .NotEq (fr q) (.tup [.int 0, .int 1])) K := wv (cmp_ne0 q) h
theorem cmp_eqI (a b : Int) : cmpD .Eq (.int a) (.int b) = some (.bl (decide (a = b))) := by
  show some (D.bl (a == b)) = _
  rw [show (a == b) = decide (a = b) from rfl]
theorem cmp_neI (a b : Int) : cmpD .NotEq (.int a) (.int b) = some (.bl (!decide (a = b))) := by
  show some (D.bl (!(a == b))) = _
  rw [show (a == b) = decide (a = b) from rfl]
theorem cmp_eqB (a b : Bool) : cmpD .Eq (.bl a) (.bl b) = some (.bl (decide (a = b))) := by cases a <;> cases b <;> rfl
theorem cmp_neB (a b : Bool) : cmpD .NotEq (.bl a) (.bl b) = some (.bl (!decide (a = b))) := by cases a <;> cases b <;> rfl
theorem wv_eqI (h : K (.bl (decide (i = j)))) : WV (cmpD .Eq (.int i) (.int j)) K := wv (cmp_eqI i j) h
theorem wv_neI (h : K (.bl (!decide (i = j)))) : WV (cmpD .NotEq (.int i) (.int j)) K := wv (cmp_neI i j) h
theorem wv_eqB {a b : Bool} (h : K (.bl (decide (a = b)))) : WV (cmpD .Eq (.bl a) (.bl b)) K := wv (cmp_eqB a b) h
theorem wv_neB {a b : Bool} (h : K (.bl (!decide (a = b)))) : WV (cmpD .NotEq (.bl a) (.bl b)) K := wv (cmp_neB a b) h
theorem any_false (L : List Bool) : (L.map D.bl).any (fun y => eqv y (.bl false)) = !(L.all id) := by
  induction L with
  | nil => rfl
  | cons b L ih =>
    show (eqv (.bl b) (.bl false) || (L.map D.bl).any (fun y => eqv y (.bl false))) = _
    rw [ih]
    cases b <;> simp [eqv]
theorem cmp_notin (L : List Bool) : cmpD .NotIn (.bl false) (.lst (L.map D.bl)) = some (.bl (L.all id)) := by
  have e : inD (.bl false) (L.map D.bl) = some (!(L.all id)) := by
    unfold inD
    rw [plains_bl, deeps_bl, any_false]; rfl
  have e2 : cmpD .NotIn (.bl false) (.lst (L.map D.bl)) = (inD (.bl false) (L.map D.bl)).map (fun r => D.bl (!r)) := by unfold cmpD; rfl
  rw [e2, e, Option.map_some, Bool.not_not]
theorem wv_lt (h : K (.bl (decide (i < j)))) : WV (cmpD .Lt (.int i) (.int j)) K := wv rfl h
theorem wv_le (h : K (.bl (decide (i ≤ j)))) : WV (cmpD .LtE (.int i) (.int j)) K := wv rfl h
theorem wv_gt (h : K (.bl (decide (j < i)))) : WV (cmpD .Gt (.int i) (.int j)) K := wv rfl h
theorem wv_ge (h : K (.bl (decide (j ≤ i)))) : WV (cmpD .GtE (.int i) (.int j)) K := wv rfl h
end
end FW
set_option maxHeartbeats 2000000
/-! FW29: a law's end, its numbers bounded. -/
namespace FW
open PySem PySem.Spec PyProof.Rows L2
theorem map3 {α β γ δ : Type} {o : Option α} {a : α → β} {b : α → γ} {c : α → δ} {x : β} {y : γ} {z : δ} (h1 : o.map a = some x) (h2 : o.map b = some y) (h3 : o.map c = some z) : o.map (fun t => (a t, b t, c t)) = some (x, y, z) := by
  cases o with
  | none => cases h1
  | some t => cases h1; cases h2; cases h3; rfl
theorem walk_bits {L : PySem.W.OpenLaw} {top lvl : Nat} {view : Program} {out : List Str} {XQ : (Str → Option Value) → Heap → Prop} {Ysays : World → Heap → Prop} {df : DefRec} {cx : CXT} {par : Str}
    (e1 : L.most = some top) (e2 : top ≤ sizeLine) (e3 : df.params.defaults = []) (e4 : Room lvl callerA)
    (key : ∀ (w : World) (glob : Str → Option Value) (at_ : Addr) (hp : Heap), Ysays w hp → hp.Ns mainGlobals glob → glob df.name = some (.ref at_) →
      ∃ (K : PySem.W.Frag) (fd : FuncData) (sp : Sp), K.In hp ∧ (∀ (s : Shared) (u : Value), BindsTo s fd ⟨[u], []⟩ [(par, u)]) ∧
        (∀ (H : Hp) (b : Addr) (ns : List Int), ns.length ≤ top → (∀ z ∈ ns, Builtin.Int.intBits z ≤ 1048576) → Only H → SqL K H b (ns.map V.int) → sp [.ref b] H (fun v _ => v = .bl true) fun _ _ _ => False) ∧
        ∀ base : Heap, K.In base → base.Ns mainGlobals glob → FnOk L.prog w K glob base cx lvl at_ fd [par] sp)
    (e5 : ∀ (H : Hp) (s : Shared) (e : Value) (s' : Shared), cx [] H s (fun _ _ _ => False) e s' → False) :
    PySem.W.WalkO view out XQ Ysays L.row.toRowW df [] (fun f vs => PySem.call f vs) := by
  apply Att.attach_callB e1 e3
  intro w s0 s1 glob blt at_ o pm cd doc b vs ns G Y ho hd hcd hglob hobj hints hlen hbits hgens
  obtain ⟨K, fd, sp, inK, bnd, spOk, fnOk⟩ := key w glob at_ _ Y G.T.g hglob
  exact law_call inK G.T.g G.T.b G.T.builtins G.T.nolimit hgens hobj hints (Nat.le_trans hlen e2) e4 fnOk bnd (fun H o s => spOk H b ns hlen hbits o s) fun H e s' => e5 H s1 e s'
end FW
set_option maxHeartbeats 8000000
namespace FWL
open PySem PySem.Spec PyProof.Rows L2 FW
def d0 : Df := ⟨"plain_of", ["number", "divisor"], ["number", "divisor", "common"], [], (.cons (.asg (.nm 2) (.ite (.cmp .Gt (.var 1) (.con (.int 0))) (.bi .gcd (.cons (.var 0) (.cons (.var 1) .nil))) (.neg (.bi .gcd (.cons (.var 0) (.cons (.var 1) .nil)))))) (.cons (.ret (.tup (.cons (.bin .FloorDiv (.var 0) (.var 2)) (.cons (.bin .FloorDiv (.var 1) (.var 2)) .nil)))) .nil))⟩
def d1 : Df := ⟨"whole", ["number"], ["number"], [], (.cons (.ret (.tup (.cons (.var 0) (.cons (.con (.int 1)) .nil)))) .nil)⟩
def d2 : Df := ⟨"plus", ["one", "other"], ["one", "other"], [], (.cons (.ret (.call 0 (.cons (.bin .Add (.bin .Mult (.ix (.var 0) (.con (.int 0))) (.ix (.var 1) (.con (.int 1)))) (.bin .Mult (.ix (.var 1) (.con (.int 0))) (.ix (.var 0) (.con (.int 1))))) (.cons (.bin .Mult (.ix (.var 0) (.con (.int 1))) (.ix (.var 1) (.con (.int 1)))) .nil)))) .nil)⟩
def d3 : Df := ⟨"negative", ["fraction"], ["fraction"], [], (.cons (.ret (.tup (.cons (.neg (.ix (.var 0) (.con (.int 0)))) (.cons (.ix (.var 0) (.con (.int 1))) .nil)))) .nil)⟩
def d4 : Df := ⟨"minus", ["one", "other"], ["one", "other"], [], (.cons (.ret (.call 2 (.cons (.var 0) (.cons (.call 3 (.cons (.var 1) .nil)) .nil)))) .nil)⟩
def d5 : Df := ⟨"times", ["one", "other"], ["one", "other"], [], (.cons (.ret (.call 0 (.cons (.bin .Mult (.ix (.var 0) (.con (.int 0))) (.ix (.var 1) (.con (.int 0)))) (.cons (.bin .Mult (.ix (.var 0) (.con (.int 1))) (.ix (.var 1) (.con (.int 1)))) .nil)))) .nil)⟩
def d6 : Df := ⟨"over", ["one", "other"], ["one", "other"], [], (.cons (.ret (.call 0 (.cons (.bin .Mult (.ix (.var 0) (.con (.int 0))) (.ix (.var 1) (.con (.int 1)))) (.cons (.bin .Mult (.ix (.var 0) (.con (.int 1))) (.ix (.var 1) (.con (.int 0)))) .nil)))) .nil)⟩
def d7 : Df := ⟨"is_less", ["one", "other"], ["one", "other"], [], (.cons (.ret (.cmp .Lt (.bin .Mult (.ix (.var 0) (.con (.int 0))) (.ix (.var 1) (.con (.int 1)))) (.bin .Mult (.ix (.var 1) (.con (.int 0))) (.ix (.var 0) (.con (.int 1)))))) .nil)⟩
def d8 : Df := ⟨"is_whole_one", ["fraction"], ["fraction"], [], (.cons (.ret (.cmp .Eq (.ix (.var 0) (.con (.int 1))) (.con (.int 1)))) .nil)⟩
def d9 : Df := ⟨"floor_of", ["fraction"], ["fraction"], [], (.cons (.ret (.bin .FloorDiv (.ix (.var 0) (.con (.int 0))) (.ix (.var 0) (.con (.int 1))))) .nil)⟩
def d10 : Df := ⟨"is_whole", ["value"], ["value"], [], (.cons (.ret (.and (.isi (.var 0) .int) (.not (.isi (.var 0) .bool)))) .nil)⟩
def d11 : Df := ⟨"is_between", ["value", "low", "high"], ["value", "low", "high"], [], (.cons (.ret (.and (.call 10 (.cons (.var 0) .nil)) (.chn .LtE .LtE (.var 1) (.var 0) (.var 2)))) .nil)⟩
def d12 : Df := ⟨"is_from", ["value", "least"], ["value", "least"], [], (.cons (.ret (.and (.call 10 (.cons (.var 0) .nil)) (.cmp .GtE (.var 0) (.var 1)))) .nil)⟩
def d13 : Df := ⟨"is_tuple_up_to", ["value", "low", "high"], ["value", "low", "high"], [], (.cons (.ret (.and (.isi (.var 0) .tuple) (.chn .LtE .LtE (.var 1) (.bi .len (.cons (.var 0) .nil)) (.var 2)))) .nil)⟩
def d14 : Df := ⟨"is_tuple_of", ["value", "many"], ["value", "many"], [], (.cons (.ret (.call 13 (.cons (.var 0) (.cons (.var 1) (.cons (.var 1) .nil))))) .nil)⟩
def d15 : Df := ⟨"is_pair", ["value"], ["value"], [], (.cons (.ret (.call 14 (.cons (.var 0) (.cons (.con (.int 2)) .nil)))) .nil)⟩
def d16 : Df := ⟨"is_fraction_of", ["value"], ["value"], [], (.cons (.ifs (.or (.not (.call 15 (.cons (.var 0) .nil))) (.or (.not (.call 10 (.cons (.ix (.var 0) (.con (.int 0))) .nil))) (.not (.call 12 (.cons (.ix (.var 0) (.con (.int 1))) (.cons (.con (.int 1)) .nil)))))) (.cons (.ret (.con (.bl false))) .nil) .nil) (.cons (.ret (.cmp .Eq (.bi .gcd (.cons (.ix (.var 0) (.con (.int 0))) (.cons (.ix (.var 0) (.con (.int 1))) .nil))) (.con (.int 1)))) .nil))⟩
def d17 : Df := ⟨"is_time_of", ["value"], ["value"], [], (.cons (.ret (.and (.call 16 (.cons (.var 0) .nil)) (.cmp .GtE (.ix (.var 0) (.con (.int 0))) (.con (.int 0))))) .nil)⟩
def d18 : Df := ⟨"is_period_of", ["value"], ["value"], [], (.cons (.ret (.and (.call 16 (.cons (.var 0) .nil)) (.cmp .Gt (.ix (.var 0) (.con (.int 0))) (.con (.int 0))))) .nil)⟩
def d19 : Df := ⟨"is_order_of", ["value"], ["value"], [], (.cons (.ret (.call 11 (.cons (.var 0) (.cons (.con (.int 1)) (.cons (.glo 1) .nil))))) .nil)⟩
def d20 : Df := ⟨"is_motion_of", ["value"], ["value"], [], (.cons (.ret (.and (.call 15 (.cons (.var 0) .nil)) (.and (.call 16 (.cons (.ix (.var 0) (.con (.int 0))) .nil)) (.call 16 (.cons (.ix (.var 0) (.con (.int 1))) .nil))))) .nil)⟩
def d21 : Df := ⟨"wrong_in_flashes", ["value", "most"], ["value", "most", "index", "each"], [(.int 12)], (.cons (.ifs (.not (.call 13 (.cons (.var 0) (.cons (.con (.int 1)) (.cons (.var 1) .nil))))) (.cons (.ret (.lst (.cons (.con .non) .nil))) .nil) .nil) (.cons (.fr (.cons (.nm 2) (.cons (.nm 3) .nil)) (.enm (.var 0)) (.cons (.ifs (.or (.not (.call 17 (.cons (.var 3) .nil))) (.and (.cmp .Gt (.var 2) (.con (.int 0))) (.not (.call 7 (.cons (.ix (.var 0) (.bin .Sub (.var 2) (.con (.int 1)))) (.cons (.var 3) .nil)))))) (.cons (.ret (.lst (.cons (.var 2) .nil))) .nil) .nil) .nil)) (.cons (.ret (.lst .nil)) .nil)))⟩
def d22 : Df := ⟨"is_sight_of", ["order", "value"], ["order", "value"], [], (.cons (.ret (.and (.call 17 (.cons (.var 1) .nil)) (.call 7 (.cons (.var 1) (.cons (.call 0 (.cons (.con (.int 1)) (.cons (.var 0) .nil))) .nil))))) .nil)⟩
def d23 : Df := ⟨"wrong_in_sights", ["order", "flashes", "value"], ["order", "flashes", "value", "index", "each"], [], (.cons (.ifs (.not (.call 14 (.cons (.var 2) (.cons (.bi .len (.cons (.var 1) .nil)) .nil)))) (.cons (.ret (.lst (.cons (.con .non) .nil))) .nil) .nil) (.cons (.ret (.sl (.lc (.var 3) (.cons (.nm 3) (.cons (.nm 4) .nil)) (.enm (.var 2)) (.not (.call 22 (.cons (.var 0) (.cons (.var 4) .nil)))) [3, 4]) .abs (.con (.int 1)))) .nil))⟩
def d24 : Df := ⟨"are_two_fractions", ["value"], ["value"], [], (.cons (.ret (.call 20 (.cons (.var 0) .nil))) .nil)⟩
def d25 : Df := ⟨"is_span_of", ["value"], ["value"], [], (.cons (.ret (.and (.call 24 (.cons (.var 0) .nil)) (.not (.call 7 (.cons (.ix (.var 0) (.con (.int 1))) (.cons (.ix (.var 0) (.con (.int 0))) .nil)))))) .nil)⟩
def d26 : Df := ⟨"check_fraction", ["value"], ["value"], [], (.cons (.ifs (.not (.call 16 (.cons (.var 0) .nil))) (.cons .bot .nil) .nil) .nil)⟩
def d27 : Df := ⟨"check_order", ["order"], ["order"], [], (.cons (.ifs (.not (.call 19 (.cons (.var 0) .nil))) (.cons .bot .nil) .nil) .nil)⟩
def d28 : Df := ⟨"check_motion", ["motion"], ["motion"], [], (.cons (.ifs (.not (.call 20 (.cons (.var 0) .nil))) (.cons .bot .nil) .nil) .nil)⟩
def d29 : Df := ⟨"check_flashes", ["flashes"], ["flashes", "index"], [], (.cons (.fr (.nm 1) (.it (.calld 21 (.cons (.var 0) .nil))) (.cons .bot .nil)) .nil)⟩
def d30 : Df := ⟨"check_span", ["span"], ["span"], [], (.cons (.ifs (.not (.call 25 (.cons (.var 0) .nil))) (.cons .bot .nil) .nil) .nil)⟩
def d31 : Df := ⟨"remainder_by", ["fraction", "other"], ["fraction", "other"], [], (.cons (.ret (.call 4 (.cons (.var 0) (.cons (.call 5 (.cons (.call 1 (.cons (.call 9 (.cons (.call 6 (.cons (.var 0) (.cons (.var 1) .nil))) .nil)) .nil)) (.cons (.var 1) .nil))) .nil)))) .nil)⟩
def d32 : Df := ⟨"measure_of_two", ["one", "other"], ["one", "other"], [], (.cons (.ret (.call 0 (.cons (.bi .gcd (.cons (.bin .Mult (.ix (.var 0) (.con (.int 0))) (.ix (.var 1) (.con (.int 1)))) (.cons (.bin .Mult (.ix (.var 1) (.con (.int 0))) (.ix (.var 0) (.con (.int 1)))) .nil))) (.cons (.bin .Mult (.ix (.var 0) (.con (.int 1))) (.ix (.var 1) (.con (.int 1)))) .nil)))) .nil)⟩
def d33 : Df := ⟨"measure_by", ["fractions"], ["fractions", "found", "fraction"], [], (.cons (.asg (.nm 1) (.glo 0)) (.cons (.fr (.nm 2) (.it (.var 0)) (.cons (.asg (.nm 1) (.call 32 (.cons (.var 1) (.cons (.var 2) .nil)))) .nil)) (.cons (.ret (.var 1)) .nil)))⟩
def d34 : Df := ⟨"is_multiple", ["fraction", "measure"], ["fraction", "measure"], [], (.cons (.ifs (.cmp .Eq (.var 1) (.glo 0)) (.cons (.ret (.cmp .Eq (.var 0) (.glo 0))) .nil) .nil) (.cons (.ret (.call 8 (.cons (.call 6 (.cons (.var 0) (.cons (.var 1) .nil))) .nil))) .nil))⟩
def d35 : Df := ⟨"multiple_by", ["fractions"], ["fractions", "fraction"], [], (.cons (.ret (.call 6 (.cons (.tup (.cons (.con (.int 1)) (.cons (.con (.int 1)) .nil))) (.cons (.call 33 (.cons (.lc (.call 6 (.cons (.tup (.cons (.con (.int 1)) (.cons (.con (.int 1)) .nil))) (.cons (.var 1) .nil))) (.nm 1) (.it (.var 0)) (.con (.bl true)) [1]) .nil)) .nil)))) .nil)⟩
def d36 : Df := ⟨"step_by", ["rounds"], ["rounds", "found", "one", "two"], [], (.cons (.asg (.nm 1) (.call 33 (.cons (.lc (.var 2) (.cons (.nm 2) (.cons (.nm 3) .nil)) (.it (.var 0)) (.con (.bl true)) [2, 3]) .nil))) (.cons (.ret (.ite (.cmp .NotEq (.var 1) (.glo 0)) (.call 6 (.cons (.tup (.cons (.con (.int 1)) (.cons (.con (.int 1)) .nil))) (.cons (.var 1) .nil))) (.glo 0))) .nil))⟩
def d37 : Df := ⟨"first_made", ["rounds", "index"], ["rounds", "index", "one", "two", "at"], [], (.cons (.asg (.cons (.nm 2) (.cons (.nm 3) .nil)) (.ix (.var 0) (.var 1))) (.cons (.ret (.tup (.cons (.var 2) (.cons (.var 3) (.cons (.lc (.bi .int (.cons (.cmp .Eq (.var 4) (.var 1)) .nil)) (.nm 4) (.rng1 (.bi .len (.cons (.var 0) .nil))) (.con (.bl true)) [4]) .nil))))) .nil))⟩
def d38 : Df := ⟨"less_made", ["made", "number", "other"], ["made", "number", "other", "more", "counts", "one", "two"], [], (.cons (.asg (.nm 3) (.call 1 (.cons (.neg (.var 1)) .nil))) (.cons (.asg (.nm 4) (.lc (.bin .Sub (.var 5) (.bin .Mult (.var 1) (.var 6))) (.cons (.nm 5) (.cons (.nm 6) .nil)) (.zip (.ix (.var 0) (.con (.int 2))) (.ix (.var 2) (.con (.int 2)))) (.con (.bl true)) [5, 6])) (.cons (.ret (.tup (.cons (.call 2 (.cons (.ix (.var 0) (.con (.int 0))) (.cons (.call 5 (.cons (.var 3) (.cons (.ix (.var 2) (.con (.int 0))) .nil))) .nil))) (.cons (.call 2 (.cons (.ix (.var 0) (.con (.int 1))) (.cons (.call 5 (.cons (.var 3) (.cons (.ix (.var 2) (.con (.int 1))) .nil))) .nil))) (.cons (.var 4) .nil))))) .nil)))⟩
def d39 : Df := ⟨"put_together", ["made", "other"], ["made", "other", "ratio"], [], (.cons (.whl (.cmp .NotEq (.ix (.var 1) (.con (.int 0))) (.glo 0)) (.cons (.asg (.nm 2) (.call 6 (.cons (.ix (.var 0) (.con (.int 0))) (.cons (.ix (.var 1) (.con (.int 0))) .nil)))) (.cons (.par 0 1 (.var 1) (.call 38 (.cons (.var 0) (.cons (.bin .FloorDiv (.ix (.var 2) (.con (.int 0))) (.ix (.var 2) (.con (.int 1)))) (.cons (.var 1) .nil))))) .nil))) (.cons (.ret (.tup (.cons (.var 0) (.cons (.var 1) .nil)))) .nil))⟩
def d40 : Df := ⟨"reduced", ["rounds"], ["rounds", "index", "whole_one", "empty", "left"], [], (.cons (.paro 2 3 (.tup (.cons (.glo 0) (.cons (.glo 0) (.cons (.bin .Mult (.lst (.cons (.con (.int 0)) .nil)) (.bi .len (.cons (.var 0) .nil))) .nil))))) (.cons (.fr (.nm 1) (.rng1 (.bi .len (.cons (.var 0) .nil))) (.cons (.asg (.cons (.nm 2) (.cons (.nm 4) .nil)) (.call 39 (.cons (.call 37 (.cons (.var 0) (.cons (.var 1) .nil))) (.cons (.var 2) .nil)))) (.cons (.app 3 (.var 4)) .nil))) (.cons (.frz 3) (.cons (.ret (.tup (.cons (.var 2) (.cons (.var 3) .nil)))) .nil))))⟩
def d41 : Df := ⟨"empty_ones", ["rounds"], ["rounds", "whole_one", "empty"], [], (.cons (.asg (.cons (.nm 1) (.cons (.nm 2) .nil)) (.call 40 (.cons (.var 0) .nil))) (.cons (.ret (.ite (.cmp .Eq (.ix (.var 1) (.con (.int 0))) (.glo 0)) .bot (.var 2))) .nil))⟩
def d42 : Df := ⟨"clash_by", ["rounds"], ["rounds", "_", "two", "counts"], [], (.cons (.fr (.cons (.nm 1) (.cons (.nm 2) (.cons (.nm 3) .nil))) (.it (.call 41 (.cons (.var 0) .nil))) (.cons (.ifs (.not (.call 8 (.cons (.var 2) .nil))) (.cons (.ret (.bi .tuple (.cons (.var 3) .nil))) .nil) .nil) .nil)) (.cons (.ret (.con .non)) .nil))⟩
def d43 : Df := ⟨"solution_by", ["rounds"], ["rounds", "whole_one", "_"], [], (.cons (.ifs (.cmp .IsNot (.call 42 (.cons (.var 0) .nil)) (.con .non)) (.cons (.ret (.con .non)) .nil) .nil) (.cons (.asg (.cons (.nm 1) (.cons (.nm 2) .nil)) (.call 40 (.cons (.var 0) .nil))) (.cons (.ifs (.cmp .Eq (.ix (.var 1) (.con (.int 0))) (.glo 0)) (.cons (.ret (.glo 0)) .nil) .nil) (.cons (.ret (.call 31 (.cons (.call 6 (.cons (.ix (.var 1) (.con (.int 1))) (.cons (.ix (.var 1) (.con (.int 0))) .nil))) (.cons (.call 36 (.cons (.var 0) .nil)) .nil)))) .nil))))⟩
def d44 : Df := ⟨"angle_by", ["motion", "time"], ["motion", "time"], [], (.cons (.ret (.call 2 (.cons (.ix (.var 0) (.con (.int 0))) (.cons (.call 5 (.cons (.ix (.var 0) (.con (.int 1))) (.cons (.var 1) .nil))) .nil)))) .nil)⟩
def d45 : Df := ⟨"sight_of_angle", ["order", "angle"], ["order", "angle"], [], (.cons (.ret (.call 31 (.cons (.var 1) (.cons (.call 0 (.cons (.con (.int 1)) (.cons (.var 0) .nil))) .nil)))) .nil)⟩
def d46 : Df := ⟨"sight_by", ["order", "motion", "time"], ["order", "motion", "time"], [], (.cons (.ret (.call 45 (.cons (.var 0) (.cons (.call 44 (.cons (.var 1) (.cons (.var 2) .nil))) .nil)))) .nil)⟩
def d47 : Df := ⟨"sights_by", ["order", "motion", "flashes"], ["order", "motion", "flashes", "time"], [], (.cons (.ret (.bi .tuple (.cons (.lc (.call 46 (.cons (.var 0) (.cons (.var 1) (.cons (.var 3) .nil)))) (.nm 3) (.it (.var 2)) (.con (.bl true)) [3]) .nil))) .nil)⟩
def d48 : Df := ⟨"flash_measure_by", ["flashes"], ["flashes", "time"], [], (.cons (.ret (.call 33 (.cons (.lc (.call 4 (.cons (.var 1) (.cons (.ix (.var 0) (.con (.int 0))) .nil))) (.nm 1) (.it (.sl (.var 0) (.con (.int 1)) .abs)) (.con (.bl true)) [1]) .nil))) .nil)⟩
def d49 : Df := ⟨"rate_step_by", ["order", "flashes"], ["order", "flashes", "found"], [], (.cons (.asg (.nm 2) (.call 5 (.cons (.call 1 (.cons (.var 0) .nil)) (.cons (.call 48 (.cons (.var 1) .nil)) .nil)))) (.cons (.ret (.ite (.cmp .NotEq (.var 2) (.glo 0)) (.call 6 (.cons (.tup (.cons (.con (.int 1)) (.cons (.con (.int 1)) .nil))) (.cons (.var 2) .nil))) (.glo 0))) .nil))⟩
def d50 : Df := ⟨"rounds_by", ["order", "flashes", "sights"], ["order", "flashes", "sights", "found", "time", "sight"], [], (.cons (.own 3 .nil) (.cons (.fr (.cons (.nm 4) (.cons (.nm 5) .nil)) (.zip (.sl (.var 1) (.con (.int 1)) .abs) (.sl (.var 2) (.con (.int 1)) .abs)) (.cons (.app 3 (.tup (.cons (.call 5 (.cons (.call 1 (.cons (.var 0) .nil)) (.cons (.call 4 (.cons (.var 4) (.cons (.ix (.var 1) (.con (.int 0))) .nil))) .nil))) (.cons (.call 5 (.cons (.call 1 (.cons (.var 0) .nil)) (.cons (.call 4 (.cons (.var 5) (.cons (.ix (.var 2) (.con (.int 0))) .nil))) .nil))) .nil)))) .nil)) (.cons (.ret (.bi .tuple (.cons (.var 3) .nil))) .nil)))⟩
def d51 : Df := ⟨"are_alike_by", ["order", "flashes", "rate", "other"], ["order", "flashes", "rate", "other", "step"], [], (.cons (.asg (.nm 4) (.call 49 (.cons (.var 0) (.cons (.var 1) .nil)))) (.cons (.ret (.or (.cmp .Eq (.var 4) (.glo 0)) (.call 34 (.cons (.call 4 (.cons (.var 2) (.cons (.var 3) .nil))) (.cons (.var 4) .nil))))) .nil))⟩
def d52 : Df := ⟨"is_shaft_wheel", ["value"], ["value"], [], (.cons (.ret (.and (.call 15 (.cons (.var 0) .nil)) (.and (.call 19 (.cons (.ix (.var 0) (.con (.int 0))) .nil)) (.and (.call 16 (.cons (.ix (.var 0) (.con (.int 1))) .nil)) (.cmp .NotEq (.ix (.var 0) (.con (.int 1))) (.glo 0)))))) .nil)⟩
def d53 : Df := ⟨"wrong_in_shaft", ["value"], ["value", "index", "each"], [], (.cons (.ifs (.not (.call 13 (.cons (.var 0) (.cons (.con (.int 1)) (.cons (.glo 3) .nil))))) (.cons (.ret (.lst (.cons (.con .non) .nil))) .nil) .nil) (.cons (.ret (.sl (.lc (.var 1) (.cons (.nm 1) (.cons (.nm 2) .nil)) (.enm (.var 0)) (.not (.call 52 (.cons (.var 2) .nil))) [1, 2]) .abs (.con (.int 1)))) .nil))⟩
def d54 : Df := ⟨"wrong_in_shaft_sights", ["wheels", "flashes", "value"], ["wheels", "flashes", "value", "index", "each"], [], (.cons (.ifs (.not (.call 14 (.cons (.var 2) (.cons (.bi .len (.cons (.var 0) .nil)) .nil)))) (.cons (.ret (.lst (.cons (.con .non) .nil))) .nil) .nil) (.cons (.ret (.sl (.lc (.var 3) (.cons (.nm 3) (.cons (.nm 4) .nil)) (.enm (.var 2)) (.cmp .NotEq (.call 23 (.cons (.ix (.ix (.var 0) (.var 3)) (.con (.int 0))) (.cons (.var 1) (.cons (.var 4) .nil)))) (.lst .nil)) [3, 4]) .abs (.con (.int 1)))) .nil))⟩
def d55 : Df := ⟨"shaft_rounds_by", ["wheels", "flashes", "sights"], ["wheels", "flashes", "sights", "found", "row", "order", "ratio", "one", "two"], [], (.cons (.own 3 .nil) (.cons (.fr (.cons (.cons (.nm 5) (.cons (.nm 6) .nil)) (.cons (.nm 4) .nil)) (.zip (.var 0) (.var 2)) (.cons (.ext 3 (.lc (.tup (.cons (.call 5 (.cons (.var 7) (.cons (.var 6) .nil))) (.cons (.var 8) .nil))) (.cons (.nm 7) (.cons (.nm 8) .nil)) (.it (.call 50 (.cons (.var 5) (.cons (.var 1) (.cons (.var 4) .nil))))) (.con (.bl true)) [7, 8])) .nil)) (.cons (.ret (.bi .tuple (.cons (.var 3) .nil))) .nil)))⟩
def d56 : Df := ⟨"shaft_step_by", ["wheels", "flashes"], ["wheels", "flashes", "found", "order", "ratio"], [], (.cons (.asg (.nm 2) (.call 33 (.cons (.lc (.call 5 (.cons (.call 5 (.cons (.call 1 (.cons (.var 3) .nil)) (.cons (.var 4) .nil))) (.cons (.call 48 (.cons (.var 1) .nil)) .nil))) (.cons (.nm 3) (.cons (.nm 4) .nil)) (.it (.var 0)) (.con (.bl true)) [3, 4]) .nil))) (.cons (.ret (.ite (.cmp .NotEq (.var 2) (.glo 0)) (.call 6 (.cons (.tup (.cons (.con (.int 1)) (.cons (.con (.int 1)) .nil))) (.cons (.var 2) .nil))) (.glo 0))) .nil))⟩
def d57 : Df := ⟨"shaft_sights_by", ["wheels", "flashes", "rate"], ["wheels", "flashes", "rate", "order", "ratio"], [], (.cons (.ret (.bi .tuple (.cons (.lc (.call 47 (.cons (.var 3) (.cons (.tup (.cons (.glo 0) (.cons (.call 5 (.cons (.var 2) (.cons (.var 4) .nil))) .nil))) (.cons (.var 1) .nil)))) (.cons (.nm 3) (.cons (.nm 4) .nil)) (.it (.var 0)) (.con (.bl true)) [3, 4]) .nil))) .nil)⟩
def d58 : Df := ⟨"check_shaft", ["wheels", "flashes"], ["wheels", "flashes", "index"], [], (.cons (.fr (.nm 2) (.it (.call 53 (.cons (.var 0) .nil))) (.cons .bot .nil)) (.cons (.exp (.call 29 (.cons (.var 1) .nil))) .nil))⟩
def d59 : Df := ⟨"check_shaft_seen", ["wheels", "flashes", "sights"], ["wheels", "flashes", "sights", "index"], [], (.cons (.exp (.call 58 (.cons (.var 0) (.cons (.var 1) .nil)))) (.cons (.fr (.nm 3) (.it (.call 54 (.cons (.var 0) (.cons (.var 1) (.cons (.var 2) .nil))))) (.cons .bot .nil)) .nil))⟩
def d60 : Df := ⟨"shaft_rate", ["wheels", "flashes", "sights"], ["wheels", "flashes", "sights"], [], (.cons (.exp (.call 59 (.cons (.var 0) (.cons (.var 1) (.cons (.var 2) .nil))))) (.cons (.ret (.call 43 (.cons (.call 55 (.cons (.var 0) (.cons (.var 1) (.cons (.var 2) .nil)))) .nil))) .nil))⟩
def d61 : Df := ⟨"shaft_step", ["wheels", "flashes"], ["wheels", "flashes"], [], (.cons (.exp (.call 58 (.cons (.var 0) (.cons (.var 1) .nil)))) (.cons (.ret (.call 56 (.cons (.var 0) (.cons (.var 1) .nil)))) .nil))⟩
def d62 : Df := ⟨"shaft_sights", ["wheels", "flashes", "rate"], ["wheels", "flashes", "rate"], [], (.cons (.exp (.call 58 (.cons (.var 0) (.cons (.var 1) .nil)))) (.cons (.exp (.call 26 (.cons (.var 2) .nil))) (.cons (.ret (.call 57 (.cons (.var 0) (.cons (.var 1) (.cons (.var 2) .nil))))) .nil)))⟩
def d63 : Df := ⟨"look_same", ["order", "motion", "other", "flashes"], ["order", "motion", "other", "flashes"], [], (.cons (.exp (.call 27 (.cons (.var 0) .nil))) (.cons (.exp (.call 28 (.cons (.var 1) .nil))) (.cons (.exp (.call 28 (.cons (.var 2) .nil))) (.cons (.exp (.call 29 (.cons (.var 3) .nil))) (.cons (.ret (.cmp .Eq (.call 47 (.cons (.var 0) (.cons (.var 1) (.cons (.var 3) .nil)))) (.call 47 (.cons (.var 0) (.cons (.var 2) (.cons (.var 3) .nil)))))) .nil)))))⟩
def d64 : Df := ⟨"check_fractions", ["fractions", "least", "is_right"], ["fractions", "least", "is_right", "index", "each"], [], (.cons (.ifs (.not (.call 13 (.cons (.var 0) (.cons (.var 1) (.cons (.glo 4) .nil))))) (.cons .bot .nil) .nil) (.cons (.fr (.cons (.nm 3) (.cons (.nm 4) .nil)) (.enm (.var 0)) (.cons (.ifs (.not (.callv 2 (.cons (.var 4) .nil))) (.cons .bot .nil) .nil) .nil)) .nil))⟩
def d65 : Df := ⟨"common_multiple", ["fractions"], ["fractions"], [], (.cons (.exp (.call 64 (.cons (.var 0) (.cons (.con (.int 1)) (.cons (.fnv 18) .nil))))) (.cons (.ret (.call 35 (.cons (.var 0) .nil))) .nil))⟩
def d66 : Df := ⟨"do_tell_by", ["order", "flashes", "span"], ["order", "flashes", "span", "step", "low", "high"], [], (.cons (.asg (.cons (.nm 4) (.cons (.nm 5) .nil)) (.var 2)) (.cons (.asg (.nm 3) (.call 49 (.cons (.var 0) (.cons (.var 1) .nil)))) (.cons (.ret (.or (.cmp .Eq (.var 4) (.var 5)) (.and (.cmp .NotEq (.var 3) (.glo 0)) (.call 7 (.cons (.call 4 (.cons (.var 5) (.cons (.var 4) .nil))) (.cons (.var 3) .nil)))))) .nil)))⟩
def d67 : Df := ⟨"check_spanned", ["order", "flashes", "span"], ["order", "flashes", "span"], [], (.cons (.exp (.call 27 (.cons (.var 0) .nil))) (.cons (.exp (.call 29 (.cons (.var 1) .nil))) (.cons (.exp (.call 30 (.cons (.var 2) .nil))) .nil)))⟩
def d68 : Df := ⟨"do_tell", ["order", "flashes", "span"], ["order", "flashes", "span"], [], (.cons (.exp (.call 67 (.cons (.var 0) (.cons (.var 1) (.cons (.var 2) .nil))))) (.cons (.ret (.call 66 (.cons (.var 0) (.cons (.var 1) (.cons (.var 2) .nil))))) .nil))⟩
def d69 : Df := ⟨"check_lit", ["order", "flashes"], ["order", "flashes"], [], (.cons (.exp (.call 27 (.cons (.var 0) .nil))) (.cons (.exp (.call 29 (.cons (.var 1) .nil))) .nil))⟩
def d70 : Df := ⟨"rate_step", ["order", "flashes"], ["order", "flashes"], [], (.cons (.exp (.call 69 (.cons (.var 0) (.cons (.var 1) .nil)))) (.cons (.ret (.call 49 (.cons (.var 0) (.cons (.var 1) .nil)))) .nil))⟩
def d71 : Df := ⟨"are_alike", ["order", "flashes", "rate", "other"], ["order", "flashes", "rate", "other"], [], (.cons (.exp (.call 69 (.cons (.var 0) (.cons (.var 1) .nil)))) (.cons (.exp (.call 26 (.cons (.var 2) .nil))) (.cons (.exp (.call 26 (.cons (.var 3) .nil))) (.cons (.ret (.call 51 (.cons (.var 0) (.cons (.var 1) (.cons (.var 2) (.cons (.var 3) .nil)))))) .nil))))⟩
def d72 : Df := ⟨"_law_pool", ["script", "turn"], ["script", "turn", "cell", "own", "stirred"], [], (.cons (.par 3 4 (.ite (.cmp .Lt (.var 1) (.bi .len (.cons (.var 0) .nil))) (.bi .int (.cons (.ix (.var 0) (.var 1)) .nil)) (.bin .Add (.bin .Mult (.con (.int 70001)) (.var 1)) (.con (.int 1490)))) (.bin .Add (.con (.int 525479)) (.bin .Mult (.con (.int 5087)) (.var 1)))) (.cons (.fr (.nm 2) (.it (.sl (.var 0) .abs (.con (.int 63)))) (.cons (.asg (.nm 4) (.bin .Mod (.bi .int (.cons (.bin .Add (.bin .Add (.bin .Mult (.var 4) (.con (.int 48271))) (.bin .Mod (.bi .int (.cons (.var 2) .nil)) (.con (.int 2147483587)))) (.con (.int 365))) .nil)) (.con (.int 2147483587)))) .nil)) (.cons (.ret (.lst (.cons (.bin .Mod (.bi .int (.cons (.bin .Add (.var 4) (.bin .Mult (.var 3) (.con (.int 1013)))) .nil)) (.con (.int 2147483587))) (.cons (.ite (.or (.cmp .Lt (.var 3) (.con (.int 0))) (.cmp .GtE (.var 3) (.bin .Pow (.con (.int 10)) (.con (.int 18))))) (.bi .abs (.cons (.var 3) .nil)) (.con (.int 0))) (.cons (.con (.int 0)) .nil))))) .nil)))⟩
def d73 : Df := ⟨"_law_draw", ["pool", "many"], ["pool", "many", "held", "figure"], [], (.cons (.ifs (.cmp .Gt (.ix (.var 0) (.con (.int 1))) (.con (.int 0))) (.cons (.asg (.cons (.sub 0 1) (.cons (.nm 3) .nil)) (.bi .divmod (.cons (.ix (.var 0) (.con (.int 1))) (.cons (.var 1) .nil)))) (.cons (.ret (.var 3)) .nil)) .nil) (.cons (.setix 0 (.con (.int 2)) (.bin .Add (.ix (.var 0) (.con (.int 2))) (.con (.int 1)))) (.cons (.asg (.nm 2) (.bi .int (.cons (.ix (.var 0) (.con (.int 0))) .nil))) (.cons (.setix 0 (.con (.int 0)) (.bin .Mod (.bi .int (.cons (.bin .Add (.bin .Add (.bin .Mult (.var 2) (.bin .Add (.bin .Mod (.var 2) (.con (.int 20011))) (.con (.int 30011)))) (.bin .Mult (.con (.int 70001)) (.ix (.var 0) (.con (.int 2))))) (.con (.int 9))) .nil)) (.con (.int 2147483587)))) (.cons (.ret (.bin .Mod (.bi .int (.cons (.bin .FloorDiv (.ix (.var 0) (.con (.int 0))) (.con (.int 128))) .nil)) (.var 1))) .nil)))))⟩
def d74 : Df := ⟨"_law_pick", ["pool", "some"], ["pool", "some"], [], (.cons (.ret (.ix (.var 1) (.call 73 (.cons (.var 0) (.cons (.bi .len (.cons (.var 1) .nil)) .nil))))) .nil)⟩
def d75 : Df := ⟨"_law_common", ["one", "two"], ["one", "two"], [], (.cons (.whl (.cmp .Gt (.var 1) (.con (.int 0))) (.cons (.par 0 1 (.var 1) (.bin .Mod (.bi .int (.cons (.var 0) .nil)) (.var 1))) .nil)) (.cons (.ret (.var 0)) .nil))⟩
def d76 : Df := ⟨"_law_f", ["number", "divisor"], ["number", "divisor", "by"], [], (.cons (.ifs (.cmp .Lt (.var 1) (.con (.int 0))) (.cons (.par 0 1 (.bin .Sub (.con (.int 0)) (.var 0)) (.bin .Sub (.con (.int 0)) (.var 1))) .nil) .nil) (.cons (.asg (.nm 2) (.call 75 (.cons (.bi .abs (.cons (.var 0) .nil)) (.cons (.var 1) .nil)))) (.cons (.ret (.tup (.cons (.bin .FloorDiv (.var 0) (.var 2)) (.cons (.bin .FloorDiv (.var 1) (.var 2)) .nil)))) .nil)))⟩
def d77 : Df := ⟨"_law_plus", ["one", "two"], ["one", "two"], [], (.cons (.ret (.call 76 (.cons (.bin .Add (.bin .Mult (.ix (.var 0) (.con (.int 0))) (.ix (.var 1) (.con (.int 1)))) (.bin .Mult (.ix (.var 1) (.con (.int 0))) (.ix (.var 0) (.con (.int 1))))) (.cons (.bin .Mult (.ix (.var 0) (.con (.int 1))) (.ix (.var 1) (.con (.int 1)))) .nil)))) .nil)⟩
def d78 : Df := ⟨"_law_minus", ["one", "two"], ["one", "two"], [], (.cons (.ret (.call 76 (.cons (.bin .Sub (.bin .Mult (.ix (.var 0) (.con (.int 0))) (.ix (.var 1) (.con (.int 1)))) (.bin .Mult (.ix (.var 1) (.con (.int 0))) (.ix (.var 0) (.con (.int 1))))) (.cons (.bin .Mult (.ix (.var 0) (.con (.int 1))) (.ix (.var 1) (.con (.int 1)))) .nil)))) .nil)⟩
def d79 : Df := ⟨"_law_times", ["one", "two"], ["one", "two"], [], (.cons (.ret (.call 76 (.cons (.bin .Mult (.ix (.var 0) (.con (.int 0))) (.ix (.var 1) (.con (.int 0)))) (.cons (.bin .Mult (.ix (.var 0) (.con (.int 1))) (.ix (.var 1) (.con (.int 1)))) .nil)))) .nil)⟩
def d80 : Df := ⟨"_law_over", ["one", "two"], ["one", "two"], [], (.cons (.ret (.call 76 (.cons (.bin .Mult (.ix (.var 0) (.con (.int 0))) (.ix (.var 1) (.con (.int 1)))) (.cons (.bin .Mult (.ix (.var 0) (.con (.int 1))) (.ix (.var 1) (.con (.int 0)))) .nil)))) .nil)⟩
def d81 : Df := ⟨"_law_below", ["one", "two"], ["one", "two"], [], (.cons (.ret (.cmp .Lt (.bin .Mult (.ix (.var 0) (.con (.int 0))) (.ix (.var 1) (.con (.int 1)))) (.bin .Mult (.ix (.var 1) (.con (.int 0))) (.ix (.var 0) (.con (.int 1)))))) .nil)⟩
def d82 : Df := ⟨"_law_measure", ["some"], ["some", "found", "each", "whole_v"], [], (.cons (.asg (.nm 1) (.tup (.cons (.con (.int 0)) (.cons (.con (.int 1)) .nil)))) (.cons (.fr (.nm 2) (.it (.var 0)) (.cons (.asg (.nm 3) (.bin .Mult (.ix (.var 1) (.con (.int 1))) (.ix (.var 2) (.con (.int 1))))) (.cons (.asg (.nm 1) (.call 76 (.cons (.call 75 (.cons (.bi .abs (.cons (.bin .Mult (.ix (.var 1) (.con (.int 0))) (.ix (.var 2) (.con (.int 1)))) .nil)) (.cons (.bi .abs (.cons (.bin .Mult (.ix (.var 2) (.con (.int 0))) (.ix (.var 1) (.con (.int 1)))) .nil)) .nil))) (.cons (.var 3) .nil)))) .nil))) (.cons (.ret (.var 1)) .nil)))⟩
def d83 : Df := ⟨"_law_fraction", ["pool", "most"], ["pool", "most"], [], (.cons (.ret (.call 76 (.cons (.bin .Sub (.call 73 (.cons (.var 0) (.cons (.bin .Add (.bin .Mult (.con (.int 2)) (.var 1)) (.con (.int 1))) .nil))) (.var 1)) (.cons (.call 74 (.cons (.var 0) (.cons (.lst (.cons (.con (.int 1)) (.cons (.con (.int 1)) (.cons (.con (.int 2)) (.cons (.con (.int 3)) (.cons (.con (.int 4)) (.cons (.con (.int 5)) (.cons (.con (.int 6)) (.cons (.con (.int 12)) .nil))))))))) .nil))) .nil)))) .nil)⟩
def d84 : Df := ⟨"_law_flashes", ["pool", "least", "most"], ["pool", "least", "most", "step", "parts", "many", "here", "found"], [], (.cons (.par 4 5 (.call 74 (.cons (.var 0) (.cons (.lst (.cons (.con (.int 1)) (.cons (.con (.int 2)) (.cons (.con (.int 3)) (.cons (.con (.int 4)) .nil))))) .nil))) (.bin .Add (.var 1) (.call 73 (.cons (.var 0) (.cons (.bin .Add (.bin .Sub (.var 2) (.var 1)) (.con (.int 1))) .nil))))) (.cons (.paro 6 7 (.call 76 (.cons (.call 74 (.cons (.var 0) (.cons (.lst (.cons (.con (.int 0)) (.cons (.con (.int 0)) (.cons (.call 73 (.cons (.var 0) (.cons (.con (.int 9)) .nil))) .nil)))) .nil))) (.cons (.var 4) .nil)))) (.cons (.fr (.nm 3) (.rng1 (.var 5)) (.cons (.app 7 (.var 6)) (.cons (.asg (.nm 6) (.call 77 (.cons (.var 6) (.cons (.call 76 (.cons (.bin .Add (.con (.int 1)) (.call 73 (.cons (.var 0) (.cons (.con (.int 5)) .nil)))) (.cons (.var 4) .nil))) .nil)))) .nil))) (.cons (.ret (.bi .tuple (.cons (.var 7) .nil))) .nil))))⟩
def d85 : Df := ⟨"_law_order", ["pool"], ["pool"], [], (.cons (.ret (.call 74 (.cons (.var 0) (.cons (.lst (.cons (.con (.int 1)) (.cons (.con (.int 1)) (.cons (.con (.int 2)) (.cons (.con (.int 3)) (.cons (.con (.int 4)) (.cons (.con (.int 5)) (.cons (.con (.int 6)) (.cons (.con (.int 12)) (.cons (.con (.int 24)) .nil)))))))))) .nil)))) .nil)⟩
def d86 : Df := ⟨"_law_shaft", ["pool", "most"], ["pool", "most", "found", "step", "turns"], [], (.cons (.asg (.nm 2) (.tup .nil)) (.cons (.fr (.nm 3) (.rng1 (.bin .Add (.con (.int 1)) (.call 73 (.cons (.var 0) (.cons (.var 1) .nil))))) (.cons (.asg (.nm 4) (.call 76 (.cons (.bin .Mult (.call 74 (.cons (.var 0) (.cons (.lst (.cons (.neg (.con (.int 1))) (.cons (.con (.int 1)) .nil))) .nil))) (.bin .Add (.con (.int 1)) (.call 73 (.cons (.var 0) (.cons (.con (.int 6)) .nil))))) (.cons (.call 74 (.cons (.var 0) (.cons (.lst (.cons (.con (.int 1)) (.cons (.con (.int 1)) (.cons (.con (.int 2)) (.cons (.con (.int 3)) (.cons (.con (.int 4)) .nil)))))) .nil))) .nil)))) (.cons (.asg (.nm 2) (.bin .Add (.var 2) (.tup (.cons (.tup (.cons (.call 85 (.cons (.var 0) .nil)) (.cons (.var 4) .nil))) .nil)))) .nil))) (.cons (.ret (.var 2)) .nil)))⟩
def d87 : Df := ⟨"_law_step", ["wheels", "flashes"], ["wheels", "flashes", "whole_v", "by", "order", "turns", "time"], [], (.cons (.asg (.nm 2) (.call 82 (.cons (.lc (.call 79 (.cons (.tup (.cons (.var 4) (.cons (.con (.int 1)) .nil))) (.cons (.var 5) .nil))) (.cons (.nm 4) (.cons (.nm 5) .nil)) (.it (.var 0)) (.con (.bl true)) [4, 5]) .nil))) (.cons (.asg (.nm 3) (.call 79 (.cons (.var 2) (.cons (.call 82 (.cons (.lc (.call 78 (.cons (.var 6) (.cons (.ix (.var 1) (.con (.int 0))) .nil))) (.nm 6) (.it (.var 1)) (.con (.bl true)) [6]) .nil)) .nil)))) (.cons (.ret (.ite (.cmp .Eq (.var 3) (.tup (.cons (.con (.int 0)) (.cons (.con (.int 1)) .nil)))) (.tup (.cons (.con (.int 0)) (.cons (.con (.int 1)) .nil))) (.call 80 (.cons (.tup (.cons (.con (.int 1)) (.cons (.con (.int 1)) .nil))) (.cons (.var 3) .nil))))) .nil)))⟩
def d88 : Df := ⟨"_law_shaft_right", ["pool", "wheels", "flashes"], ["pool", "wheels", "flashes", "each", "step", "rate", "by", "wide", "sights", "other", "alike", "same", "order", "turns", "part"], [], (.cons (.asg (.nm 3) (.bi .tuple (.cons (.lc (.call 80 (.cons (.call 70 (.cons (.var 12) (.cons (.var 2) .nil))) (.cons (.tup (.cons (.bi .abs (.cons (.ix (.var 13) (.con (.int 0))) .nil)) (.cons (.ix (.var 13) (.con (.int 1))) .nil))) .nil))) (.cons (.nm 12) (.cons (.nm 13) .nil)) (.it (.var 1)) (.con (.bl true)) [12, 13]) .nil))) (.cons (.asg (.nm 4) (.call 61 (.cons (.var 1) (.cons (.var 2) .nil)))) (.cons (.ifs (.or (.cmp .NotEq (.var 4) (.call 65 (.cons (.var 3) .nil))) (.or (.cmp .NotEq (.var 4) (.call 87 (.cons (.var 1) (.cons (.var 2) .nil)))) (.cmp .NotEq (.lc (.var 14) (.nm 14) (.it (.var 3)) (.cmp .NotEq (.ix (.call 80 (.cons (.var 4) (.cons (.var 14) .nil))) (.con (.int 1))) (.con (.int 1))) [14]) (.lst .nil)))) (.cons (.ret (.con (.bl false))) .nil) .nil) (.cons (.asg (.nm 5) (.call 83 (.cons (.var 0) (.cons (.con (.int 9)) .nil)))) (.cons (.fr (.nm 6) (.it (.lst (.cons (.var 4) (.cons (.call 79 (.cons (.var 4) (.cons (.tup (.cons (.con (.int 1)) (.cons (.con (.int 2)) .nil))) .nil))) (.cons (.call 79 (.cons (.var 4) (.cons (.tup (.cons (.con (.int 1)) (.cons (.con (.int 3)) .nil))) .nil))) (.cons (.ix (.var 3) (.con (.int 0))) .nil)))))) (.cons (.asg (.nm 9) (.call 77 (.cons (.var 5) (.cons (.var 6) .nil)))) (.cons (.asg (.nm 10) (.lc (.call 71 (.cons (.var 12) (.cons (.var 2) (.cons (.call 79 (.cons (.var 5) (.cons (.var 13) .nil))) (.cons (.call 79 (.cons (.var 9) (.cons (.var 13) .nil))) .nil))))) (.cons (.nm 12) (.cons (.nm 13) .nil)) (.it (.var 1)) (.con (.bl true)) [12, 13])) (.cons (.ifs (.cmp .NotEq (.cmp .NotIn (.con (.bl false)) (.var 10)) (.cmp .Eq (.ix (.call 80 (.cons (.var 6) (.cons (.var 4) .nil))) (.con (.int 1))) (.con (.int 1)))) (.cons (.ret (.con (.bl false))) .nil) .nil) (.cons (.asg (.nm 11) (.lc (.call 63 (.cons (.var 12) (.cons (.tup (.cons (.tup (.cons (.con (.int 0)) (.cons (.con (.int 1)) .nil))) (.cons (.call 79 (.cons (.var 5) (.cons (.var 13) .nil))) .nil))) (.cons (.tup (.cons (.call 79 (.cons (.call 79 (.cons (.call 78 (.cons (.var 5) (.cons (.var 9) .nil))) (.cons (.var 13) .nil))) (.cons (.ix (.var 2) (.con (.int 0))) .nil))) (.cons (.call 79 (.cons (.var 9) (.cons (.var 13) .nil))) .nil))) (.cons (.var 2) .nil))))) (.cons (.nm 12) (.cons (.nm 13) .nil)) (.it (.var 1)) (.con (.bl true)) [12, 13])) (.cons (.ifs (.cmp .NotEq (.var 11) (.var 10)) (.cons (.ret (.con (.bl false))) .nil) .nil) .nil)))))) (.cons (.asg (.cons (.nm 12) (.cons (.nm 13) .nil)) (.ix (.var 1) (.con (.int 0)))) (.cons (.asg (.nm 7) (.call 79 (.cons (.call 79 (.cons (.ix (.var 3) (.con (.int 0))) (.cons (.tup (.cons (.bi .abs (.cons (.ix (.var 13) (.con (.int 0))) .nil)) (.cons (.ix (.var 13) (.con (.int 1))) .nil))) .nil))) (.cons (.call 76 (.cons (.bin .Add (.con (.int 1)) (.call 73 (.cons (.var 0) (.cons (.con (.int 5)) .nil)))) (.cons (.con (.int 3)) .nil))) .nil)))) (.cons (.ifs (.cmp .NotEq (.call 68 (.cons (.var 12) (.cons (.var 2) (.cons (.tup (.cons (.tup (.cons (.con (.int 0)) (.cons (.con (.int 1)) .nil))) (.cons (.var 7) .nil))) .nil)))) (.call 81 (.cons (.var 7) (.cons (.call 70 (.cons (.var 12) (.cons (.var 2) .nil))) .nil)))) (.cons (.ret (.con (.bl false))) .nil) .nil) (.cons (.asg (.nm 8) (.call 62 (.cons (.var 1) (.cons (.var 2) (.cons (.var 5) .nil))))) (.cons (.ret (.cmp .Eq (.ix (.call 80 (.cons (.call 78 (.cons (.call 60 (.cons (.var 1) (.cons (.var 2) (.cons (.var 8) .nil)))) (.cons (.var 5) .nil))) (.cons (.var 4) .nil))) (.con (.int 1))) (.con (.int 1)))) .nil))))))))))⟩
def d89 : Df := ⟨"_law_right", ["pool"], ["pool", "turn", "wheels"], [], (.cons (.fr (.nm 1) (.rng1 (.con (.int 5))) (.cons (.asg (.nm 2) (.call 86 (.cons (.var 0) (.cons (.con (.int 3)) .nil)))) (.cons (.asg (.nm 2) (.ite (.cmp .Gt (.bi .len (.cons (.var 2) .nil)) (.con (.int 1))) (.var 2) (.bin .Add (.var 2) (.tup (.cons (.tup (.cons (.ix (.ix (.var 2) (.con (.int 0))) (.con (.int 0))) (.cons (.call 76 (.cons (.con (.int 3)) (.cons (.con (.int 2)) .nil))) .nil))) .nil))))) (.cons (.ifs (.not (.call 88 (.cons (.var 0) (.cons (.var 2) (.cons (.call 84 (.cons (.var 0) (.cons (.con (.int 2)) (.cons (.con (.int 5)) .nil)))) .nil))))) (.cons (.ret (.con (.bl false))) .nil) .nil) .nil)))) (.cons (.ret (.and (.cmp .Eq (.call 61 (.cons (.tup (.cons (.tup (.cons (.con (.int 1)) (.cons (.tup (.cons (.con (.int 1)) (.cons (.con (.int 1)) .nil))) .nil))) (.cons (.tup (.cons (.con (.int 1)) (.cons (.tup (.cons (.con (.int 3)) (.cons (.con (.int 2)) .nil))) .nil))) .nil))) (.cons (.tup (.cons (.tup (.cons (.con (.int 0)) (.cons (.con (.int 1)) .nil))) (.cons (.tup (.cons (.con (.int 1)) (.cons (.con (.int 1)) .nil))) .nil))) .nil))) (.tup (.cons (.con (.int 2)) (.cons (.con (.int 1)) .nil)))) (.cmp .Eq (.call 61 (.cons (.tup (.cons (.tup (.cons (.con (.int 2)) (.cons (.tup (.cons (.con (.int 1)) (.cons (.con (.int 1)) .nil))) .nil))) (.cons (.tup (.cons (.con (.int 3)) (.cons (.tup (.cons (.neg (.con (.int 1))) (.cons (.con (.int 1)) .nil))) .nil))) .nil))) (.cons (.tup (.cons (.tup (.cons (.con (.int 0)) (.cons (.con (.int 1)) .nil))) (.cons (.tup (.cons (.con (.int 1)) (.cons (.con (.int 1)) .nil))) .nil))) .nil))) (.tup (.cons (.con (.int 1)) (.cons (.con (.int 1)) .nil)))))) .nil))⟩
def defs0 : List Df := [d0, d1, d2, d3, d4, d5, d6, d7, d8, d9, d10, d11, d12, d13, d14, d15, d16, d17, d18, d19, d20, d21, d22, d23, d24, d25, d26, d27, d28, d29]
def sts0 : List Stmt := [top 13, top 14, top 15, top 16, top 17, top 18, top 19, top 20, top 21, top 22, top 24, top 25, top 26, top 27, top 28, top 29, top 33, top 34, top 35, top 36, top 37, top 38, top 39, top 40, top 41, top 42, top 43, top 44, top 45, top 46]
def defs1 : List Df := [d30, d31, d32, d33, d34, d35, d36, d37, d38, d39, d40, d41, d42, d43, d44, d45, d46, d47, d48, d49, d50, d51, d52, d53, d54, d55, d56, d57, d58, d59]
def sts1 : List Stmt := [top 47, top 49, top 50, top 51, top 52, top 53, top 55, top 56, top 57, top 58, top 59, top 60, top 61, top 62, top 64, top 65, top 66, top 67, top 69, top 70, top 71, top 72, top 75, top 76, top 77, top 78, top 79, top 80, top 82, top 83]
def defs2 : List Df := [d60, d61, d62, d63, d64, d65, d66, d67, d68, d69, d70, d71, d72, d73, d74, d75, d76, d77, d78, d79, d80, d81, d82, d83, d84, d85, d86, d87, d88, d89]
def sts2 : List Stmt := [top 84, top 85, top 86, top 88, top 91, top 92, top 94, top 96, top 97, top 99, top 100, top 101, top 103, top 104, top 105, top 106, top 107, top 108, top 109, top 110, top 111, top 112, top 113, top 114, top 115, top 116, top 117, top 118, top 119, top 120]
def T : Tab := ⟨defs0 ++ defs1 ++ defs2, consL⟩
def sts : List Stmt := sts0 ++ sts1 ++ sts2
theorem b0 : BindOk d0 (top 13) := ⟨fun K f fd F => FunD.bindsN F fun _ _ _ _ _ _ us hl => match us, hl with | [_, _], _ => rfl, fun K f fd F h => absurd rfl h⟩
theorem b1 : BindOk d1 (top 14) := ⟨fun K f fd F => FunD.bindsN F fun _ _ _ _ _ _ us hl => match us, hl with | [_], _ => rfl, fun K f fd F h => absurd rfl h⟩
theorem b2 : BindOk d2 (top 15) := ⟨fun K f fd F => FunD.bindsN F fun _ _ _ _ _ _ us hl => match us, hl with | [_, _], _ => rfl, fun K f fd F h => absurd rfl h⟩
theorem b3 : BindOk d3 (top 16) := ⟨fun K f fd F => FunD.bindsN F fun _ _ _ _ _ _ us hl => match us, hl with | [_], _ => rfl, fun K f fd F h => absurd rfl h⟩
theorem b4 : BindOk d4 (top 17) := ⟨fun K f fd F => FunD.bindsN F fun _ _ _ _ _ _ us hl => match us, hl with | [_, _], _ => rfl, fun K f fd F h => absurd rfl h⟩
theorem b5 : BindOk d5 (top 18) := ⟨fun K f fd F => FunD.bindsN F fun _ _ _ _ _ _ us hl => match us, hl with | [_, _], _ => rfl, fun K f fd F h => absurd rfl h⟩
theorem b6 : BindOk d6 (top 19) := ⟨fun K f fd F => FunD.bindsN F fun _ _ _ _ _ _ us hl => match us, hl with | [_, _], _ => rfl, fun K f fd F h => absurd rfl h⟩
theorem b7 : BindOk d7 (top 20) := ⟨fun K f fd F => FunD.bindsN F fun _ _ _ _ _ _ us hl => match us, hl with | [_, _], _ => rfl, fun K f fd F h => absurd rfl h⟩
theorem b8 : BindOk d8 (top 21) := ⟨fun K f fd F => FunD.bindsN F fun _ _ _ _ _ _ us hl => match us, hl with | [_], _ => rfl, fun K f fd F h => absurd rfl h⟩
theorem b9 : BindOk d9 (top 22) := ⟨fun K f fd F => FunD.bindsN F fun _ _ _ _ _ _ us hl => match us, hl with | [_], _ => rfl, fun K f fd F h => absurd rfl h⟩
theorem b10 : BindOk d10 (top 24) := ⟨fun K f fd F => FunD.bindsN F fun _ _ _ _ _ _ us hl => match us, hl with | [_], _ => rfl, fun K f fd F h => absurd rfl h⟩
theorem b11 : BindOk d11 (top 25) := ⟨fun K f fd F => FunD.bindsN F fun _ _ _ _ _ _ us hl => match us, hl with | [_, _, _], _ => rfl, fun K f fd F h => absurd rfl h⟩
theorem b12 : BindOk d12 (top 26) := ⟨fun K f fd F => FunD.bindsN F fun _ _ _ _ _ _ us hl => match us, hl with | [_, _], _ => rfl, fun K f fd F h => absurd rfl h⟩
theorem b13 : BindOk d13 (top 27) := ⟨fun K f fd F => FunD.bindsN F fun _ _ _ _ _ _ us hl => match us, hl with | [_, _, _], _ => rfl, fun K f fd F h => absurd rfl h⟩
theorem b14 : BindOk d14 (top 28) := ⟨fun K f fd F => FunD.bindsN F fun _ _ _ _ _ _ us hl => match us, hl with | [_, _], _ => rfl, fun K f fd F h => absurd rfl h⟩
theorem b15 : BindOk d15 (top 29) := ⟨fun K f fd F => FunD.bindsN F fun _ _ _ _ _ _ us hl => match us, hl with | [_], _ => rfl, fun K f fd F h => absurd rfl h⟩
theorem b16 : BindOk d16 (top 33) := ⟨fun K f fd F => FunD.bindsN F fun _ _ _ _ _ _ us hl => match us, hl with | [_], _ => rfl, fun K f fd F h => absurd rfl h⟩
theorem b17 : BindOk d17 (top 34) := ⟨fun K f fd F => FunD.bindsN F fun _ _ _ _ _ _ us hl => match us, hl with | [_], _ => rfl, fun K f fd F h => absurd rfl h⟩
theorem b18 : BindOk d18 (top 35) := ⟨fun K f fd F => FunD.bindsN F fun _ _ _ _ _ _ us hl => match us, hl with | [_], _ => rfl, fun K f fd F h => absurd rfl h⟩
theorem b19 : BindOk d19 (top 36) := ⟨fun K f fd F => FunD.bindsN F fun _ _ _ _ _ _ us hl => match us, hl with | [_], _ => rfl, fun K f fd F h => absurd rfl h⟩
theorem b20 : BindOk d20 (top 37) := ⟨fun K f fd F => FunD.bindsN F fun _ _ _ _ _ _ us hl => match us, hl with | [_], _ => rfl, fun K f fd F h => absurd rfl h⟩
theorem b21 : BindOk d21 (top 38) := ⟨fun K f fd F => (by
  obtain ⟨ds, h1, h2⟩ := FunD.binds1 (ps := d21.ps) F 2 1 (List.cons_ne_nil _ _) rfl fun T kV doc pm an cdv ct us its hl hi => match us, hl, its, hi with | [_, _], _, [_], _ => ⟨_, rfl, rfl⟩
  cases h1
  exact h2), fun K f fd F h => FunD.binds1 F 1 0 (List.cons_ne_nil _ _) rfl fun T kV doc pm an cdv ct us its hl hi => match us, hl, its, hi with | [_], _, [_], _ => ⟨_, rfl, rfl⟩⟩
theorem b22 : BindOk d22 (top 39) := ⟨fun K f fd F => FunD.bindsN F fun _ _ _ _ _ _ us hl => match us, hl with | [_, _], _ => rfl, fun K f fd F h => absurd rfl h⟩
theorem b23 : BindOk d23 (top 40) := ⟨fun K f fd F => FunD.bindsN F fun _ _ _ _ _ _ us hl => match us, hl with | [_, _, _], _ => rfl, fun K f fd F h => absurd rfl h⟩
theorem b24 : BindOk d24 (top 41) := ⟨fun K f fd F => FunD.bindsN F fun _ _ _ _ _ _ us hl => match us, hl with | [_], _ => rfl, fun K f fd F h => absurd rfl h⟩
theorem b25 : BindOk d25 (top 42) := ⟨fun K f fd F => FunD.bindsN F fun _ _ _ _ _ _ us hl => match us, hl with | [_], _ => rfl, fun K f fd F h => absurd rfl h⟩
theorem b26 : BindOk d26 (top 43) := ⟨fun K f fd F => FunD.bindsN F fun _ _ _ _ _ _ us hl => match us, hl with | [_], _ => rfl, fun K f fd F h => absurd rfl h⟩
theorem b27 : BindOk d27 (top 44) := ⟨fun K f fd F => FunD.bindsN F fun _ _ _ _ _ _ us hl => match us, hl with | [_], _ => rfl, fun K f fd F h => absurd rfl h⟩
theorem b28 : BindOk d28 (top 45) := ⟨fun K f fd F => FunD.bindsN F fun _ _ _ _ _ _ us hl => match us, hl with | [_], _ => rfl, fun K f fd F h => absurd rfl h⟩
theorem b29 : BindOk d29 (top 46) := ⟨fun K f fd F => FunD.bindsN F fun _ _ _ _ _ _ us hl => match us, hl with | [_], _ => rfl, fun K f fd F h => absurd rfl h⟩
theorem b30 : BindOk d30 (top 47) := ⟨fun K f fd F => FunD.bindsN F fun _ _ _ _ _ _ us hl => match us, hl with | [_], _ => rfl, fun K f fd F h => absurd rfl h⟩
theorem b31 : BindOk d31 (top 49) := ⟨fun K f fd F => FunD.bindsN F fun _ _ _ _ _ _ us hl => match us, hl with | [_, _], _ => rfl, fun K f fd F h => absurd rfl h⟩
theorem b32 : BindOk d32 (top 50) := ⟨fun K f fd F => FunD.bindsN F fun _ _ _ _ _ _ us hl => match us, hl with | [_, _], _ => rfl, fun K f fd F h => absurd rfl h⟩
theorem b33 : BindOk d33 (top 51) := ⟨fun K f fd F => FunD.bindsN F fun _ _ _ _ _ _ us hl => match us, hl with | [_], _ => rfl, fun K f fd F h => absurd rfl h⟩
theorem b34 : BindOk d34 (top 52) := ⟨fun K f fd F => FunD.bindsN F fun _ _ _ _ _ _ us hl => match us, hl with | [_, _], _ => rfl, fun K f fd F h => absurd rfl h⟩
theorem b35 : BindOk d35 (top 53) := ⟨fun K f fd F => FunD.bindsN F fun _ _ _ _ _ _ us hl => match us, hl with | [_], _ => rfl, fun K f fd F h => absurd rfl h⟩
theorem b36 : BindOk d36 (top 55) := ⟨fun K f fd F => FunD.bindsN F fun _ _ _ _ _ _ us hl => match us, hl with | [_], _ => rfl, fun K f fd F h => absurd rfl h⟩
theorem b37 : BindOk d37 (top 56) := ⟨fun K f fd F => FunD.bindsN F fun _ _ _ _ _ _ us hl => match us, hl with | [_, _], _ => rfl, fun K f fd F h => absurd rfl h⟩
theorem b38 : BindOk d38 (top 57) := ⟨fun K f fd F => FunD.bindsN F fun _ _ _ _ _ _ us hl => match us, hl with | [_, _, _], _ => rfl, fun K f fd F h => absurd rfl h⟩
theorem b39 : BindOk d39 (top 58) := ⟨fun K f fd F => FunD.bindsN F fun _ _ _ _ _ _ us hl => match us, hl with | [_, _], _ => rfl, fun K f fd F h => absurd rfl h⟩
theorem b40 : BindOk d40 (top 59) := ⟨fun K f fd F => FunD.bindsN F fun _ _ _ _ _ _ us hl => match us, hl with | [_], _ => rfl, fun K f fd F h => absurd rfl h⟩
theorem b41 : BindOk d41 (top 60) := ⟨fun K f fd F => FunD.bindsN F fun _ _ _ _ _ _ us hl => match us, hl with | [_], _ => rfl, fun K f fd F h => absurd rfl h⟩
theorem b42 : BindOk d42 (top 61) := ⟨fun K f fd F => FunD.bindsN F fun _ _ _ _ _ _ us hl => match us, hl with | [_], _ => rfl, fun K f fd F h => absurd rfl h⟩
theorem b43 : BindOk d43 (top 62) := ⟨fun K f fd F => FunD.bindsN F fun _ _ _ _ _ _ us hl => match us, hl with | [_], _ => rfl, fun K f fd F h => absurd rfl h⟩
theorem b44 : BindOk d44 (top 64) := ⟨fun K f fd F => FunD.bindsN F fun _ _ _ _ _ _ us hl => match us, hl with | [_, _], _ => rfl, fun K f fd F h => absurd rfl h⟩
theorem b45 : BindOk d45 (top 65) := ⟨fun K f fd F => FunD.bindsN F fun _ _ _ _ _ _ us hl => match us, hl with | [_, _], _ => rfl, fun K f fd F h => absurd rfl h⟩
theorem b46 : BindOk d46 (top 66) := ⟨fun K f fd F => FunD.bindsN F fun _ _ _ _ _ _ us hl => match us, hl with | [_, _, _], _ => rfl, fun K f fd F h => absurd rfl h⟩
theorem b47 : BindOk d47 (top 67) := ⟨fun K f fd F => FunD.bindsN F fun _ _ _ _ _ _ us hl => match us, hl with | [_, _, _], _ => rfl, fun K f fd F h => absurd rfl h⟩
theorem b48 : BindOk d48 (top 69) := ⟨fun K f fd F => FunD.bindsN F fun _ _ _ _ _ _ us hl => match us, hl with | [_], _ => rfl, fun K f fd F h => absurd rfl h⟩
theorem b49 : BindOk d49 (top 70) := ⟨fun K f fd F => FunD.bindsN F fun _ _ _ _ _ _ us hl => match us, hl with | [_, _], _ => rfl, fun K f fd F h => absurd rfl h⟩
theorem b50 : BindOk d50 (top 71) := ⟨fun K f fd F => FunD.bindsN F fun _ _ _ _ _ _ us hl => match us, hl with | [_, _, _], _ => rfl, fun K f fd F h => absurd rfl h⟩
theorem b51 : BindOk d51 (top 72) := ⟨fun K f fd F => FunD.bindsN F fun _ _ _ _ _ _ us hl => match us, hl with | [_, _, _, _], _ => rfl, fun K f fd F h => absurd rfl h⟩
theorem b52 : BindOk d52 (top 75) := ⟨fun K f fd F => FunD.bindsN F fun _ _ _ _ _ _ us hl => match us, hl with | [_], _ => rfl, fun K f fd F h => absurd rfl h⟩
theorem b53 : BindOk d53 (top 76) := ⟨fun K f fd F => FunD.bindsN F fun _ _ _ _ _ _ us hl => match us, hl with | [_], _ => rfl, fun K f fd F h => absurd rfl h⟩
theorem b54 : BindOk d54 (top 77) := ⟨fun K f fd F => FunD.bindsN F fun _ _ _ _ _ _ us hl => match us, hl with | [_, _, _], _ => rfl, fun K f fd F h => absurd rfl h⟩
theorem b55 : BindOk d55 (top 78) := ⟨fun K f fd F => FunD.bindsN F fun _ _ _ _ _ _ us hl => match us, hl with | [_, _, _], _ => rfl, fun K f fd F h => absurd rfl h⟩
theorem b56 : BindOk d56 (top 79) := ⟨fun K f fd F => FunD.bindsN F fun _ _ _ _ _ _ us hl => match us, hl with | [_, _], _ => rfl, fun K f fd F h => absurd rfl h⟩
theorem b57 : BindOk d57 (top 80) := ⟨fun K f fd F => FunD.bindsN F fun _ _ _ _ _ _ us hl => match us, hl with | [_, _, _], _ => rfl, fun K f fd F h => absurd rfl h⟩
theorem b58 : BindOk d58 (top 82) := ⟨fun K f fd F => FunD.bindsN F fun _ _ _ _ _ _ us hl => match us, hl with | [_, _], _ => rfl, fun K f fd F h => absurd rfl h⟩
theorem b59 : BindOk d59 (top 83) := ⟨fun K f fd F => FunD.bindsN F fun _ _ _ _ _ _ us hl => match us, hl with | [_, _, _], _ => rfl, fun K f fd F h => absurd rfl h⟩
theorem b60 : BindOk d60 (top 84) := ⟨fun K f fd F => FunD.bindsN F fun _ _ _ _ _ _ us hl => match us, hl with | [_, _, _], _ => rfl, fun K f fd F h => absurd rfl h⟩
theorem b61 : BindOk d61 (top 85) := ⟨fun K f fd F => FunD.bindsN F fun _ _ _ _ _ _ us hl => match us, hl with | [_, _], _ => rfl, fun K f fd F h => absurd rfl h⟩
theorem b62 : BindOk d62 (top 86) := ⟨fun K f fd F => FunD.bindsN F fun _ _ _ _ _ _ us hl => match us, hl with | [_, _, _], _ => rfl, fun K f fd F h => absurd rfl h⟩
theorem b63 : BindOk d63 (top 88) := ⟨fun K f fd F => FunD.bindsN F fun _ _ _ _ _ _ us hl => match us, hl with | [_, _, _, _], _ => rfl, fun K f fd F h => absurd rfl h⟩
theorem b64 : BindOk d64 (top 91) := ⟨fun K f fd F => FunD.bindsN F fun _ _ _ _ _ _ us hl => match us, hl with | [_, _, _], _ => rfl, fun K f fd F h => absurd rfl h⟩
theorem b65 : BindOk d65 (top 92) := ⟨fun K f fd F => FunD.bindsN F fun _ _ _ _ _ _ us hl => match us, hl with | [_], _ => rfl, fun K f fd F h => absurd rfl h⟩
theorem b66 : BindOk d66 (top 94) := ⟨fun K f fd F => FunD.bindsN F fun _ _ _ _ _ _ us hl => match us, hl with | [_, _, _], _ => rfl, fun K f fd F h => absurd rfl h⟩
theorem b67 : BindOk d67 (top 96) := ⟨fun K f fd F => FunD.bindsN F fun _ _ _ _ _ _ us hl => match us, hl with | [_, _, _], _ => rfl, fun K f fd F h => absurd rfl h⟩
theorem b68 : BindOk d68 (top 97) := ⟨fun K f fd F => FunD.bindsN F fun _ _ _ _ _ _ us hl => match us, hl with | [_, _, _], _ => rfl, fun K f fd F h => absurd rfl h⟩
theorem b69 : BindOk d69 (top 99) := ⟨fun K f fd F => FunD.bindsN F fun _ _ _ _ _ _ us hl => match us, hl with | [_, _], _ => rfl, fun K f fd F h => absurd rfl h⟩
theorem b70 : BindOk d70 (top 100) := ⟨fun K f fd F => FunD.bindsN F fun _ _ _ _ _ _ us hl => match us, hl with | [_, _], _ => rfl, fun K f fd F h => absurd rfl h⟩
theorem b71 : BindOk d71 (top 101) := ⟨fun K f fd F => FunD.bindsN F fun _ _ _ _ _ _ us hl => match us, hl with | [_, _, _, _], _ => rfl, fun K f fd F h => absurd rfl h⟩
theorem b72 : BindOk d72 (top 103) := ⟨fun K f fd F => FunD.bindsN F fun _ _ _ _ _ _ us hl => match us, hl with | [_, _], _ => rfl, fun K f fd F h => absurd rfl h⟩
theorem b73 : BindOk d73 (top 104) := ⟨fun K f fd F => FunD.bindsN F fun _ _ _ _ _ _ us hl => match us, hl with | [_, _], _ => rfl, fun K f fd F h => absurd rfl h⟩
theorem b74 : BindOk d74 (top 105) := ⟨fun K f fd F => FunD.bindsN F fun _ _ _ _ _ _ us hl => match us, hl with | [_, _], _ => rfl, fun K f fd F h => absurd rfl h⟩
theorem b75 : BindOk d75 (top 106) := ⟨fun K f fd F => FunD.bindsN F fun _ _ _ _ _ _ us hl => match us, hl with | [_, _], _ => rfl, fun K f fd F h => absurd rfl h⟩
theorem b76 : BindOk d76 (top 107) := ⟨fun K f fd F => FunD.bindsN F fun _ _ _ _ _ _ us hl => match us, hl with | [_, _], _ => rfl, fun K f fd F h => absurd rfl h⟩
theorem b77 : BindOk d77 (top 108) := ⟨fun K f fd F => FunD.bindsN F fun _ _ _ _ _ _ us hl => match us, hl with | [_, _], _ => rfl, fun K f fd F h => absurd rfl h⟩
theorem b78 : BindOk d78 (top 109) := ⟨fun K f fd F => FunD.bindsN F fun _ _ _ _ _ _ us hl => match us, hl with | [_, _], _ => rfl, fun K f fd F h => absurd rfl h⟩
theorem b79 : BindOk d79 (top 110) := ⟨fun K f fd F => FunD.bindsN F fun _ _ _ _ _ _ us hl => match us, hl with | [_, _], _ => rfl, fun K f fd F h => absurd rfl h⟩
theorem b80 : BindOk d80 (top 111) := ⟨fun K f fd F => FunD.bindsN F fun _ _ _ _ _ _ us hl => match us, hl with | [_, _], _ => rfl, fun K f fd F h => absurd rfl h⟩
theorem b81 : BindOk d81 (top 112) := ⟨fun K f fd F => FunD.bindsN F fun _ _ _ _ _ _ us hl => match us, hl with | [_, _], _ => rfl, fun K f fd F h => absurd rfl h⟩
theorem b82 : BindOk d82 (top 113) := ⟨fun K f fd F => FunD.bindsN F fun _ _ _ _ _ _ us hl => match us, hl with | [_], _ => rfl, fun K f fd F h => absurd rfl h⟩
theorem b83 : BindOk d83 (top 114) := ⟨fun K f fd F => FunD.bindsN F fun _ _ _ _ _ _ us hl => match us, hl with | [_, _], _ => rfl, fun K f fd F h => absurd rfl h⟩
theorem b84 : BindOk d84 (top 115) := ⟨fun K f fd F => FunD.bindsN F fun _ _ _ _ _ _ us hl => match us, hl with | [_, _, _], _ => rfl, fun K f fd F h => absurd rfl h⟩
theorem b85 : BindOk d85 (top 116) := ⟨fun K f fd F => FunD.bindsN F fun _ _ _ _ _ _ us hl => match us, hl with | [_], _ => rfl, fun K f fd F h => absurd rfl h⟩
theorem b86 : BindOk d86 (top 117) := ⟨fun K f fd F => FunD.bindsN F fun _ _ _ _ _ _ us hl => match us, hl with | [_, _], _ => rfl, fun K f fd F h => absurd rfl h⟩
theorem b87 : BindOk d87 (top 118) := ⟨fun K f fd F => FunD.bindsN F fun _ _ _ _ _ _ us hl => match us, hl with | [_, _], _ => rfl, fun K f fd F h => absurd rfl h⟩
theorem b88 : BindOk d88 (top 119) := ⟨fun K f fd F => FunD.bindsN F fun _ _ _ _ _ _ us hl => match us, hl with | [_, _, _], _ => rfl, fun K f fd F h => absurd rfl h⟩
theorem b89 : BindOk d89 (top 120) := ⟨fun K f fd F => FunD.bindsN F fun _ _ _ _ _ _ us hl => match us, hl with | [_], _ => rfl, fun K f fd F h => absurd rfl h⟩
theorem chk0 : chkAll T defs0 sts0 = true := by decide +kernel
theorem bnd0 : AllB defs0 sts0 := ⟨b0, b1, b2, b3, b4, b5, b6, b7, b8, b9, b10, b11, b12, b13, b14, b15, b16, b17, b18, b19, b20, b21, b22, b23, b24, b25, b26, b27, b28, b29, trivial⟩
theorem chk1 : chkAll T defs1 sts1 = true := by decide +kernel
theorem bnd1 : AllB defs1 sts1 := ⟨b30, b31, b32, b33, b34, b35, b36, b37, b38, b39, b40, b41, b42, b43, b44, b45, b46, b47, b48, b49, b50, b51, b52, b53, b54, b55, b56, b57, b58, b59, trivial⟩
theorem chk2 : chkAll T defs2 sts2 = true := by decide +kernel
theorem bnd2 : AllB defs2 sts2 := ⟨b60, b61, b62, b63, b64, b65, b66, b67, b68, b69, b70, b71, b72, b73, b74, b75, b76, b77, b78, b79, b80, b81, b82, b83, b84, b85, b86, b87, b88, b89, trivial⟩
theorem tabOk : TabOk T sts := tabOk_of (chkAll_app (chkAll_app chk0 chk1) chk2) (allB_app (allB_app bnd0 bnd1) bnd2)
def lawSt : Stmt := top 121
def srcX : PX := (.bi .max2 (.cons (.con (.int 2)) (.cons (.bi .min2 (.cons (.bi .len (.cons (.var 0) .nil)) (.cons (.con (.int 3)) .nil))) .nil)))
abbrev LV : Nat := 60
abbrev CF : Cf := ⟨conT T, run T.defs (conT T) 1000000000000 LV, dfls T.defs, 1000000000000⟩
end FWL
set_option maxHeartbeats 200000
namespace FWL
open PySem FW
/-! the entries of the defs. -/
abbrev FU : Nat := 1000000000000
abbrev Rn (n g : Nat) (ds : List D) (p : Pl) : M D := run T.defs (conT T) FU n g ds p
abbrev Cn (n : Nat) : Cf := ⟨conT T, run T.defs (conT T) FU n, dfls T.defs, FU⟩
theorem v_callR {m g : Nat} {es : PXs} {ρ : En} {p p1 : Pl} {ds : List D} {r : D × Pl} (ha : evs (Cn m) es ρ p = some (ds, p1)) (h : Rn m g ds p1 = some r) : ev (Cn m) (.call g es) ρ p = some r := v_call ha h
theorem v_callvR {m g i : Nat} {es : PXs} {ρ : En} {p p1 : Pl} {ds : List D} {r : D × Pl} (hi : rd ρ i = some (.fn g)) (ha : evs (Cn m) es ρ p = some (ds, p1)) (h : Rn m g ds p1 = some r) : ev (Cn m) (.callv i es) ρ p = some r := v_callv hi ha h
theorem wr_of {m g : Nat} {ds : List D} {p p1 : Pl} {d : D} {Q : D → Pl → Prop} (h : Rn m g ds p = some (d, p1)) (q : Q d p1) : WC (Cn m) g ds p Q := ⟨d, p1, h, q⟩
theorem wr_ex {m g : Nat} {ds : List D} {p : Pl} {G Q : D → Pl → Prop} (h : ∃ d p1, Rn m g ds p = some (d, p1) ∧ G d p1) (q : ∀ d p1, G d p1 → Q d p1) : WC (Cn m) g ds p Q := by
  obtain ⟨d, p1, h, g⟩ := h
  exact ⟨d, p1, h, q d p1 g⟩
theorem eq_of {m : M D} {d : D} {p : Pl} (h : ∃ d1 p1, m = some (d1, p1) ∧ (d1 = d ∧ p1 = p)) : m = some (d, p) := by
  obtain ⟨d1, p1, h, rfl, rfl⟩ := h
  exact h
theorem wg0 {n : Nat} {ρ : En} {p : Pl} {Q : D → Pl → Prop} (q : Q (.tup [(.int 0), (.int 1)]) p) : WE (Cn n) (.glo 0) ρ p Q := w_glo rfl q
theorem wg1 {n : Nat} {ρ : En} {p : Pl} {Q : D → Pl → Prop} (q : Q (.int 24) p) : WE (Cn n) (.glo 1) ρ p Q := w_glo rfl q
theorem wg2 {n : Nat} {ρ : En} {p : Pl} {Q : D → Pl → Prop} (q : Q (.int 12) p) : WE (Cn n) (.glo 2) ρ p Q := w_glo rfl q
theorem wg3 {n : Nat} {ρ : En} {p : Pl} {Q : D → Pl → Prop} (q : Q (.int 4) p) : WE (Cn n) (.glo 3) ρ p Q := w_glo rfl q
theorem wg4 {n : Nat} {ρ : En} {p : Pl} {Q : D → Pl → Prop} (q : Q (.int 40) p) : WE (Cn n) (.glo 4) ρ p Q := w_glo rfl q
theorem in0 {n : Nat} {p : Pl} {Q : D → Pl → Prop} {a0 a1 : D} (h : WX (Cn n) d0.body [.dat a0, .dat a1, .no] p (Fin Q)) : ∃ d p1, Rn (n + 1) 0 [a0, a1] p = some (d, p1) ∧ Q d p1 := w_fn (df := d0) rfl rfl h
theorem in1 {n : Nat} {p : Pl} {Q : D → Pl → Prop} {a0 : D} (h : WX (Cn n) d1.body [.dat a0] p (Fin Q)) : ∃ d p1, Rn (n + 1) 1 [a0] p = some (d, p1) ∧ Q d p1 := w_fn (df := d1) rfl rfl h
theorem in2 {n : Nat} {p : Pl} {Q : D → Pl → Prop} {a0 a1 : D} (h : WX (Cn n) d2.body [.dat a0, .dat a1] p (Fin Q)) : ∃ d p1, Rn (n + 1) 2 [a0, a1] p = some (d, p1) ∧ Q d p1 := w_fn (df := d2) rfl rfl h
theorem in3 {n : Nat} {p : Pl} {Q : D → Pl → Prop} {a0 : D} (h : WX (Cn n) d3.body [.dat a0] p (Fin Q)) : ∃ d p1, Rn (n + 1) 3 [a0] p = some (d, p1) ∧ Q d p1 := w_fn (df := d3) rfl rfl h
theorem in4 {n : Nat} {p : Pl} {Q : D → Pl → Prop} {a0 a1 : D} (h : WX (Cn n) d4.body [.dat a0, .dat a1] p (Fin Q)) : ∃ d p1, Rn (n + 1) 4 [a0, a1] p = some (d, p1) ∧ Q d p1 := w_fn (df := d4) rfl rfl h
theorem in5 {n : Nat} {p : Pl} {Q : D → Pl → Prop} {a0 a1 : D} (h : WX (Cn n) d5.body [.dat a0, .dat a1] p (Fin Q)) : ∃ d p1, Rn (n + 1) 5 [a0, a1] p = some (d, p1) ∧ Q d p1 := w_fn (df := d5) rfl rfl h
theorem in6 {n : Nat} {p : Pl} {Q : D → Pl → Prop} {a0 a1 : D} (h : WX (Cn n) d6.body [.dat a0, .dat a1] p (Fin Q)) : ∃ d p1, Rn (n + 1) 6 [a0, a1] p = some (d, p1) ∧ Q d p1 := w_fn (df := d6) rfl rfl h
theorem in7 {n : Nat} {p : Pl} {Q : D → Pl → Prop} {a0 a1 : D} (h : WX (Cn n) d7.body [.dat a0, .dat a1] p (Fin Q)) : ∃ d p1, Rn (n + 1) 7 [a0, a1] p = some (d, p1) ∧ Q d p1 := w_fn (df := d7) rfl rfl h
theorem in8 {n : Nat} {p : Pl} {Q : D → Pl → Prop} {a0 : D} (h : WX (Cn n) d8.body [.dat a0] p (Fin Q)) : ∃ d p1, Rn (n + 1) 8 [a0] p = some (d, p1) ∧ Q d p1 := w_fn (df := d8) rfl rfl h
theorem in9 {n : Nat} {p : Pl} {Q : D → Pl → Prop} {a0 : D} (h : WX (Cn n) d9.body [.dat a0] p (Fin Q)) : ∃ d p1, Rn (n + 1) 9 [a0] p = some (d, p1) ∧ Q d p1 := w_fn (df := d9) rfl rfl h
theorem in10 {n : Nat} {p : Pl} {Q : D → Pl → Prop} {a0 : D} (h : WX (Cn n) d10.body [.dat a0] p (Fin Q)) : ∃ d p1, Rn (n + 1) 10 [a0] p = some (d, p1) ∧ Q d p1 := w_fn (df := d10) rfl rfl h
theorem in11 {n : Nat} {p : Pl} {Q : D → Pl → Prop} {a0 a1 a2 : D} (h : WX (Cn n) d11.body [.dat a0, .dat a1, .dat a2] p (Fin Q)) : ∃ d p1, Rn (n + 1) 11 [a0, a1, a2] p = some (d, p1) ∧ Q d p1 := w_fn (df := d11) rfl rfl h
theorem in12 {n : Nat} {p : Pl} {Q : D → Pl → Prop} {a0 a1 : D} (h : WX (Cn n) d12.body [.dat a0, .dat a1] p (Fin Q)) : ∃ d p1, Rn (n + 1) 12 [a0, a1] p = some (d, p1) ∧ Q d p1 := w_fn (df := d12) rfl rfl h
theorem in13 {n : Nat} {p : Pl} {Q : D → Pl → Prop} {a0 a1 a2 : D} (h : WX (Cn n) d13.body [.dat a0, .dat a1, .dat a2] p (Fin Q)) : ∃ d p1, Rn (n + 1) 13 [a0, a1, a2] p = some (d, p1) ∧ Q d p1 := w_fn (df := d13) rfl rfl h
theorem in14 {n : Nat} {p : Pl} {Q : D → Pl → Prop} {a0 a1 : D} (h : WX (Cn n) d14.body [.dat a0, .dat a1] p (Fin Q)) : ∃ d p1, Rn (n + 1) 14 [a0, a1] p = some (d, p1) ∧ Q d p1 := w_fn (df := d14) rfl rfl h
theorem in15 {n : Nat} {p : Pl} {Q : D → Pl → Prop} {a0 : D} (h : WX (Cn n) d15.body [.dat a0] p (Fin Q)) : ∃ d p1, Rn (n + 1) 15 [a0] p = some (d, p1) ∧ Q d p1 := w_fn (df := d15) rfl rfl h
theorem in16 {n : Nat} {p : Pl} {Q : D → Pl → Prop} {a0 : D} (h : WX (Cn n) d16.body [.dat a0] p (Fin Q)) : ∃ d p1, Rn (n + 1) 16 [a0] p = some (d, p1) ∧ Q d p1 := w_fn (df := d16) rfl rfl h
theorem in17 {n : Nat} {p : Pl} {Q : D → Pl → Prop} {a0 : D} (h : WX (Cn n) d17.body [.dat a0] p (Fin Q)) : ∃ d p1, Rn (n + 1) 17 [a0] p = some (d, p1) ∧ Q d p1 := w_fn (df := d17) rfl rfl h
theorem in18 {n : Nat} {p : Pl} {Q : D → Pl → Prop} {a0 : D} (h : WX (Cn n) d18.body [.dat a0] p (Fin Q)) : ∃ d p1, Rn (n + 1) 18 [a0] p = some (d, p1) ∧ Q d p1 := w_fn (df := d18) rfl rfl h
theorem in19 {n : Nat} {p : Pl} {Q : D → Pl → Prop} {a0 : D} (h : WX (Cn n) d19.body [.dat a0] p (Fin Q)) : ∃ d p1, Rn (n + 1) 19 [a0] p = some (d, p1) ∧ Q d p1 := w_fn (df := d19) rfl rfl h
theorem in20 {n : Nat} {p : Pl} {Q : D → Pl → Prop} {a0 : D} (h : WX (Cn n) d20.body [.dat a0] p (Fin Q)) : ∃ d p1, Rn (n + 1) 20 [a0] p = some (d, p1) ∧ Q d p1 := w_fn (df := d20) rfl rfl h
theorem in21 {n : Nat} {p : Pl} {Q : D → Pl → Prop} {a0 a1 : D} (h : WX (Cn n) d21.body [.dat a0, .dat a1, .no, .no] p (Fin Q)) : ∃ d p1, Rn (n + 1) 21 [a0, a1] p = some (d, p1) ∧ Q d p1 := w_fn (df := d21) rfl rfl h
theorem in22 {n : Nat} {p : Pl} {Q : D → Pl → Prop} {a0 a1 : D} (h : WX (Cn n) d22.body [.dat a0, .dat a1] p (Fin Q)) : ∃ d p1, Rn (n + 1) 22 [a0, a1] p = some (d, p1) ∧ Q d p1 := w_fn (df := d22) rfl rfl h
theorem in23 {n : Nat} {p : Pl} {Q : D → Pl → Prop} {a0 a1 a2 : D} (h : WX (Cn n) d23.body [.dat a0, .dat a1, .dat a2, .no, .no] p (Fin Q)) : ∃ d p1, Rn (n + 1) 23 [a0, a1, a2] p = some (d, p1) ∧ Q d p1 := w_fn (df := d23) rfl rfl h
theorem in24 {n : Nat} {p : Pl} {Q : D → Pl → Prop} {a0 : D} (h : WX (Cn n) d24.body [.dat a0] p (Fin Q)) : ∃ d p1, Rn (n + 1) 24 [a0] p = some (d, p1) ∧ Q d p1 := w_fn (df := d24) rfl rfl h
theorem in25 {n : Nat} {p : Pl} {Q : D → Pl → Prop} {a0 : D} (h : WX (Cn n) d25.body [.dat a0] p (Fin Q)) : ∃ d p1, Rn (n + 1) 25 [a0] p = some (d, p1) ∧ Q d p1 := w_fn (df := d25) rfl rfl h
theorem in26 {n : Nat} {p : Pl} {Q : D → Pl → Prop} {a0 : D} (h : WX (Cn n) d26.body [.dat a0] p (Fin Q)) : ∃ d p1, Rn (n + 1) 26 [a0] p = some (d, p1) ∧ Q d p1 := w_fn (df := d26) rfl rfl h
theorem in27 {n : Nat} {p : Pl} {Q : D → Pl → Prop} {a0 : D} (h : WX (Cn n) d27.body [.dat a0] p (Fin Q)) : ∃ d p1, Rn (n + 1) 27 [a0] p = some (d, p1) ∧ Q d p1 := w_fn (df := d27) rfl rfl h
theorem in28 {n : Nat} {p : Pl} {Q : D → Pl → Prop} {a0 : D} (h : WX (Cn n) d28.body [.dat a0] p (Fin Q)) : ∃ d p1, Rn (n + 1) 28 [a0] p = some (d, p1) ∧ Q d p1 := w_fn (df := d28) rfl rfl h
theorem in29 {n : Nat} {p : Pl} {Q : D → Pl → Prop} {a0 : D} (h : WX (Cn n) d29.body [.dat a0, .no] p (Fin Q)) : ∃ d p1, Rn (n + 1) 29 [a0] p = some (d, p1) ∧ Q d p1 := w_fn (df := d29) rfl rfl h
theorem in30 {n : Nat} {p : Pl} {Q : D → Pl → Prop} {a0 : D} (h : WX (Cn n) d30.body [.dat a0] p (Fin Q)) : ∃ d p1, Rn (n + 1) 30 [a0] p = some (d, p1) ∧ Q d p1 := w_fn (df := d30) rfl rfl h
theorem in31 {n : Nat} {p : Pl} {Q : D → Pl → Prop} {a0 a1 : D} (h : WX (Cn n) d31.body [.dat a0, .dat a1] p (Fin Q)) : ∃ d p1, Rn (n + 1) 31 [a0, a1] p = some (d, p1) ∧ Q d p1 := w_fn (df := d31) rfl rfl h
theorem in32 {n : Nat} {p : Pl} {Q : D → Pl → Prop} {a0 a1 : D} (h : WX (Cn n) d32.body [.dat a0, .dat a1] p (Fin Q)) : ∃ d p1, Rn (n + 1) 32 [a0, a1] p = some (d, p1) ∧ Q d p1 := w_fn (df := d32) rfl rfl h
theorem in33 {n : Nat} {p : Pl} {Q : D → Pl → Prop} {a0 : D} (h : WX (Cn n) d33.body [.dat a0, .no, .no] p (Fin Q)) : ∃ d p1, Rn (n + 1) 33 [a0] p = some (d, p1) ∧ Q d p1 := w_fn (df := d33) rfl rfl h
theorem in34 {n : Nat} {p : Pl} {Q : D → Pl → Prop} {a0 a1 : D} (h : WX (Cn n) d34.body [.dat a0, .dat a1] p (Fin Q)) : ∃ d p1, Rn (n + 1) 34 [a0, a1] p = some (d, p1) ∧ Q d p1 := w_fn (df := d34) rfl rfl h
theorem in35 {n : Nat} {p : Pl} {Q : D → Pl → Prop} {a0 : D} (h : WX (Cn n) d35.body [.dat a0, .no] p (Fin Q)) : ∃ d p1, Rn (n + 1) 35 [a0] p = some (d, p1) ∧ Q d p1 := w_fn (df := d35) rfl rfl h
theorem in36 {n : Nat} {p : Pl} {Q : D → Pl → Prop} {a0 : D} (h : WX (Cn n) d36.body [.dat a0, .no, .no, .no] p (Fin Q)) : ∃ d p1, Rn (n + 1) 36 [a0] p = some (d, p1) ∧ Q d p1 := w_fn (df := d36) rfl rfl h
theorem in37 {n : Nat} {p : Pl} {Q : D → Pl → Prop} {a0 a1 : D} (h : WX (Cn n) d37.body [.dat a0, .dat a1, .no, .no, .no] p (Fin Q)) : ∃ d p1, Rn (n + 1) 37 [a0, a1] p = some (d, p1) ∧ Q d p1 := w_fn (df := d37) rfl rfl h
theorem in38 {n : Nat} {p : Pl} {Q : D → Pl → Prop} {a0 a1 a2 : D} (h : WX (Cn n) d38.body [.dat a0, .dat a1, .dat a2, .no, .no, .no, .no] p (Fin Q)) : ∃ d p1, Rn (n + 1) 38 [a0, a1, a2] p = some (d, p1) ∧ Q d p1 := w_fn (df := d38) rfl rfl h
theorem in39 {n : Nat} {p : Pl} {Q : D → Pl → Prop} {a0 a1 : D} (h : WX (Cn n) d39.body [.dat a0, .dat a1, .no] p (Fin Q)) : ∃ d p1, Rn (n + 1) 39 [a0, a1] p = some (d, p1) ∧ Q d p1 := w_fn (df := d39) rfl rfl h
theorem in40 {n : Nat} {p : Pl} {Q : D → Pl → Prop} {a0 : D} (h : WX (Cn n) d40.body [.dat a0, .no, .no, .no, .no] p (Fin Q)) : ∃ d p1, Rn (n + 1) 40 [a0] p = some (d, p1) ∧ Q d p1 := w_fn (df := d40) rfl rfl h
theorem in41 {n : Nat} {p : Pl} {Q : D → Pl → Prop} {a0 : D} (h : WX (Cn n) d41.body [.dat a0, .no, .no] p (Fin Q)) : ∃ d p1, Rn (n + 1) 41 [a0] p = some (d, p1) ∧ Q d p1 := w_fn (df := d41) rfl rfl h
theorem in42 {n : Nat} {p : Pl} {Q : D → Pl → Prop} {a0 : D} (h : WX (Cn n) d42.body [.dat a0, .no, .no, .no] p (Fin Q)) : ∃ d p1, Rn (n + 1) 42 [a0] p = some (d, p1) ∧ Q d p1 := w_fn (df := d42) rfl rfl h
theorem in43 {n : Nat} {p : Pl} {Q : D → Pl → Prop} {a0 : D} (h : WX (Cn n) d43.body [.dat a0, .no, .no] p (Fin Q)) : ∃ d p1, Rn (n + 1) 43 [a0] p = some (d, p1) ∧ Q d p1 := w_fn (df := d43) rfl rfl h
theorem in44 {n : Nat} {p : Pl} {Q : D → Pl → Prop} {a0 a1 : D} (h : WX (Cn n) d44.body [.dat a0, .dat a1] p (Fin Q)) : ∃ d p1, Rn (n + 1) 44 [a0, a1] p = some (d, p1) ∧ Q d p1 := w_fn (df := d44) rfl rfl h
theorem in45 {n : Nat} {p : Pl} {Q : D → Pl → Prop} {a0 a1 : D} (h : WX (Cn n) d45.body [.dat a0, .dat a1] p (Fin Q)) : ∃ d p1, Rn (n + 1) 45 [a0, a1] p = some (d, p1) ∧ Q d p1 := w_fn (df := d45) rfl rfl h
theorem in46 {n : Nat} {p : Pl} {Q : D → Pl → Prop} {a0 a1 a2 : D} (h : WX (Cn n) d46.body [.dat a0, .dat a1, .dat a2] p (Fin Q)) : ∃ d p1, Rn (n + 1) 46 [a0, a1, a2] p = some (d, p1) ∧ Q d p1 := w_fn (df := d46) rfl rfl h
theorem in47 {n : Nat} {p : Pl} {Q : D → Pl → Prop} {a0 a1 a2 : D} (h : WX (Cn n) d47.body [.dat a0, .dat a1, .dat a2, .no] p (Fin Q)) : ∃ d p1, Rn (n + 1) 47 [a0, a1, a2] p = some (d, p1) ∧ Q d p1 := w_fn (df := d47) rfl rfl h
theorem in48 {n : Nat} {p : Pl} {Q : D → Pl → Prop} {a0 : D} (h : WX (Cn n) d48.body [.dat a0, .no] p (Fin Q)) : ∃ d p1, Rn (n + 1) 48 [a0] p = some (d, p1) ∧ Q d p1 := w_fn (df := d48) rfl rfl h
theorem in49 {n : Nat} {p : Pl} {Q : D → Pl → Prop} {a0 a1 : D} (h : WX (Cn n) d49.body [.dat a0, .dat a1, .no] p (Fin Q)) : ∃ d p1, Rn (n + 1) 49 [a0, a1] p = some (d, p1) ∧ Q d p1 := w_fn (df := d49) rfl rfl h
theorem in50 {n : Nat} {p : Pl} {Q : D → Pl → Prop} {a0 a1 a2 : D} (h : WX (Cn n) d50.body [.dat a0, .dat a1, .dat a2, .no, .no, .no] p (Fin Q)) : ∃ d p1, Rn (n + 1) 50 [a0, a1, a2] p = some (d, p1) ∧ Q d p1 := w_fn (df := d50) rfl rfl h
theorem in51 {n : Nat} {p : Pl} {Q : D → Pl → Prop} {a0 a1 a2 a3 : D} (h : WX (Cn n) d51.body [.dat a0, .dat a1, .dat a2, .dat a3, .no] p (Fin Q)) : ∃ d p1, Rn (n + 1) 51 [a0, a1, a2, a3] p = some (d, p1) ∧ Q d p1 := w_fn (df := d51) rfl rfl h
theorem in52 {n : Nat} {p : Pl} {Q : D → Pl → Prop} {a0 : D} (h : WX (Cn n) d52.body [.dat a0] p (Fin Q)) : ∃ d p1, Rn (n + 1) 52 [a0] p = some (d, p1) ∧ Q d p1 := w_fn (df := d52) rfl rfl h
theorem in53 {n : Nat} {p : Pl} {Q : D → Pl → Prop} {a0 : D} (h : WX (Cn n) d53.body [.dat a0, .no, .no] p (Fin Q)) : ∃ d p1, Rn (n + 1) 53 [a0] p = some (d, p1) ∧ Q d p1 := w_fn (df := d53) rfl rfl h
theorem in54 {n : Nat} {p : Pl} {Q : D → Pl → Prop} {a0 a1 a2 : D} (h : WX (Cn n) d54.body [.dat a0, .dat a1, .dat a2, .no, .no] p (Fin Q)) : ∃ d p1, Rn (n + 1) 54 [a0, a1, a2] p = some (d, p1) ∧ Q d p1 := w_fn (df := d54) rfl rfl h
theorem in55 {n : Nat} {p : Pl} {Q : D → Pl → Prop} {a0 a1 a2 : D} (h : WX (Cn n) d55.body [.dat a0, .dat a1, .dat a2, .no, .no, .no, .no, .no, .no] p (Fin Q)) : ∃ d p1, Rn (n + 1) 55 [a0, a1, a2] p = some (d, p1) ∧ Q d p1 := w_fn (df := d55) rfl rfl h
theorem in56 {n : Nat} {p : Pl} {Q : D → Pl → Prop} {a0 a1 : D} (h : WX (Cn n) d56.body [.dat a0, .dat a1, .no, .no, .no] p (Fin Q)) : ∃ d p1, Rn (n + 1) 56 [a0, a1] p = some (d, p1) ∧ Q d p1 := w_fn (df := d56) rfl rfl h
theorem in57 {n : Nat} {p : Pl} {Q : D → Pl → Prop} {a0 a1 a2 : D} (h : WX (Cn n) d57.body [.dat a0, .dat a1, .dat a2, .no, .no] p (Fin Q)) : ∃ d p1, Rn (n + 1) 57 [a0, a1, a2] p = some (d, p1) ∧ Q d p1 := w_fn (df := d57) rfl rfl h
theorem in58 {n : Nat} {p : Pl} {Q : D → Pl → Prop} {a0 a1 : D} (h : WX (Cn n) d58.body [.dat a0, .dat a1, .no] p (Fin Q)) : ∃ d p1, Rn (n + 1) 58 [a0, a1] p = some (d, p1) ∧ Q d p1 := w_fn (df := d58) rfl rfl h
theorem in59 {n : Nat} {p : Pl} {Q : D → Pl → Prop} {a0 a1 a2 : D} (h : WX (Cn n) d59.body [.dat a0, .dat a1, .dat a2, .no] p (Fin Q)) : ∃ d p1, Rn (n + 1) 59 [a0, a1, a2] p = some (d, p1) ∧ Q d p1 := w_fn (df := d59) rfl rfl h
theorem in60 {n : Nat} {p : Pl} {Q : D → Pl → Prop} {a0 a1 a2 : D} (h : WX (Cn n) d60.body [.dat a0, .dat a1, .dat a2] p (Fin Q)) : ∃ d p1, Rn (n + 1) 60 [a0, a1, a2] p = some (d, p1) ∧ Q d p1 := w_fn (df := d60) rfl rfl h
theorem in61 {n : Nat} {p : Pl} {Q : D → Pl → Prop} {a0 a1 : D} (h : WX (Cn n) d61.body [.dat a0, .dat a1] p (Fin Q)) : ∃ d p1, Rn (n + 1) 61 [a0, a1] p = some (d, p1) ∧ Q d p1 := w_fn (df := d61) rfl rfl h
theorem in62 {n : Nat} {p : Pl} {Q : D → Pl → Prop} {a0 a1 a2 : D} (h : WX (Cn n) d62.body [.dat a0, .dat a1, .dat a2] p (Fin Q)) : ∃ d p1, Rn (n + 1) 62 [a0, a1, a2] p = some (d, p1) ∧ Q d p1 := w_fn (df := d62) rfl rfl h
theorem in63 {n : Nat} {p : Pl} {Q : D → Pl → Prop} {a0 a1 a2 a3 : D} (h : WX (Cn n) d63.body [.dat a0, .dat a1, .dat a2, .dat a3] p (Fin Q)) : ∃ d p1, Rn (n + 1) 63 [a0, a1, a2, a3] p = some (d, p1) ∧ Q d p1 := w_fn (df := d63) rfl rfl h
theorem in64 {n : Nat} {p : Pl} {Q : D → Pl → Prop} {a0 a1 a2 : D} (h : WX (Cn n) d64.body [.dat a0, .dat a1, .dat a2, .no, .no] p (Fin Q)) : ∃ d p1, Rn (n + 1) 64 [a0, a1, a2] p = some (d, p1) ∧ Q d p1 := w_fn (df := d64) rfl rfl h
theorem in65 {n : Nat} {p : Pl} {Q : D → Pl → Prop} {a0 : D} (h : WX (Cn n) d65.body [.dat a0] p (Fin Q)) : ∃ d p1, Rn (n + 1) 65 [a0] p = some (d, p1) ∧ Q d p1 := w_fn (df := d65) rfl rfl h
theorem in66 {n : Nat} {p : Pl} {Q : D → Pl → Prop} {a0 a1 a2 : D} (h : WX (Cn n) d66.body [.dat a0, .dat a1, .dat a2, .no, .no, .no] p (Fin Q)) : ∃ d p1, Rn (n + 1) 66 [a0, a1, a2] p = some (d, p1) ∧ Q d p1 := w_fn (df := d66) rfl rfl h
theorem in67 {n : Nat} {p : Pl} {Q : D → Pl → Prop} {a0 a1 a2 : D} (h : WX (Cn n) d67.body [.dat a0, .dat a1, .dat a2] p (Fin Q)) : ∃ d p1, Rn (n + 1) 67 [a0, a1, a2] p = some (d, p1) ∧ Q d p1 := w_fn (df := d67) rfl rfl h
theorem in68 {n : Nat} {p : Pl} {Q : D → Pl → Prop} {a0 a1 a2 : D} (h : WX (Cn n) d68.body [.dat a0, .dat a1, .dat a2] p (Fin Q)) : ∃ d p1, Rn (n + 1) 68 [a0, a1, a2] p = some (d, p1) ∧ Q d p1 := w_fn (df := d68) rfl rfl h
theorem in69 {n : Nat} {p : Pl} {Q : D → Pl → Prop} {a0 a1 : D} (h : WX (Cn n) d69.body [.dat a0, .dat a1] p (Fin Q)) : ∃ d p1, Rn (n + 1) 69 [a0, a1] p = some (d, p1) ∧ Q d p1 := w_fn (df := d69) rfl rfl h
theorem in70 {n : Nat} {p : Pl} {Q : D → Pl → Prop} {a0 a1 : D} (h : WX (Cn n) d70.body [.dat a0, .dat a1] p (Fin Q)) : ∃ d p1, Rn (n + 1) 70 [a0, a1] p = some (d, p1) ∧ Q d p1 := w_fn (df := d70) rfl rfl h
theorem in71 {n : Nat} {p : Pl} {Q : D → Pl → Prop} {a0 a1 a2 a3 : D} (h : WX (Cn n) d71.body [.dat a0, .dat a1, .dat a2, .dat a3] p (Fin Q)) : ∃ d p1, Rn (n + 1) 71 [a0, a1, a2, a3] p = some (d, p1) ∧ Q d p1 := w_fn (df := d71) rfl rfl h
theorem in72 {n : Nat} {p : Pl} {Q : D → Pl → Prop} {a0 a1 : D} (h : WX (Cn n) d72.body [.dat a0, .dat a1, .no, .no, .no] p (Fin Q)) : ∃ d p1, Rn (n + 1) 72 [a0, a1] p = some (d, p1) ∧ Q d p1 := w_fn (df := d72) rfl rfl h
theorem in73 {n : Nat} {p : Pl} {Q : D → Pl → Prop} {a0 a1 : D} (h : WX (Cn n) d73.body [.dat a0, .dat a1, .no, .no] p (Fin Q)) : ∃ d p1, Rn (n + 1) 73 [a0, a1] p = some (d, p1) ∧ Q d p1 := w_fn (df := d73) rfl rfl h
theorem in74 {n : Nat} {p : Pl} {Q : D → Pl → Prop} {a0 a1 : D} (h : WX (Cn n) d74.body [.dat a0, .dat a1] p (Fin Q)) : ∃ d p1, Rn (n + 1) 74 [a0, a1] p = some (d, p1) ∧ Q d p1 := w_fn (df := d74) rfl rfl h
theorem in75 {n : Nat} {p : Pl} {Q : D → Pl → Prop} {a0 a1 : D} (h : WX (Cn n) d75.body [.dat a0, .dat a1] p (Fin Q)) : ∃ d p1, Rn (n + 1) 75 [a0, a1] p = some (d, p1) ∧ Q d p1 := w_fn (df := d75) rfl rfl h
theorem in76 {n : Nat} {p : Pl} {Q : D → Pl → Prop} {a0 a1 : D} (h : WX (Cn n) d76.body [.dat a0, .dat a1, .no] p (Fin Q)) : ∃ d p1, Rn (n + 1) 76 [a0, a1] p = some (d, p1) ∧ Q d p1 := w_fn (df := d76) rfl rfl h
theorem in77 {n : Nat} {p : Pl} {Q : D → Pl → Prop} {a0 a1 : D} (h : WX (Cn n) d77.body [.dat a0, .dat a1] p (Fin Q)) : ∃ d p1, Rn (n + 1) 77 [a0, a1] p = some (d, p1) ∧ Q d p1 := w_fn (df := d77) rfl rfl h
theorem in78 {n : Nat} {p : Pl} {Q : D → Pl → Prop} {a0 a1 : D} (h : WX (Cn n) d78.body [.dat a0, .dat a1] p (Fin Q)) : ∃ d p1, Rn (n + 1) 78 [a0, a1] p = some (d, p1) ∧ Q d p1 := w_fn (df := d78) rfl rfl h
theorem in79 {n : Nat} {p : Pl} {Q : D → Pl → Prop} {a0 a1 : D} (h : WX (Cn n) d79.body [.dat a0, .dat a1] p (Fin Q)) : ∃ d p1, Rn (n + 1) 79 [a0, a1] p = some (d, p1) ∧ Q d p1 := w_fn (df := d79) rfl rfl h
theorem in80 {n : Nat} {p : Pl} {Q : D → Pl → Prop} {a0 a1 : D} (h : WX (Cn n) d80.body [.dat a0, .dat a1] p (Fin Q)) : ∃ d p1, Rn (n + 1) 80 [a0, a1] p = some (d, p1) ∧ Q d p1 := w_fn (df := d80) rfl rfl h
theorem in81 {n : Nat} {p : Pl} {Q : D → Pl → Prop} {a0 a1 : D} (h : WX (Cn n) d81.body [.dat a0, .dat a1] p (Fin Q)) : ∃ d p1, Rn (n + 1) 81 [a0, a1] p = some (d, p1) ∧ Q d p1 := w_fn (df := d81) rfl rfl h
theorem in82 {n : Nat} {p : Pl} {Q : D → Pl → Prop} {a0 : D} (h : WX (Cn n) d82.body [.dat a0, .no, .no, .no] p (Fin Q)) : ∃ d p1, Rn (n + 1) 82 [a0] p = some (d, p1) ∧ Q d p1 := w_fn (df := d82) rfl rfl h
theorem in83 {n : Nat} {p : Pl} {Q : D → Pl → Prop} {a0 a1 : D} (h : WX (Cn n) d83.body [.dat a0, .dat a1] p (Fin Q)) : ∃ d p1, Rn (n + 1) 83 [a0, a1] p = some (d, p1) ∧ Q d p1 := w_fn (df := d83) rfl rfl h
theorem in84 {n : Nat} {p : Pl} {Q : D → Pl → Prop} {a0 a1 a2 : D} (h : WX (Cn n) d84.body [.dat a0, .dat a1, .dat a2, .no, .no, .no, .no, .no] p (Fin Q)) : ∃ d p1, Rn (n + 1) 84 [a0, a1, a2] p = some (d, p1) ∧ Q d p1 := w_fn (df := d84) rfl rfl h
theorem in85 {n : Nat} {p : Pl} {Q : D → Pl → Prop} {a0 : D} (h : WX (Cn n) d85.body [.dat a0] p (Fin Q)) : ∃ d p1, Rn (n + 1) 85 [a0] p = some (d, p1) ∧ Q d p1 := w_fn (df := d85) rfl rfl h
theorem in86 {n : Nat} {p : Pl} {Q : D → Pl → Prop} {a0 a1 : D} (h : WX (Cn n) d86.body [.dat a0, .dat a1, .no, .no, .no] p (Fin Q)) : ∃ d p1, Rn (n + 1) 86 [a0, a1] p = some (d, p1) ∧ Q d p1 := w_fn (df := d86) rfl rfl h
theorem in87 {n : Nat} {p : Pl} {Q : D → Pl → Prop} {a0 a1 : D} (h : WX (Cn n) d87.body [.dat a0, .dat a1, .no, .no, .no, .no, .no] p (Fin Q)) : ∃ d p1, Rn (n + 1) 87 [a0, a1] p = some (d, p1) ∧ Q d p1 := w_fn (df := d87) rfl rfl h
theorem in88 {n : Nat} {p : Pl} {Q : D → Pl → Prop} {a0 a1 a2 : D} (h : WX (Cn n) d88.body [.dat a0, .dat a1, .dat a2, .no, .no, .no, .no, .no, .no, .no, .no, .no, .no, .no, .no] p (Fin Q)) : ∃ d p1, Rn (n + 1) 88 [a0, a1, a2] p = some (d, p1) ∧ Q d p1 := w_fn (df := d88) rfl rfl h
theorem in89 {n : Nat} {p : Pl} {Q : D → Pl → Prop} {a0 : D} (h : WX (Cn n) d89.body [.dat a0, .no, .no] p (Fin Q)) : ∃ d p1, Rn (n + 1) 89 [a0] p = some (d, p1) ∧ Q d p1 := w_fn (df := d89) rfl rfl h
end FWL
local macro_rules | `(tactic| walk_at "fw bc") => `(tactic| (first | with_reducible rfl | with_reducible exact FW.nt_F | with_reducible exact FW.nt_T | decide | with_reducible assumption | exact decide_eq_true (by first | with_reducible rfl | with_reducible assumption | omega) | exact decide_eq_false (by first | with_reducible rfl | with_reducible assumption | omega) | exact FW.nd_T (by first | with_reducible rfl | with_reducible assumption | omega) | exact FW.nd_F (by first | with_reducible rfl | with_reducible assumption | omega)))
local macro_rules | `(tactic| walk_at "fw sz") => `(tactic| (repeat' (first | with_reducible assumption | with_reducible exact FW.sz_one | with_reducible exact FW.sz_zero | with_reducible apply FW.Sz.add | with_reducible apply FW.Sz.sub | with_reducible apply FW.Sz.mul | with_reducible apply FW.Sz.neg)))
local macro_rules | `(tactic| walk_at "fw bd") => `(tactic| (repeat' (first | with_reducible assumption | exact FW.bd_small (by omega) | with_reducible apply FW.Bd.mul | with_reducible apply FW.Bd.add | with_reducible apply FW.Bd.sub | with_reducible apply FW.Bd.neg)))
local macro_rules | `(tactic| walk_at "fw side") => `(tactic| (first | with_reducible assumption | omega | walk_at "fw sz"))
local macro_rules | `(tactic| walk_at "fw wp") => `(tactic| (repeat' (first | exact FW.Wp.nil | apply FW.Wp.cons | apply FW.Up.z | apply FW.Up.s)))
local macro_rules | `(tactic| walk_at "fw ev") => `(tactic| (repeat' (first | with_reducible exact FW.v_con | with_reducible exact FW.v_fnv | with_reducible exact FW.v_abs | with_reducible exact FW.vs_nil | with_reducible exact FW.os_nil | with_reducible assumption | with_reducible apply FW.v_var | with_reducible apply FW.o_var | with_reducible apply FW.v_glo | with_reducible apply FW.vs_cons | with_reducible apply FW.os_cons | with_reducible apply FW.v_tup | with_reducible apply FW.v_lst | with_reducible apply FW.v_bin | with_reducible apply FW.v_neg | with_reducible apply FW.v_cmp | with_reducible apply FW.v_ix | with_reducible apply FWL.v_callR | with_reducible apply FWL.v_callvR | with_reducible apply FW.v_call | with_reducible apply FW.v_calld | with_reducible apply FW.v_callv | with_reducible apply FW.v_bi | with_reducible apply FW.v_isi | with_reducible apply FW.v_not | with_reducible apply FW.v_andT | with_reducible apply FW.v_orF | with_reducible apply FW.o_of | ((with_reducible show FW.ev _ (FW.PX.con _) _ _ = _); exact FW.v_con) | ((with_reducible show FW.opD _ _ _ = _); with_reducible exact FW.op_mul (by with_reducible assumption) (by with_reducible assumption) (by omega)) | ((with_reducible show FW.truD _ = _); exact congrArg some (decide_eq_true (by with_reducible assumption))) | ((with_reducible show FW.truD _ = _); exact congrArg some (decide_eq_false (by with_reducible assumption))) | ((with_reducible show FW.opD _ _ _ = _); exact rfl) | ((with_reducible show FW.cmpD _ _ _ = _); exact rfl) | ((with_reducible show FW.truD _ = _); exact rfl) | ((with_reducible show FW.ixP _ _ _ = _); exact rfl) | ((with_reducible show FW.biD _ _ = _); exact rfl) | ((with_reducible show FW.isiD _ _ = _); exact rfl) | ((with_reducible show FW.rd _ _ = _); exact rfl) | ((with_reducible show FW.pk _ _ = _); exact rfl) | ((with_reducible show FW.partD _ _ = _); exact rfl) | ((with_reducible show FW.slD _ _ _ = _); exact rfl) | ((with_reducible show FW.seqOf _ = _); exact rfl) | ((with_reducible show _[_]? = some _); exact rfl) | ((with_reducible show List.length _ ≤ _); exact of_decide_eq_true rfl) | exact fun _ h => FW.PX.noConfusion h)))
local macro_rules | `(tactic| walk_at "fw gx") => `(tactic| (first | with_reducible apply FW.w_con | with_reducible apply FW.w_var | with_reducible apply FW.wo_var | with_reducible apply FW.w_fnv | with_reducible apply FW.w_abs | with_reducible apply FW.w_bin | with_reducible apply FW.w_cmp | with_reducible apply FW.w_ix | with_reducible apply FW.w_call | with_reducible apply FW.ws_cons | with_reducible apply FW.ws_nil | with_reducible apply FW.wo_of | with_reducible apply FW.w_tup | with_reducible apply FW.w_lst | with_reducible apply FW.w_bi | with_reducible apply FW.wos_cons | with_reducible apply FW.wos_nil | with_reducible apply FW.w_not | with_reducible apply FW.w_neg | with_reducible apply FW.w_and | with_reducible apply FW.w_or | with_reducible apply FW.w_isi | with_reducible apply FW.w_chn | with_reducible apply FW.w_sl | with_reducible apply FW.w_calld | with_reducible apply FW.w_callv | with_reducible apply FW.wl_it | with_reducible apply FW.wl_enm | with_reducible apply FW.wl_zip | with_reducible apply FW.wq_it | with_reducible apply FW.wq_enm | with_reducible apply FW.wq_zip | with_reducible apply FW.wl_rng1 | with_reducible apply FW.wq_rng1 | with_reducible apply FW.wt_nm | with_reducible apply FW.wt_nil | with_reducible apply FW.Up.z | with_reducible apply FW.Up.s | with_reducible apply FW.Wp.nil | with_reducible apply FW.Wp.cons | with_reducible apply FW.xw_asg | with_reducible apply FW.xw_exp | with_reducible apply FW.xw_ret | with_reducible apply FW.xw_ifs | with_reducible apply FW.xw_nil | with_reducible apply FW.kx_nx | with_reducible apply FW.kx_ret | with_reducible apply FW.kx_brk | with_reducible apply FW.kx_cnt | with_reducible apply FW.turn_nx | with_reducible apply FW.turn_cnt | with_reducible apply FW.turn_brk | with_reducible apply FW.turn_ret | with_reducible apply FW.fin_ret | with_reducible apply FW.fin_nx | with_reducible apply FW.xw_par | with_reducible apply FW.xw_paro | with_reducible apply FW.xw_own | with_reducible apply FW.xw_app | with_reducible apply FW.xw_frz | with_reducible apply FW.xw_retn | with_reducible apply FW.xw_pass | with_reducible apply FW.xw_brk | with_reducible apply FW.xw_cnt | with_reducible apply FW.wv_eq | with_reducible apply FW.wv_ne | with_reducible apply FW.wv_eq0 | with_reducible apply FW.wv_ne0 | with_reducible apply FW.wv_eqI | with_reducible apply FW.wv_neI | with_reducible apply FW.wv_eqB | with_reducible apply FW.wv_neB | with_reducible apply FW.wv_lt | with_reducible apply FW.wv_le | with_reducible apply FW.wv_gt | with_reducible apply FW.wv_ge | with_reducible apply FWL.wg0 | with_reducible apply FWL.wg1 | with_reducible apply FWL.wg2 | with_reducible apply FWL.wg3 | with_reducible apply FWL.wg4 | exact fun _ h => FW.PX.noConfusion h | ((with_reducible show FW.rd _ _ = _); exact rfl) | ((with_reducible show FW.pk _ _ = _); exact rfl) | ((with_reducible show FW.WT (FW.Tg.cons _ _) _ _ _ _); apply FW.wt_cons) | ((with_reducible show FW.WT FW.Tg.nil _ _ _ _); apply FW.wt_nil) | ((with_reducible show FW.Few _ ∧ _); first | refine ⟨FW.few_lit rfl, ?_⟩ | refine ⟨FW.few_map (by omega), ?_⟩) | with_reducible apply FW.up_ex | ((with_reducible apply FW.own_ex); exact rfl) | ((with_reducible apply FW.lst_ex); exact rfl) | ((with_reducible show FW.CB _ _ _); first | refine FW.cb_T (by walk_at "fw bc") ?_ | refine FW.cb_F (by walk_at "fw bc") ?_) | ((with_reducible show FW.WV (FW.opD PySem.Operator.Mult (FW.D.int _) (FW.D.int _)) _); refine FW.wv (FW.op_mul (by walk_at "fw bd") (by walk_at "fw bd") (by omega)) ?_) | ((with_reducible show FW.WV (FW.opD PySem.Operator.Mod (FW.D.int _) (FW.D.int _)) _); refine FW.wv (FW.op_mod (by omega)) ?_) | ((with_reducible show FW.WV (FW.opD PySem.Operator.FloorDiv (FW.D.int _) (FW.D.int _)) _); first | refine FW.wv (by with_reducible assumption) ?_ | refine FW.wv (FW.op_fdiv (by omega) (by walk_at "fw bd") (by omega)) ?_) | ((with_reducible show FW.WV (FW.biD FW.Bi.divmod _) _); refine FW.wv (FW.op_divmod (by omega) (by walk_at "fw bd") (by omega)) ?_) | ((with_reducible show FW.WT (FW.Tg.sub _ _) _ _ _ _); refine FW.wt_pool rfl (Nat.le_of_ble_eq_true rfl) ?_) | ((with_reducible apply FW.xw_setP); exact rfl) | ((with_reducible show FW.WV (FW.ixP _ (FW.D.int 0) _) _); first | refine FW.wv (by with_reducible assumption) ?_ | refine FW.wv FW.ix0 ?_ | refine FW.wv FW.ix0L ?_) | ((with_reducible show FW.WV _ _); first | refine FW.wv (by with_reducible assumption) ?_ | refine FW.wv rfl ?_) | ((with_reducible show FW.WB _ _ _); first | refine FW.wb_bT (by walk_at "fw bc") ?_ | refine FW.wb_bF (by walk_at "fw bc") ?_) | ((with_reducible show FW.WC _ _ _ _ _); refine FWL.wr_of (by with_reducible assumption) ?_)))
local macro_rules | `(tactic| walk_at "fw go") => `(tactic| (first | walk_at "fw gx" | with_reducible apply FW.w_ite))
namespace FWL
open PySem FW
/-! P1: the fractions' defs. -/
theorem e_plain_of {n k : Nat} {p : Pl} {a b : Int} (hb : b ≠ 0) (h : Bd k b) (hk : k ≤ 8900) : Rn (n + 1) 0 [.int a, .int b] p = some (fr (Rat.divInt a b), p) := by
  have e := plain_num (a := a) hb
  have hs := sg_ne (a := a) hb
  have hbd := sg_bd (a := a) hb h
  unfold fr
  rw [← e.1, ← e.2]
  apply fn_ret (df := d0) rfl rfl
  refine xs_nx (x_asg (t := .nm 2) (x := .int (sg a b)) ?_ rfl) (xs_ret (x_ret (o_of (v_tup (vs_cons (v_bin (v_var rfl) (v_var rfl) (op_fdiv hs hbd hk)) (vs_cons (v_bin (v_var rfl) (v_var rfl) (op_fdiv hs hbd hk)) vs_nil)) (of_decide_eq_true rfl)) (fun _ h => PX.noConfusion h))))
  refine v_ite (t := decide (0 < b)) (v_cmp (o_var rfl) (o_of v_con (fun _ h => PX.noConfusion h)) rfl) rfl ?_
  by_cases h0 : 0 < b
  · rw [if_pos (decide_eq_true h0)]
    unfold sg
    rw [if_pos h0]
    exact v_bi (os_cons (o_var rfl) (os_cons (o_var rfl) os_nil)) rfl
  · rw [if_neg (by simpa using h0)]
    unfold sg
    rw [if_neg h0]
    exact v_neg (v_bi (os_cons (o_var rfl) (os_cons (o_var rfl) os_nil)) rfl)
theorem e_whole {n : Nat} {p : Pl} {a : Int} : Rn (n + 1) 1 [.int a] p = some (fr (a : Rat), p) := by
  unfold fr
  rw [Rat.num_intCast, Rat.den_intCast]
  apply fn_ret (df := d1) rfl rfl
  apply xs_ret
  apply x_ret
  walk_at "fw ev"
section
variable {n k l : Nat} {p : Pl} {q r : Rat}
theorem e_plus (h : Sz k q) (h2 : Sz l r) (hk : k + l ≤ 8000) : Rn (n + 2) 2 [fr q, fr r] p = some (fr (q + r), p) := by
  obtain ⟨a1, a2⟩ := h
  obtain ⟨b1, b2⟩ := h2
  have h1 := e_plain_of (n := n) (p := p) (a := q.num * r.den + r.num * q.den) (Int.mul_ne_zero (den_ne q) (den_ne r)) (a2.mul b2) (by omega)
  rw [add_div] at h1
  apply fn_ret (df := d2) rfl rfl
  apply xs_ret
  apply x_ret
  walk_at "fw ev"
theorem e_negative : Rn (n + 1) 3 [fr q] p = some (fr (-q), p) := by
  unfold fr
  rw [Rat.neg_num, Rat.neg_den]
  apply fn_ret (df := d3) rfl rfl
  apply xs_ret
  apply x_ret
  walk_at "fw ev"
theorem e_minus (h : Sz k q) (h2 : Sz l r) (hk : k + l ≤ 8000) : Rn (n + 3) 4 [fr q, fr r] p = some (fr (q - r), p) := by
  have h1 := e_plus (n := n) (p := p) h h2.neg hk
  rw [← Rat.sub_eq_add_neg] at h1
  have h0 := e_negative (n := n + 1) (p := p) (q := r)
  apply fn_ret (df := d4) rfl rfl
  apply xs_ret
  apply x_ret
  walk_at "fw ev"
theorem e_times (h : Sz k q) (h2 : Sz l r) (hk : k + l ≤ 8000) : Rn (n + 2) 5 [fr q, fr r] p = some (fr (q * r), p) := by
  obtain ⟨a1, a2⟩ := h
  obtain ⟨b1, b2⟩ := h2
  have h1 := e_plain_of (n := n) (p := p) (a := q.num * r.num) (Int.mul_ne_zero (den_ne q) (den_ne r)) (a2.mul b2) (by omega)
  rw [mul_div] at h1
  apply fn_ret (df := d5) rfl rfl
  apply xs_ret
  apply x_ret
  walk_at "fw ev"
theorem e_over (h : Sz k q) (h2 : Sz l r) (hk : k + l ≤ 8000) (hr : r ≠ 0) : Rn (n + 2) 6 [fr q, fr r] p = some (fr (q / r), p) := by
  obtain ⟨a1, a2⟩ := h
  obtain ⟨b1, b2⟩ := h2
  have h1 := e_plain_of (n := n) (p := p) (a := q.num * r.den) (Int.mul_ne_zero (den_ne q) (num_ne hr)) (a2.mul b1) (by omega)
  rw [over_div] at h1
  apply fn_ret (df := d6) rfl rfl
  apply xs_ret
  apply x_ret
  walk_at "fw ev"
theorem e_is_less (h : Sz k q) (h2 : Sz l r) (hk : k + l ≤ 8000) : Rn (n + 1) 7 [fr q, fr r] p = some (.bl (decide (q < r)), p) := by
  obtain ⟨a1, a2⟩ := h
  obtain ⟨b1, b2⟩ := h2
  rw [show decide (q < r) = decide (q.num * r.den < r.num * q.den) from decide_eq_decide.mpr (Rat.lt_iff q r)]
  apply fn_ret (df := d7) rfl rfl
  apply xs_ret
  apply x_ret
  walk_at "fw ev"
end
end FWL
namespace FWL
open PySem FW
/-! P2: the checks of values that are right. -/
section
variable {n k l : Nat} {p : Pl} {q r : Rat}
theorem e_is_whole {i : Int} : Rn (n + 1) 10 [.int i] p = some (.bl true, p) := by
  apply fn_ret2 (df := d10) rfl rfl
  · apply xs_ret
    apply x_ret
    walk_at "fw ev"
  · rfl
theorem e_is_between {i a b : Int} : Rn (n + 2) 11 [.int i, .int a, .int b] p = some (.bl (decide (a ≤ i) && decide (i ≤ b)), p) := by
  have h := e_is_whole (n := n) (p := p) (i := i)
  apply fn_ret2 (df := d11) rfl rfl
  · apply xs_ret
    apply x_ret
    apply o_of (v_andT (v_call (vs_cons (v_var rfl) vs_nil) h) rfl (v_chn (v_var rfl) (v_var rfl) rfl (v_var rfl) rfl)) (fun _ h => PX.noConfusion h)
  · rfl
theorem e_is_from {i a : Int} : Rn (n + 2) 12 [.int i, .int a] p = some (.bl (decide (a ≤ i)), p) := by
  have h := e_is_whole (n := n) (p := p) (i := i)
  apply fn_ret2 (df := d12) rfl rfl
  · apply xs_ret
    apply x_ret
    walk_at "fw ev"
  · rfl
theorem e_up_to {ds : List D} {a b : Int} : Rn (n + 1) 13 [.tup ds, .int a, .int b] p = some (.bl (decide (a ≤ ds.length) && decide ((ds.length : Int) ≤ b)), p) := by
  apply fn_ret2 (df := d13) rfl rfl
  · apply xs_ret
    apply x_ret
    apply o_of (v_andT (v_isi (v_var rfl) rfl) rfl (v_chn (v_var rfl) (v_bi (os_cons (o_var rfl) os_nil) rfl) rfl (v_var rfl) rfl)) (fun _ h => PX.noConfusion h)
  · rfl
theorem e_tuple_of {ds : List D} {a : Int} : Rn (n + 2) 14 [.tup ds, .int a] p = some (.bl (decide (a ≤ ds.length) && decide ((ds.length : Int) ≤ a)), p) := by
  have h := e_up_to (n := n) (p := p) (ds := ds) (a := a) (b := a)
  apply fn_ret2 (df := d14) rfl rfl
  · apply xs_ret
    apply x_ret
    walk_at "fw ev"
  · rfl
theorem e_is_pair {x y : D} : Rn (n + 3) 15 [.tup [x, y]] p = some (.bl true, p) := by
  have h := e_tuple_of (n := n) (p := p) (ds := [x, y]) (a := 2)
  apply fn_ret2 (df := d15) rfl rfl
  · apply xs_ret
    apply x_ret
    walk_at "fw ev"
  · rfl
theorem fr_gcd (q : Rat) : Nat.gcd q.num.natAbs q.den = 1 := q.reduced
theorem e_is_fraction : Rn (n + 4) 16 [fr q] p = some (.bl true, p) := by
  have h1 : Rn (n + 3) 15 [fr q] p = some (.bl true, p) := e_is_pair
  have h2 := e_is_whole (n := n + 2) (p := p) (i := q.num)
  have h3 := e_is_from (n := n + 1) (p := p) (i := q.den) (a := 1)
  have hd : ¬ ((!decide ((1 : Int) ≤ q.den)) = true) := by have := den_pos' q; simp; omega
  have e3 : (!decide ((1 : Int) ≤ q.den)) = false := by simpa using hd
  apply fn_ret2 (df := d16) rfl rfl
  · apply xs_ifF
    · walk_at "fw ev"
    · exact congrArg some e3
    · apply xs_ret
      apply x_ret
      walk_at "fw ev"
  · refine bl_eq ?_
    have := fr_gcd q
    simp [this, eqv]
theorem e_is_time (h : 0 ≤ q) : Rn (n + 5) 17 [fr q] p = some (.bl true, p) := by
  have h1 := e_is_fraction (n := n) (p := p) (q := q)
  have h2 : (0 : Int) ≤ q.num := Rat.num_nonneg.mpr h
  apply fn_ret2 (df := d17) rfl rfl
  · apply xs_ret
    apply x_ret
    walk_at "fw ev"
  · exact bl_eq (decide_eq_true h2)
theorem num_pos {q : Rat} (h : 0 < q) : 0 < q.num := by
  have h1 := Rat.num_nonneg.mpr (Rat.le_of_lt h)
  have h2 : q.num ≠ 0 := num_ne (Rat.ne_of_gt h)
  omega
theorem e_is_period (h : 0 < q) : Rn (n + 5) 18 [fr q] p = some (.bl true, p) := by
  have h1 := e_is_fraction (n := n) (p := p) (q := q)
  have h2 := num_pos h
  apply fn_ret2 (df := d18) rfl rfl
  · apply xs_ret
    apply x_ret
    walk_at "fw ev"
  · exact bl_eq (decide_eq_true h2)
theorem e_is_order {o : Nat} (h : 1 ≤ o) (h2 : o ≤ 24) : Rn (n + 3) 19 [.int o] p = some (.bl true, p) := by
  have h1 := e_is_between (n := n) (p := p) (i := o) (a := 1) (b := 24)
  rw [decide_eq_true (show (1 : Int) ≤ o by omega), decide_eq_true (show (o : Int) ≤ 24 by omega)] at h1
  apply fn_ret2 (df := d19) rfl rfl
  · apply xs_ret
    apply x_ret
    walk_at "fw ev"
  · rfl
theorem e_is_motion : Rn (n + 5) 20 [.tup [fr q, fr r]] p = some (.bl true, p) := by
  have h1 := e_is_pair (n := n + 1) (p := p) (x := fr q) (y := fr r)
  have h2 := e_is_fraction (n := n) (p := p) (q := q)
  have h3 := e_is_fraction (n := n) (p := p) (q := r)
  apply fn_ret2 (df := d20) rfl rfl
  · apply xs_ret
    apply x_ret
    walk_at "fw ev"
  · rfl
theorem e_is_sight {o : Nat} (h : 1 ≤ o) (ho : o ≤ 24) (h0 : 0 ≤ q) (hs : Sz k q) (hk : k ≤ 7000) (hq : q < 1 / (o : Rat)) : Rn (n + 6) 22 [.int o, fr q] p = some (.bl true, p) := by
  have hb : Bd 5 (o : Int) := by unfold Bd; rw [Int.natAbs_natCast]; omega
  have hne : (o : Int) ≠ 0 := by omega
  have h1 := e_is_time (n := n) (p := p) h0
  have h2 := e_plain_of (n := n + 4) (p := p) (a := 1) hne hb (by decide)
  rw [Rat.divInt_eq_div] at h2
  have hz : Sz 6 ((1 : Int) / ((o : Int) : Rat)) := by
    rw [← Rat.divInt_eq_div]
    exact (sz_div hne (show Bd 5 1 from by unfold Bd; decide) hb (Nat.le_refl _)).mono (by decide)
  have h3 := e_is_less (n := n + 4) (p := p) hs hz (by omega)
  have e : (((1 : Int) : Rat) / ((o : Int) : Rat)) = 1 / (o : Rat) := by rw [Rat.intCast_one, Rat.intCast_natCast]
  rw [e] at h2 h3
  apply fn_ret2 (df := d22) rfl rfl
  · apply xs_ret
    apply x_ret
    walk_at "fw ev"
  · exact bl_eq (decide_eq_true hq)
theorem e_two : Rn (n + 6) 24 [.tup [fr q, fr r]] p = some (.bl true, p) := by
  have h1 := e_is_motion (n := n) (p := p) (q := q) (r := r)
  apply fn_ret2 (df := d24) rfl rfl
  · apply xs_ret
    apply x_ret
    walk_at "fw ev"
  · rfl
theorem e_is_span (hs : Sz k q) (hs2 : Sz l r) (hk : k + l ≤ 8000) (h : q ≤ r) : Rn (n + 7) 25 [.tup [fr q, fr r]] p = some (.bl true, p) := by
  have h1 := e_two (n := n) (p := p) (q := q) (r := r)
  have h2 := e_is_less (n := n + 5) (p := p) hs2 hs (by omega)
  apply fn_ret2 (df := d25) rfl rfl
  · apply xs_ret
    apply x_ret
    walk_at "fw ev"
  · refine bl_eq ?_
    rw [decide_eq_false (Rat.not_lt.mpr h)]; rfl
theorem e_check_fraction : Rn (n + 5) 26 [fr q] p = some (.non, p) := by
  have h1 := e_is_fraction (n := n) (p := p) (q := q)
  apply fn_nx (df := d26) rfl rfl
  apply xs_ifF
  · walk_at "fw ev"
  · rfl
  · exact xs_nil
theorem e_check_order {o : Nat} (h : 1 ≤ o) (h2 : o ≤ 24) : Rn (n + 4) 27 [.int o] p = some (.non, p) := by
  have h1 := e_is_order (n := n) (p := p) h h2
  apply fn_nx (df := d27) rfl rfl
  apply xs_ifF
  · walk_at "fw ev"
  · rfl
  · exact xs_nil
theorem e_check_motion : Rn (n + 6) 28 [.tup [fr q, fr r]] p = some (.non, p) := by
  have h1 := e_is_motion (n := n) (p := p) (q := q) (r := r)
  apply fn_nx (df := d28) rfl rfl
  apply xs_ifF
  · walk_at "fw ev"
  · rfl
  · exact xs_nil
theorem e_check_span (hs : Sz k q) (hs2 : Sz l r) (hk : k + l ≤ 8000) (h : q ≤ r) : Rn (n + 8) 30 [.tup [fr q, fr r]] p = some (.non, p) := by
  have h1 := e_is_span (n := n) (p := p) hs hs2 hk h
  apply fn_nx (df := d30) rfl rfl
  apply xs_ifF
  · walk_at "fw ev"
  · rfl
  · exact xs_nil
end
end FWL
namespace FWL
open PySem FW
/-! P3: remainders, measures. -/
section
variable {n k l : Nat} {p : Pl} {q r : Rat}
theorem e_is_whole_one : Rn (n + 1) 8 [fr q] p = some (.bl (decide (q.den = 1)), p) := by
  apply fn_ret2 (df := d8) rfl rfl
  · apply xs_ret
    apply x_ret
    walk_at "fw ev"
  · refine bl_eq ?_
    show ((q.den : Int) == 1) = _
    by_cases h : q.den = 1
    · rw [h]; rfl
    · rw [decide_eq_false h]
      have : (q.den : Int) ≠ 1 := by omega
      simpa using this
theorem e_floor_of (h : Sz k q) (hk : k ≤ 8000) : Rn (n + 1) 9 [fr q] p = some (.int q.floor, p) := by
  apply fn_ret2 (df := d9) rfl rfl
  · apply xs_ret
    apply x_ret
    apply o_of (v_bin (v_ix (o_var rfl) v_con rfl) (v_ix (o_var rfl) v_con rfl) (op_fdiv (den_ne q) h.2 (by omega))) (fun _ h => PX.noConfusion h)
  · rw [Rat.floor_def, Int.fdiv_eq_ediv_of_nonneg _ (by have := den_pos' q; omega)]
theorem floor_sz (h : Sz k q) : Bd (k + 1) q.floor := by
  rw [Rat.floor_def]
  unfold Bd
  have h1 : (q.num / (q.den : Int)).natAbs ≤ q.num.natAbs := Int.natAbs_ediv_le_natAbs _ _
  have h2 := h.1
  unfold Bd at h2
  rw [Nat.pow_succ]
  omega
def rem (q r : Rat) : Rat := q - ((q / r).floor : Rat) * r
theorem e_remainder (h : Sz k q) (h2 : Sz l r) (hk : k + l + l + k + 10 ≤ 4000) (hr : r ≠ 0) : Rn (n + 4) 31 [fr q, fr r] p = some (fr (rem q r), p) := by
  have z1 := h.div h2 hr
  have z2 := sz_int (floor_sz z1) (by omega)
  have a1 := e_over (n := n + 1) (p := p) h h2 (by omega) hr
  have a2 := e_floor_of (n := n + 2) (p := p) z1 (by omega)
  have a3 := e_whole (n := n + 2) (p := p) (a := (q / r).floor)
  have a4 := e_times (n := n + 1) (p := p) z2 h2 (by omega)
  have a5 : Rn (n + 3) 4 [fr q, fr (((q / r).floor : Rat) * r)] p = some (fr (rem q r), p) := e_minus (n := n) (p := p) h (z2.mul h2) (by omega)
  apply fn_ret (df := d31) rfl rfl
  apply xs_ret
  apply x_ret
  walk_at "fw ev"
theorem e_measure_two (h : Sz k q) (h2 : Sz l r) (hk : k + l ≤ 8000) : Rn (n + 2) 32 [fr q, fr r] p = some (fr (rg q r), p) := by
  obtain ⟨a1, a2⟩ := h
  obtain ⟨b1, b2⟩ := h2
  have h1 : Rn (n + 1) 0 [.int (Nat.gcd (q.num * r.den).natAbs (r.num * q.den).natAbs : Nat), .int (q.den * r.den)] p = some (fr (rg q r), p) := e_plain_of (n := n) (p := p) (Int.mul_ne_zero (den_ne q) (den_ne r)) (a2.mul b2) (by omega)
  apply fn_ret (df := d32) rfl rfl
  apply xs_ret
  apply x_ret
  walk_at "fw ev"
theorem l_measure {X : D} : ∀ (L : List Rat) (f : Rat) (j : Nat) (s : Slot), Sz j f → (∀ x ∈ L, Sz k x) → j + k * L.length ≤ 8000 →
    ∃ s', forF (fun d ρ p => (bindT (.nm 2) d ρ p).bind fun r => exs (Cn (n + 2)) (.cons (.asg (.nm 1) (.call 32 (.cons (.var 1) (.cons (.var 2) .nil)))) .nil) r.1 r.2) (L.map fr) [.dat X, .dat (fr f), s] p = some (.nx, [.dat X, .dat (fr (meas f L)), s'], p)
  | [], f, j, s, _, _, _ => ⟨s, rfl⟩
  | x :: L, f, j, s, hf, hL, hk => by
    have hx := hL x (List.mem_cons_self ..)
    rw [List.length_cons, Nat.mul_succ] at hk
    obtain ⟨s', h⟩ := l_measure L (rg f x) (j + k) (.dat (fr x)) (rg_sz hf hx) (fun y hy => hL y (List.mem_cons_of_mem _ hy)) (by omega)
    refine ⟨s', for_nx (ρ' := [.dat X, .dat (fr (rg f x)), .dat (fr x)]) (p1 := p) ?_ h⟩
    have h1 := e_measure_two (n := n) (p := p) hf hx (by omega)
    refine body_nx (ρ' := [.dat X, .dat (fr f), .dat (fr x)]) rfl ?_
    exact xs_nx (x_asg (v_call (vs_cons (v_var rfl) (vs_cons (v_var rfl) vs_nil)) h1) rfl) xs_nil
theorem e_measure_by {X : D} {L : List Rat} (hX : seqOf X = some (L.map fr)) (hL : ∀ x ∈ L, Sz k x) (hk : 1 + k * L.length ≤ 8000) : Rn (n + 3) 33 [X] p = some (fr (meas 0 L), p) := by
  obtain ⟨s', h⟩ := l_measure (n := n) (p := p) (X := X) L 0 1 .no sz_zero hL hk
  apply fn_ret (df := d33) rfl rfl
  · apply xs_nx
    · apply x_asg
      · exact v_glo (d := fr 0) rfl
      · exact rfl
    · apply xs_nx
      · apply x_fr
        · exact sq_it (v_var rfl) hX
        · exact h
      · apply xs_ret
        apply x_ret
        exact o_var rfl
theorem lc_row {α : Type} {C : Cf} {ρ : En} {t : Tg} {vs : List Nat} {elt : PX} {src : Sr} {gi go : α → D} {L : List α} (hs : evSr C src ρ p = some (L.map gi, p)) (hl : L.length ≤ 1000000)
    (h : ∀ x ∈ L, ∃ ρ', bindT t (gi x) (wipeE ρ vs) p = some (ρ', p) ∧ ev C elt ρ' p = some (go x, p)) : ev C (.lc elt t src (.con (.bl true)) vs) ρ p = some (.lst (L.map go), p) := by
  refine v_lc hs (map_all fun x hx => ?_) (by rw [List.length_map]; exact hl)
  obtain ⟨ρ', h1, h2⟩ := h x hx
  exact lc_yes h1 h2
theorem lc_none {α : Type} {C : Cf} {ρ : En} {t : Tg} {vs : List Nat} {elt c : PX} {src : Sr} {gi : α → D} {L : List α} (hs : evSr C src ρ p = some (L.map gi, p))
    (h : ∀ x ∈ L, ∃ ρ', bindT t (gi x) (wipeE ρ vs) p = some (ρ', p) ∧ ev C c ρ' p = some (.bl false, p)) : ev C (.lc elt t src c vs) ρ p = some (.lst [], p) := by
  have hm : mapF (lcF t vs (ev C c) (ev C elt) ρ) (L.map gi) p = some (((L.filter fun _ => false).map gi), p) := map_if fun x hx => by
    obtain ⟨ρ', h1, h2⟩ := h x hx
    exact lc_if (x := .non) (tt := false) h1 h2 rfl (fun h => by cases h)
  have e : (L.filter fun _ => false) = [] := by simp
  rw [e] at hm
  exact v_lc hs hm (by decide)
theorem enum_map {α : Type} (g : α → D) : ∀ (L : List α) (i : Nat), enumF i (L.map g) = (L.zipIdx i).map fun x => .tup [.int (x.2 : Nat), g x.1]
  | [], _ => rfl
  | x :: L, i => by
    show D.tup [.int (i : Nat), g x] :: enumF (i + 1) (L.map g) = _
    rw [enum_map g L (i + 1)]; rfl
theorem e_is_multiple (h : Sz k q) (h2 : Sz l r) (hk : k + l ≤ 8000) (hr : r ≠ 0) : Rn (n + 3) 34 [fr q, fr r] p = some (.bl (decide ((q / r).den = 1)), p) := by
  have a1 := e_over (n := n) (p := p) h h2 hk hr
  have a2 := e_is_whole_one (n := n + 1) (p := p) (q := q / r)
  apply fn_ret (df := d34) rfl rfl
  apply xs_ifF
  · exact v_cmp (o_var rfl) (o_of (v_glo rfl) (fun _ h => PX.noConfusion h)) (cmp_eq0 r)
  · exact congrArg some (decide_eq_false hr)
  · apply xs_ret
    apply x_ret
    walk_at "fw ev"
theorem e_multiple_by {X : D} {L : List Rat} (hX : seqOf X = some (L.map fr)) (hL : ∀ x ∈ L, Sz k x) (hne : ∀ x ∈ L, x ≠ 0) (hk : 10 + (k + 1) * L.length ≤ 7000) (hl : L.length ≤ 1000) (hm : meas 0 (L.map fun x => 1 / x) ≠ 0) (hk2 : k ≤ 7000) : Rn (n + 4) 35 [X] p = some (fr (1 / meas 0 (L.map fun x => 1 / x)), p) := by
  have hs : ∀ x ∈ L.map (fun x => 1 / x), Sz (k + 1) x := fun y hy => by
    obtain ⟨x, hx, rfl⟩ := List.mem_map.mp hy
    exact (sz_one.div (hL x hx) (hne x hx)).mono (by omega)
  have z : ∀ (L : List Rat) (f : Rat) (j : Nat), Sz j f → (∀ x ∈ L, Sz (k + 1) x) → Sz (j + (k + 1) * L.length) (meas f L) := fun L => by
    induction L with
    | nil => intro f j hf _; exact hf
    | cons x L ih =>
      intro f j hf hL
      have := ih (rg f x) (j + (k + 1)) (rg_sz hf (hL x (List.mem_cons_self ..))) (fun y hy => hL y (List.mem_cons_of_mem _ hy))
      exact this.mono (by rw [List.length_cons, Nat.mul_succ]; omega)
  have zm := z _ 0 1 sz_zero hs
  rw [List.length_map] at zm
  have a1 : Rn (n + 3) 33 [.lst ((L.map fun x => 1 / x).map fr)] p = some (fr (meas 0 (L.map fun x => 1 / x)), p) := e_measure_by (n := n) rfl hs (by rw [List.length_map]; omega)
  have a2 := e_over (n := n + 1) (p := p) sz_one zm (by omega) hm
  rw [fr_one] at a2
  apply fn_ret (df := d35) rfl rfl
  apply xs_ret
  apply x_ret
  with_reducible apply o_of
  · with_reducible apply v_call
    · with_reducible apply vs_cons
      · exact v_tup (vs_cons v_con (vs_cons v_con vs_nil)) (by decide)
      · with_reducible apply vs_cons
        · with_reducible apply v_call
          · with_reducible apply vs_cons
            · apply lc_row (gi := fr) (go := fun x => fr (1 / x)) (L := L)
              · exact sr_it (o_var rfl) hX
              · omega
              · intro x hx
                have a3 := e_over (n := n + 1) (p := p) sz_one (hL x hx) (by omega) (hne x hx)
                rw [fr_one] at a3
                refine ⟨[.dat X, .dat (fr x)], rfl, ?_⟩
                exact v_call (vs_cons (v_tup (vs_cons v_con (vs_cons v_con vs_nil)) (by decide)) (vs_cons (v_var rfl) vs_nil)) a3
            · with_reducible exact vs_nil
          · have e : (L.map fun x => 1 / x).map fr = L.map fun x => fr (1 / x) := by rw [List.map_map]; rfl
            rw [← e]
            exact a1
        · with_reducible exact vs_nil
    · exact a2
  · exact fun _ h => PX.noConfusion h
end
end FWL
namespace FWL
open PySem FW
/-! P4: flashes, sights. -/
/-- a row of fractions -/
abbrev row (ts : List Rat) : D := .tup (ts.map fr)
structure Fl (k : Nat) (ts : List Rat) : Prop where
  l1 : 1 ≤ ts.length
  l2 : ts.length ≤ 12
  nn : ∀ t ∈ ts, 0 ≤ t
  sz : ∀ t ∈ ts, Sz k t
  up : ∀ (i : Nat) a b, ts[i]? = some a → ts[i + 1]? = some b → a < b
section
variable {n k l : Nat} {p : Pl} {q r : Rat} {ts : List Rat}
theorem e_wrong_in_flashes (F : Fl k ts) (hk : k ≤ 4000) : Rn (n + 6) 21 [row ts, .int 12] p = some (.lst [], p) := by
  have h0 := e_up_to (n := n + 4) (p := p) (ds := ts.map fr) (a := 1) (b := 12)
  rw [List.length_map, decide_eq_true (show (1 : Int) ≤ ts.length by have := F.l1; omega), decide_eq_true (show (ts.length : Int) ≤ 12 by have := F.l2; omega)] at h0
  have lp := for_inv (p := p) (fb := fun d ρ p => (bindT (.cons (.nm 2) (.cons (.nm 3) .nil)) d ρ p).bind fun r => exs (Cn (n + 5)) (.cons (.ifs (.or (.not (.call 17 (.cons (.var 3) .nil))) (.and (.cmp .Gt (.var 2) (.con (.int 0))) (.not (.call 7 (.cons (.ix (.var 0) (.bin .Sub (.var 2) (.con (.int 1)))) (.cons (.var 3) .nil)))))) (.cons (.ret (.lst (.cons (.var 2) .nil))) .nil) .nil) .nil) r.1 r.2)
    (Inv := fun ρ => ∃ a b, ρ = [.dat (row ts), .dat (.int 12), a, b]) (ds := enumF 0 (ts.map fr)) (ρ := [.dat (row ts), .dat (.int 12), .no, .no]) ⟨_, _, rfl⟩ (fun d hd ρ hρ => by
      obtain ⟨a, b, rfl⟩ := hρ
      obtain ⟨i, t, hi, rfl⟩ := enum_mem hd
      have ht : t ∈ ts := List.mem_of_getElem? hi
      refine ⟨[.dat (row ts), .dat (.int 12), .dat (.int (i : Nat)), .dat (fr t)], ?_, _, _, rfl⟩
      refine body_nx (ρ' := [.dat (row ts), .dat (.int 12), .dat (.int (i : Nat)), .dat (fr t)]) (p1 := p) rfl ?_
      have h1 := e_is_time (n := n) (p := p) (F.nn t ht)
      have hn : ev (Cn (n + 5)) (.not (.call 17 (.cons (.var 3) .nil))) [.dat (row ts), .dat (.int 12), .dat (.int (i : Nat)), .dat (fr t)] p = some (.bl false, p) := by
        with_reducible apply v_notT
        · with_reducible apply v_callR
          · with_reducible apply vs_cons
            · with_reducible apply v_var
              exact rfl
            · with_reducible exact vs_nil
          · exact h1
        · exact rfl
      suffices hx : ev (Cn (n + 5)) (.and (.cmp .Gt (.var 2) (.con (.int 0))) (.not (.call 7 (.cons (.ix (.var 0) (.bin .Sub (.var 2) (.con (.int 1)))) (.cons (.var 3) .nil))))) [.dat (row ts), .dat (.int 12), .dat (.int (i : Nat)), .dat (fr t)] p = some (.bl false, p) from
        xs_ifF (v_orF hn rfl hx) rfl xs_nil
      have hc : ev (Cn (n + 5)) (.cmp .Gt (.var 2) (.con (.int 0))) [.dat (row ts), .dat (.int 12), .dat (.int (i : Nat)), .dat (fr t)] p = some (.bl (decide ((0 : Int) < (i : Nat))), p) := v_cmp (o_var rfl) (o_of v_con (fun _ h => PX.noConfusion h)) rfl
      by_cases i0 : 0 < i
      · rw [decide_eq_true (show (0 : Int) < (i : Nat) by omega)] at hc
        have hlt := (List.getElem?_eq_some_iff.mp hi).1
        obtain ⟨s, hs⟩ : ∃ s, ts[i - 1]? = some s := ⟨ts[i - 1], List.getElem?_eq_getElem (by omega)⟩
        have hst := F.up (i - 1) s t hs (by rw [show i - 1 + 1 = i by omega]; exact hi)
        have h2 := e_is_less (n := n + 4) (p := p) (F.sz s (List.mem_of_getElem? hs)) (F.sz t ht) (by omega)
        rw [decide_eq_true hst] at h2
        refine v_andT hc rfl (v_notT (v_callR (vs_cons (v_ix (o_var rfl) (v_bin (v_var rfl) v_con (op_sub1 i0)) (ix_tup (d := fr s) (by rw [List.getElem?_map, hs]; rfl))) (vs_cons (v_var rfl) vs_nil)) h2) rfl)
      · rw [decide_eq_false (show ¬ (0 : Int) < (i : Nat) by omega)] at hc
        exact v_andF hc rfl)
  obtain ⟨ρ', e1, a, b, rfl⟩ := lp
  apply fn_ret (df := d21) rfl rfl
  · apply xs_ifF
    · walk_at "fw ev"
    · rfl
    · apply xs_nx
      · apply x_fr
        · exact sq_enm (v_var rfl) rfl
        · exact e1
      · apply xs_ret
        apply x_ret
        walk_at "fw ev"
theorem e_check_flashes (F : Fl k ts) (hk : k ≤ 4000) : Rn (n + 7) 29 [row ts] p = some (.non, p) := by
  have h1 := e_wrong_in_flashes (n := n) (p := p) F hk
  apply fn_nx (df := d29) rfl rfl
  apply xs_frNil
  · exact sq_it (v_calld (vs_cons (v_var rfl) vs_nil) h1) rfl
  · exact xs_nil
end
end FWL
namespace FWL
open PySem FW
/-! P5: sights of a motion, steps of rates. -/
section
variable {n k l j : Nat} {p : Pl} {q r t : Rat} {ts : List Rat}
theorem e_angle (h : Sz k q) (h2 : Sz l r) (h3 : Sz j t) (hk : k + l + j ≤ 8000) : Rn (n + 3) 44 [.tup [fr q, fr r], fr t] p = some (fr (q + r * t), p) := by
  have a1 := e_times (n := n) (p := p) h2 h3 (by omega)
  have a2 := e_plus (n := n) (p := p) h (h2.mul h3) (by omega)
  apply fn_ret (df := d44) rfl rfl
  apply xs_ret
  apply x_ret
  walk_at "fw ev"
theorem ord_sz {o : Nat} (h : 1 ≤ o) (ho : o ≤ 24) : Sz 6 (1 / (o : Rat)) ∧ (1 / (o : Rat)) ≠ 0 := by
  have hne : (o : Int) ≠ 0 := by omega
  have hb : Bd 5 (o : Int) := by unfold Bd; rw [Int.natAbs_natCast]; omega
  have e : 1 / (o : Rat) = Rat.divInt 1 o := by rw [Rat.divInt_eq_div, Rat.intCast_one, Rat.intCast_natCast]
  refine ⟨by rw [e]; exact (sz_div hne (show Bd 5 1 from by unfold Bd; decide) hb (Nat.le_refl _)).mono (by decide), ?_⟩
  have h1 : (o : Rat) ≠ 0 := by
    intro h
    have := Rat.natCast_eq_zero_iff.mp h
    omega
  intro h0
  have := Rat.div_mul_cancel (a := 1) h1
  rw [h0, Rat.zero_mul] at this
  exact absurd this (by decide)
theorem e_one_over {o : Nat} (h : 1 ≤ o) (ho : o ≤ 24) : Rn (n + 1) 0 [.int 1, .int o] p = some (fr (1 / (o : Rat)), p) := by
  have hne : (o : Int) ≠ 0 := by omega
  have hb : Bd 5 (o : Int) := by unfold Bd; rw [Int.natAbs_natCast]; omega
  have h2 := e_plain_of (n := n) (p := p) (a := 1) hne hb (by decide)
  rwa [Rat.divInt_eq_div, Rat.intCast_one, Rat.intCast_natCast] at h2
theorem e_sight_of_angle {o : Nat} (h : 1 ≤ o) (ho : o ≤ 24) (hq : Sz k q) (hk : k ≤ 1900) : Rn (n + 5) 45 [.int o, fr q] p = some (fr (rem q (1 / (o : Rat))), p) := by
  obtain ⟨z, hz⟩ := ord_sz h ho
  have a1 := e_one_over (n := n + 3) (p := p) h ho
  have a2 := e_remainder (n := n) (p := p) hq z (by omega) hz
  apply fn_ret (df := d45) rfl rfl
  apply xs_ret
  apply x_ret
  walk_at "fw ev"
theorem e_sight_by {o : Nat} (h : 1 ≤ o) (ho : o ≤ 24) (h1 : Sz k q) (h2 : Sz l r) (h3 : Sz j t) (hk : k + l + j ≤ 1800) : Rn (n + 6) 46 [.int o, .tup [fr q, fr r], fr t] p = some (fr (rem (q + r * t) (1 / (o : Rat))), p) := by
  have a1 := e_angle (n := n + 2) (p := p) h1 h2 h3 (by omega)
  have a2 := e_sight_of_angle (n := n) (p := p) h ho (h1.add (h2.mul h3)) (by omega)
  apply fn_ret (df := d46) rfl rfl
  apply xs_ret
  apply x_ret
  walk_at "fw ev"
def sights (o : Nat) (q r : Rat) (ts : List Rat) : List Rat := ts.map fun t => rem (q + r * t) (1 / (o : Rat))
theorem e_sights_by {o : Nat} (h : 1 ≤ o) (ho : o ≤ 24) (h1 : Sz k q) (h2 : Sz l r) (h3 : ∀ t ∈ ts, Sz j t) (hk : k + l + j ≤ 1800) (hl : ts.length ≤ 1000) : Rn (n + 7) 47 [.int o, .tup [fr q, fr r], row ts] p = some (row (sights o q r ts), p) := by
  have e : (sights o q r ts).map fr = ts.map fun t => fr (rem (q + r * t) (1 / (o : Rat))) := by unfold sights; rw [List.map_map]; rfl
  show Rn (n + 7) 47 [.int o, .tup [fr q, fr r], row ts] p = some (D.tup ((sights o q r ts).map fr), p)
  rw [e]
  apply fn_ret (df := d47) rfl rfl
  apply xs_ret
  apply x_ret
  with_reducible apply o_of
  · with_reducible apply v_bi
    · with_reducible apply os_cons
      · with_reducible apply o_of
        · apply lc_row (gi := fr) (go := fun t => fr (rem (q + r * t) (1 / (o : Rat)))) (L := ts)
          · exact sr_it (o_var rfl) rfl
          · omega
          · intro t ht
            have a := e_sight_by (n := n) (p := p) h ho h1 h2 (h3 t ht) hk
            refine ⟨[.dat (.int o), .dat (.tup [fr q, fr r]), .dat (row ts), .dat (fr t)], rfl, ?_⟩
            exact v_callR (vs_cons (v_var rfl) (vs_cons (v_var rfl) (vs_cons (v_var rfl) vs_nil))) a
        · exact fun _ h => PX.noConfusion h
      · with_reducible exact os_nil
    · exact rfl
  · exact fun _ h => PX.noConfusion h
end
end FWL
namespace FWL
open PySem FW
/-! P6: steps of rates. -/
/-- the measure of the flashes' distances -/
def fm (ts : List Rat) : Rat := match ts with
  | [] => 0
  | t :: r => meas 0 (r.map fun x => x - t)
section
variable {n k l j : Nat} {p : Pl} {q r t : Rat} {ts : List Rat}
theorem meas_sz : ∀ (L : List Rat) (f : Rat) (j : Nat), Sz j f → (∀ x ∈ L, Sz k x) → Sz (j + k * L.length) (meas f L)
  | [], f, j, hf, _ => hf
  | x :: L, f, j, hf, hL => by
    have := meas_sz L (rg f x) (j + k) (rg_sz hf (hL x (List.mem_cons_self ..))) (fun y hy => hL y (List.mem_cons_of_mem _ hy))
    exact this.mono (by rw [List.length_cons, Nat.mul_succ]; omega)
theorem fm_sz (F : Fl k ts) : Sz (1 + (2 * k + 1) * 12) (fm ts) := by
  match ts, F with
  | t :: rs, F =>
    have h2 := F.l2
    rw [List.length_cons] at h2
    have := meas_sz (k := 2 * k + 1) (rs.map fun x => x - t) 0 1 sz_zero (fun y hy => by
      obtain ⟨x, hx, rfl⟩ := List.mem_map.mp hy
      exact ((F.sz x (List.mem_cons_of_mem _ hx)).sub (F.sz t (List.mem_cons_self ..))).mono (by omega))
    rw [List.length_map] at this
    exact this.mono (Nat.add_le_add_left (Nat.mul_le_mul_left _ (by omega)) _)
theorem e_flash_measure (F : Fl k ts) (hk : k ≤ 200) : Rn (n + 4) 48 [row ts] p = some (fr (fm ts), p) := by
  match ts, F with
  | t :: rs, F =>
    have h2 := F.l2
    rw [List.length_cons] at h2
    have hs : ∀ y ∈ rs.map (fun x => x - t), Sz (2 * k + 1) y := fun y hy => by
      obtain ⟨x, hx, rfl⟩ := List.mem_map.mp hy
      exact ((F.sz x (List.mem_cons_of_mem _ hx)).sub (F.sz t (List.mem_cons_self ..))).mono (by omega)
    have e : (rs.map fun x => x - t).map fr = rs.map fun x => fr (x - t) := by rw [List.map_map]; rfl
    have hb : (2 * k + 1) * rs.length ≤ 401 * 12 := Nat.mul_le_mul (by omega) (by omega)
    have a1 : Rn (n + 3) 33 [.lst ((rs.map fun x => x - t).map fr)] p = some (fr (meas 0 (rs.map fun x => x - t)), p) := e_measure_by (n := n) rfl hs (by rw [List.length_map]; omega)
    rw [e] at a1
    apply fn_ret (df := d48) rfl rfl
    apply xs_ret
    apply x_ret
    with_reducible apply o_of
    · with_reducible apply v_callR
      · with_reducible apply vs_cons
        · apply lc_row (gi := fr) (go := fun x => fr (x - t)) (L := rs)
          · apply sr_it
            · apply o_of
              · exact v_sl (o_var rfl) v_con rfl v_abs rfl rfl
              · exact fun _ h => PX.noConfusion h
            · show some (cutD (fr t :: rs.map fr) (some 1) none) = _
              rw [cut_tail]
          · omega
          · intro x hx
            have a := e_minus (n := n) (p := p) (F.sz x (List.mem_cons_of_mem _ hx)) (F.sz t (List.mem_cons_self ..)) (by omega)
            refine ⟨[.dat (row (t :: rs)), .dat (fr x)], rfl, ?_⟩
            exact v_callR (vs_cons (v_var rfl) (vs_cons (v_ix (o_var rfl) v_con ix0) vs_nil)) a
        · with_reducible exact vs_nil
      · exact a1
    · exact fun _ h => PX.noConfusion h
theorem e_rate_step_by {o : Nat} (h : 1 ≤ o) (ho : o ≤ 24) (F : Fl k ts) (hk : k ≤ 100) (h0 : fm ts ≠ 0) : Rn (n + 5) 49 [.int o, row ts] p = some (fr (1 / ((o : Rat) * fm ts)), p) := by
  have zo : Sz 5 (o : Rat) := by
    rw [← Rat.intCast_natCast]
    exact sz_int (by unfold Bd; rw [Int.natAbs_natCast]; omega) (by omega)
  have hz : (o : Rat) * fm ts ≠ 0 := by
    intro e
    rcases Rat.mul_eq_zero.mp e with e | e
    · have := Rat.natCast_eq_zero_iff.mp e; omega
    · exact h0 e
  have a1 := e_flash_measure (n := n) (p := p) F (by omega)
  have a2 := e_whole (n := n + 3) (p := p) (a := (o : Int))
  rw [Rat.intCast_natCast] at a2
  have a3 := e_times (n := n + 2) (p := p) zo (fm_sz F) (by omega)
  have a4 := e_over (n := n + 2) (p := p) sz_one (zo.mul (fm_sz F)) (by omega) hz
  rw [fr_one] at a4
  apply fn_ret (df := d49) rfl rfl
  apply xs_nx
  · apply x_asg
    · walk_at "fw ev"
    · exact rfl
  · apply xs_ret
    apply x_ret
    apply o_of
    · apply v_iteT
      · exact v_cmp (o_var rfl) (o_of (v_glo rfl) (fun _ h => PX.noConfusion h)) (cmp_ne0 _)
      · exact congrArg some (by rw [decide_eq_false hz]; rfl)
      · walk_at "fw ev"
    · exact fun _ h => PX.noConfusion h
end
end FWL
namespace FWL
open PySem FW
/-! P7: rates, tellings. -/
section
variable {n k l j i : Nat} {p : Pl} {q r t a b : Rat} {ts : List Rat} {o : Nat}
/-- a rate's step -/
def stp (o : Nat) (ts : List Rat) : Rat := 1 / ((o : Rat) * fm ts)
theorem ord_pos (h : 1 ≤ o) : (0 : Rat) < o := Rat.natCast_pos.mpr (by omega)
theorem fm_pos (F : Fl k ts) (h0 : fm ts ≠ 0) : 0 < fm ts := by
  refine pos_of ?_ h0
  match ts, F with
  | t :: rs, F => exact meas_nn (by decide)
theorem stp_pos (h : 1 ≤ o) (F : Fl k ts) (h0 : fm ts ≠ 0) : 0 < stp o ts := by
  unfold stp
  rw [Rat.div_def, Rat.one_mul]
  exact Rat.inv_pos.mpr (Rat.mul_pos (ord_pos h) (fm_pos F h0))
theorem stp_sz (h : 1 ≤ o) (ho : o ≤ 24) (F : Fl k ts) (h0 : fm ts ≠ 0) : Sz (7 + (2 * k + 1) * 12) (stp o ts) := by
  have zo : Sz 5 (o : Rat) := by
    rw [← Rat.intCast_natCast]
    exact sz_int (by unfold Bd; rw [Int.natAbs_natCast]; omega) (by omega)
  exact (sz_one.div (zo.mul (fm_sz F)) (Rat.ne_of_gt (Rat.mul_pos (ord_pos h) (fm_pos F h0)))).mono (by omega)
theorem e_check_lit (h : 1 ≤ o) (ho : o ≤ 24) (F : Fl k ts) (hk : k ≤ 4000) : Rn (n + 8) 69 [.int o, row ts] p = some (.non, p) := by
  have a1 := e_check_order (n := n + 3) (p := p) h ho
  have a2 := e_check_flashes (n := n) (p := p) F hk
  apply fn_nx (df := d69) rfl rfl
  apply xs_exp
  · walk_at "fw ev"
  · apply xs_exp
    · walk_at "fw ev"
    · exact xs_nil
theorem e_rate_step (h : 1 ≤ o) (ho : o ≤ 24) (F : Fl k ts) (hk : k ≤ 100) (h0 : fm ts ≠ 0) : Rn (n + 9) 70 [.int o, row ts] p = some (fr (stp o ts), p) := by
  have a1 := e_check_lit (n := n) (p := p) h ho F (by omega)
  have a2 : Rn (n + 8) 49 [.int o, row ts] p = some (fr (stp o ts), p) := e_rate_step_by (n := n + 3) (p := p) h ho F hk h0
  apply fn_ret (df := d70) rfl rfl
  apply xs_exp
  · walk_at "fw ev"
  · apply xs_ret
    apply x_ret
    walk_at "fw ev"
theorem e_are_alike_by (h : 1 ≤ o) (ho : o ≤ 24) (F : Fl k ts) (hk : k ≤ 100) (h0 : fm ts ≠ 0) (hq : Sz j q) (hr : Sz i r) (hj : j + i ≤ 5000) : Rn (n + 6) 51 [.int o, row ts, fr q, fr r] p = some (.bl (decide (((q - r) / stp o ts).den = 1)), p) := by
  have hs0 := Rat.ne_of_gt (stp_pos h F h0)
  have a1 : Rn (n + 5) 49 [.int o, row ts] p = some (fr (stp o ts), p) := e_rate_step_by (n := n) (p := p) h ho F hk h0
  have a2 := e_minus (n := n + 2) (p := p) hq hr (by omega)
  have a3 := e_is_multiple (n := n + 2) (p := p) (hq.sub hr) (stp_sz h ho F h0) (by omega) hs0
  apply fn_ret (df := d51) rfl rfl
  apply xs_nx
  · apply x_asg
    · walk_at "fw ev"
    · exact rfl
  · apply xs_ret
    apply x_ret
    apply o_of
    · apply v_orF
      · exact v_cmp (o_var rfl) (o_of (v_glo rfl) (fun _ h => PX.noConfusion h)) (cmp_eq0 _)
      · exact congrArg some (decide_eq_false hs0)
      · walk_at "fw ev"
    · exact fun _ h => PX.noConfusion h
theorem e_are_alike (h : 1 ≤ o) (ho : o ≤ 24) (F : Fl k ts) (hk : k ≤ 100) (h0 : fm ts ≠ 0) (hq : Sz j q) (hr : Sz i r) (hj : j + i ≤ 5000) : Rn (n + 9) 71 [.int o, row ts, fr q, fr r] p = some (.bl (decide (((q - r) / stp o ts).den = 1)), p) := by
  have a1 := e_check_lit (n := n) (p := p) h ho F (by omega)
  have a2 := e_check_fraction (n := n + 3) (p := p) (q := q)
  have a3 := e_check_fraction (n := n + 3) (p := p) (q := r)
  have a4 := e_are_alike_by (n := n + 2) (p := p) h ho F hk h0 hq hr hj
  apply fn_ret (df := d71) rfl rfl
  apply xs_exp
  · walk_at "fw ev"
  · apply xs_exp
    · walk_at "fw ev"
    · apply xs_exp
      · walk_at "fw ev"
      · apply xs_ret
        apply x_ret
        walk_at "fw ev"
end
end FWL
namespace FWL
open PySem FW
/-! P8: sights alike; spans told; the common multiple. -/
section
variable {n k l j i : Nat} {p : Pl} {q r t a b : Rat} {ts : List Rat} {o : Nat}
theorem e_look_same (h : 1 ≤ o) (ho : o ≤ 24) (F : Fl k ts) (h1 : Sz l q) (h2 : Sz l r) (h3 : Sz l a) (h4 : Sz l b) (hk : k + l + l ≤ 1800) : Rn (n + 8) 63 [.int o, .tup [fr q, fr r], .tup [fr a, fr b], row ts] p = some (.bl (decide (sights o q r ts = sights o a b ts)), p) := by
  have a1 := e_check_order (n := n + 3) (p := p) h ho
  have a2 := e_check_motion (n := n + 1) (p := p) (q := q) (r := r)
  have a3 := e_check_motion (n := n + 1) (p := p) (q := a) (r := b)
  have a4 := e_check_flashes (n := n) (p := p) F (by omega)
  have a5 := e_sights_by (n := n) (p := p) h ho h1 h2 F.sz (by omega) (by have := F.l2; omega)
  have a6 := e_sights_by (n := n) (p := p) h ho h3 h4 F.sz (by omega) (by have := F.l2; omega)
  apply fn_ret (df := d63) rfl rfl
  apply xs_exp
  · walk_at "fw ev"
  · apply xs_exp
    · walk_at "fw ev"
    · apply xs_exp
      · walk_at "fw ev"
      · apply xs_exp
        · walk_at "fw ev"
        · apply xs_ret
          apply x_ret
          apply o_of
          · apply v_cmp (x := row (sights o q r ts)) (y := row (sights o a b ts)) (p1 := p)
            · walk_at "fw ev"
            · walk_at "fw ev"
            · exact cmp_row _ _
          · exact fun _ h => PX.noConfusion h
theorem e_check_spanned (h : 1 ≤ o) (ho : o ≤ 24) (F : Fl k ts) (hk : k ≤ 100) (h1 : Sz l q) (h2 : Sz l r) (hl : l ≤ 3000) (hqr : q ≤ r) : Rn (n + 9) 67 [.int o, row ts, .tup [fr q, fr r]] p = some (.non, p) := by
  have a1 := e_check_order (n := n + 4) (p := p) h ho
  have a2 := e_check_flashes (n := n + 1) (p := p) F (by omega)
  have a3 := e_check_span (n := n) (p := p) h1 h2 (by omega) hqr
  apply fn_nx (df := d67) rfl rfl
  apply xs_exp
  · walk_at "fw ev"
  · apply xs_exp
    · walk_at "fw ev"
    · apply xs_exp
      · walk_at "fw ev"
      · exact xs_nil
theorem e_do_tell_by (h : 1 ≤ o) (ho : o ≤ 24) (F : Fl k ts) (hk : k ≤ 100) (h0 : fm ts ≠ 0) (h1 : Sz l q) (h2 : Sz l r) (hl : l ≤ 2000) (hqr : q ≠ r) : Rn (n + 6) 66 [.int o, row ts, .tup [fr q, fr r]] p = some (.bl (decide (r - q < stp o ts)), p) := by
  have hs0 := Rat.ne_of_gt (stp_pos h F h0)
  have a1 : Rn (n + 5) 49 [.int o, row ts] p = some (fr (stp o ts), p) := e_rate_step_by (n := n) (p := p) h ho F hk h0
  have a2 := e_minus (n := n + 2) (p := p) h2 h1 (by omega)
  have a3 := e_is_less (n := n + 4) (p := p) (h2.sub h1) (stp_sz h ho F h0) (by omega)
  apply fn_ret (df := d66) rfl rfl
  apply xs_nx
  · apply x_asg
    · exact v_var rfl
    · exact rfl
  · apply xs_nx
    · apply x_asg
      · walk_at "fw ev"
      · exact rfl
    · apply xs_ret
      apply x_ret
      apply o_of
      · apply v_orF
        · exact v_cmp (o_var rfl) (o_var rfl) (cmp_eq _ _)
        · exact congrArg some (decide_eq_false hqr)
        · apply v_andT
          · exact v_cmp (o_var rfl) (o_of (v_glo rfl) (fun _ h => PX.noConfusion h)) (cmp_ne0 _)
          · exact congrArg some (by rw [decide_eq_false hs0]; rfl)
          · walk_at "fw ev"
      · exact fun _ h => PX.noConfusion h
theorem e_do_tell (h : 1 ≤ o) (ho : o ≤ 24) (F : Fl k ts) (hk : k ≤ 100) (h0 : fm ts ≠ 0) (h1 : Sz l q) (h2 : Sz l r) (hl : l ≤ 2000) (hqr : q < r) : Rn (n + 10) 68 [.int o, row ts, .tup [fr q, fr r]] p = some (.bl (decide (r - q < stp o ts)), p) := by
  have a1 := e_check_spanned (n := n) (p := p) h ho F hk h1 h2 (by omega) (Rat.le_of_lt hqr)
  have a2 := e_do_tell_by (n := n + 3) (p := p) h ho F hk h0 h1 h2 hl (Rat.ne_of_lt hqr)
  apply fn_ret (df := d68) rfl rfl
  apply xs_exp
  · walk_at "fw ev"
  · apply xs_ret
    apply x_ret
    walk_at "fw ev"
theorem e_check_periods {L : List Rat} (h1 : 1 ≤ L.length) (h2 : L.length ≤ 40) (hp : ∀ x ∈ L, 0 < x) : Rn (n + 6) 64 [row L, .int 1, .fn 18] p = some (.non, p) := by
  have h0 := e_up_to (n := n + 4) (p := p) (ds := L.map fr) (a := 1) (b := 40)
  rw [List.length_map, decide_eq_true (show (1 : Int) ≤ L.length by omega), decide_eq_true (show (L.length : Int) ≤ 40 by omega)] at h0
  have lp := for_inv (p := p) (fb := fun d ρ p => (bindT (.cons (.nm 3) (.cons (.nm 4) .nil)) d ρ p).bind fun r => exs (Cn (n + 5)) (.cons (.ifs (.not (.callv 2 (.cons (.var 4) .nil))) (.cons .bot .nil) .nil) .nil) r.1 r.2)
    (Inv := fun ρ => ∃ a b, ρ = [.dat (row L), .dat (.int 1), .dat (.fn 18), a, b]) (ds := enumF 0 (L.map fr)) (ρ := [.dat (row L), .dat (.int 1), .dat (.fn 18), .no, .no]) ⟨_, _, rfl⟩ (fun d hd ρ hρ => by
      obtain ⟨a, b, rfl⟩ := hρ
      obtain ⟨i, t, hi, rfl⟩ := enum_mem hd
      refine ⟨[.dat (row L), .dat (.int 1), .dat (.fn 18), .dat (.int (i : Nat)), .dat (fr t)], ?_, _, _, rfl⟩
      refine body_nx (ρ' := [.dat (row L), .dat (.int 1), .dat (.fn 18), .dat (.int (i : Nat)), .dat (fr t)]) (p1 := p) rfl ?_
      have a1 := e_is_period (n := n) (p := p) (hp t (List.mem_of_getElem? hi))
      have hn : ev (Cn (n + 5)) (.not (.callv 2 (.cons (.var 4) .nil))) [.dat (row L), .dat (.int 1), .dat (.fn 18), .dat (.int (i : Nat)), .dat (fr t)] p = some (.bl false, p) := v_notT (v_callvR rfl (vs_cons (v_var rfl) vs_nil) a1) rfl
      exact xs_ifF hn rfl xs_nil)
  obtain ⟨ρ', e1, a, b, rfl⟩ := lp
  apply fn_nx (df := d64) rfl rfl
  · apply xs_ifF
    · walk_at "fw ev"
    · rfl
    · apply xs_nx
      · apply x_fr
        · exact sq_enm (v_var rfl) rfl
        · exact e1
      · exact xs_nil
theorem e_common_multiple {L : List Rat} (h1 : 1 ≤ L.length) (h2 : L.length ≤ 40) (hp : ∀ x ∈ L, 0 < x) (hL : ∀ x ∈ L, Sz k x) (hk : 10 + (k + 1) * L.length ≤ 7000) (hk2 : k ≤ 7000) (hm : meas 0 (L.map fun x => 1 / x) ≠ 0) : Rn (n + 7) 65 [row L] p = some (fr (1 / meas 0 (L.map fun x => 1 / x)), p) := by
  have a1 := e_check_periods (n := n) (p := p) h1 h2 hp
  have a2 := e_multiple_by (n := n + 2) (p := p) (X := row L) rfl hL (fun x hx => Rat.ne_of_gt (hp x hx)) hk (by omega) hm hk2
  apply fn_ret (df := d65) rfl rfl
  apply xs_exp
  · walk_at "fw ev"
  · apply xs_ret
    apply x_ret
    walk_at "fw ev"
end
end FWL
namespace FWL
open PySem FW
/-! P9: rounds, the Euclid of made ones. -/
/-- a round: two fractions; a made one: two fractions and counts -/
def rnd (x : Rat × Rat) : D := .tup [fr x.1, fr x.2]
structure Mk where
  one : Rat
  two : Rat
  cs : List Int
def mk (m : Mk) : D := .tup [fr m.one, fr m.two, .lst (m.cs.map D.int)]
section
variable {n k l j i : Nat} {p : Pl} {q r t a b : Rat}
theorem e_step_by {L : List (Rat × Rat)} (hL : ∀ x ∈ L, Sz k x.1) (hk : 10 + k * L.length ≤ 7000) (hl : L.length ≤ 1000) (hm : meas 0 (L.map (·.1)) ≠ 0) : Rn (n + 4) 36 [.tup (L.map rnd)] p = some (fr (1 / meas 0 (L.map (·.1))), p) := by
  have hs : ∀ y ∈ L.map (·.1), Sz k y := fun y hy => by
    obtain ⟨x, hx, rfl⟩ := List.mem_map.mp hy
    exact hL x hx
  have e : (L.map (·.1)).map fr = L.map fun x => fr x.1 := by rw [List.map_map]; rfl
  have a1 : Rn (n + 3) 33 [.lst ((L.map (·.1)).map fr)] p = some (fr (meas 0 (L.map (·.1))), p) := e_measure_by (n := n) rfl hs (by rw [List.length_map]; omega)
  rw [e] at a1
  have zm := meas_sz (k := k) (L.map (·.1)) 0 1 sz_zero hs
  rw [List.length_map] at zm
  have a2 := e_over (n := n + 1) (p := p) sz_one zm (by omega) hm
  rw [fr_one] at a2
  apply fn_ret (df := d36) rfl rfl
  apply xs_nx
  · apply x_asg
    · with_reducible apply v_callR
      · with_reducible apply vs_cons
        · apply lc_row (gi := rnd) (go := fun x => fr x.1) (L := L)
          · exact sr_it (o_var rfl) rfl
          · omega
          · intro x hx
            exact ⟨[.dat (.tup (L.map rnd)), .no, .dat (fr x.1), .dat (fr x.2)], rfl, v_var rfl⟩
        · with_reducible exact vs_nil
      · exact a1
    · exact rfl
  · apply xs_ret
    apply x_ret
    apply o_of
    · apply v_iteT
      · exact v_cmp (o_var rfl) (o_of (v_glo rfl) (fun _ h => PX.noConfusion h)) (cmp_ne0 _)
      · exact congrArg some (by rw [decide_eq_false hm]; rfl)
      · walk_at "fw ev"
    · exact fun _ h => PX.noConfusion h
def unitc (m i : Nat) : List Int := (List.range m).map fun a => if a = i then 1 else 0
theorem e_first_made {L : List (Rat × Rat)} {x : Rat × Rat} (hx : L[i]? = some x) (hl : L.length < 1000000) : Rn (n + 1) 37 [.tup (L.map rnd), .int (i : Nat)] p = some (mk ⟨x.1, x.2, unitc L.length i⟩, p) := by
  have hg : (L.map rnd)[i]? = some (rnd x) := by rw [List.getElem?_map, hx]; rfl
  have e : (unitc L.length i).map D.int = (List.range L.length).map fun a => D.int (if a = i then 1 else 0) := by unfold unitc; rw [List.map_map]; rfl
  have e2 : rangeD 0 (L.map rnd).length = (List.range L.length).map fun a => D.int (a : Nat) := by
    unfold rangeD
    rw [List.length_map]
    exact List.map_congr_left fun a _ => by rw [Int.zero_add]
  unfold mk
  show _ = some (D.tup [fr x.1, fr x.2, .lst ((unitc L.length i).map D.int)], p)
  rw [e]
  apply fn_ret (df := d37) rfl rfl
  apply xs_nx
  · apply x_asg
    · exact v_ix (o_var rfl) (v_var rfl) (ix_tup hg)
    · exact rfl
  · apply xs_ret
    apply x_ret
    apply o_of
    · apply v_tup
      · apply vs_cons
        · exact v_var rfl
        · apply vs_cons
          · exact v_var rfl
          · apply vs_cons
            · apply lc_row (gi := fun a : Nat => D.int (a : Nat)) (go := fun a => D.int (if a = i then 1 else 0)) (L := List.range L.length)
              · rw [← e2]
                exact sr_rng1 (v_bi (os_cons (o_var rfl) os_nil) rfl) (by rw [List.length_map]; exact hl)
              · rw [List.length_range]; omega
              · intro a ha
                refine ⟨[.dat (.tup (L.map rnd)), .dat (.int (i : Nat)), .dat (fr x.1), .dat (fr x.2), .dat (.int (a : Nat))], rfl, ?_⟩
                have hb : biD .int [.bl (((a : Nat) : Int) == ((i : Nat) : Int))] = some (.int (if a = i then 1 else 0)) := by
                  by_cases h : a = i
                  · subst h
                    rw [if_pos rfl, show (((a : Nat) : Int) == (a : Nat)) = true from by simp]; rfl
                  · rw [if_neg h, show (((a : Nat) : Int) == (i : Nat)) = false from beq_eq_false_iff_ne.mpr (by omega)]; rfl
                exact v_bi (os_cons (o_of (v_cmp (o_var rfl) (o_var rfl) rfl) (fun _ h => PX.noConfusion h)) os_nil) hb
            · exact vs_nil
      · exact of_decide_eq_true rfl
    · exact fun _ h => PX.noConfusion h
def lessC (a : List Int) (z : Int) (b : List Int) : List Int := (List.zip a b).map fun x => x.1 - z * x.2
def lessM (m : Mk) (z : Int) (o : Mk) : Mk := ⟨m.one + ((-z : Int) : Rat) * o.one, m.two + ((-z : Int) : Rat) * o.two, lessC m.cs z o.cs⟩
theorem pairs_int : ∀ a b : List Int, pairs (a.map D.int) (b.map D.int) = (List.zip a b).map fun x => D.tup [.int x.1, .int x.2]
  | [], _ => by cases ‹List Int› <;> rfl
  | _ :: _, [] => rfl
  | x :: a, y :: b => by
    show D.tup [.int x, .int y] :: pairs (a.map D.int) (b.map D.int) = _
    rw [pairs_int a b]; rfl
/-- numerator and denominator apart -/
def S2 (a d : Nat) (q : Rat) : Prop := Bd a q.num ∧ Bd d (q.den : Int)
theorem S2.mono {a d a' d' : Nat} (h : S2 a d q) (ha : a ≤ a') (hd : d ≤ d') : S2 a' d' q := ⟨h.1.mono ha, h.2.mono hd⟩
theorem S2.mul {a d a' d' : Nat} (h : S2 a d q) (h2 : S2 a' d' r) : S2 (a + a') (d + d') (q * r) := by
  rw [← mul_div]
  have hne := Int.mul_ne_zero (den_ne q) (den_ne r)
  refine ⟨?_, ?_⟩
  · unfold Bd
    rw [Rat.num_divInt]
    refine Nat.lt_of_le_of_lt (Nat.le_trans (Int.natAbs_ediv_le_natAbs _ _) ?_) (h.1.mul h2.1)
    rw [Int.natAbs_mul, Int.natAbs_sign_of_ne_zero hne, Nat.one_mul]
    exact Nat.le_refl _
  · unfold Bd
    rw [Rat.den_divInt, if_neg hne, Int.natAbs_natCast]
    exact Nat.lt_of_le_of_lt (Nat.div_le_self _ _) (h.2.mul h2.2)
theorem e_plus2 {a d a' d' : Nat} (h : S2 a d q) (h2 : S2 a' d' r) (ha : a + d' ≤ 100000000) (ha' : a' + d ≤ 100000000) (hd : d + d' ≤ 8000) : Rn (n + 2) 2 [fr q, fr r] p = some (fr (q + r), p) := by
  obtain ⟨a1, a2⟩ := h
  obtain ⟨b1, b2⟩ := h2
  have h1 := e_plain_of (n := n) (p := p) (a := q.num * r.den + r.num * q.den) (Int.mul_ne_zero (den_ne q) (den_ne r)) (a2.mul b2) (by omega)
  rw [add_div] at h1
  apply fn_ret (df := d2) rfl rfl
  apply xs_ret
  apply x_ret
  walk_at "fw ev"
theorem e_times2 {a d a' d' : Nat} (h : S2 a d q) (h2 : S2 a' d' r) (ha : a + a' ≤ 100000000) (hd : d + d' ≤ 8000) : Rn (n + 2) 5 [fr q, fr r] p = some (fr (q * r), p) := by
  obtain ⟨a1, a2⟩ := h
  obtain ⟨b1, b2⟩ := h2
  have h1 := e_plain_of (n := n) (p := p) (a := q.num * r.num) (Int.mul_ne_zero (den_ne q) (den_ne r)) (a2.mul b2) (by omega)
  rw [mul_div] at h1
  apply fn_ret (df := d5) rfl rfl
  apply xs_ret
  apply x_ret
  walk_at "fw ev"
theorem s2_int {u : Nat} {z : Int} (h : Bd u z) : S2 u 1 (z : Rat) := by
  unfold S2
  rw [Rat.num_intCast, Rat.den_intCast]
  exact ⟨h, by unfold Bd; decide⟩
theorem e_less_made {m o : Mk} {z : Int} (h1 : Sz k m.one) {dl di : Nat} (h2 : S2 l dl m.two) (h3 : Sz j o.one) (h4 : S2 i di o.two) {u v : Nat} (hz : Bd u z) (hc : ∀ c ∈ o.cs, Bd v c) (huv : u + v ≤ 100000000) (hu : 1 ≤ u) (hk1 : k + u + j ≤ 7000) (hk2 : l + u + i + dl + di ≤ 90000000) (hk3 : dl + di ≤ 7000) (hl : m.cs.length ≤ 1000) :
    Rn (n + 3) 38 [mk m, .int z, mk o] p = some (mk (lessM m z o), p) := by
  have zz : Sz u ((-z : Int) : Rat) := sz_int hz.neg hu
  have a0 := e_whole (n := n + 1) (p := p) (a := -z)
  have a1 := e_times (n := n) (p := p) zz h3 (by omega)
  have a2 := e_times2 (n := n) (p := p) (s2_int hz.neg) h4 (by omega) (by omega)
  have a3 := e_plus (n := n) (p := p) h1 (zz.mul h3) (by omega)
  have a4 := e_plus2 (n := n) (p := p) h2 ((s2_int hz.neg).mul h4) (by omega) (by omega) (by omega)
  have e : (lessC m.cs z o.cs).map D.int = (List.zip m.cs o.cs).map fun x => D.int (x.1 - z * x.2) := by unfold lessC; rw [List.map_map]; rfl
  show Rn (n + 3) 38 [mk m, .int z, mk o] p = some (D.tup [fr (m.one + ((-z : Int) : Rat) * o.one), fr (m.two + ((-z : Int) : Rat) * o.two), .lst ((lessC m.cs z o.cs).map D.int)], p)
  rw [e]
  apply fn_ret (df := d38) rfl rfl
  apply xs_nx
  · apply x_asg
    · walk_at "fw ev"
    · exact rfl
  · apply xs_nx
    · apply x_asg
      · apply lc_row (gi := fun x : Int × Int => D.tup [.int x.1, .int x.2]) (go := fun x => D.int (x.1 - z * x.2)) (L := List.zip m.cs o.cs)
        · rw [← pairs_int]
          exact sr_zip (o_of (v_ix (o_var rfl) v_con rfl) (fun _ h => PX.noConfusion h)) (o_of (v_ix (o_var rfl) v_con rfl) (fun _ h => PX.noConfusion h)) rfl rfl rfl
        · rw [List.length_zip]; omega
        · intro x hx
          have hb := hc x.2 (List.of_mem_zip hx).2
          refine ⟨[.dat (mk m), .dat (.int z), .dat (mk o), .dat (fr ((-z : Int) : Rat)), .no, .dat (.int x.1), .dat (.int x.2)], rfl, ?_⟩
          exact v_bin (v_var rfl) (v_bin (v_var rfl) (v_var rfl) (op_mul hz hb (by omega))) rfl
      · exact rfl
    · apply xs_ret
      apply x_ret
      walk_at "fw ev"
end
end FWL
namespace FWL
open PySem FW
/-! P10: the Euclid of two made ones. -/
theorem S2.add {a d a' d' : Nat} (e : Nat) {q r : Rat} (h : S2 a d q) (h2 : S2 a' d' r) (h3 : a + d' ≤ e) (h4 : a' + d ≤ e) : S2 (e + 1) (d + d') (q + r) := by
  rw [← add_div]
  have hne := Int.mul_ne_zero (den_ne q) (den_ne r)
  refine ⟨?_, ?_⟩
  · unfold Bd
    rw [Rat.num_divInt]
    refine Nat.lt_of_le_of_lt (Nat.le_trans (Int.natAbs_ediv_le_natAbs _ _) ?_) (((h.1.mul h2.2).mono h3).add ((h2.1.mul h.2).mono h4))
    rw [Int.natAbs_mul, Int.natAbs_sign_of_ne_zero hne, Nat.one_mul]
    exact Nat.le_refl _
  · unfold Bd
    rw [Rat.den_divInt, if_neg hne, Int.natAbs_natCast]
    exact Nat.lt_of_le_of_lt (Nat.div_le_self _ _) (h.2.mul h2.2)
theorem int_den {q : Rat} {D : Nat} (hD : D ≠ 0) (h : IsInt (q * (D : Rat))) : q.den ∣ D := by
  have e : q * (D : Rat) = Rat.divInt (q.num * D) q.den := by
    conv => lhs; rw [← Rat.num_divInt_den q]
    rw [← Rat.intCast_natCast, show (((D : Nat) : Int) : Rat) = Rat.divInt D 1 by rw [show (1 : Int) = ((1 : Nat) : Int) from rfl, Rat.divInt_ofNat, Rat.mkRat_one], Rat.divInt_mul_divInt, Int.mul_one]
  rw [e, isInt_div (den_ne q)] at h
  have h2 : q.den ∣ (q.num * (D : Int)).natAbs := Int.ofNat_dvd_left.mp h
  rw [Int.natAbs_mul, Int.natAbs_natCast] at h2
  exact Nat.Coprime.dvd_of_dvd_mul_left q.reduced.symm h2
/-- a made one, well within bounds -/
structure GM (D D2 tb cb : Nat) (m : Mk) : Prop where
  one : ∃ a : Int, m.one * (D : Rat) = a ∧ Bd 24 a
  two : IsInt (m.two * (D2 : Rat))
  tn : Bd tb m.two.num
  cs : ∀ c ∈ m.cs, Bd cb c
  len : m.cs.length ≤ 1000
theorem GM.mono {D D2 tb cb tb' cb' : Nat} {m : Mk} (g : GM D D2 tb cb m) (h : tb ≤ tb') (h2 : cb ≤ cb') : GM D D2 tb' cb' m := ⟨g.one, g.two, g.tn.mono h, fun c hc => (g.cs c hc).mono h2, g.len⟩
section
variable {D D2 tb cb : Nat} {m o : Mk}
theorem GM.sz (g : GM D D2 tb cb m) (hD : D ≠ 0) (hb : D < 2 ^ 24) : Sz 24 m.one := by
  obtain ⟨a, e, ha⟩ := g.one
  have hD' : (D : Rat) ≠ 0 := fun h => hD (Rat.natCast_eq_zero_iff.mp h)
  have : m.one = Rat.divInt a D := by
    rw [Rat.divInt_eq_div, ← e, Rat.intCast_natCast, Rat.mul_div_cancel hD']
  rw [this]
  exact sz_div (by omega) ha (bd_nat hb) (Nat.le_refl _)
theorem GM.s2 (g : GM D D2 tb cb m) (hD : D2 ≠ 0) (hb : D2 < 2 ^ 24) : S2 tb 24 m.two := by
  refine ⟨g.tn, ?_⟩
  have := Nat.le_of_dvd (by omega) (int_den hD g.two)
  exact bd_nat (Nat.lt_of_le_of_lt this hb)
/-- the remainder of one step -/
theorem floor_rem {a b z : Int} (hb : b ≠ 0) (hz : z = ((a : Rat) / (b : Rat)).floor) : (0 < b ∧ 0 ≤ a - z * b ∧ a - z * b < b) ∨ (b < 0 ∧ b < a - z * b ∧ a - z * b ≤ 0) := by
  have h1 := Rat.floor_le ((a : Rat) / (b : Rat))
  have h2 := Rat.lt_floor_add_one ((a : Rat) / (b : Rat))
  rw [← hz] at h1 h2
  have hb' : (b : Rat) ≠ 0 := fun h => hb (Rat.intCast_eq_zero_iff.mp h)
  have e : (a : Rat) / b * b = a := Rat.div_mul_cancel hb'
  rcases Int.lt_trichotomy 0 b with h | h | h
  · have hp : (0 : Rat) < b := Rat.intCast_pos.mpr h
    have g1 := Rat.mul_le_mul_of_nonneg_right h1 (Rat.le_of_lt hp)
    have g2 := Rat.mul_lt_mul_of_pos_right h2 hp
    rw [e, ← Rat.intCast_mul] at g1 g2
    have g1 := Rat.intCast_le_intCast.mp g1
    have g2 := Rat.intCast_lt_intCast.mp g2
    rw [Int.add_mul, Int.one_mul] at g2
    exact .inl ⟨h, by omega, by omega⟩
  · exact absurd h.symm hb
  · have hp : (0 : Rat) < ((-b : Int) : Rat) := Rat.intCast_pos.mpr (by omega)
    have g1 := Rat.mul_le_mul_of_nonneg_right h1 (Rat.le_of_lt hp)
    have g2 := Rat.mul_lt_mul_of_pos_right h2 hp
    rw [← Rat.intCast_mul, Rat.intCast_neg, Rat.mul_neg, e, ← Rat.intCast_neg] at g1 g2
    have g1 := Rat.intCast_le_intCast.mp g1
    have g2 := Rat.intCast_lt_intCast.mp g2
    rw [Int.mul_neg] at g1 g2
    rw [Int.add_mul, Int.one_mul] at g2
    exact .inr ⟨h, by omega, by omega⟩
theorem floor_bd {a b z : Int} (hb : b ≠ 0) (ha : Bd 24 a) (h : (0 < b ∧ 0 ≤ a - z * b ∧ a - z * b < b) ∨ (b < 0 ∧ b < a - z * b ∧ a - z * b ≤ 0)) : Bd 25 z := by
  unfold Bd at *
  have h1 : (z * b).natAbs < a.natAbs + b.natAbs + 1 := by omega
  rw [Int.natAbs_mul] at h1
  have hb' : 1 ≤ b.natAbs := by omega
  have h2 : z.natAbs ≤ a.natAbs + 1 := by
    rcases Nat.lt_or_ge (a.natAbs + 1) z.natAbs with q | q
    · have : (a.natAbs + 2) * b.natAbs ≤ z.natAbs * b.natAbs := Nat.mul_le_mul_right _ q
      have h3 : a.natAbs * 1 ≤ a.natAbs * b.natAbs := Nat.mul_le_mul_left _ hb'
      rw [Nat.add_mul] at this
      omega
    · exact q
  have : (2 : Nat) ^ 25 = 2 * 2 ^ 24 := by decide
  omega
theorem lessM_gm {z : Int} (gm : GM D D2 tb cb m) (go : GM D D2 tb cb o) (hD2 : D2 ≠ 0) (hb2 : D2 < 2 ^ 24) (hz : Bd 25 z) {a b : Int} (ha : m.one * (D : Rat) = a) (hb : o.one * (D : Rat) = b) (hr : Bd 24 (a - z * b)) :
    GM D D2 (tb + 50) (cb + 26) (lessM m z o) := by
  refine ⟨⟨a - z * b, ?_, hr⟩, ?_, ?_, fun c hc => ?_, ?_⟩
  · show (m.one + ((-z : Int) : Rat) * o.one) * (D : Rat) = _
    rw [Rat.add_mul, ha, Rat.mul_assoc, hb, Int.sub_eq_add_neg, Rat.intCast_add, ← Int.neg_mul, Rat.intCast_mul]
  · show IsInt ((m.two + ((-z : Int) : Rat) * o.two) * (D2 : Rat))
    rw [Rat.add_mul, Rat.mul_assoc]
    exact gm.two.add ((isInt_int _).mul go.two)
  · exact (S2.add (tb + 49) (gm.s2 hD2 hb2) ((s2_int hz.neg).mul (go.s2 hD2 hb2)) (by omega) (by omega)).1
  · obtain ⟨x, hx, rfl⟩ := List.mem_map.mp hc
    have h1 := gm.cs x.1 (List.of_mem_zip hx).1
    have h2 := (hz.mul (go.cs x.2 (List.of_mem_zip hx).2))
    exact (h1.mono (show cb ≤ 25 + cb by omega)).sub h2 |>.mono (by omega)
  · show (lessC m.cs z o.cs).length ≤ 1000
    unfold lessC
    rw [List.length_map, List.length_zip]
    have := gm.len
    omega
end
end FWL
namespace FWL
open PySem FW
/-! P11: put_together. -/
section
variable {n : Nat} {p : Pl} {D D2 tb cb : Nat} {m o : Mk}
abbrev ptT (n : Nat) : En → Pl → Option (Bool × Pl) := fun ρ p => (ev (Cn n) (.cmp .NotEq (.ix (.var 1) (.con (.int 0))) (.glo 0)) ρ p).bind fun x => (truD x.1).bind fun t => some (t, x.2)
abbrev ptB : QSs := .cons (.asg (.nm 2) (.call 6 (.cons (.ix (.var 0) (.con (.int 0))) (.cons (.ix (.var 1) (.con (.int 0))) .nil)))) (.cons (.par 0 1 (.var 1) (.call 38 (.cons (.var 0) (.cons (.bin .FloorDiv (.ix (.var 2) (.con (.int 0))) (.ix (.var 2) (.con (.int 1)))) (.cons (.var 1) .nil))))) .nil)
theorem pt_test {s : Slot} : ptT n [.dat (mk m), .dat (mk o), s] p = some (!decide (o.one = 0), p) := by
  have h : ev (Cn n) (.cmp .NotEq (.ix (.var 1) (.con (.int 0))) (.glo 0)) [.dat (mk m), .dat (mk o), s] p = some (.bl (!decide (o.one = 0)), p) :=
    v_cmp (o_of (v_ix (o_var rfl) v_con rfl) (fun _ h => PX.noConfusion h)) (o_of (v_glo rfl) (fun _ h => PX.noConfusion h)) (cmp_ne0 _)
  show (ev (Cn n) _ _ p).bind _ = _
  rw [h]; rfl
theorem pt_body {s : Slot} (hD : D ≠ 0) (hb : D < 2 ^ 24) (hD2 : D2 ≠ 0) (hb2 : D2 < 2 ^ 24) (gm : GM D D2 tb cb m) (go : GM D D2 tb cb o) (h0 : o.one ≠ 0) (hz : Bd 25 (m.one / o.one).floor) (htb : tb ≤ 40000000) (hcb : cb ≤ 90000000) :
    exs (Cn (n + 3)) ptB [.dat (mk m), .dat (mk o), s] p = some (.nx, [.dat (mk o), .dat (mk (lessM m (m.one / o.one).floor o)), .dat (fr (m.one / o.one))], p) := by
  have s1 := gm.sz hD hb
  have s2 := go.sz hD hb
  have a1 := e_over (n := n + 1) (p := p) s1 s2 (by omega) h0
  have a2 := e_less_made (n := n) (p := p) (m := m) (o := o) s1 (gm.s2 hD2 hb2) s2 (go.s2 hD2 hb2) hz go.cs (by omega) (by omega) (by omega) (by omega) (by omega) gm.len
  have hf : opD .FloorDiv (.int (m.one / o.one).num) (.int ((m.one / o.one).den : Nat)) = some (.int (m.one / o.one).floor) := by
    rw [op_fdiv (den_ne _) ((s1.div s2 h0).2) (by omega), Rat.floor_def, Int.fdiv_eq_ediv_of_nonneg _ (by have := den_pos' (m.one / o.one); omega)]
  apply xs_nx
  · apply x_asg
    · exact v_callR (vs_cons (v_ix (o_var rfl) v_con rfl) (vs_cons (v_ix (o_var rfl) v_con rfl) vs_nil)) a1
    · exact rfl
  · apply xs_nx
    · apply x_par
      · exact v_var rfl
      · exact v_callR (vs_cons (v_var rfl) (vs_cons (v_bin (v_ix (o_var rfl) v_con rfl) (v_ix (o_var rfl) v_con rfl) hf) (vs_cons (v_var rfl) vs_nil))) a2
      · exact rfl
      · exact rfl
    · exact xs_nil
theorem while_T {tst : En → Pl → Option (Bool × Pl)} {body : En → Pl → X3} {N : Nat} {ρ ρ' : En} {w : FW.Fl × En × Pl} (h : tst ρ p = some (true, p)) (hb : body ρ p = some (.nx, ρ', p)) (hr : whileF tst body N ρ' p = some w) : whileF tst body (N + 1) ρ p = some w := by
  show (tst ρ p).bind _ = _
  rw [h]
  show (body ρ p).bind _ = _
  rw [hb]
  exact hr
theorem while_F {tst : En → Pl → Option (Bool × Pl)} {body : En → Pl → X3} {N : Nat} {ρ : En} (h : tst ρ p = some (false, p)) : whileF tst body (N + 1) ρ p = some (.nx, ρ, p) := by
  show (tst ρ p).bind _ = _
  rw [h]; rfl
/-- one turn, its numbers -/
theorem pt_turn (hD : D ≠ 0) (hb : D < 2 ^ 24) (hD2 : D2 ≠ 0) (hb2 : D2 < 2 ^ 24) (gm : GM D D2 tb cb m) (go : GM D D2 tb cb o) {b : Int} (eb : o.one * (D : Rat) = b) (hb0 : b ≠ 0) :
    ∃ z r : Int, z = (m.one / o.one).floor ∧ Bd 25 z ∧ o.one ≠ 0 ∧ (lessM m z o).one * (D : Rat) = r ∧ ((0 < b ∧ 0 ≤ r ∧ r < b) ∨ (b < 0 ∧ b < r ∧ r ≤ 0)) ∧ GM D D2 (tb + 50) (cb + 26) (lessM m z o) := by
  obtain ⟨a, ea, ha⟩ := gm.one
  obtain ⟨b', eb', hbb⟩ := go.one
  have : b = b' := Rat.intCast_inj.mp (eb.symm.trans eb')
  subst this
  have hD' : (D : Rat) ≠ 0 := fun h => hD (Rat.natCast_eq_zero_iff.mp h)
  have hbq : (b : Rat) ≠ 0 := fun h => hb0 (Rat.intCast_eq_zero_iff.mp h)
  have ho : o.one ≠ 0 := fun h => by rw [h, Rat.zero_mul] at eb; exact hbq eb.symm
  have e : m.one / o.one = (a : Rat) / (b : Rat) := by
    rw [← ea, ← eb]
    grind
  have fr0 := floor_rem hb0 (show ((a : Rat) / (b : Rat)).floor = ((a : Rat) / (b : Rat)).floor from rfl)
  have hz := floor_bd hb0 ha fr0
  have hr : Bd 24 (a - ((a : Rat) / (b : Rat)).floor * b) := by unfold Bd at *; omega
  have gl := lessM_gm gm go hD2 hb2 hz ea eb hr
  refine ⟨_, _, by rw [e], hz, ho, ?_, fr0, gl⟩
  obtain ⟨r, er, _⟩ := gl.one
  show (m.one + ((-((a : Rat) / (b : Rat)).floor : Int) : Rat) * o.one) * (D : Rat) = _
  rw [Rat.add_mul, ea, Rat.mul_assoc, eb, Int.sub_eq_add_neg, Rat.intCast_add, ← Int.neg_mul, Rat.intCast_mul]
end
end FWL
namespace FWL
open PySem FW
/-! P12: put_together, to its end. -/
section
variable {n : Nat} {p : Pl} {D D2 : Nat}
theorem l_put (hD : D ≠ 0) (hb : D < 2 ^ 24) (hD2 : D2 ≠ 0) (hb2 : D2 < 2 ^ 24) (R : Mk → Mk → Prop) (hR : ∀ m o z, R m o → R o (lessM m z o)) :
    ∀ (e : Nat) (m o : Mk) (tb cb : Nat) (s : Slot) (N : Nat) (b : Int), GM D D2 tb cb m → GM D D2 tb cb o → R m o → o.one * (D : Rat) = b → b.natAbs < 2 ^ e → tb + 100 * e ≤ 40000000 → cb + 52 * e ≤ 90000000 → 2 * e + 1 ≤ N →
    ∃ m' o' s', whileF (ptT (n + 3)) (fun ρ p => exs (Cn (n + 3)) ptB ρ p) N [.dat (mk m), .dat (mk o), s] p = some (.nx, [.dat (mk m'), .dat (mk o'), s'], p) ∧ o'.one = 0 ∧ R m' o' ∧ GM D D2 (tb + 100 * e) (cb + 52 * e) m' ∧ GM D D2 (tb + 100 * e) (cb + 52 * e) o'
  | e, m, o, tb, cb, s, N + 1, b, gm, go, r, eb, hbe, h1, h2, hN => by
    have hD' : (D : Rat) ≠ 0 := fun h => hD (Rat.natCast_eq_zero_iff.mp h)
    have endz : b = 0 → o.one = 0 := fun h => by
      rw [h, Rat.intCast_zero] at eb
      rcases Rat.mul_eq_zero.mp eb with k | k
      · exact k
      · exact absurd k hD'
    by_cases hb0 : b = 0
    · have h0 := endz hb0
      refine ⟨m, o, s, while_F ?_, h0, r, gm.mono (by omega) (by omega), go.mono (by omega) (by omega)⟩
      rw [pt_test, decide_eq_true h0]; rfl
    · obtain ⟨z, q, ez, hz, ho, eq, hq, gl⟩ := pt_turn hD hb hD2 hb2 gm go eb hb0
      have t1 : ptT (n + 3) [.dat (mk m), .dat (mk o), s] p = some (true, p) := by rw [pt_test, decide_eq_false ho]; rfl
      have b1 := pt_body (n := n) (p := p) (s := s) hD hb hD2 hb2 gm go ho (ez ▸ hz) (by omega) (by omega)
      rw [← ez] at b1
      have go1 : GM D D2 (tb + 50) (cb + 26) o := go.mono (by omega) (by omega)
      have r1 := hR m o z r
      match e with
      | 0 => omega
      | e + 1 =>
        have hp : (2 : Nat) ^ (e + 1) = 2 * 2 ^ e := by rw [Nat.pow_succ]; omega
        by_cases hs : q.natAbs < 2 ^ e
        · obtain ⟨m', o', s', w, x1, x2, x3, x4⟩ := l_put hD hb hD2 hb2 R hR e o (lessM m z o) (tb + 50) (cb + 26) _ N q go1 gl r1 eq hs (by omega) (by omega) (by omega)
          exact ⟨m', o', s', while_T t1 b1 w, x1, x2, x3.mono (by omega) (by omega), x4.mono (by omega) (by omega)⟩
        · have hq0 : q ≠ 0 := by
            intro h
            rw [h] at hs
            have := Nat.two_pow_pos e
            simp at hs
          obtain ⟨z2, q2, ez2, hz2, ho2, eq2, hq2, gl2⟩ := pt_turn hD hb hD2 hb2 go1 gl eq hq0
          match N, hN with
          | N + 1, hN =>
            have t2 : ptT (n + 3) [.dat (mk o), .dat (mk (lessM m z o)), .dat (fr (m.one / o.one))] p = some (true, p) := by rw [pt_test, decide_eq_false ho2]; rfl
            have b2 := pt_body (n := n) (p := p) (s := .dat (fr (m.one / o.one))) hD hb hD2 hb2 go1 gl ho2 (ez2 ▸ hz2) (by omega) (by omega)
            rw [← ez2] at b2
            have hs2 : q2.natAbs < 2 ^ e := by
              have e3 : q2 = b - z2 * q := by
                have k1 : (lessM o z2 (lessM m z o)).one * (D : Rat) = ((b - z2 * q : Int) : Rat) := by
                  show (o.one + ((-z2 : Int) : Rat) * (lessM m z o).one) * (D : Rat) = _
                  rw [Rat.add_mul, eb, Rat.mul_assoc, eq, Int.sub_eq_add_neg, Rat.intCast_add, ← Int.neg_mul, Rat.intCast_mul]
                exact Rat.intCast_inj.mp (eq2.symm.trans k1)
              have hd : z2 = 1 := by
                rcases hq with ⟨c1, c2, c3⟩ | ⟨c1, c2, c3⟩
                · rcases hq2 with ⟨d1, d2, d3⟩ | ⟨d1, d2, d3⟩
                  · rcases Int.lt_trichotomy z2 1 with k | k | k
                    · have : z2 * q ≤ 0 := Int.mul_nonpos_of_nonpos_of_nonneg (by omega) (by omega)
                      omega
                    · exact k
                    · have : 2 * q ≤ z2 * q := Int.mul_le_mul_of_nonneg_right (by omega) (by omega)
                      omega
                  · omega
                · rcases hq2 with ⟨d1, d2, d3⟩ | ⟨d1, d2, d3⟩
                  · omega
                  · rcases Int.lt_trichotomy z2 1 with k | k | k
                    · have : 0 ≤ z2 * q := Int.mul_nonneg_of_nonpos_of_nonpos (by omega) (by omega)
                      omega
                    · exact k
                    · have : z2 * q ≤ 2 * q := Int.mul_le_mul_of_nonpos_right (by omega) (by omega)
                      omega
              rw [hd, Int.one_mul] at e3
              omega
            obtain ⟨m', o', s', w, x1, x2, x3, x4⟩ := l_put hD hb hD2 hb2 R hR e (lessM m z o) (lessM o z2 (lessM m z o)) (tb + 50 + 50) (cb + 26 + 26) _ N q2 (gl.mono (by omega) (by omega)) gl2 (hR _ _ z2 r1) eq2 hs2 (by omega) (by omega) (by omega)
            exact ⟨m', o', s', while_T t1 b1 (while_T t2 b2 w), x1, x2, x3.mono (by omega) (by omega), x4.mono (by omega) (by omega)⟩
theorem e_put_together (hD : D ≠ 0) (hb : D < 2 ^ 24) (hD2 : D2 ≠ 0) (hb2 : D2 < 2 ^ 24) (R : Mk → Mk → Prop) (hR : ∀ m o z, R m o → R o (lessM m z o)) {m o : Mk} {tb cb : Nat} (gm : GM D D2 tb cb m) (go : GM D D2 tb cb o) (r : R m o) (h1 : tb + 2400 ≤ 40000000) (h2 : cb + 1248 ≤ 90000000) :
    ∃ m' o', Rn (n + 4) 39 [mk m, mk o] p = some (.tup [mk m', mk o'], p) ∧ o'.one = 0 ∧ R m' o' ∧ GM D D2 (tb + 2400) (cb + 1248) m' ∧ GM D D2 (tb + 2400) (cb + 1248) o' := by
  obtain ⟨b, eb, hbb⟩ := go.one
  obtain ⟨m', o', s', w, x1, x2, x3, x4⟩ := l_put (n := n) (p := p) hD hb hD2 hb2 R hR 24 m o tb cb .no FU b gm go r eb hbb (by omega) (by omega) (by unfold FU; omega)
  refine ⟨m', o', ?_, x1, x2, x3, x4⟩
  apply fn_ret (df := d39) rfl rfl
  apply xs_nx
  · exact w
  · apply xs_ret
    apply x_ret
    exact o_of (v_tup (vs_cons (v_var rfl) (vs_cons (v_var rfl) vs_nil)) (of_decide_eq_true rfl)) (fun _ h => PX.noConfusion h)
end
end FWL
namespace FWL
open PySem FW
/-! P13: rounds reduced. -/
theorem range_at {n x : Nat} {pre post : List Nat} (e : List.range n = pre ++ x :: post) : x = pre.length ∧ x < n := by
  have h : (List.range n)[pre.length]? = some x := by rw [e, List.getElem?_append_right (Nat.le_refl _), Nat.sub_self]; rfl
  obtain ⟨h1, h2⟩ := List.getElem?_eq_some_iff.mp h
  rw [List.getElem_range] at h2
  rw [List.length_range] at h1
  omega
theorem rangeD0 (n : Nat) : rangeD 0 n = (List.range n).map fun i => D.int (i : Nat) := by
  unfold rangeD
  exact List.map_congr_left fun a _ => by rw [Int.zero_add]
theorem rep_zero (n : Nat) : (List.replicate n [D.int 0]).flatten = (List.replicate n (0 : Int)).map D.int := by
  induction n with
  | zero => rfl
  | succ n ih => rw [List.replicate_succ, List.flatten_cons, ih, List.replicate_succ]; rfl
theorem op_rep {n : Nat} (h : n ≤ 1000) : opD .Mult (.lst [.int 0]) (.int (n : Nat)) = some (.lst ((List.replicate n (0 : Int)).map D.int)) := by
  show (if repOk 1 (n : Nat) then some (D.lst (List.replicate (n : Int).toNat [D.int 0]).flatten) else none) = _
  rw [if_pos, Int.toNat_natCast, rep_zero]
  unfold repOk
  rw [Bool.and_eq_true, Bool.and_eq_true, decide_eq_true_eq, decide_eq_true_eq, decide_eq_true_eq]
  omega
/-- rounds within bounds, which s solves -/
structure Rds (D D2 : Nat) (s : Rat) (x : Rat × Rat) : Prop where
  one : ∃ a : Int, x.1 * (D : Rat) = a ∧ Bd 24 a
  two : IsInt (x.2 * (D2 : Rat))
  tn : Bd 24 x.2.num
  sol : IsInt (s * x.1 - x.2)
section
variable {n : Nat} {p : Pl} {D D2 : Nat} {s : Rat}
theorem lessM_rel {C : Rat → Prop} (m o : Mk) (z : Int) (h : (∀ t, (IsInt (m.one * t) ∧ IsInt (o.one * t)) ↔ C t) ∧ IsInt (s * m.one - m.two) ∧ IsInt (s * o.one - o.two)) :
    (∀ t, (IsInt (o.one * t) ∧ IsInt ((lessM m z o).one * t)) ↔ C t) ∧ IsInt (s * o.one - o.two) ∧ IsInt (s * (lessM m z o).one - (lessM m z o).two) := by
  obtain ⟨h1, h2, h3⟩ := h
  refine ⟨fun t => ?_, h3, ?_⟩
  · rw [← h1 t]
    have e : (lessM m z o).one * t = m.one * t - (z : Rat) * (o.one * t) := by
      show (m.one + ((-z : Int) : Rat) * o.one) * t = _
      rw [Rat.intCast_neg]; grind
    have e2 : m.one * t = (lessM m z o).one * t + (z : Rat) * (o.one * t) := by rw [e]; grind
    constructor
    · rintro ⟨k1, k2⟩
      refine ⟨?_, k1⟩
      rw [e2]
      exact k2.add ((isInt_int z).mul k1)
    · rintro ⟨k1, k2⟩
      refine ⟨k2, ?_⟩
      rw [e]
      exact k1.sub ((isInt_int z).mul k2)
  · have e : s * (lessM m z o).one - (lessM m z o).two = (s * m.one - m.two) - (z : Rat) * (s * o.one - o.two) := by
      show s * (m.one + ((-z : Int) : Rat) * o.one) - (m.two + ((-z : Int) : Rat) * o.two) = _
      rw [Rat.intCast_neg]; grind
    rw [e]
    exact h2.sub ((isInt_int z).mul h3)
theorem e_reduced (hD : D ≠ 0) (hb : D < 2 ^ 24) (hD2 : D2 ≠ 0) (hb2 : D2 < 2 ^ 24) {L : List (Rat × Rat)} (hl : L.length ≤ 100) (hL : ∀ x ∈ L, Rds D D2 s x) :
    ∃ (w : Mk) (es : List Mk), Rn (n + 5) 40 [.tup (L.map rnd)] p = some (.tup [mk w, .lst (es.map mk)], p) ∧ (∀ t, IsInt (w.one * t) ↔ ∀ x ∈ L, IsInt (x.1 * t)) ∧ GM D D2 300000 300000 w ∧ IsInt (s * w.one - w.two) ∧ (∀ e ∈ es, e.one = 0 ∧ IsInt e.two) ∧ es.length = L.length := by
  have key : ∃ d p1, Rn (n + 5) 40 [.tup (L.map rnd)] p = some (d, p1) ∧ (p1 = p ∧ ∃ (w : Mk) (es : List Mk), d = .tup [mk w, .lst (es.map mk)] ∧ (∀ t, IsInt (w.one * t) ↔ ∀ x ∈ L, IsInt (x.1 * t)) ∧ GM D D2 300000 300000 w ∧ IsInt (s * w.one - w.two) ∧ (∀ e ∈ es, e.one = 0 ∧ IsInt e.two) ∧ es.length = L.length) := by
    have o1 := op_rep (n := L.length) (by omega)
    have hlen : biD .len [.tup (L.map rnd)] = some (.int (L.length : Nat)) := by
      show some (FW.D.int ((L.map rnd).length : Nat)) = _
      rw [List.length_map]
    refine in40 ?_; (dsimp only [d40])
    repeat' walk_at "fw go"
    refine xw_for (gi := fun i : Nat => FW.D.int (i : Nat)) (L := List.range L.length) (fun pre ρ p' => p' = p ∧ ∃ (w : Mk) (es : List Mk) (a b : Slot), ρ = [.dat (.tup (L.map rnd)), a, .dat (mk w), .own (es.map mk), b] ∧ (∀ t, IsInt (w.one * t) ↔ ∀ x ∈ L.take pre.length, IsInt (x.1 * t)) ∧ GM D D2 (24 + 2400 * pre.length) (1 + 1248 * pre.length) w ∧ IsInt (s * w.one - w.two) ∧ (∀ e ∈ es, e.one = 0 ∧ IsInt e.two) ∧ es.length = pre.length) ?hs ?hb ?he
    case hs =>
      repeat' walk_at "fw go"
      refine ⟨L.length, rfl, by omega, rangeD0 _, rfl, ⟨0, 0, List.replicate L.length 0⟩, [], _, _, rfl, fun t => ?_, ?_, ?_, ?_, rfl⟩
      · rw [Rat.zero_mul]
        exact ⟨fun _ x hx => by simp at hx, fun _ => isInt_zero⟩
      · refine ⟨⟨0, by rw [Rat.zero_mul]; rfl, by unfold Bd; decide⟩, by rw [Rat.zero_mul]; exact isInt_zero, Nat.two_pow_pos _, fun c hc => ?_, by show (List.replicate _ _).length ≤ 1000; rw [List.length_replicate]; omega⟩
        have : c = 0 := List.eq_of_mem_replicate hc
        rw [this]; exact Bd.mono (k := 1) (by unfold Bd; decide) (by omega)
      · show IsInt (s * 0 - 0)
        rw [Rat.mul_zero, Rat.sub_self]; exact isInt_zero
      · intro e he; cases he
    case hb =>
      rintro pre i post ρ p' e ⟨rfl, w, es, a, b, rfl, i1, i2, i3, i4, i5⟩
      obtain ⟨rfl, hi⟩ := range_at e
      obtain ⟨x, hx⟩ : ∃ x, L[pre.length]? = some x := ⟨L[pre.length], List.getElem?_eq_getElem hi⟩
      have hr := hL x (List.mem_of_getElem? hx)
      have f1 := e_first_made (n := n + 3) (p := p') hx (by omega)
      have g1 : GM D D2 (24 + 2400 * pre.length) (1 + 1248 * pre.length) ⟨x.1, x.2, unitc L.length pre.length⟩ := by
        refine ⟨hr.one, hr.two, hr.tn.mono (by omega), fun c hc => ?_, ?_⟩
        · obtain ⟨j, _, rfl⟩ := List.mem_map.mp hc
          refine Bd.mono (k := 1) ?_ (by omega)
          by_cases q : j = pre.length
          · rw [if_pos q]; unfold Bd; decide
          · rw [if_neg q]; unfold Bd; decide
        · show (unitc _ _).length ≤ 1000
          unfold unitc
          rw [List.length_map, List.length_range]; omega
      have hR := lessM_rel (s := s) (C := fun t => IsInt (x.1 * t) ∧ IsInt (w.one * t))
      obtain ⟨m', o', f2, h0, ⟨k1, k2, k3⟩, gm, go⟩ := e_put_together (n := n) (p := p') hD hb hD2 hb2 _ hR g1 i2 ⟨fun t => Iff.rfl, hr.sol, i3⟩ (by omega) (by omega)
      repeat' walk_at "fw go"
      refine ⟨rfl, m', es ++ [o'], _, _, by rw [List.map_append]; rfl, fun t => ?_, ?_, k2, fun q hq => ?_, ?_⟩
      · have k := k1 t
        rw [h0, Rat.zero_mul] at k
        rw [List.length_append, show [pre.length].length = 1 from rfl, List.take_succ, hx]
        constructor
        · intro hm y hy
          obtain ⟨q1, q2⟩ := k.mp ⟨hm, isInt_zero⟩
          rcases List.mem_append.mp hy with hy | hy
          · exact (i1 t).mp q2 y hy
          · simp at hy; rw [hy]; exact q1
        · intro hy
          exact (k.mpr ⟨hy x (by simp), (i1 t).mpr fun y h => hy y (List.mem_append_left _ h)⟩).1
      · exact gm.mono (by rw [List.length_append, show [pre.length].length = 1 from rfl]; omega) (by rw [List.length_append, show [pre.length].length = 1 from rfl]; omega)
      · rcases List.mem_append.mp hq with hq | hq
        · exact i4 q hq
        · simp at hq
          rw [hq]
          refine ⟨h0, ?_⟩
          rw [h0, Rat.mul_zero, Rat.sub_eq_add_neg, Rat.zero_add] at k3
          exact isInt_neg.mp k3
      · rw [List.length_append, i5, List.length_append]; rfl
    case he =>
      rintro ρ p' ⟨rfl, w, es, a, b, rfl, i1, i2, i3, i4, i5⟩
      rw [List.length_range] at i1 i2 i5
      repeat' walk_at "fw go"
      refine ⟨rfl, w, es, rfl, fun t => ?_, i2.mono (by omega) (by omega), i3, i4, i5⟩
      rw [i1, List.take_length]
  obtain ⟨d, p1, h1, rfl, w, es, rfl, r⟩ := key
  exact ⟨w, es, h1, r⟩
end
end FWL
namespace FWL
open PySem FW
/-! P14: solutions of rounds. -/
section
variable {n k l : Nat} {p : Pl} {q r : Rat}
theorem S2.over {a d a' d' : Nat} (h : S2 a d q) (h2 : S2 a' d' r) (hr : r ≠ 0) : S2 (a + d') (d + a') (q / r) := by
  rw [← over_div]
  have hne := Int.mul_ne_zero (den_ne q) (num_ne hr)
  refine ⟨?_, ?_⟩
  · unfold Bd
    rw [Rat.num_divInt]
    refine Nat.lt_of_le_of_lt (Nat.le_trans (Int.natAbs_ediv_le_natAbs _ _) ?_) (h.1.mul h2.2)
    rw [Int.natAbs_mul, Int.natAbs_sign_of_ne_zero hne, Nat.one_mul]
    exact Nat.le_refl _
  · unfold Bd
    rw [Rat.den_divInt, if_neg hne, Int.natAbs_natCast]
    exact Nat.lt_of_le_of_lt (Nat.div_le_self _ _) (h.2.mul h2.1)
theorem _root_.FW.Sz.s2 (h : Sz k q) : S2 k k q := h
theorem S2.neg {a d : Nat} (h : S2 a d q) : S2 a d (-q) := by
  unfold S2
  rw [Rat.neg_num, Rat.neg_den]
  exact ⟨h.1.neg, h.2⟩
theorem e_over2 {a d a' d' : Nat} (h : S2 a d q) (h2 : S2 a' d' r) (ha : a + d' ≤ 100000000) (hd : d + a' ≤ 8000) (hr : r ≠ 0) : Rn (n + 2) 6 [fr q, fr r] p = some (fr (q / r), p) := by
  obtain ⟨a1, a2⟩ := h
  obtain ⟨b1, b2⟩ := h2
  have h1 := e_plain_of (n := n) (p := p) (a := q.num * r.den) (Int.mul_ne_zero (den_ne q) (num_ne hr)) (a2.mul b1) (by omega)
  rw [over_div] at h1
  refine eq_of ?_; refine in6 ?_; (dsimp only [d6])
  repeat' walk_at "fw go"
  exact ⟨rfl, rfl⟩
theorem e_floor2 {a d : Nat} (h : S2 a d q) (hk : d ≤ 8000) : Rn (n + 1) 9 [fr q] p = some (.int q.floor, p) := by
  have o : opD .FloorDiv (.int q.num) (.int (q.den : Nat)) = some (.int (q.num.fdiv q.den)) := op_fdiv (den_ne q) h.2 (by omega)
  refine eq_of ?_; refine in9 ?_; (dsimp only [d9])
  repeat' walk_at "fw go"
  exact ⟨by rw [Rat.floor_def, Int.fdiv_eq_ediv_of_nonneg _ (by have := den_pos' q; omega)], rfl⟩
theorem floor_s2 {a d : Nat} (h : S2 a d q) : Bd (a + 1) q.floor := by
  rw [Rat.floor_def]
  unfold Bd
  have h1 : (q.num / (q.den : Int)).natAbs ≤ q.num.natAbs := Int.natAbs_ediv_le_natAbs _ _
  have h2 := h.1
  unfold Bd at h2
  rw [Nat.pow_succ]
  omega
theorem e_minus2 {a d a' d' : Nat} (h : S2 a d q) (h2 : S2 a' d' r) (ha : a + d' ≤ 100000000) (ha' : a' + d ≤ 100000000) (hd : d + d' ≤ 8000) : Rn (n + 3) 4 [fr q, fr r] p = some (fr (q - r), p) := by
  have h1 := e_plus2 (n := n) (p := p) h h2.neg ha ha' hd
  rw [← Rat.sub_eq_add_neg] at h1
  refine eq_of ?_; refine in4 ?_; (dsimp only [d4])
  repeat' (first | walk_at "fw go" | ((with_reducible show WC _ _ _ _ _); apply wr_of; focus ((with_reducible apply e_negative) <;> walk_at "fw side")))
  exact ⟨rfl, rfl⟩
theorem e_remainder2 {a d : Nat} (h : S2 a d q) (h2 : Sz l r) (ha : a ≤ 1000000) (hd : d ≤ 1000) (hl : l ≤ 1000) (hr : r ≠ 0) : Rn (n + 4) 31 [fr q, fr r] p = some (fr (rem q r), p) := by
  have z1 := h.over h2.s2 hr
  have z2 := s2_int (floor_s2 z1)
  have a1 := e_over2 (n := n + 1) (p := p) h h2.s2 (by omega) (by omega) hr
  have a2 := e_floor2 (n := n + 2) (p := p) z1 (by omega)
  have a4 := e_times2 (n := n + 1) (p := p) z2 h2.s2 (by omega) (by omega)
  have a5 : Rn (n + 3) 4 [fr q, fr (((q / r).floor : Rat) * r)] p = some (fr (rem q r), p) := e_minus2 (n := n) (p := p) h (z2.mul h2.s2) (by omega) (by omega) (by omega)
  refine eq_of ?_; refine in31 ?_; (dsimp only [d31])
  repeat' (first | walk_at "fw go" | ((with_reducible show WC _ _ _ _ _); apply wr_of; focus ((with_reducible apply e_whole) <;> walk_at "fw side")))
  exact ⟨rfl, rfl⟩
theorem sz_btw {D kb kd : Nat} {b : Rat} (h0 : 0 ≤ q) (h : q < b) (hb : Sz kb b) (hD : D ≠ 0) (hd : D < 2 ^ kd) (hi : IsInt (q * (D : Rat))) : Sz (kb + kd) q := by
  have h1 := Nat.le_of_dvd (by omega) (int_den hD hi)
  have h2 : (q.den : Int) < ((2 ^ kd : Nat) : Int) := by omega
  have h3 := (Rat.lt_iff q b).mp h
  have h4 : 0 ≤ q.num := Rat.num_nonneg.mpr h0
  have h5 := hb.1
  refine ⟨?_, (bd_nat (Nat.lt_of_le_of_lt h1 hd)).mono (by omega)⟩
  have h6 : Bd (kb + kd) (b.num * q.den) := h5.mul (bd_nat (Nat.lt_of_le_of_lt h1 hd))
  have h7 : q.num ≤ q.num * b.den := by
    have := Int.mul_le_mul_of_nonneg_left (show (1 : Int) ≤ b.den by have := den_pos' b; omega) h4
    rwa [Int.mul_one] at this
  unfold Bd at *
  omega
theorem rem_lt (hr : 0 < r) : 0 ≤ rem q r ∧ rem q r < r := by
  unfold rem
  have h1 := Rat.floor_le (q / r)
  have h2 := Rat.lt_floor_add_one (q / r)
  have hne := Rat.ne_of_gt hr
  have e : q / r * r = q := Rat.div_mul_cancel hne
  have g1 := Rat.mul_le_mul_of_nonneg_right h1 (Rat.le_of_lt hr)
  have g2 := Rat.mul_lt_mul_of_pos_right h2 hr
  rw [e] at g1 g2
  rw [Rat.intCast_add, Rat.intCast_one, Rat.add_mul, Rat.one_mul] at g2
  constructor
  · grind
  · grind
end
section
variable {n : Nat} {p : Pl} {D D2 : Nat} {s : Rat}
theorem e_empty_ones (hD : D ≠ 0) (hb : D < 2 ^ 24) (hD2 : D2 ≠ 0) (hb2 : D2 < 2 ^ 24) {L : List (Rat × Rat)} (hl : L.length ≤ 100) (hL : ∀ x ∈ L, Rds D D2 s x) (hm : meas 0 (L.map (·.1)) ≠ 0) :
    ∃ es : List Mk, Rn (n + 6) 41 [.tup (L.map rnd)] p = some (.lst (es.map mk), p) ∧ (∀ e ∈ es, e.one = 0 ∧ IsInt e.two) ∧ es.length = L.length := by
  obtain ⟨w, es, f, h1, h2, h3, h4, h5⟩ := e_reduced (n := n) (p := p) hD hb hD2 hb2 hl hL
  have hw : w.one ≠ 0 := fun h0 => hm (int_half fun t => by
    rw [meas_int, Rat.zero_mul]
    refine ⟨isInt_zero, fun x hx => ?_⟩
    obtain ⟨y, hy, rfl⟩ := List.mem_map.mp hx
    exact (h1 t).mp (by rw [h0, Rat.zero_mul]; exact isInt_zero) y hy)
  refine ⟨es, ?_, h4, h5⟩
  refine eq_of ?_; refine in41 ?_; (dsimp only [d41])
  repeat' walk_at "fw go"
  exact ⟨rfl, rfl⟩
theorem e_clash_by (hD : D ≠ 0) (hb : D < 2 ^ 24) (hD2 : D2 ≠ 0) (hb2 : D2 < 2 ^ 24) {L : List (Rat × Rat)} (hl : L.length ≤ 100) (hL : ∀ x ∈ L, Rds D D2 s x) (hm : meas 0 (L.map (·.1)) ≠ 0) :
    Rn (n + 7) 42 [.tup (L.map rnd)] p = some (.non, p) := by
  obtain ⟨es, f, h1, h2⟩ := e_empty_ones (n := n) (p := p) hD hb hD2 hb2 hl hL hm
  refine eq_of ?_; refine in42 ?_; (dsimp only [d42])
  refine xw_for (gi := mk) (L := es) (fun pre ρ p' => p' = p ∧ ∃ a b c, ρ = [.dat (.tup (L.map rnd)), a, b, c]) ?hs ?hb ?he
  case hs =>
    repeat' walk_at "fw go"
    exact ⟨rfl, rfl, _, _, _, rfl⟩
  case hb =>
    rintro pre x post ρ p' e ⟨rfl, a, b, c, rfl⟩
    have hx := (h1 x (by rw [e]; simp)).2
    have hd := isInt_den.mp hx
    have f2 := e_is_whole_one (n := n + 5) (p := p') (q := x.two)
    rw [decide_eq_true hd] at f2
    repeat' walk_at "fw go"
    exact ⟨rfl, _, _, _, rfl⟩
  case he =>
    rintro ρ p' ⟨rfl, a, b, c, rfl⟩
    repeat' walk_at "fw go"
    exact ⟨rfl, rfl⟩
theorem e_solution_by (hD : D ≠ 0) (hb : D < 2 ^ 24) (hD2 : D2 ≠ 0) (hb2 : D2 < 2 ^ 24) {L : List (Rat × Rat)} (hl : L.length ≤ 100) (hL : ∀ x ∈ L, Rds D D2 s x) (hm : meas 0 (L.map (·.1)) ≠ 0) {k j : Nat} (hk : ∀ x ∈ L, Sz k x.1) (hk2 : k * L.length ≤ 900) (hs : Sz j s) (hj : j ≤ 100) :
    ∃ q, Rn (n + 8) 43 [.tup (L.map rnd)] p = some (fr q, p) ∧ Sz (2 * (k * L.length + 2) + j) q ∧ IsInt ((q - s) * meas 0 (L.map (·.1))) := by
  obtain ⟨w, es, f, h1, h2, h3, h4, h5⟩ := e_reduced (n := n + 2) (p := p) hD hb hD2 hb2 hl hL
  have c1 := e_clash_by (n := n) (p := p) hD hb hD2 hb2 hl hL hm
  have hM : IsM w.one.abs (fun y => ∃ x ∈ L, y = x.1) := ⟨Rat.abs_nonneg, fun t => by
    rw [isInt_abs, h1]
    exact ⟨fun h y ⟨x, hx, e⟩ => e ▸ h x hx, fun h x hx => h _ ⟨x, hx, rfl⟩⟩⟩
  have hM2 := meas_isM (L.map (·.1))
  have e1 : w.one.abs = meas 0 (L.map (·.1)) := hM.same hM2 fun t => ⟨fun h x hx => by
    obtain ⟨y, hy, rfl⟩ := List.mem_map.mp hx
    exact h _ ⟨y, hy, rfl⟩, fun h x ⟨y, hy, e⟩ => h x (by rw [e]; exact List.mem_map_of_mem hy)⟩
  have hw : w.one ≠ 0 := fun h0 => hm (by rw [← e1, h0]; rfl)
  have hpos := pos_of hM2.nn hm
  have s1 := h2.s2 hD2 hb2
  have s2 := h2.sz hD hb
  have zs : ∀ y ∈ L.map (·.1), Sz k y := fun y hy => by
    obtain ⟨x, hx, rfl⟩ := List.mem_map.mp hy
    exact hk x hx
  have zm := meas_sz (k := k) (L.map (·.1)) 0 1 sz_zero zs
  rw [List.length_map] at zm
  have z1 : Sz (k * L.length + 2) (1 / meas 0 (L.map (·.1))) := (sz_one.div zm hm).mono (by omega)
  have hstep : (0 : Rat) < 1 / meas 0 (L.map (·.1)) := by
    rw [Rat.div_def, Rat.one_mul]; exact Rat.inv_pos.mpr hpos
  have a1 := e_over2 (n := n + 5) (p := p) s1 s2.s2 (by omega) (by omega) hw
  have a2 := e_step_by (n := n + 3) (p := p) hk (by omega) (by omega) hm
  have a3 := e_remainder2 (n := n + 3) (p := p) (s1.over s2.s2 hw) z1 (by omega) (by omega) (by omega) (Rat.ne_of_gt hstep)
  have key : IsInt ((rem (w.two / w.one) (1 / meas 0 (L.map (·.1))) - s) * meas 0 (L.map (·.1))) := by
    have e2 : (rem (w.two / w.one) (1 / meas 0 (L.map (·.1))) - s) * meas 0 (L.map (·.1)) = -(s * w.one - w.two) * (meas 0 (L.map (·.1)) / w.one) - ((w.two / w.one / (1 / meas 0 (L.map (·.1)))).floor : Rat) := by
      unfold rem
      grind
    have e3 : IsInt (meas 0 (L.map (·.1)) / w.one) := by
      rw [← e1]
      rcases Rat.le_total (a := 0) (b := w.one) with h | h
      · rw [Rat.abs_of_nonneg h]
        exact ⟨1, by grind⟩
      · rw [Rat.abs_of_nonpos h]
        exact ⟨-1, by grind⟩
    rw [e2]
    exact (h3.neg.mul e3).sub (isInt_int _)
  refine ⟨_, ?_, ?_, key⟩
  · refine eq_of ?_; refine in43 ?_; (dsimp only [d43])
    repeat' walk_at "fw go"
    exact ⟨rfl, rfl⟩
  · obtain ⟨b1, b2⟩ := rem_lt (q := w.two / w.one) hstep
    have hDD : s.den * (1 / meas 0 (L.map (·.1))).den ≠ 0 := Nat.mul_ne_zero s.den_nz (Rat.den_nz _)
    refine (sz_btw (D := s.den * (1 / meas 0 (L.map (·.1))).den) (kd := j + (k * L.length + 2)) b1 b2 z1 hDD ?_ ?_).mono (by omega)
    · have := hs.2.mul z1.2
      unfold Bd at this
      rw [← Int.natCast_mul, Int.natAbs_natCast] at this
      exact this
    · obtain ⟨z, hz⟩ := key
      have hq : rem (w.two / w.one) (1 / meas 0 (L.map (·.1))) = s + (z : Rat) * (1 / meas 0 (L.map (·.1))) := by grind
      rw [hq, Rat.natCast_mul, Rat.add_mul]
      have i1 : ∀ x : Rat, IsInt (x * (x.den : Rat)) := fun x => ⟨x.num, mul_den x⟩
      refine IsInt.add ?_ ?_
      · rw [← Rat.mul_assoc]
        exact (i1 s).mul ⟨((1 / meas 0 (L.map (·.1))).den : Int), by rw [Rat.intCast_natCast]⟩
      · rw [show (z : Rat) * (1 / meas 0 (L.map (·.1))) * ((s.den : Rat) * ((1 / meas 0 (L.map (·.1))).den : Rat)) = ((z : Rat) * (s.den : Rat)) * ((1 / meas 0 (L.map (·.1))) * ((1 / meas 0 (L.map (·.1))).den : Rat)) by grind]
        exact (IsInt.mul (isInt_int z) ⟨(s.den : Int), by rw [Rat.intCast_natCast]⟩).mul (i1 _)
end
end FWL
namespace FWL
open PySem FW
/-! P15: shafts. -/
theorem filter_none {α : Type} (L : List α) : L.filter (fun _ => false) = [] := by simp
theorem pairs_map {α β : Type} (f : α → D) (g : β → D) : ∀ (a : List α) (b : List β), pairs (a.map f) (b.map g) = (List.zip a b).map fun x => D.tup [f x.1, g x.2]
  | [], b => by cases b <;> rfl
  | _ :: _, [] => rfl
  | x :: a, y :: b => by
    show D.tup [f x, g y] :: pairs (a.map f) (b.map g) = _
    rw [pairs_map f g a b]; rfl
abbrev Wh := Nat × Rat
def wl (w : Wh) : D := .tup [.int (w.1 : Nat), fr w.2]
abbrev wls (ws : List Wh) : D := .tup (ws.map wl)
structure WOk (w : Wh) : Prop where
  o1 : 1 ≤ w.1
  o2 : w.1 ≤ 24
  ne : w.2 ≠ 0
  sz : Sz 6 w.2
structure WsOk (ws : List Wh) : Prop where
  l1 : 1 ≤ ws.length
  l2 : ws.length ≤ 4
  ok : ∀ w ∈ ws, WOk w
theorem ordz {o : Nat} (h2 : o ≤ 24) : Sz 5 (o : Rat) := by
  rw [← Rat.intCast_natCast]
  exact sz_int (by unfold Bd; rw [Int.natAbs_natCast]; omega) (by omega)
section
variable {n k l j : Nat} {p : Pl} {q r t s : Rat} {ts : List Rat} {ws : List Wh} {o : Nat}
theorem e_whole_n {a : Nat} : Rn (n + 1) 1 [.int (a : Nat)] p = some (fr (a : Rat), p) := by
  have h := e_whole (n := n) (p := p) (a := (a : Int))
  rwa [Rat.intCast_natCast] at h
theorem e_shaft_wheel {w : Wh} (h : WOk w) : Rn (n + 5) 52 [wl w] p = some (.bl true, p) := by
  have a1 := e_is_pair (n := n + 1) (p := p) (x := .int (w.1 : Nat)) (y := fr w.2)
  have a2 := e_is_order (n := n + 1) (p := p) h.o1 h.o2
  have a3 := e_is_fraction (n := n) (p := p) (q := w.2)
  have a0 : Rn (n + 4) 15 [wl w] p = some (.bl true, p) := a1
  have hne := h.ne
  refine eq_of ?_; refine in52 ?_; (dsimp only [d52])
  repeat' walk_at "fw go"
  exact ⟨bl_eq (nd_T h.ne), rfl⟩
theorem e_wrong_in_shaft (h : WsOk ws) : Rn (n + 6) 53 [wls ws] p = some (.lst [], p) := by
  have h0 := e_up_to (n := n + 4) (p := p) (ds := ws.map wl) (a := 1) (b := 4)
  have h1 := h.l1
  have h2 := h.l2
  rw [List.length_map, decide_eq_true (show (1 : Int) ≤ ws.length by omega), decide_eq_true (show (ws.length : Int) ≤ 4 by omega)] at h0
  refine eq_of ?_; refine in53 ?_; (dsimp only [d53])
  repeat' walk_at "fw go"
  refine w_lcI (gi := fun x : Wh × Nat => .tup [.int (x.2 : Nat), wl x.1]) (go := fun x => .int (x.2 : Nat)) (L := ws.zipIdx) (fun _ => false) (by walk_at "fw wp") ?_ (by rw [List.length_zipIdx]; omega) ?_ ?_
  · repeat' walk_at "fw go"
    exact ⟨enum_map wl ws 0, rfl⟩
  · intro x hx
    have a := e_shaft_wheel (n := n) (p := p) (h.ok x.1 (mem_zi hx))
    repeat' walk_at "fw go"
    refine ⟨rfl, ?_⟩
    repeat' walk_at "fw go"
    exact ⟨rfl, rfl, fun h => by cases h⟩
  · rw [filter_none]
    repeat' walk_at "fw go"
    exact ⟨rfl, rfl⟩
theorem e_check_shaft (h : WsOk ws) (F : Fl k ts) (hk : k ≤ 4000) : Rn (n + 8) 58 [wls ws, row ts] p = some (.non, p) := by
  have a1 := e_wrong_in_shaft (n := n + 1) (p := p) h
  have a2 := e_check_flashes (n := n) (p := p) F hk
  refine eq_of ?_; refine in58 ?_; (dsimp only [d58])
  refine xw_for (gi := fun x : D => x) (L := []) (fun pre ρ p' => p' = p ∧ ρ = [.dat (wls ws), .dat (row ts), .no]) ?hs ?hb ?he
  case hs =>
    repeat' walk_at "fw go"
    exact ⟨rfl, rfl, rfl⟩
  case hb =>
    rintro pre x post ρ p' e
    simp at e
  case he =>
    rintro ρ p' ⟨rfl, rfl⟩
    repeat' walk_at "fw go"
    exact ⟨rfl, rfl⟩
/-- a shaft's measure -/
def smeas (ws : List Wh) (ts : List Rat) : Rat := meas 0 (ws.map fun w => (w.1 : Rat) * w.2 * fm ts)
theorem smeas_sz (h : WsOk ws) (F : Fl k ts) : Sz (1 + (11 + (1 + (2 * k + 1) * 12)) * 4) (smeas ws ts) := by
  have := meas_sz (k := 11 + (1 + (2 * k + 1) * 12)) (ws.map fun w => (w.1 : Rat) * w.2 * fm ts) 0 1 sz_zero (fun y hy => by
    obtain ⟨w, hw, rfl⟩ := List.mem_map.mp hy
    have := h.ok w hw
    exact (((ordz this.o2).mul this.sz).mul (fm_sz F)).mono (by omega))
  rw [List.length_map] at this
  exact this.mono (Nat.add_le_add_left (Nat.mul_le_mul_left _ h.l2) _)
theorem e_shaft_step_by (h : WsOk ws) (F : Fl k ts) (hk : k ≤ 50) (h0 : smeas ws ts ≠ 0) : Rn (n + 6) 56 [wls ws, row ts] p = some (fr (1 / smeas ws ts), p) := by
  have hz : ∀ w ∈ ws, Sz (11 + (1 + (2 * k + 1) * 12)) ((w.1 : Rat) * w.2 * fm ts) := fun w hw => by
    have := h.ok w hw
    exact (((ordz this.o2).mul this.sz).mul (fm_sz F)).mono (by omega)
  have e : (ws.map fun w => (w.1 : Rat) * w.2 * fm ts).map fr = ws.map fun w => fr ((w.1 : Rat) * w.2 * fm ts) := by rw [List.map_map]; rfl
  have hb : (11 + (1 + (2 * k + 1) * 12)) * ws.length ≤ 1300 * 4 := Nat.mul_le_mul (by omega) h.l2
  have a1 : Rn (n + 5) 33 [.lst ((ws.map fun w => (w.1 : Rat) * w.2 * fm ts).map fr)] p = some (fr (smeas ws ts), p) := e_measure_by (n := n + 2) rfl (fun x hx => by
    obtain ⟨w, hw, rfl⟩ := List.mem_map.mp hx
    exact hz w hw) (by rw [List.length_map]; omega)
  rw [e] at a1
  have a2 := e_over (n := n + 3) (p := p) sz_one (smeas_sz h F) (by omega) h0
  rw [fr_one] at a2
  have a3 := e_flash_measure (n := n + 1) (p := p) F (by omega)
  refine eq_of ?_; refine in56 ?_; (dsimp only [d56])
  repeat' walk_at "fw go"
  refine w_lcA (gi := wl) (go := fun w => fr ((w.1 : Rat) * w.2 * fm ts)) (L := ws) (by walk_at "fw wp") ?_ (by have := h.l2; omega) ?_ ?_
  · repeat' walk_at "fw go"
    exact ⟨rfl, rfl⟩
  · intro w hw
    have g := h.ok w hw
    have b1 := e_times (n := n + 3) (p := p) (ordz g.o2) g.sz (by omega)
    have b2 := e_times (n := n + 3) (p := p) ((ordz g.o2).mul g.sz) (fm_sz F) (by omega)
    repeat' (first | walk_at "fw go" | ((with_reducible show WC _ _ _ _ _); apply wr_of; focus ((with_reducible apply e_whole_n) <;> walk_at "fw side")))
    exact ⟨rfl, rfl, rfl⟩
  · repeat' walk_at "fw go"
    exact ⟨rfl, rfl⟩
theorem e_shaft_step (h : WsOk ws) (F : Fl k ts) (hk : k ≤ 50) (h0 : smeas ws ts ≠ 0) : Rn (n + 9) 61 [wls ws, row ts] p = some (fr (1 / smeas ws ts), p) := by
  have a1 := e_check_shaft (n := n) (p := p) h F (by omega)
  have a2 := e_shaft_step_by (n := n + 2) (p := p) h F hk h0
  refine eq_of ?_; refine in61 ?_; (dsimp only [d61])
  repeat' walk_at "fw go"
  exact ⟨rfl, rfl⟩
/-- a shaft's sights -/
def ssights (ws : List Wh) (ts : List Rat) (r : Rat) : List (List Rat) := ws.map fun w => sights w.1 0 (r * w.2) ts
theorem e_shaft_sights (h : WsOk ws) (F : Fl k ts) (hk : k ≤ 50) (hr : Sz j r) (hj : j ≤ 100) : Rn (n + 9) 62 [wls ws, row ts, fr r] p = some (.tup ((ssights ws ts r).map row), p) := by
  have a1 := e_check_shaft (n := n) (p := p) h F (by omega)
  have a2 := e_check_fraction (n := n + 3) (p := p) (q := r)
  have e : (ssights ws ts r).map row = ws.map fun w => row (sights w.1 0 (r * w.2) ts) := by unfold ssights; rw [List.map_map]; rfl
  have a3 : Rn (n + 8) 57 [wls ws, row ts, fr r] p = some (.tup ((ssights ws ts r).map row), p) := by
    rw [e]
    refine eq_of ?_; refine in57 ?_; (dsimp only [d57])
    repeat' walk_at "fw go"
    refine w_lcA (gi := wl) (go := fun w => row (sights w.1 0 (r * w.2) ts)) (L := ws) (by walk_at "fw wp") ?_ (by have := h.l2; omega) ?_ ?_
    · repeat' walk_at "fw go"
      exact ⟨rfl, rfl⟩
    · intro w hw
      have g := h.ok w hw
      have b1 := e_times (n := n + 5) (p := p) hr g.sz (by omega)
      have b2 := e_sights_by (n := n) (p := p) g.o1 g.o2 sz_zero (hr.mul g.sz) F.sz (by omega) (by have := F.l2; omega)
      rw [fr_zero] at b2
      repeat' walk_at "fw go"
      exact ⟨rfl, rfl, rfl⟩
    · repeat' walk_at "fw go"
      exact ⟨rfl, rfl⟩
  refine eq_of ?_; refine in62 ?_; (dsimp only [d62])
  repeat' walk_at "fw go"
  exact ⟨rfl, rfl⟩
/-! ### rounds -/
theorem e_wrong_in_sights (h : 1 ≤ o) (ho : o ≤ 24) {S : List Rat} (hl : S.length = ts.length) (hl2 : ts.length ≤ 12) (hS : ∀ q ∈ S, 0 ≤ q ∧ q < 1 / (o : Rat) ∧ Sz k q) (hk : k ≤ 7000) : Rn (n + 7) 23 [.int o, row ts, row S] p = some (.lst [], p) := by
  have h0 := e_tuple_of (n := n + 4) (p := p) (ds := S.map fr) (a := (ts.length : Nat))
  rw [List.length_map, hl, decide_eq_true (Int.le_refl _)] at h0
  have hb : biD .len [row ts] = some (.int (ts.length : Nat)) := by
    show some (D.int ((ts.map fr).length : Nat)) = _
    rw [List.length_map]
  refine eq_of ?_; refine in23 ?_; (dsimp only [d23])
  repeat' walk_at "fw go"
  refine w_lcI (gi := fun x : Rat × Nat => .tup [.int (x.2 : Nat), fr x.1]) (go := fun x => .int (x.2 : Nat)) (L := S.zipIdx) (fun _ => false) (by walk_at "fw wp") ?_ (by rw [List.length_zipIdx]; omega) ?_ ?_
  · repeat' walk_at "fw go"
    exact ⟨enum_map fr S 0, rfl⟩
  · intro x hx
    obtain ⟨g1, g2, g3⟩ := hS x.1 (mem_zi hx)
    have a := e_is_sight (n := n) (p := p) h ho g1 g3 hk g2
    repeat' walk_at "fw go"
    refine ⟨rfl, ?_⟩
    repeat' walk_at "fw go"
    exact ⟨rfl, rfl, fun h => by cases h⟩
  · rw [filter_none]
    repeat' walk_at "fw go"
    exact ⟨rfl, rfl⟩
def rds (o : Nat) (t s : Rat) (ts ss : List Rat) : List (Rat × Rat) := (List.zip ts ss).map fun x => ((o : Rat) * (x.1 - t), (o : Rat) * (x.2 - s))
theorem e_rounds_by (ho : o ≤ 24) {ss : List Rat} (ht : Sz k t) (hs : Sz j s) (hts : ∀ x ∈ ts, Sz k x) (hss : ∀ x ∈ ss, Sz j x) (hk : k ≤ 1000) (hj : j ≤ 1000) (hl : ts.length ≤ 1000) : Rn (n + 4) 50 [.int o, row (t :: ts), row (s :: ss)] p = some (.tup ((rds o t s ts ss).map rnd), p) := by
  have e : (rds o t s ts ss).map rnd = (List.zip ts ss).map fun x => rnd ((o : Rat) * (x.1 - t), (o : Rat) * (x.2 - s)) := by unfold rds; rw [List.map_map]; rfl
  rw [e]
  have c1 : slD (row (t :: ts)) (some 1) none = some (row ts) := by
    show some (D.tup (cutD (fr t :: ts.map fr) (some 1) none)) = _
    rw [cut_tail]
  have c2 : slD (row (s :: ss)) (some 1) none = some (row ss) := by
    show some (D.tup (cutD (fr s :: ss.map fr) (some 1) none)) = _
    rw [cut_tail]
  refine eq_of ?_; refine in50 ?_; (dsimp only [d50])
  repeat' walk_at "fw go"
  refine xw_for (gi := fun x : Rat × Rat => D.tup [fr x.1, fr x.2]) (L := List.zip ts ss) (fun pre ρ p' => p' = p ∧ ∃ a b, ρ = [.dat (.int o), .dat (row (t :: ts)), .dat (row (s :: ss)), .own (pre.map fun x => rnd ((o : Rat) * (x.1 - t), (o : Rat) * (x.2 - s))), a, b]) ?hs ?hb ?he
  case hs =>
    repeat' walk_at "fw go"
    exact ⟨rfl, pairs_map fr fr ts ss, rfl, _, _, rfl⟩
  case hb =>
    rintro pre x post ρ p' e ⟨rfl, a, b, rfl⟩
    have hm : x ∈ List.zip ts ss := by rw [e]; simp
    have hx := hts x.1 (List.of_mem_zip hm).1
    have hy := hss x.2 (List.of_mem_zip hm).2
    have hlen : pre.length < 1001 := by
      have := congrArg List.length e
      rw [List.length_zip, List.length_append] at this
      omega
    have b1 := e_minus (n := n) (p := p') hx ht (by omega)
    have b2 := e_minus (n := n) (p := p') hy hs (by omega)
    have b3 := e_times (n := n + 1) (p := p') (ordz ho) (hx.sub ht) (by omega)
    have b4 := e_times (n := n + 1) (p := p') (ordz ho) (hy.sub hs) (by omega)
    have i1 : ixP (row (t :: ts)) (.int 0) p' = some (fr t) := ix0
    have i2 : ixP (row (s :: ss)) (.int 0) p' = some (fr s) := ix0
    repeat' (first | walk_at "fw go" | ((with_reducible show WC _ _ _ _ _); apply wr_of; focus ((with_reducible apply e_whole_n) <;> walk_at "fw side")))
    refine ⟨rfl, _, _, by rw [List.map_append]; rfl⟩
  case he =>
    rintro ρ p' ⟨rfl, a, b, rfl⟩
    repeat' walk_at "fw go"
    exact ⟨rfl, rfl⟩
end
end FWL
namespace FWL
open PySem FW
/-! P16: a shaft's rounds, its rate. -/
theorem sz_of {q : Rat} {D k : Nat} {i : Int} (h : q * (D : Rat) = i) (hi : Bd k i) (hD : D ≠ 0) (hb : D < 2 ^ k) : Sz k q := by
  have hD' : (D : Rat) ≠ 0 := fun h => hD (Rat.natCast_eq_zero_iff.mp h)
  have : q = Rat.divInt i D := by
    rw [Rat.divInt_eq_div, ← h, Rat.intCast_natCast, Rat.mul_div_cancel hD']
  rw [this]
  exact sz_div (by omega) hi (bd_nat hb) (Nat.le_refl _)
/-- a time: twelfths up to 50; a ratio: twelfths up to 6 -/
def Tw (t : Rat) : Prop := ∃ i : Int, t * ((12 : Nat) : Rat) = i ∧ 0 ≤ i ∧ i ≤ 600
def Ra (t : Rat) : Prop := ∃ i : Int, t * ((12 : Nat) : Rat) = i ∧ i.natAbs ≤ 72
def Si (t : Rat) : Prop := ∃ i : Int, t * ((60 : Nat) : Rat) = i ∧ i.natAbs ≤ 1000
theorem Tw.sz {t : Rat} (h : Tw t) : Sz 10 t := by
  obtain ⟨i, e, h1, h2⟩ := h
  exact sz_of e (by unfold Bd; omega) (by decide) (by decide)
theorem Si.sz {t : Rat} (h : Si t) : Sz 10 t := by
  obtain ⟨i, e, h1⟩ := h
  exact sz_of e (by unfold Bd; omega) (by decide) (by decide)
/-- the sight of a wheel -/
def sgt (w : Wh) (r t : Rat) : Rat := rem (0 + r * w.2 * t) (1 / (w.1 : Rat))
theorem sights_eq {w : Wh} {r : Rat} {ts : List Rat} : sights w.1 0 (r * w.2) ts = ts.map (sgt w r) := rfl
theorem rmul_sub (a b c : Rat) : a * (b - c) = a * b - a * c := by grind
theorem one_over {o : Nat} (h : 1 ≤ o) : (o : Rat) * (1 / (o : Rat)) = 1 := by
  have h1 : (o : Rat) ≠ 0 := fun h => by have := Rat.natCast_eq_zero_iff.mp h; omega
  grind
theorem sgt_eq (w : Wh) (h : 1 ≤ w.1) (r t : Rat) : ∃ f : Int, (w.1 : Rat) * sgt w r t = (w.1 : Rat) * (r * w.2 * t) - f := by
  have := one_over h
  refine ⟨((0 + r * w.2 * t) / (1 / (w.1 : Rat))).floor, ?_⟩
  unfold sgt rem
  grind
theorem sgt_btw (w : Wh) (h : 1 ≤ w.1) (r t : Rat) : 0 ≤ sgt w r t ∧ sgt w r t < 1 / (w.1 : Rat) := rem_lt (by
  rw [Rat.div_def, Rat.one_mul]
  exact Rat.inv_pos.mpr (ord_pos h))
/-- one wheel's round at a time -/
def rnd1 (w : Wh) (r t0 t : Rat) : Rat × Rat := ((w.1 : Rat) * (t - t0) * w.2, (w.1 : Rat) * (sgt w r t - sgt w r t0))
theorem rnd1_ok {w : Wh} {r t0 t : Rat} (hw : WOk w) (hr : Ra w.2) (ht : Tw t) (ht0 : Tw t0) (hs : Si r) : Rds 144 8640 r (rnd1 w r t0 t) := by
  obtain ⟨f, hf⟩ := sgt_eq w hw.o1 r t
  obtain ⟨f0, hf0⟩ := sgt_eq w hw.o1 r t0
  obtain ⟨i, hi, i1, i2⟩ := ht
  obtain ⟨j, hj, j1, j2⟩ := ht0
  obtain ⟨z, hz, z1⟩ := hr
  obtain ⟨u, hu, u1⟩ := hs
  have o2 := hw.o2
  have e12 : ((12 : Nat) : Rat) = 12 := rfl
  have e60 : ((60 : Nat) : Rat) = 60 := rfl
  have e144 : ((144 : Nat) : Rat) = 144 := rfl
  have e8640 : ((8640 : Nat) : Rat) = 8640 := rfl
  rw [e12] at hi hj hz
  rw [e60] at hu
  have two : (rnd1 w r t0 t).2 * 8640 = (((w.1 : Int) * u * z * (i - j) - (f - f0) * 8640 : Int) : Rat) := by
    show (w.1 : Rat) * (sgt w r t - sgt w r t0) * 8640 = _
    rw [rmul_sub, hf, hf0]
    simp only [Rat.intCast_sub, Rat.intCast_mul, Rat.intCast_natCast, ← hi, ← hj, ← hz, ← hu]
    show _ = (w.1 : Rat) * (r * 60) * (w.2 * 12) * (t * 12 - t0 * 12) - (f - f0) * ((8640 : Int) : Rat)
    rw [show ((8640 : Int) : Rat) = 8640 from rfl]
    grind
  refine ⟨⟨(w.1 : Int) * (i - j) * z, ?_, ?_⟩, ⟨_, by rw [e8640]; exact two⟩, ?_, ?_⟩
  · show (w.1 : Rat) * (t - t0) * w.2 * ((144 : Nat) : Rat) = _
    rw [e144]
    simp only [Rat.intCast_sub, Rat.intCast_mul, Rat.intCast_natCast, ← hi, ← hj, ← hz]
    grind
  · unfold Bd
    rw [Int.natAbs_mul, Int.natAbs_mul, Int.natAbs_natCast]
    have h1 : w.1 * (i - j).natAbs ≤ 24 * 600 := Nat.mul_le_mul o2 (by omega)
    have h2 := Nat.mul_le_mul h1 z1
    omega
  · obtain ⟨a1, a2⟩ := sgt_btw w hw.o1 r t
    obtain ⟨b1, b2⟩ := sgt_btw w hw.o1 r t0
    have ho := one_over hw.o1
    have hp := ord_pos hw.o1
    have c1 : (rnd1 w r t0 t).2 < 1 := by
      show (w.1 : Rat) * (sgt w r t - sgt w r t0) < 1
      have := Rat.mul_lt_mul_of_pos_left (show sgt w r t - sgt w r t0 < 1 / (w.1 : Rat) by grind) hp
      rwa [ho] at this
    have c2 : -1 < (rnd1 w r t0 t).2 := by
      show -1 < (w.1 : Rat) * (sgt w r t - sgt w r t0)
      have := Rat.mul_lt_mul_of_pos_left (show sgt w r t0 - sgt w r t < 1 / (w.1 : Rat) by grind) hp
      rw [ho] at this
      grind
    have hd : (rnd1 w r t0 t).2.den ≤ 8640 := Nat.le_of_dvd (by decide) (int_den (D := 8640) (by decide) ⟨_, by rw [e8640]; exact two⟩)
    have d1 := (Rat.lt_iff _ _).mp c1
    have d2 := (Rat.lt_iff _ _).mp c2
    rw [show (1 : Rat).den = 1 from rfl, show (1 : Rat).num = 1 from rfl] at d1
    rw [show (-1 : Rat).den = 1 from rfl, show (-1 : Rat).num = -1 from rfl] at d2
    unfold Bd
    omega
  · show IsInt (r * ((w.1 : Rat) * (t - t0) * w.2) - (w.1 : Rat) * (sgt w r t - sgt w r t0))
    rw [rmul_sub (w.1 : Rat) (sgt w r t), hf, hf0]
    refine ⟨f - f0, ?_⟩
    rw [Rat.intCast_sub]
    grind
/-- all rounds of a shaft -/
def srds (ws : List Wh) (r t0 : Rat) (ts : List Rat) : List (Rat × Rat) := ws.flatMap fun w => ts.map (rnd1 w r t0)
theorem rds_eq (w : Wh) (r t0 : Rat) : ∀ ts : List Rat, (rds w.1 t0 (sgt w r t0) ts (ts.map (sgt w r))).map (fun x => rnd (x.1 * w.2, x.2)) = (ts.map (rnd1 w r t0)).map rnd
  | [] => rfl
  | t :: ts => by
    have := rds_eq w r t0 ts
    unfold rds at *
    rw [List.map_cons, List.zip_cons_cons, List.map_cons, List.map_cons, this]; rfl
theorem zip_map {α β : Type} (f : α → β) : ∀ L : List α, List.zip L (L.map f) = L.map fun x => (x, f x)
  | [] => rfl
  | x :: L => by rw [List.map_cons, List.zip_cons_cons, zip_map f L]; rfl
theorem srds_len (r t0 : Rat) (ts : List Rat) : ∀ ws : List Wh, (srds ws r t0 ts).length = ws.length * ts.length
  | [] => by simp [srds]
  | w :: ws => by
    have := srds_len r t0 ts ws
    unfold srds at *
    rw [List.flatMap_cons, List.length_append, this, List.length_map, List.length_cons, Nat.add_mul]; omega
section
variable {n k : Nat} {p : Pl} {r t0 : Rat} {ts : List Rat} {ws : List Wh}
theorem e_shaft_rounds_by (h : WsOk ws) (F : Fl k (t0 :: ts)) (hk : k ≤ 50) (hs : ∀ w ∈ ws, ∀ t ∈ t0 :: ts, Sz 100 (sgt w r t)) :
    Rn (n + 5) 55 [wls ws, row (t0 :: ts), .tup ((ssights ws (t0 :: ts) r).map row)] p = some (.tup ((srds ws r t0 ts).map rnd), p) := by
  have hl := F.l2
  rw [List.length_cons] at hl
  have hl4 := h.l2
  have eS : (ssights ws (t0 :: ts) r).map row = ws.map fun w => row ((t0 :: ts).map (sgt w r)) := by unfold ssights; rw [List.map_map]; rfl
  rw [eS]
  have eP : pairs (ws.map wl) (ws.map fun w => row ((t0 :: ts).map (sgt w r))) = ws.map fun w => D.tup [wl w, row ((t0 :: ts).map (sgt w r))] := by
    rw [pairs_map, show List.zip ws ws = ws.map fun x => (x, x) from by simpa using zip_map (fun x : Wh => x) ws, List.map_map]; rfl
  refine eq_of ?_; refine in55 ?_; (dsimp only [d55])
  repeat' walk_at "fw go"
  refine xw_for (gi := fun w : Wh => D.tup [wl w, row ((t0 :: ts).map (sgt w r))]) (L := ws) (fun pre ρ p' => p' = p ∧ ∃ a b c d e, ρ = [.dat (wls ws), .dat (row (t0 :: ts)), .dat (.tup (ws.map fun w => row ((t0 :: ts).map (sgt w r)))), .own ((srds pre r t0 ts).map rnd), a, b, c, d, e]) ?hs ?hb ?he
  case hs =>
    repeat' walk_at "fw go"
    exact ⟨rfl, eP, rfl, _, _, _, _, _, rfl⟩
  case hb =>
    rintro pre w post ρ p' e ⟨rfl, a, b, c, d, e', rfl⟩
    have hw : w ∈ ws := by rw [e]; simp
    have g := h.ok w hw
    have hlen : pre.length ≤ 4 := by
      have := congrArg List.length e
      rw [List.length_append, List.length_cons] at this
      omega
    have a1 : Rn (n + 4) 50 [.int w.1, row (t0 :: ts), row ((t0 :: ts).map (sgt w r))] p' = some (.tup ((rds w.1 t0 (sgt w r t0) ts (ts.map (sgt w r))).map rnd), p') := e_rounds_by (n := n) g.o2 (F.sz t0 (List.mem_cons_self ..)) (hs w hw t0 (List.mem_cons_self ..)) (fun x hx => F.sz x (List.mem_cons_of_mem _ hx)) (fun x hx => by
      obtain ⟨t, ht, rfl⟩ := List.mem_map.mp hx
      exact hs w hw t (List.mem_cons_of_mem _ ht)) (by omega) (by omega) (by omega)
    repeat' walk_at "fw go"
    refine xw_ext ?_
    refine w_lcA (gi := rnd) (go := fun x => rnd (x.1 * w.2, x.2)) (L := rds w.1 t0 (sgt w r t0) ts (ts.map (sgt w r))) (by walk_at "fw wp") ?_ ?_ ?_ ?_
    · repeat' walk_at "fw go"
      exact ⟨rfl, rfl⟩
    · unfold rds
      rw [List.length_map, List.length_zip]
      omega
    · intro x hx
      obtain ⟨y, hy, rfl⟩ := List.mem_map.mp hx
      have hz := (((ordz g.o2).mul ((F.sz y.1 (List.mem_cons_of_mem _ (List.of_mem_zip hy).1)).sub (F.sz t0 (List.mem_cons_self ..)))))
      have b1 := e_times (n := n + 2) (p := p') hz g.sz (by omega)
      repeat' walk_at "fw go"
      exact ⟨rfl, rfl, rfl⟩
    · rw [rds_eq]
      repeat' walk_at "fw go"
      refine ⟨?_, ?_⟩
      · have q1 : (srds pre r t0 ts).length = pre.length * ts.length := srds_len _ _ _ _
        rw [List.length_map, List.length_map, List.length_map, q1]
        have := Nat.mul_le_mul hlen (show ts.length ≤ 12 by omega)
        omega
      · repeat' walk_at "fw go"
        have e3 : srds (pre ++ [w]) r t0 ts = srds pre r t0 ts ++ ts.map (rnd1 w r t0) := by unfold srds; simp
        exact ⟨rfl, _, _, _, _, _, by rw [e3, List.map_append]⟩
  case he =>
    rintro ρ p' ⟨rfl, a, b, c, d, e', rfl⟩
    repeat' walk_at "fw go"
    exact ⟨rfl, rfl⟩
end
end FWL
namespace FWL
open PySem FW
/-! P17: a shaft's rate. -/
theorem zi_get {α : Type} {x : α × Nat} : ∀ {L : List α} {k : Nat}, x ∈ L.zipIdx k → k ≤ x.2 ∧ L[x.2 - k]? = some x.1
  | [], _, h => by simp at h
  | y :: L, k, h => by
    rw [List.zipIdx_cons] at h
    rcases List.mem_cons.mp h with rfl | h
    · simp
    · obtain ⟨h1, h2⟩ := zi_get h
      refine ⟨by omega, ?_⟩
      rw [show x.2 - k = (x.2 - (k + 1)) + 1 by omega]
      simpa using h2
theorem sgt_sz {w : Wh} {r t : Rat} (hw : WOk w) (hr : Ra w.2) (ht : Tw t) (hs : Si r) : Sz 24 (sgt w r t) := by
  obtain ⟨b1, b2⟩ := sgt_btw w hw.o1 r t
  obtain ⟨f, hf⟩ := sgt_eq w hw.o1 r t
  obtain ⟨i, hi, i1, i2⟩ := ht
  obtain ⟨z, hz, z1⟩ := hr
  obtain ⟨u, hu, u1⟩ := hs
  have h1 := hw.o1
  have h2 := hw.o2
  refine (sz_btw (D := w.1 * 8640) (kd := 18) b1 b2 (ord_sz hw.o1 hw.o2).1 (by omega) (by omega) ?_).mono (by omega)
  rw [show ((12 : Nat) : Rat) = 12 from rfl] at hi hz
  rw [show ((60 : Nat) : Rat) = 60 from rfl] at hu
  refine ⟨(w.1 : Int) * u * z * i - f * 8640, ?_⟩
  rw [Rat.natCast_mul, show ((8640 : Nat) : Rat) = 8640 from rfl, Rat.intCast_sub]
  simp only [Rat.intCast_mul, Rat.intCast_natCast, ← hi, ← hz, ← hu]
  rw [show ((8640 : Int) : Rat) = 8640 from rfl]
  grind
section
variable {n k : Nat} {p : Pl} {r t0 : Rat} {ts : List Rat} {ws : List Wh}
theorem e_wrong_shaft_sights (h : WsOk ws) (F : Fl k ts) (hs : ∀ w ∈ ws, ∀ t ∈ ts, Sz 24 (sgt w r t)) : Rn (n + 8) 54 [wls ws, row ts, .tup ((ssights ws ts r).map row)] p = some (.lst [], p) := by
  have l1 := h.l1
  have l2 := h.l2
  have eS : (ssights ws ts r).map row = ws.map fun w => row (ts.map (sgt w r)) := by unfold ssights; rw [List.map_map]; rfl
  rw [eS]
  have h0 := e_tuple_of (n := n + 5) (p := p) (ds := ws.map fun w => row (ts.map (sgt w r))) (a := (ws.length : Nat))
  rw [List.length_map, decide_eq_true (Int.le_refl _)] at h0
  have hb : biD .len [wls ws] = some (.int (ws.length : Nat)) := by
    show some (D.int ((ws.map wl).length : Nat)) = _
    rw [List.length_map]
  refine eq_of ?_; refine in54 ?_; (dsimp only [d54])
  repeat' walk_at "fw go"
  refine w_lcI (gi := fun x : Wh × Nat => .tup [.int (x.2 : Nat), row (ts.map (sgt x.1 r))]) (go := fun x => .int (x.2 : Nat)) (L := ws.zipIdx) (fun _ => false) (by walk_at "fw wp") ?_ (by rw [List.length_zipIdx]; omega) ?_ ?_
  · repeat' walk_at "fw go"
    exact ⟨enum_map (fun w => row (ts.map (sgt w r))) ws 0, rfl⟩
  · intro x hx
    have hm := mem_zi hx
    have g := h.ok x.1 hm
    have hg := (zi_get hx).2
    rw [Nat.sub_zero] at hg
    have i1 : ixP (wls ws) (.int (x.2 : Nat)) p = some (wl x.1) := ix_tup (by rw [List.getElem?_map, hg]; rfl)
    have a := e_wrong_in_sights (n := n) (p := p) (k := 24) g.o1 g.o2 (ts := ts) (S := ts.map (sgt x.1 r)) (List.length_map _) F.l2 (fun q hq => by
      obtain ⟨t, ht, rfl⟩ := List.mem_map.mp hq
      exact ⟨(sgt_btw x.1 g.o1 r t).1, (sgt_btw x.1 g.o1 r t).2, hs x.1 hm t ht⟩) (by omega)
    repeat' walk_at "fw go"
    refine ⟨rfl, ?_⟩
    repeat' walk_at "fw go"
    exact ⟨rfl, rfl, fun h => by cases h⟩
  · rw [filter_none]
    repeat' walk_at "fw go"
    exact ⟨rfl, rfl⟩
theorem ones_meas : meas 0 ((srds ws r t0 ts).map (·.1)) = smeas ws (t0 :: ts) := by
  refine (meas_isM _).same (meas_isM _) fun t => ?_
  have key : ∀ w : Wh, (∀ x ∈ ts, IsInt ((w.1 : Rat) * (x - t0) * w.2 * t)) ↔ IsInt ((w.1 : Rat) * w.2 * fm (t0 :: ts) * t) := fun w => by
    have e : (w.1 : Rat) * w.2 * fm (t0 :: ts) * t = meas 0 (ts.map fun x => x - t0) * ((w.1 : Rat) * w.2 * t) := by
      show (w.1 : Rat) * w.2 * meas 0 (ts.map fun x => x - t0) * t = _
      grind
    rw [e, (meas_isM _).int]
    constructor
    · intro h x hx
      obtain ⟨y, hy, rfl⟩ := List.mem_map.mp hx
      have := h y hy
      rwa [show (w.1 : Rat) * (y - t0) * w.2 * t = (y - t0) * ((w.1 : Rat) * w.2 * t) by grind] at this
    · intro h y hy
      have := h (y - t0) (List.mem_map_of_mem hy)
      rwa [show (w.1 : Rat) * (y - t0) * w.2 * t = (y - t0) * ((w.1 : Rat) * w.2 * t) by grind]
  constructor
  · intro h x hx
    obtain ⟨w, hw, rfl⟩ := List.mem_map.mp hx
    refine (key w).mp fun y hy => h _ ?_
    exact List.mem_map.mpr ⟨rnd1 w r t0 y, List.mem_flatMap.mpr ⟨w, hw, List.mem_map_of_mem hy⟩, rfl⟩
  · intro h x hx
    obtain ⟨y, hy, rfl⟩ := List.mem_map.mp hx
    obtain ⟨w, hw, hy⟩ := List.mem_flatMap.mp hy
    obtain ⟨t', ht', rfl⟩ := List.mem_map.mp hy
    exact (key w).mpr (h _ (List.mem_map_of_mem hw)) t' ht'
theorem e_shaft_rate (h : WsOk ws) (h3 : ws.length ≤ 3) (F : Fl 10 (t0 :: ts)) (h4 : ts.length ≤ 4) (hr : ∀ w ∈ ws, Ra w.2) (ht : ∀ t ∈ t0 :: ts, Tw t) (hs : Si r) (hm : smeas ws (t0 :: ts) ≠ 0) :
    ∃ q, Rn (n + 10) 60 [wls ws, row (t0 :: ts), .tup ((ssights ws (t0 :: ts) r).map row)] p = some (fr q, p) ∧ Sz 600 q ∧ IsInt ((q - r) * smeas ws (t0 :: ts)) := by
  have hz : ∀ w ∈ ws, ∀ t ∈ t0 :: ts, Sz 24 (sgt w r t) := fun w hw t h' => sgt_sz (h.ok w hw) (hr w hw) (ht t h') hs
  have hR : ∀ x ∈ srds ws r t0 ts, Rds 144 8640 r x := fun x hx => by
    obtain ⟨w, hw, hx⟩ := List.mem_flatMap.mp hx
    obtain ⟨t, ht', rfl⟩ := List.mem_map.mp hx
    exact rnd1_ok (h.ok w hw) (hr w hw) (ht t (List.mem_cons_of_mem _ ht')) (ht t0 (List.mem_cons_self ..)) hs
  have hz1 : ∀ x ∈ srds ws r t0 ts, Sz 24 x.1 := fun x hx => by
    obtain ⟨a, e, ha⟩ := (hR x hx).one
    exact sz_of e ha (by decide) (by decide)
  have hlen : (srds ws r t0 ts).length ≤ 12 := by
    rw [srds_len]
    exact Nat.mul_le_mul h3 h4
  have a1 := e_check_shaft (n := n) (p := p) h F (by omega)
  have a2 := e_wrong_shaft_sights (n := n) (p := p) (r := r) h F hz
  have a3 := e_shaft_rounds_by (n := n + 4) (p := p) (r := r) h F (by omega) (fun w hw t h' => (hz w hw t h').mono (by omega))
  obtain ⟨q, a4, q1, q2⟩ := e_solution_by (n := n + 1) (p := p) (D := 144) (D2 := 8640) (s := r) (j := 10) (by decide) (by decide) (by decide) (by decide) (by omega) hR (by rw [ones_meas]; exact hm) hz1 (by omega) hs.sz (by omega)
  rw [ones_meas] at q2
  refine ⟨q, ?_, q1.mono (by omega), q2⟩
  have a0 : Rn (n + 9) 59 [wls ws, row (t0 :: ts), .tup ((ssights ws (t0 :: ts) r).map row)] p = some (.non, p) := by
    refine eq_of ?_; refine in59 ?_; (dsimp only [d59])
    repeat' walk_at "fw go"
    refine xw_for (gi := fun x : D => x) (L := []) (fun pre ρ p' => p' = p ∧ ρ = [.dat (wls ws), .dat (row (t0 :: ts)), .dat (.tup ((ssights ws (t0 :: ts) r).map row)), .no]) ?hs ?hb ?he
    case hs =>
      repeat' walk_at "fw go"
      exact ⟨rfl, rfl, rfl⟩
    case hb =>
      rintro pre x post ρ p' e
      simp at e
    case he =>
      rintro ρ p' ⟨rfl, rfl⟩
      repeat' walk_at "fw go"
      exact ⟨rfl, rfl⟩
  refine eq_of ?_; refine in60 ?_; (dsimp only [d60])
  repeat' walk_at "fw go"
  exact ⟨rfl, rfl⟩
end
end FWL
namespace FWL
open PySem FW
/-! P18: draws. -/
def Pool (k : Nat) (p : Pl) : Prop := ∃ a b c : Int, p = [.int a, .int b, .int c] ∧ 0 ≤ a ∧ a < 2147483648 ∧ 0 ≤ c ∧ c ≤ k
theorem Pool.mono {k l : Nat} {p : Pl} (h : Pool k p) (hl : k ≤ l) : Pool l p := by
  obtain ⟨a, b, c, e, h1, h2, h3, h4⟩ := h
  exact ⟨a, b, c, e, h1, h2, h3, by omega⟩
theorem ex_nat {x : Int} {m : Nat} {R : Prop} (h : 0 ≤ x ∧ x < (m : Int)) (r : R) : ∃ i : Nat, D.int x = D.int (i : Nat) ∧ i < m ∧ R := ⟨x.toNat, by rw [Int.toNat_of_nonneg h.1], by omega, r⟩
section
variable {n k : Nat} {p : Pl}
theorem e_law_pool {ns : List Int} (hn : ns.length ≤ 63) (hb : ∀ z ∈ ns, Builtin.Int.intBits z ≤ 1048576) {t : Nat} (ht : t < 1000) : ∃ is : List Int, Rn (n + 1) 72 [scrD ns, .int (t : Nat)] p = some (.lst (is.map D.int), p) ∧ Pool 0 (is.map D.int) := by
  have key : ∃ d p1, Rn (n + 1) 72 [scrD ns, .int (t : Nat)] p = some (d, p1) ∧ (p1 = p ∧ ∃ is : List Int, d = .lst (is.map D.int) ∧ Pool 0 (is.map D.int)) := by
    have hl : biD .len [scrD ns] = some (.int (ns.length : Nat)) := by
      show some (D.int ((ns.map D.int).length : Nat)) = _
      rw [List.length_map]
    have hs : slD (scrD ns) none (some 63) = some (.lst (ns.map D.int)) := by
      show some (D.lst (cutD (ns.map D.int) none (some ((63 : Nat) : Int)))) = _
      rw [cut_to (by rw [List.length_map]; exact hn)]
    refine in72 ?_; (dsimp only [d72])
    refine xw_par ?_
    refine WE.imp (Q := fun d p1 => p1 = p ∧ ∃ own, d = .int own ∧ Bd 1048576 own) ?_ ?_
    · refine w_ite ?_
      repeat' walk_at "fw go"
      refine wb_d (fun h => ?_) (fun h => ?_)
      · obtain ⟨z, hz⟩ : ∃ z, ns[t]? = some z := ⟨ns[t]'(by omega), List.getElem?_eq_getElem (by omega)⟩
        have i1 : ixP (scrD ns) (.int (t : Nat)) p = some (.int z) := at_nat (by rw [List.getElem?_map, hz]; rfl)
        repeat' walk_at "fw go"
        exact ⟨rfl, z, rfl, bits_bd (hb z (List.mem_of_getElem? hz))⟩
      · repeat' walk_at "fw go"
        exact ⟨rfl, _, rfl, Bd.mono (k := 64) (bd_small (by omega)) (by omega)⟩
    · rintro _ p1 ⟨rfl, own, rfl, ho⟩
      repeat' walk_at "fw go"
      refine xw_for (gi := D.int) (L := ns) (fun pre ρ p' => p' = p1 ∧ ∃ a s, ρ = [.dat (scrD ns), .dat (.int (t : Nat)), a, .dat (.int own), .dat (.int s)] ∧ 0 ≤ s ∧ s < 2147483648) ?hs ?hb ?he
      case hs =>
        repeat' walk_at "fw go"
        exact ⟨rfl, rfl, _, _, rfl, by omega, by omega⟩
      case hb =>
        rintro pre z post ρ p' e ⟨rfl, a, s, rfl, s1, s2⟩
        repeat' walk_at "fw go"
        exact ⟨rfl, _, _, rfl, (fmod_rng (by decide)).1, Int.lt_of_lt_of_le (fmod_rng (by decide)).2 (by decide)⟩
      case he =>
        rintro ρ p' ⟨rfl, a, s, rfl, s1, s2⟩
        repeat' walk_at "fw gx"
        refine WE.imp (Q := fun d p1 => p1 = p' ∧ ∃ b, d = .int b) ?_ ?_
        · refine w_ite ?_
          repeat' walk_at "fw go"
          · refine wb_d (fun h => ?_) (fun h => ?_)
            · repeat' walk_at "fw go"
              exact ⟨rfl, _, rfl⟩
            · repeat' walk_at "fw go"
              refine wb_d (fun h => ?_) (fun h => ?_)
              · repeat' walk_at "fw go"
                exact ⟨rfl, _, rfl⟩
              · repeat' walk_at "fw go"
                exact ⟨rfl, _, rfl⟩
        · rintro _ p2 ⟨rfl, b, rfl⟩
          repeat' walk_at "fw go"
          exact ⟨rfl, [_, b, 0], rfl, _, _, _, rfl, (fmod_rng (by decide)).1, Int.lt_of_lt_of_le (fmod_rng (by decide)).2 (by decide), by decide, by decide⟩
  obtain ⟨d, p1, h1, rfl, is, rfl, h2⟩ := key
  exact ⟨is, h1, h2⟩
theorem s_draw {m : Nat} (hp : Pool k p) (hk : k ≤ 1000000) (hm : 1 ≤ m) (hm2 : m ≤ 1000000) : ∃ d p1, Rn (n + 1) 73 [.pool, .int (m : Nat)] p = some (d, p1) ∧ (∃ i : Nat, d = .int (i : Nat) ∧ i < m ∧ Pool (k + 1) p1) := by
  obtain ⟨a, b, c, rfl, a1, a2, c1, c2⟩ := hp
  refine in73 ?_; (dsimp only [d73])
  have r1 : 0 ≤ a.fmod 20011 ∧ a.fmod 20011 < 20011 := fmod_rng (by decide)
  repeat' walk_at "fw go"
  refine wb_d (fun h => ?_) (fun h => ?_)
  · repeat' walk_at "fw go"
    have h2 := Int.emod_nonneg b (show (m : Int) ≠ 0 by omega)
    have h3 := Int.emod_lt_of_pos b (show (0 : Int) < m by omega)
    exact ⟨(b % (m : Int)).toNat, by rw [Int.toNat_of_nonneg h2], by omega, _, _, _, rfl, a1, a2, c1, by omega⟩
  · repeat' walk_at "fw go"
    exact ex_nat (fmod_rng (by omega)) ⟨_, _, _, rfl, (fmod_rng (by decide)).1, Int.lt_of_lt_of_le (fmod_rng (by decide)).2 (by decide), by omega, by omega⟩
theorem s_pick {α : Type} {L : List α} {g : α → D} (hp : Pool k p) (hk : k ≤ 1000000) (h1 : 1 ≤ L.length) (h2 : L.length ≤ 1000) : ∃ d p1, Rn (n + 2) 74 [.pool, .lst (L.map g)] p = some (d, p1) ∧ (∃ x ∈ L, d = g x ∧ Pool (k + 1) p1) := by
  obtain ⟨d, p1, e, i, rfl, hi, hp1⟩ := s_draw (n := n) hp hk h1 (by omega)
  have hl : biD .len [.lst (L.map g)] = some (.int (L.length : Nat)) := by
    show some (D.int ((L.map g).length : Nat)) = _
    rw [List.length_map]
  have i1 : ixP (.lst (L.map g)) (.int (i : Nat)) p1 = some (g L[i]) := ix_lst (by rw [List.getElem?_map, List.getElem?_eq_getElem hi]; rfl)
  refine in74 ?_; (dsimp only [d74])
  repeat' walk_at "fw go"
  exact ⟨L[i], List.getElem_mem _, rfl, hp1⟩
end
end FWL
namespace FWL
open PySem FW
/-! P19: the law's own fractions. -/
theorem log2_le {a b : Nat} (h : a ≤ b) (h0 : a ≠ 0) : a.log2 ≤ b.log2 := (Nat.le_log2 (by omega)).mpr (Nat.le_trans (Nat.log2_self_le h0) h)
theorem log2_half {a b : Nat} (h : 2 * a ≤ b) (h0 : a ≠ 0) : a.log2 + 1 ≤ b.log2 := by
  refine (Nat.le_log2 (by omega)).mpr ?_
  have := Nat.log2_self_le h0
  rw [Nat.pow_succ]; omega
/-- how long Euclid takes -/
def eu (x y : Nat) : Nat := if y = 0 then 0 else (x * y).log2 + 1 + if x < y then 1 else 0
theorem eu_lt {x y : Nat} (hy : 0 < y) : eu y (x % y) < eu x y := by
  have hr := Nat.mod_lt x hy
  unfold eu
  rw [if_neg (show y ≠ 0 by omega)]
  by_cases h0 : x % y = 0
  · rw [if_pos h0]; omega
  · rw [if_neg h0, if_neg (show ¬ y < x % y by omega)]
    by_cases h : x < y
    · rw [if_pos h, Nat.mod_eq_of_lt h, Nat.mul_comm]; omega
    · rw [if_neg h]
      have h1 : y + x % y ≤ x := by
        have := Nat.div_add_mod x y
        have h2 : 1 ≤ x / y := Nat.div_pos (by omega) hy
        have := Nat.mul_le_mul_left y h2
        omega
      have h2 : 2 * (y * (x % y)) ≤ x * y := by
        have e1 := Nat.mul_le_mul_right y h1
        rw [Nat.add_mul] at e1
        have e2 := Nat.mul_le_mul_left y (Nat.le_of_lt hr)
        rw [Nat.mul_comm (x % y) y] at e1
        omega
      have := log2_half h2 (Nat.mul_ne_zero (by omega) h0)
      omega
theorem eu_bd {x y k l : Nat} (hx : x < 2 ^ k) (hy : y < 2 ^ l) : eu x y ≤ k + l + 2 := by
  unfold eu
  split
  · omega
  · have : (x * y).log2 ≤ k + l := by
      by_cases h0 : x * y = 0
      · rw [h0]
        have : Nat.log2 0 = 0 := by decide
        omega
      · exact Nat.le_of_lt ((Nat.log2_lt h0).mpr (by rw [Nat.pow_add]; exact Nat.mul_lt_mul'' hx hy))
    split <;> omega
section
variable {n k l : Nat} {p : Pl} {q r : Rat}
theorem e_law_common {a b : Nat} (ha : Bd k (a : Int)) (hb : Bd l (b : Int)) (hk : k + l ≤ 1000000000) : Rn (n + 1) 75 [.int (a : Nat), .int (b : Nat)] p = some (.int (Nat.gcd a b : Nat), p) := by
  refine eq_of ?_; refine in75 ?_; (dsimp only [d75])
  unfold Bd at ha hb
  rw [Int.natAbs_natCast] at ha hb
  refine xw_whl (fun m ρ p' => p' = p ∧ ∃ x y : Nat, ρ = [.dat (.int (x : Nat)), .dat (.int (y : Nat))] ∧ m = eu x y ∧ Nat.gcd x y = Nat.gcd a b) (n := eu a b) ⟨rfl, a, b, rfl, rfl, rfl⟩ ?_ ?_
  · show eu a b < 1000000000000
    have := eu_bd ha hb
    omega
  · rintro m ρ p' ⟨rfl, x, y, rfl, rfl, hg⟩
    repeat' walk_at "fw go"
    refine wb_d (fun h => ?_) (fun h => ?_)
    · repeat' walk_at "fw go"
      have e : (x : Int).fmod (y : Int) = ((x % y : Nat) : Int) := by rw [Int.fmod_eq_emod_of_nonneg _ (by omega)]; rfl
      rw [e]
      exact ⟨_, eu_lt (show 0 < y by omega), rfl, y, x % y, rfl, rfl, by rw [← hg, Nat.gcd_comm x y, Nat.gcd_rec y x, Nat.gcd_comm]⟩
    · repeat' walk_at "fw go"
      have : y = 0 := by omega
      rw [this, Nat.gcd_zero_right] at hg
      exact ⟨by rw [hg], rfl⟩
theorem e_law_f {a b : Int} (ha : Bd k a) (hb0 : b ≠ 0) (hb : Bd l b) (hk : k ≤ 100000000) (hl : l ≤ 8900) : Rn (n + 2) 76 [.int a, .int b] p = some (fr (Rat.divInt a b), p) := by
  have main : ∀ a b : Int, Bd k a → 0 < b → Bd l b → Rn (n + 1) 75 [.int (a.natAbs : Nat), .int b] p = some (.int (sg a b), p) ∧ opD .FloorDiv (.int a) (.int (sg a b)) = some (.int (Rat.divInt a b).num) ∧ opD .FloorDiv (.int b) (.int (sg a b)) = some (.int ((Rat.divInt a b).den : Nat)) := fun a b ha h0 hb => by
    have hs := sg_ne (a := a) (show b ≠ 0 by omega)
    have hbd := sg_bd (a := a) (show b ≠ 0 by omega) hb
    have e := plain_num (a := a) (show b ≠ 0 by omega)
    have c := e_law_common (n := n) (p := p) (a := a.natAbs) (b := b.natAbs) (show Bd k _ by unfold Bd at *; rw [Int.natAbs_natCast]; exact ha) (show Bd l _ by unfold Bd at *; rw [Int.natAbs_natCast]; exact hb) (by omega)
    rw [show ((b.natAbs : Nat) : Int) = b by omega] at c
    refine ⟨?_, ?_, ?_⟩
    · rw [c]; unfold sg; rw [if_pos h0]
    · rw [op_fdiv hs hbd hl, e.1]
    · rw [op_fdiv hs hbd hl, e.2]
  by_cases h : b < 0
  · obtain ⟨c1, c2, c3⟩ := main (0 - a) (0 - b) (by rw [Int.zero_sub]; exact ha.neg) (by omega) (by rw [Int.zero_sub]; exact hb.neg)
    have e : Rat.divInt (0 - a) (0 - b) = Rat.divInt a b := by rw [Int.zero_sub, Int.zero_sub, Rat.neg_divInt_neg]
    rw [e] at c2 c3
    refine eq_of ?_; refine in76 ?_; (dsimp only [d76])
    repeat' walk_at "fw go"
    exact ⟨rfl, rfl⟩
  · obtain ⟨c1, c2, c3⟩ := main a b ha (by omega) hb
    refine eq_of ?_; refine in76 ?_; (dsimp only [d76])
    repeat' walk_at "fw go"
    exact ⟨rfl, rfl⟩
theorem e_law_plus (h : Sz k q) (h2 : Sz l r) (hk : k + l ≤ 8000) : Rn (n + 3) 77 [fr q, fr r] p = some (fr (q + r), p) := by
  obtain ⟨a1, a2⟩ := h
  obtain ⟨b1, b2⟩ := h2
  have h1 := e_law_f (n := n) (p := p) (((a1.mul b2).mono (show k + l ≤ k + l by omega)).add ((b1.mul a2).mono (by omega))) (Int.mul_ne_zero (den_ne q) (den_ne r)) (a2.mul b2) (by omega) (by omega)
  rw [add_div] at h1
  refine eq_of ?_; refine in77 ?_; (dsimp only [d77])
  repeat' walk_at "fw go"
  exact ⟨rfl, rfl⟩
theorem e_law_minus (h : Sz k q) (h2 : Sz l r) (hk : k + l ≤ 8000) : Rn (n + 3) 78 [fr q, fr r] p = some (fr (q - r), p) := by
  obtain ⟨a1, a2⟩ := h
  obtain ⟨b1, b2⟩ := h2
  have h1 := e_law_f (n := n) (p := p) (((a1.mul b2).mono (show k + l ≤ k + l by omega)).sub ((b1.mul a2).mono (by omega))) (Int.mul_ne_zero (den_ne q) (den_ne r)) (a2.mul b2) (by omega) (by omega)
  have e : Rat.divInt (q.num * r.den - r.num * q.den) (q.den * r.den) = q - r := by
    have := add_div q (-r)
    rw [Rat.neg_num, Rat.neg_den, Int.neg_mul, ← Int.sub_eq_add_neg, ← Rat.sub_eq_add_neg] at this
    exact this
  rw [e] at h1
  refine eq_of ?_; refine in78 ?_; (dsimp only [d78])
  repeat' walk_at "fw go"
  exact ⟨rfl, rfl⟩
theorem e_law_times (h : Sz k q) (h2 : Sz l r) (hk : k + l ≤ 8000) : Rn (n + 3) 79 [fr q, fr r] p = some (fr (q * r), p) := by
  obtain ⟨a1, a2⟩ := h
  obtain ⟨b1, b2⟩ := h2
  have h1 := e_law_f (n := n) (p := p) (a1.mul b1) (Int.mul_ne_zero (den_ne q) (den_ne r)) (a2.mul b2) (by omega) (by omega)
  rw [mul_div] at h1
  refine eq_of ?_; refine in79 ?_; (dsimp only [d79])
  repeat' walk_at "fw go"
  exact ⟨rfl, rfl⟩
theorem e_law_over (h : Sz k q) (h2 : Sz l r) (hk : k + l ≤ 8000) (hr : r ≠ 0) : Rn (n + 3) 80 [fr q, fr r] p = some (fr (q / r), p) := by
  obtain ⟨a1, a2⟩ := h
  obtain ⟨b1, b2⟩ := h2
  have h1 := e_law_f (n := n) (p := p) (a1.mul b2) (Int.mul_ne_zero (den_ne q) (num_ne hr)) (a2.mul b1) (by omega) (by omega)
  rw [over_div] at h1
  refine eq_of ?_; refine in80 ?_; (dsimp only [d80])
  repeat' walk_at "fw go"
  exact ⟨rfl, rfl⟩
theorem e_law_below (h : Sz k q) (h2 : Sz l r) (hk : k + l ≤ 8000) : Rn (n + 1) 81 [fr q, fr r] p = some (.bl (decide (q < r)), p) := by
  obtain ⟨a1, a2⟩ := h
  obtain ⟨b1, b2⟩ := h2
  rw [show decide (q < r) = decide (q.num * r.den < r.num * q.den) from decide_eq_decide.mpr (Rat.lt_iff q r)]
  refine eq_of ?_; refine in81 ?_; (dsimp only [d81])
  repeat' walk_at "fw go"
  exact ⟨rfl, rfl⟩
theorem e_law_measure {X : D} {L : List Rat} (hX : seqOf X = some (L.map fr)) (hL : ∀ x ∈ L, Sz k x) (hk : 1 + k * L.length ≤ 8000) : Rn (n + 3) 82 [X] p = some (fr (meas 0 L), p) := by
  refine eq_of ?_; refine in82 ?_; (dsimp only [d82])
  repeat' walk_at "fw go"
  refine xw_for (gi := fr) (L := L) (fun pre ρ p' => p' = p ∧ ∃ a b, ρ = [.dat X, .dat (fr (meas 0 pre)), a, b]) ?hs ?hb ?he
  case hs =>
    refine wq_it (w_var rfl ?_)
    exact wv hX ⟨rfl, rfl, _, _, rfl⟩
  case hb =>
    rintro pre x post ρ p' e ⟨rfl, a, b, rfl⟩
    have hx : Sz k x := hL x (by rw [e]; simp)
    have z1 := meas_sz (k := k) pre 0 1 sz_zero (fun y hy => hL y (by rw [e]; exact List.mem_append_left _ hy))
    have hlen : 1 + k * pre.length + k ≤ 8000 := by
      have := congrArg List.length e
      rw [List.length_append, List.length_cons] at this
      have h2 : k * (pre.length + 1) ≤ k * L.length := Nat.mul_le_mul_left _ (by omega)
      rw [Nat.mul_add] at h2
      omega
    have e2 : meas 0 (pre ++ [x]) = rg (meas 0 pre) x := by unfold meas; rw [List.foldl_append]; rfl
    rw [e2]
    generalize meas 0 pre = f at *
    obtain ⟨f1, f2⟩ := z1
    obtain ⟨x1, x2⟩ := hx
    have b1 := f1.mul x2
    have b2 := x1.mul f2
    have hg : Bd (1 + k * pre.length + k) ((Nat.gcd (f.num * x.den).natAbs (x.num * f.den).natAbs : Nat) : Int) := by
      unfold Bd at *
      rw [Int.natAbs_natCast]
      rcases Nat.eq_zero_or_pos (f.num * x.den).natAbs with e0 | e0
      · rw [e0, Nat.gcd_zero_left, Nat.add_comm]; exact b2
      · exact Nat.lt_of_le_of_lt (Nat.gcd_le_left _ e0) b1
    have c1 := e_law_common (n := n + 1) (p := p') (a := (f.num * x.den).natAbs) (b := (x.num * f.den).natAbs) (show Bd _ _ by unfold Bd at b1 ⊢; rw [Int.natAbs_natCast]; exact b1) (show Bd _ _ by unfold Bd at b2 ⊢; rw [Int.natAbs_natCast]; exact b2) (by omega)
    have c2 : Rn (n + 2) 76 [.int (Nat.gcd (f.num * x.den).natAbs (x.num * f.den).natAbs : Nat), .int ((f.den : Nat) * (x.den : Nat))] p' = some (fr (rg f x), p') := e_law_f (n := n) hg (Int.mul_ne_zero (den_ne f) (den_ne x)) (f2.mul x2) (by omega) (by omega)
    repeat' walk_at "fw go"
    exact ⟨rfl, _, _, rfl⟩
  case he =>
    rintro ρ p' ⟨rfl, a, b, rfl⟩
    repeat' walk_at "fw go"
    exact ⟨rfl, rfl⟩
end
end FWL
namespace FWL
open PySem FW
/-! P20: what is drawn. -/
theorem dv_mul {a b c : Int} {d : Nat} (hb : b ≠ 0) (h : (d : Int) = b * c) : Rat.divInt a b * (d : Rat) = ((a * c : Int) : Rat) := by
  have hb' : (b : Rat) ≠ 0 := fun e => hb (Rat.intCast_eq_zero_iff.mp e)
  have e : (d : Rat) = (b : Rat) * (c : Rat) := by rw [← Rat.intCast_natCast, h, Rat.intCast_mul]
  rw [Rat.divInt_eq_div, e, Rat.intCast_mul]
  grind
/-- what is on the way up -/
def Asc (ts : List Rat) : Prop := ∀ (i : Nat) a b, ts[i]? = some a → ts[i + 1]? = some b → a < b
theorem Asc.snoc {ts : List Rat} {t : Rat} (h : Asc ts) (hl : ∀ x ∈ ts, x < t) : Asc (ts ++ [t]) := by
  intro i a b ha hb
  by_cases h1 : i + 1 < ts.length
  · rw [List.getElem?_append_left h1] at hb
    rw [List.getElem?_append_left (by omega)] at ha
    exact h i a b ha hb
  · have hi : i + 1 < (ts ++ [t]).length := (List.getElem?_eq_some_iff.mp hb).1
    rw [List.length_append, List.length_singleton] at hi
    rw [List.getElem?_append_right (by omega), show i + 1 - ts.length = 0 by omega] at hb
    rw [List.getElem?_append_left (by omega)] at ha
    cases hb
    exact hl a (List.mem_of_getElem? ha)
section
variable {n k : Nat} {p : Pl}
theorem s_fraction (hp : Pool k p) (hk : k ≤ 900000) : ∃ d p1, Rn (n + 3) 83 [.pool, .int 9] p = some (d, p1) ∧ (∃ r, d = fr r ∧ Si r ∧ Pool (k + 2) p1) := by
  refine in83 ?_; (dsimp only [d83])
  repeat' walk_at "fw go"
  refine wr_ex (s_draw (m := 19) (n := n + 1) hp (by omega) (by decide) (by decide)) ?_
  rintro _ p1 ⟨i, rfl, hi, hp1⟩
  repeat' walk_at "fw go"
  refine wr_ex (s_pick (L := [1, 1, 2, 3, 4, 5, 6, 12]) (g := D.int) (n := n) hp1 (by omega) (by decide) (by decide)) ?_
  rintro _ p2 ⟨x, hx, rfl, hp2⟩
  have hx2 : 1 ≤ x ∧ x ≤ 12 := by simp at hx; omega
  have f := e_law_f (n := n) (p := p2) (a := (i : Int) - 9) (b := x) (bd_small (by omega)) (by omega) (bd_small (by omega)) (by omega) (by omega)
  repeat' walk_at "fw go"
  refine ⟨_, rfl, ?_, hp2⟩
  simp at hx
  rcases hx with rfl | rfl | rfl | rfl | rfl | rfl | rfl
  · exact ⟨_, dv_mul (c := 60) (by decide) (by decide), by omega⟩
  · exact ⟨_, dv_mul (c := 30) (by decide) (by decide), by omega⟩
  · exact ⟨_, dv_mul (c := 20) (by decide) (by decide), by omega⟩
  · exact ⟨_, dv_mul (c := 15) (by decide) (by decide), by omega⟩
  · exact ⟨_, dv_mul (c := 12) (by decide) (by decide), by omega⟩
  · exact ⟨_, dv_mul (c := 10) (by decide) (by decide), by omega⟩
  · exact ⟨_, dv_mul (c := 5) (by decide) (by decide), by omega⟩
theorem s_order (hp : Pool k p) (hk : k ≤ 990000) : ∃ d p1, Rn (n + 3) 85 [.pool] p = some (d, p1) ∧ (∃ o : Nat, d = .int (o : Nat) ∧ 1 ≤ o ∧ o ≤ 24 ∧ Pool (k + 1) p1) := by
  refine in85 ?_; (dsimp only [d85])
  repeat' walk_at "fw go"
  refine wr_ex (s_pick (L := [1, 1, 2, 3, 4, 5, 6, 12, 24]) (g := fun o : Nat => D.int (o : Nat)) (n := n) hp (by omega) (by decide) (by decide)) ?_
  rintro _ p2 ⟨x, hx, rfl, hp2⟩
  repeat' walk_at "fw go"
  refine ⟨x, rfl, ?_, ?_, hp2⟩
  · simp at hx; omega
  · simp at hx; omega
theorem s_flashes (hp : Pool k p) (hk : k ≤ 900000) : ∃ d p1, Rn (n + 4) 84 [.pool, .int 2, .int 5] p = some (d, p1) ∧ (∃ t0 ts, d = row (t0 :: ts) ∧ Fl 10 (t0 :: ts) ∧ (∀ t ∈ t0 :: ts, Tw t) ∧ 1 ≤ ts.length ∧ ts.length ≤ 4 ∧ Pool (k + 20) p1) := by
  refine in84 ?_; (dsimp only [d84])
  repeat' walk_at "fw go"
  refine wr_ex (s_pick (L := [1, 2, 3, 4]) (g := D.int) (n := n + 1) hp (by omega) (by decide) (by decide)) ?_
  rintro _ p1 ⟨q, hq, rfl, hp1⟩
  have hq2 : q ≠ 0 ∧ 1 ≤ q ∧ q ≤ 4 := by simp at hq; omega
  obtain ⟨c, hc, c1, c2⟩ : ∃ c : Int, ((12 : Nat) : Int) = q * c ∧ 3 ≤ c ∧ c ≤ 12 := by
    simp at hq
    rcases hq with rfl | rfl | rfl | rfl
    · exact ⟨12, by decide, by decide, by decide⟩
    · exact ⟨6, by decide, by decide, by decide⟩
    · exact ⟨4, by decide, by decide, by decide⟩
    · exact ⟨3, by decide, by decide, by decide⟩
  repeat' walk_at "fw go"
  refine wr_ex (s_draw (m := 4) (n := n + 2) hp1 (by omega) (by decide) (by decide)) ?_
  rintro _ p2 ⟨m, rfl, hm, hp2⟩
  repeat' walk_at "fw go"
  refine wr_ex (s_draw (m := 9) (n := n + 2) hp2 (by omega) (by decide) (by decide)) ?_
  rintro _ p3 ⟨i, rfl, hi, hp3⟩
  repeat' walk_at "fw go"
  refine wr_ex (s_pick (L := [0, 0, (i : Int)]) (g := D.int) (n := n + 1) hp3 (by omega) (by simp) (by simp)) ?_
  rintro _ p4 ⟨x, hx, rfl, hp4⟩
  have hx2 : 0 ≤ x ∧ x ≤ 8 := by simp at hx; omega
  have f := e_law_f (n := n + 1) (p := p4) (a := x) (b := q) (bd_small (by omega)) hq2.1 (bd_small (by omega)) (by omega) (by omega)
  have f0 := dv_mul (a := x) hq2.1 hc
  repeat' walk_at "fw go"
  refine xw_for (gi := fun i : Nat => D.int (i : Nat)) (L := List.range (2 + m)) (fun pre ρ p' => Pool (k + 4 + pre.length) p' ∧ ∃ (ts : List Rat) (h : Rat) (a : Slot) (j : Int), ρ = [.dat .pool, .dat (.int 2), .dat (.int 5), a, .dat (.int q), .dat (.int (2 + (m : Nat))), .dat (fr h), .own (ts.map fr)] ∧ ts.length = pre.length ∧ (∀ t ∈ ts, Tw t ∧ t < h) ∧ Asc ts ∧ h * ((12 : Nat) : Rat) = j ∧ 0 ≤ j ∧ j ≤ 100 + 60 * pre.length) ?hs ?hb ?he
  case hs =>
    repeat' walk_at "fw go"
    refine ⟨2 + m, by rw [Int.natCast_add]; rfl, by omega, rangeD0 _, hp4, [], _, _, _, rfl, rfl, (by intro t ht; cases ht), (by intro i a b ha; simp at ha), f0, ?_, ?_⟩
    · exact Int.mul_nonneg (by omega) (by omega)
    · have := Int.mul_le_mul (show x ≤ 8 by omega) (show c ≤ 12 by omega) (by omega) (by omega)
      simp only [List.length_nil]
      omega
  case hb =>
    rintro pre i' post ρ p' e ⟨hpp, ts, h, a, j, rfl, hl, ht, hasc, hj, j0, j1⟩
    have hpl : pre.length < 2 + m := by
      have := congrArg List.length e
      rw [List.length_append, List.length_cons, List.length_range] at this
      omega
    have htw : Tw h := ⟨j, hj, j0, by omega⟩
    repeat' walk_at "fw go"
    refine wr_ex (s_draw (m := 5) (n := n + 2) hpp (by omega) (by decide) (by decide)) ?_
    rintro _ p6 ⟨u, rfl, hu, hp6⟩
    have g := e_law_f (n := n + 1) (p := p6) (a := 1 + (u : Int)) (b := q) (bd_small (by omega)) hq2.1 (bd_small (by omega)) (by omega) (by omega)
    have g0 := dv_mul (a := 1 + (u : Int)) hq2.1 hc
    have hpos : 0 < (1 + (u : Int)) * c := Int.mul_pos (by omega) (by omega)
    have hle : (1 + (u : Int)) * c ≤ 5 * 12 := Int.mul_le_mul (by omega) (by omega) (by omega) (by omega)
    have gz : Sz 10 (Rat.divInt (1 + (u : Int)) q) := sz_of g0 (by unfold Bd; omega) (by decide) (by decide)
    have s1 := e_law_plus (n := n) (p := p6) htw.sz gz (by omega)
    repeat' walk_at "fw go"
    have e12 : ((12 : Nat) : Rat) = 12 := rfl
    have hlt : h < h + Rat.divInt (1 + (u : Int)) q := by
      have h1 : (0 : Rat) < ((((1 + (u : Int)) * c : Int)) : Rat) := Rat.intCast_pos.mpr hpos
      rw [← g0, e12] at h1
      grind
    refine ⟨by rw [List.length_append]; exact hp6, ts ++ [h], _, _, _, by rw [List.map_append]; rfl, by rw [List.length_append, List.length_append, hl]; rfl, fun t h' => ?_, hasc.snoc fun t h' => (ht t h').2, by rw [Rat.add_mul, hj, g0, ← Rat.intCast_add], by omega, ?_⟩
    · rcases List.mem_append.mp h' with h' | h'
      · exact ⟨(ht t h').1, by have := (ht t h').2; grind⟩
      · simp at h'
        rw [h']
        exact ⟨htw, hlt⟩
    · rw [List.length_append, List.length_singleton]; omega
  case he =>
    rintro ρ p' ⟨hpp, ts, h, a, j, rfl, hl, ht, hasc, hj, j0, j1⟩
    rw [List.length_range] at hl hpp
    repeat' walk_at "fw go"
    match ts, hl, ht, hasc with
    | t0 :: ts, hl, ht, hasc =>
      rw [List.length_cons] at hl
      refine ⟨t0, ts, rfl, ⟨by rw [List.length_cons]; omega, by rw [List.length_cons]; omega, fun t h' => ?_, fun t h' => (ht t h').1.sz, hasc⟩, fun t h' => (ht t h').1, by omega, by omega, hpp.mono (by omega)⟩
      obtain ⟨i, e, i0, _⟩ := (ht t h').1
      have h1 : (0 : Rat) ≤ (i : Rat) := Rat.intCast_nonneg.mpr i0
      rw [← e, show ((12 : Nat) : Rat) = 12 from rfl] at h1
      grind
    | [], hl, _, _ => simp at hl; omega
/-- a drawn wheel -/
structure WD (w : Wh) : Prop where
  ok : WOk w
  ra : Ra w.2
theorem s_shaft (hp : Pool k p) (hk : k ≤ 900000) : ∃ d p1, Rn (n + 4) 86 [.pool, .int 3] p = some (d, p1) ∧ (∃ ws, d = wls ws ∧ 1 ≤ ws.length ∧ ws.length ≤ 3 ∧ (∀ w ∈ ws, WD w) ∧ Pool (k + 20) p1) := by
  refine in86 ?_; (dsimp only [d86])
  repeat' walk_at "fw go"
  obtain ⟨_, p1, e1, m, rfl, hm, hp1⟩ := s_draw (m := 3) (n := n + 2) hp (by omega) (by decide) (by decide)
  have e1 : Rn (n + 3) 73 [.pool, .int 3] p = some (.int (m : Nat), p1) := e1
  refine xw_for (gi := fun i : Nat => D.int (i : Nat)) (L := List.range (1 + m)) (fun pre ρ p' => Pool (k + 1 + 4 * pre.length) p' ∧ ∃ (ws : List Wh) (a b : Slot), ρ = [.dat .pool, .dat (.int 3), .dat (wls ws), a, b] ∧ ws.length = pre.length ∧ (∀ w ∈ ws, WD w)) ?hs ?hb ?he
  case hs =>
    repeat' walk_at "fw go"
    exact ⟨1 + m, by rw [Int.natCast_add]; rfl, by omega, rangeD0 _, hp1, [], _, _, rfl, rfl, fun w h => nomatch h⟩
  case hb =>
    rintro pre i post ρ p' e ⟨hpp, ws, a, b, rfl, hl, hws⟩
    have hpl : pre.length < 1 + m := by
      have := congrArg List.length e
      rw [List.length_append, List.length_cons, List.length_range] at this
      omega
    repeat' walk_at "fw go"
    refine wr_ex (s_pick (L := [-1, 1]) (g := D.int) (n := n + 1) hpp (by omega) (by decide) (by decide)) ?_
    rintro _ p2 ⟨x, hx, rfl, hp2⟩
    have hx2 : x ≠ 0 ∧ x.natAbs = 1 := by simp at hx; omega
    repeat' walk_at "fw go"
    refine wr_ex (s_draw (m := 6) (n := n + 2) hp2 (by omega) (by decide) (by decide)) ?_
    rintro _ p3 ⟨u, rfl, hu, hp3⟩
    have ha0 : x * (1 + (u : Int)) ≠ 0 := Int.mul_ne_zero hx2.1 (by omega)
    have ha : (x * (1 + (u : Int))).natAbs ≤ 6 := by rw [Int.natAbs_mul, hx2.2]; omega
    repeat' walk_at "fw go"
    refine wr_ex (s_pick (L := [1, 1, 2, 3, 4]) (g := D.int) (n := n + 1) hp3 (by omega) (by decide) (by decide)) ?_
    rintro _ p4 ⟨q, hq, rfl, hp4⟩
    have hq2 : q ≠ 0 ∧ 1 ≤ q ∧ q ≤ 4 := by simp at hq; omega
    obtain ⟨c, hc, c1, c2⟩ : ∃ c : Int, ((12 : Nat) : Int) = q * c ∧ 3 ≤ c ∧ c ≤ 12 := by
      simp at hq
      rcases hq with rfl | rfl | rfl | rfl
      · exact ⟨12, by decide, by decide, by decide⟩
      · exact ⟨6, by decide, by decide, by decide⟩
      · exact ⟨4, by decide, by decide, by decide⟩
      · exact ⟨3, by decide, by decide, by decide⟩
    have f0 := dv_mul (a := x * (1 + (u : Int))) hq2.1 hc
    have f := e_law_f (n := n + 1) (p := p4) (a := x * (1 + (u : Int))) (b := q) (bd_small (by omega)) hq2.1 (bd_small (by omega)) (by omega) (by omega)
    repeat' walk_at "fw go"
    refine wr_ex (s_order (n := n) hp4 (by omega)) ?_
    rintro _ p5 ⟨o, rfl, o1, o2, hp5⟩
    have g : WD (o, Rat.divInt (x * (1 + (u : Int))) q) := by
      refine ⟨⟨o1, o2, fun h => ha0 ?_, sz_div hq2.1 (show Bd 6 _ by unfold Bd; omega) (show Bd 6 _ by unfold Bd; omega) (by omega)⟩, _, f0, ?_⟩
      · have h : Rat.divInt (x * (1 + (u : Int))) q = 0 := h
        rw [h, Rat.zero_mul] at f0
        have := Rat.intCast_eq_zero_iff.mp f0.symm
        rcases Int.mul_eq_zero.mp this with h2 | h2
        · exact h2
        · omega
      · rw [Int.natAbs_mul]
        have := Nat.mul_le_mul ha (show c.natAbs ≤ 12 by omega)
        omega
    have o1' : opD .Add (wls ws) (.tup [.tup [.int (o : Nat), fr (Rat.divInt (x * (1 + (u : Int))) q)]]) = some (wls (ws ++ [(o, Rat.divInt (x * (1 + (u : Int))) q)])) := by
      show (if (ws.map wl).length + 1 ≤ 1000000 then some (D.tup (ws.map wl ++ [wl (o, Rat.divInt (x * (1 + (u : Int))) q)])) else none) = _
      rw [if_pos (by rw [List.length_map]; omega), wls, List.map_append]; rfl
    repeat' walk_at "fw go"
    refine ⟨hp5.mono (by rw [List.length_append, List.length_singleton]; omega), ws ++ [(o, Rat.divInt (x * (1 + (u : Int))) q)], _, _, rfl, by rw [List.length_append, List.length_append, hl]; rfl, fun w h => ?_⟩
    rcases List.mem_append.mp h with h | h
    · exact hws w h
    · simp at h; rw [h]; exact g
  case he =>
    rintro ρ p' ⟨hpp, ws, a, b, rfl, hl, hws⟩
    rw [List.length_range] at hl hpp
    repeat' walk_at "fw go"
    exact ⟨ws, rfl, by omega, by omega, hws, hpp.mono (by omega)⟩
end
end FWL
namespace FWL
open PySem FW
/-! P21: shafts, the mathematics. -/
theorem meas_le {L : List Rat} {x : Rat} (hx : x ∈ L) (h0 : x ≠ 0) : meas 0 L ≤ x.abs := by
  by_cases h : meas 0 L = 0
  · rw [h]; exact Rat.abs_nonneg
  · have hp := pos_of (meas_isM L).nn h
    have hi := ((meas_isM L).int (meas 0 L)⁻¹).mp (by rw [Rat.mul_inv_cancel _ h]; exact isInt_one) x hx
    have h1 : IsInt (x.abs * (meas 0 L)⁻¹) := isInt_abs.mpr hi
    have ha : 0 < x.abs := by
      rcases Rat.le_total (a := 0) (b := x) with q | q
      · rw [Rat.abs_of_nonneg q]; exact Rat.lt_of_le_of_ne q (Ne.symm h0)
      · rw [Rat.abs_of_nonpos q]
        have : x < 0 := Rat.lt_of_le_of_ne q h0
        grind
    have h2 := isInt_one_le h1 (Rat.mul_pos ha (Rat.inv_pos.mpr hp))
    have h3 := Rat.mul_le_mul_of_nonneg_right h2 (Rat.le_of_lt hp)
    rw [Rat.one_mul, Rat.mul_assoc, Rat.inv_mul_cancel _ h, Rat.mul_one] at h3
    exact h3
theorem meas_ne {L : List Rat} {x : Rat} (hx : x ∈ L) (h0 : x ≠ 0) : meas 0 L ≠ 0 := fun h => h0 (int_half fun t => by
  have := ((meas_isM L).int t).mp (by rw [h, Rat.zero_mul]; exact isInt_zero)
  exact this x hx)
theorem lt_or_eq {a b : Rat} (h : a ≤ b) : a < b ∨ a = b := by
  by_cases q : a = b
  · exact .inr q
  · exact .inl (Rat.lt_of_le_of_ne h q)
theorem rem_eq {a b z : Rat} (hz : 0 < z) : rem a z = rem b z ↔ IsInt ((a - b) / z) := by
  have hne := Rat.ne_of_gt hz
  obtain ⟨a1, a2⟩ := rem_lt (q := a) hz
  obtain ⟨b1, b2⟩ := rem_lt (q := b) hz
  have ea : rem a z = a - ((a / z).floor : Rat) * z := rfl
  have eb : rem b z = b - ((b / z).floor : Rat) * z := rfl
  generalize (a / z).floor = f at *
  generalize (b / z).floor = g at *
  constructor
  · intro h
    refine ⟨f - g, ?_⟩
    rw [Rat.intCast_sub]
    have : a - b = (f - g) * z := by grind
    rw [this]
    exact Rat.mul_div_cancel hne
  · rintro ⟨m, hm⟩
    have e : a - b = m * z := by rw [← hm]; exact (Rat.div_mul_cancel hne).symm
    have e2 : rem a z - rem b z = ((m - f + g : Int) : Rat) * z := by
      rw [Rat.intCast_add, Rat.intCast_sub]; grind
    have h1 : ((m - f + g : Int) : Rat) < 1 := by
      rcases Rat.le_total (a := ((m - f + g : Int) : Rat)) (b := 1) with q | q
      · rcases lt_or_eq q with q | q
        · exact q
        · rw [q, Rat.one_mul] at e2; grind
      · have := Rat.mul_le_mul_of_nonneg_right q (Rat.le_of_lt hz)
        grind
    have h2 : (-1 : Rat) < ((m - f + g : Int) : Rat) := by
      rcases Rat.le_total (a := ((m - f + g : Int) : Rat)) (b := -1) with q | q
      · have := Rat.mul_le_mul_of_nonneg_right q (Rat.le_of_lt hz)
        grind
      · rcases lt_or_eq q with q | q
        · exact q
        · rw [← q] at e2; grind
    have h3 : m - f + g < 1 := by
      rw [← Rat.intCast_one] at h1
      exact Rat.intCast_lt_intCast.mp h1
    have h4 : -1 < m - f + g := by
      rw [show (-1 : Rat) = ((-1 : Int) : Rat) from rfl] at h2
      exact Rat.intCast_lt_intCast.mp h2
    rw [show m - f + g = 0 by omega, Rat.intCast_zero, Rat.zero_mul] at e2
    grind
section
variable {k : Nat} {t0 r s : Rat} {ts : List Rat} {ws : List Wh}
/-- what is drawn: a shaft, its flashes -/
structure Drawn (ws : List Wh) (t0 : Rat) (ts : List Rat) : Prop where
  l1 : 1 ≤ ws.length
  l2 : ws.length ≤ 3
  wd : ∀ w ∈ ws, WD w
  fl : Fl 10 (t0 :: ts)
  tw : ∀ t ∈ t0 :: ts, Tw t
  t1 : 1 ≤ ts.length
  t4 : ts.length ≤ 4
theorem Drawn.wsok (d : Drawn ws t0 ts) : WsOk ws := ⟨d.l1, by have := d.l2; omega, fun w h => (d.wd w h).ok⟩
theorem Drawn.dist (d : Drawn ws t0 ts) : ∃ t1 ∈ ts, t1 - t0 ≠ 0 ∧ 0 ≤ t1 - t0 ∧ t1 - t0 ≤ 50 := by
  match ts, d with
  | t1 :: r, d =>
    have h := d.fl.up 0 t0 t1 rfl rfl
    obtain ⟨i, hi, i0, i1⟩ := d.tw t1 (by simp)
    obtain ⟨j, hj, j0, j1⟩ := d.tw t0 (by simp)
    rw [show ((12 : Nat) : Rat) = 12 from rfl] at hi hj
    have a1 := Rat.intCast_le_intCast.mpr i1
    have a2 := Rat.intCast_le_intCast.mpr j0
    rw [show ((600 : Int) : Rat) = 600 from rfl] at a1
    rw [show ((0 : Int) : Rat) = 0 from rfl] at a2
    refine ⟨t1, by simp, by grind, by grind, ?_⟩
    grind
  | [], d => have := d.t1; simp at this
theorem Drawn.fm0 (d : Drawn ws t0 ts) : fm (t0 :: ts) ≠ 0 := by
  obtain ⟨t1, h1, h2, _⟩ := d.dist
  exact meas_ne (L := ts.map fun x => x - t0) (List.mem_map_of_mem h1) h2
theorem Drawn.fm12 (d : Drawn ws t0 ts) : IsInt (fm (t0 :: ts) * ((12 : Nat) : Rat)) := by
  show IsInt (meas 0 (ts.map fun x => x - t0) * _)
  rw [(meas_isM _).int]
  intro x hx
  obtain ⟨t, ht, rfl⟩ := List.mem_map.mp hx
  obtain ⟨i, hi, _⟩ := d.tw t (List.mem_cons_of_mem _ ht)
  obtain ⟨j, hj, _⟩ := d.tw t0 (List.mem_cons_self ..)
  exact ⟨i - j, by rw [Rat.intCast_sub, ← hi, ← hj]; grind⟩
theorem Drawn.fmz (d : Drawn ws t0 ts) : Sz 10 (fm (t0 :: ts)) := by
  obtain ⟨t1, h1, h2, h3, h4⟩ := d.dist
  have a := meas_le (L := ts.map fun x => x - t0) (List.mem_map_of_mem h1) h2
  rw [Rat.abs_of_nonneg h3] at a
  refine (sz_btw (D := 12) (kd := 4) (kb := 6) (b := 51) (fm_pos d.fl d.fm0 |> Rat.le_of_lt) ?_ ⟨by unfold Bd; decide, by unfold Bd; decide⟩ (by decide) (by decide) d.fm12)
  show meas 0 (ts.map fun x => x - t0) < 51
  grind
theorem WD.abs1 {w : Wh} (h : WD w) : 0 < w.2.abs := by
  have := h.ok.ne
  rcases Rat.le_total (a := 0) (b := w.2) with q | q
  · rw [Rat.abs_of_nonneg q]; exact Rat.lt_of_le_of_ne q (Ne.symm this)
  · rw [Rat.abs_of_nonpos q]
    have : w.2 < 0 := Rat.lt_of_le_of_ne q this
    grind
theorem abs_sz {k : Nat} {q : Rat} (h : Sz k q) : Sz k q.abs := by
  rcases Rat.le_total (a := 0) (b := q) with z | z
  · rw [Rat.abs_of_nonneg z]; exact h
  · rw [Rat.abs_of_nonpos z]; exact h.neg
theorem fr_abs (q : Rat) : fr q.abs = .tup [.int (q.num.natAbs : Nat), .int (q.den : Nat)] := by
  rcases Rat.le_total (a := 0) (b := q) with z | z
  · rw [Rat.abs_of_nonneg z]
    have := Rat.num_nonneg.mpr z
    unfold fr
    rw [show ((q.num.natAbs : Nat) : Int) = q.num by omega]
  · rw [Rat.abs_of_nonpos z]
    have h : 0 ≤ -q := by grind
    have := Rat.num_nonneg.mpr h
    rw [Rat.neg_num] at this
    unfold fr
    rw [Rat.neg_num, Rat.neg_den, show ((q.num.natAbs : Nat) : Int) = -q.num by omega]
theorem Drawn.sm (d : Drawn ws t0 ts) : smeas ws (t0 :: ts) ≠ 0 ∧ Sz 40 (smeas ws (t0 :: ts)) := by
  obtain ⟨w, hw⟩ : ∃ w, w ∈ ws := by
    match ws, d.l1 with
    | w :: _, _ => exact ⟨w, by simp⟩
  have g := d.wd w hw
  have hp := ord_pos g.ok.o1
  have hx : (w.1 : Rat) * w.2 * fm (t0 :: ts) ≠ 0 := fun h => by
    rcases Rat.mul_eq_zero.mp h with h | h
    · rcases Rat.mul_eq_zero.mp h with h | h
      · exact absurd h (Rat.ne_of_gt hp)
      · exact g.ok.ne h
    · exact d.fm0 h
  have hm : (w.1 : Rat) * w.2 * fm (t0 :: ts) ∈ ws.map fun w => (w.1 : Rat) * w.2 * fm (t0 :: ts) := List.mem_map_of_mem hw
  have a := meas_le hm hx
  have z : Sz 21 ((w.1 : Rat) * w.2 * fm (t0 :: ts)).abs := abs_sz (((ordz g.ok.o2).mul g.ok.sz).mul d.fmz)
  refine ⟨meas_ne hm hx, ?_⟩
  refine (sz_btw (D := 144) (kd := 8) (b := ((w.1 : Rat) * w.2 * fm (t0 :: ts)).abs + 1) (kb := 23) (meas_isM _).nn ?_ ((z.add sz_one).mono (by omega)) (by decide) (by decide) ?_).mono (by omega)
  · show meas 0 _ < _
    grind
  · show IsInt (meas 0 _ * _)
    rw [(meas_isM _).int]
    intro x hx
    obtain ⟨v, hv, rfl⟩ := List.mem_map.mp hx
    obtain ⟨i, hi⟩ := d.fm12
    obtain ⟨j, hj, _⟩ := (d.wd v hv).ra
    refine ⟨(v.1 : Int) * j * i, ?_⟩
    rw [Rat.intCast_mul, Rat.intCast_mul, Rat.intCast_natCast, ← hi, ← hj, show ((144 : Nat) : Rat) = 144 from rfl, show ((12 : Nat) : Rat) = 12 from rfl]
    grind
/-- each wheel's step -/
def eachs (ws : List Wh) (ts : List Rat) : List Rat := ws.map fun w => stp w.1 ts / w.2.abs
theorem Drawn.spos (d : Drawn ws t0 ts) {w : Wh} (hw : w ∈ ws) : 0 < stp w.1 (t0 :: ts) / w.2.abs := by
  rw [Rat.div_def]
  exact Rat.mul_pos (stp_pos (d.wd w hw).ok.o1 d.fl d.fm0) (Rat.inv_pos.mpr (d.wd w hw).abs1)
theorem Drawn.stpz (d : Drawn ws t0 ts) {w : Wh} (hw : w ∈ ws) : Sz 16 (stp w.1 (t0 :: ts)) := by
  have g := d.wd w hw
  unfold stp
  exact (sz_one.div ((ordz g.ok.o2).mul d.fmz) (Rat.ne_of_gt (Rat.mul_pos (ord_pos g.ok.o1) (fm_pos d.fl d.fm0)))).mono (by omega)
theorem Drawn.eachz (d : Drawn ws t0 ts) : ∀ x ∈ eachs ws (t0 :: ts), 0 < x ∧ Sz 22 x := fun x hx => by
  obtain ⟨w, hw, rfl⟩ := List.mem_map.mp hx
  exact ⟨d.spos hw, ((d.stpz hw).div (abs_sz (d.wd w hw).ok.sz) (Rat.ne_of_gt (d.wd w hw).abs1)).mono (by omega)⟩
theorem inv_each {w : Wh} (d : Drawn ws t0 ts) (hw : w ∈ ws) : 1 / (stp w.1 (t0 :: ts) / w.2.abs) = w.2.abs * ((w.1 : Rat) * fm (t0 :: ts)) := by
  have h1 := Rat.ne_of_gt (d.wd w hw).abs1
  have h2 := Rat.ne_of_gt (Rat.mul_pos (ord_pos (d.wd w hw).ok.o1) (fm_pos d.fl d.fm0))
  unfold stp
  generalize w.2.abs = a at *
  generalize (w.1 : Rat) * fm (t0 :: ts) = b at *
  grind
theorem each_meas (d : Drawn ws t0 ts) : meas 0 ((eachs ws (t0 :: ts)).map fun x => 1 / x) = smeas ws (t0 :: ts) := by
  refine (meas_isM _).same (meas_isM _) fun t => ?_
  have key : ∀ w ∈ ws, IsInt (1 / (stp w.1 (t0 :: ts) / w.2.abs) * t) ↔ IsInt ((w.1 : Rat) * w.2 * fm (t0 :: ts) * t) := fun w hw => by
    rw [inv_each d hw, show w.2.abs * ((w.1 : Rat) * fm (t0 :: ts)) * t = w.2.abs * ((w.1 : Rat) * fm (t0 :: ts) * t) by grind, isInt_abs, show w.2 * ((w.1 : Rat) * fm (t0 :: ts) * t) = (w.1 : Rat) * w.2 * fm (t0 :: ts) * t by grind]
  constructor
  · intro h x hx
    obtain ⟨w, hw, rfl⟩ := List.mem_map.mp hx
    exact (key w hw).mp (h _ (List.mem_map_of_mem (List.mem_map_of_mem hw)))
  · intro h x hx
    obtain ⟨y, hy, rfl⟩ := List.mem_map.mp hx
    obtain ⟨w, hw, rfl⟩ := List.mem_map.mp hy
    exact (key w hw).mpr (h _ (List.mem_map_of_mem hw))
/-- the law's step -/
theorem law_meas (d : Drawn ws t0 ts) : meas 0 (ws.map fun w => (w.1 : Rat) * w.2) * meas 0 ((t0 :: ts).map fun t => t - t0) = smeas ws (t0 :: ts) := by
  have e : meas 0 ((t0 :: ts).map fun t => t - t0) = fm (t0 :: ts) := (meas_isM _).same (meas_isM _) fun t => by
    constructor
    · intro h x hx
      exact h x (by rw [List.map_cons]; exact List.mem_cons_of_mem _ hx)
    · intro h x hx
      rw [List.map_cons, List.mem_cons] at hx
      rcases hx with rfl | hx
      · rw [Rat.sub_self, Rat.zero_mul]; exact isInt_zero
      · exact h x hx
  rw [e]
  have k : IsM (meas 0 (ws.map fun w => (w.1 : Rat) * w.2) * fm (t0 :: ts)) (· ∈ ws.map fun w => (w.1 : Rat) * w.2 * fm (t0 :: ts)) := by
    refine ⟨Rat.mul_nonneg (meas_isM _).nn (Rat.le_of_lt (fm_pos d.fl d.fm0)), fun t => ?_⟩
    rw [Rat.mul_assoc, (meas_isM _).int]
    constructor
    · intro h x hx
      obtain ⟨w, hw, rfl⟩ := List.mem_map.mp hx
      have := h _ (List.mem_map_of_mem hw)
      rwa [Rat.mul_assoc]
    · intro h x hx
      obtain ⟨w, hw, rfl⟩ := List.mem_map.mp hx
      have := h _ (List.mem_map_of_mem hw)
      rwa [Rat.mul_assoc] at this
  exact k.same (meas_isM _) fun t => Iff.rfl
theorem part_int (d : Drawn ws t0 ts) : ∀ x ∈ eachs ws (t0 :: ts), (1 / smeas ws (t0 :: ts) / x).den = 1 := fun x hx => by
  obtain ⟨w, hw, rfl⟩ := List.mem_map.mp hx
  rw [← isInt_den]
  have h := ((meas_isM ((eachs ws (t0 :: ts)).map fun x => 1 / x)).int (1 / smeas ws (t0 :: ts))).mp (by
    rw [each_meas d]
    exact ⟨1, by have := d.sm.1; grind⟩) _ (List.mem_map_of_mem (List.mem_map_of_mem hw))
  rwa [show 1 / smeas ws (t0 :: ts) / (stp w.1 (t0 :: ts) / w.2.abs) = 1 / (stp w.1 (t0 :: ts) / w.2.abs) * (1 / smeas ws (t0 :: ts)) by
    have := Rat.ne_of_gt (d.spos hw)
    have := d.sm.1
    generalize stp w.1 (t0 :: ts) / w.2.abs = a at *
    grind]
theorem div_stp (d : Drawn ws t0 ts) {w : Wh} (hw : w ∈ ws) (q : Rat) : q / stp w.1 (t0 :: ts) = q * ((w.1 : Rat) * fm (t0 :: ts)) := by
  have h2 := Rat.ne_of_gt (Rat.mul_pos (ord_pos (d.wd w hw).ok.o1) (fm_pos d.fl d.fm0))
  unfold stp
  generalize (w.1 : Rat) * fm (t0 :: ts) = b at *
  grind
theorem alike_all (d : Drawn ws t0 ts) (q : Rat) : (∀ w ∈ ws, ((r * w.2 - (r + q) * w.2) / stp w.1 (t0 :: ts)).den = 1) ↔ (q / (1 / smeas ws (t0 :: ts))).den = 1 := by
  have e : q / (1 / smeas ws (t0 :: ts)) = smeas ws (t0 :: ts) * q := by have := d.sm.1; grind
  rw [← isInt_den, e]
  unfold smeas
  rw [(meas_isM _).int]
  have key : ∀ w ∈ ws, ((r * w.2 - (r + q) * w.2) / stp w.1 (t0 :: ts)).den = 1 ↔ IsInt ((w.1 : Rat) * w.2 * fm (t0 :: ts) * q) := fun w hw => by
    rw [← isInt_den, div_stp d hw, show (r * w.2 - (r + q) * w.2) * ((w.1 : Rat) * fm (t0 :: ts)) = -((w.1 : Rat) * w.2 * fm (t0 :: ts) * q) by grind, isInt_neg]
  constructor
  · intro h x hx
    obtain ⟨w, hw, rfl⟩ := List.mem_map.mp hx
    exact (key w hw).mp (h w hw)
  · intro h w hw
    exact (key w hw).mpr (h _ (List.mem_map_of_mem hw))
theorem same_alike (d : Drawn ws t0 ts) {w : Wh} (hw : w ∈ ws) (q : Rat) : sights w.1 0 (r * w.2) (t0 :: ts) = sights w.1 ((r - q) * w.2 * t0) (q * w.2) (t0 :: ts) ↔ ((r * w.2 - q * w.2) / stp w.1 (t0 :: ts)).den = 1 := by
  have g := d.wd w hw
  have ho := ord_pos g.ok.o1
  have hz : (0 : Rat) < 1 / (w.1 : Rat) := by rw [Rat.div_def, Rat.one_mul]; exact Rat.inv_pos.mpr ho
  unfold sights
  rw [List.map_inj_left, ← isInt_den, div_stp d hw]
  have e : (r * w.2 - q * w.2) * ((w.1 : Rat) * fm (t0 :: ts)) = meas 0 (ts.map fun x => x - t0) * ((r - q) * w.2 * (w.1 : Rat)) := by
    show _ * ((w.1 : Rat) * meas 0 (ts.map fun x => x - t0)) = _
    grind
  rw [e, (meas_isM _).int]
  have key : ∀ t, rem (0 + r * w.2 * t) (1 / (w.1 : Rat)) = rem ((r - q) * w.2 * t0 + q * w.2 * t) (1 / (w.1 : Rat)) ↔ IsInt ((t - t0) * ((r - q) * w.2 * (w.1 : Rat))) := fun t => by
    rw [rem_eq hz]
    have h1 := one_over g.ok.o1
    rw [show (0 + r * w.2 * t - ((r - q) * w.2 * t0 + q * w.2 * t)) / (1 / (w.1 : Rat)) = (t - t0) * ((r - q) * w.2 * (w.1 : Rat)) by
      have := Rat.ne_of_gt ho
      grind]
  constructor
  · intro h x hx
    obtain ⟨t, ht, rfl⟩ := List.mem_map.mp hx
    exact (key t).mp (h t (List.mem_cons_of_mem _ ht))
  · intro h t ht
    rcases List.mem_cons.mp ht with rfl | ht
    · exact (key t).mpr (by rw [Rat.sub_self, Rat.zero_mul]; exact isInt_zero)
    · exact (key t).mpr (h _ (List.mem_map_of_mem ht))
end
end FWL
namespace FWL
open PySem FW
/-! P22: the law's look at a shaft. -/
def half : Rat := ⟨1, 2, by decide, by decide⟩
def third : Rat := ⟨1, 3, by decide, by decide⟩
theorem half_sz : Sz 2 half := ⟨by unfold Bd; decide, by unfold Bd; decide⟩
theorem third_sz : Sz 2 third := ⟨by unfold Bd; decide, by unfold Bd; decide⟩
section
variable {n k : Nat} {p : Pl} {t0 r : Rat} {ts : List Rat} {ws : List Wh}
theorem e_law_step (d : Drawn ws t0 ts) : Rn (n + 4) 87 [wls ws, row (t0 :: ts)] p = some (fr (1 / smeas ws (t0 :: ts)), p) := by
  have hs := d.sm
  have l2 := d.l2
  have t4 := d.t4
  have z1 : ∀ x ∈ ws.map (fun w => (w.1 : Rat) * w.2), Sz 11 x := fun x hx => by
    obtain ⟨w, hw, rfl⟩ := List.mem_map.mp hx
    exact (ordz (d.wd w hw).ok.o2).mul (d.wd w hw).ok.sz
  have z2 : ∀ x ∈ (t0 :: ts).map (fun t => t - t0), Sz 21 x := fun x hx => by
    obtain ⟨t, ht, rfl⟩ := List.mem_map.mp hx
    exact (d.tw t ht).sz.sub (d.tw t0 (List.mem_cons_self ..)).sz
  have y1 := meas_sz (k := 11) _ 0 1 sz_zero z1
  have y2 := meas_sz (k := 21) _ 0 1 sz_zero z2
  rw [List.length_map] at y1 y2
  rw [List.length_cons] at y2
  have m1 : Rn (n + 3) 82 [.lst ((ws.map fun w => (w.1 : Rat) * w.2).map fr)] p = some (fr (meas 0 (ws.map fun w => (w.1 : Rat) * w.2)), p) := e_law_measure rfl z1 (by rw [List.length_map]; omega)
  have m2 : Rn (n + 3) 82 [.lst (((t0 :: ts).map fun t => t - t0).map fr)] p = some (fr (meas 0 ((t0 :: ts).map fun t => t - t0)), p) := e_law_measure rfl z2 (by rw [List.length_map, List.length_cons]; omega)
  have m3 := e_law_times (n := n) (p := p) y1 y2 (by omega)
  rw [law_meas d] at m3
  have m4 := e_law_over (n := n) (p := p) sz_one hs.2 (by omega) hs.1
  rw [fr_one] at m4
  have hne := hs.1
  refine eq_of ?_; refine in87 ?_; (dsimp only [d87])
  repeat' walk_at "fw go"
  refine w_lcA (gi := wl) (go := fun w => fr ((w.1 : Rat) * w.2)) (L := ws) (by walk_at "fw wp") ?_ (by omega) ?_ ?_
  · repeat' walk_at "fw go"
    exact ⟨rfl, rfl⟩
  · intro w hw
    have g := (d.wd w hw).ok
    have b1 := e_law_times (n := n) (p := p) (ordz g.o2) g.sz (by omega)
    have e : fr (w.1 : Rat) = .tup [.int (w.1 : Nat), .int 1] := by
      unfold fr
      rw [← Rat.intCast_natCast, Rat.num_intCast, Rat.den_intCast]; rfl
    rw [e] at b1
    repeat' walk_at "fw go"
    exact ⟨rfl, rfl, rfl⟩
  · rw [show (ws.map fun w => fr ((w.1 : Rat) * w.2)) = (ws.map fun w => (w.1 : Rat) * w.2).map fr by rw [List.map_map]; rfl]
    repeat' walk_at "fw go"
    refine w_lcA (gi := fr) (go := fun t => fr (t - t0)) (L := t0 :: ts) (by walk_at "fw wp") ?_ (by rw [List.length_cons]; omega) ?_ ?_
    · repeat' walk_at "fw go"
      exact ⟨rfl, rfl⟩
    · intro t ht
      have b1 := e_law_minus (n := n) (p := p) (d.tw t ht).sz (d.tw t0 (List.mem_cons_self ..)).sz (by omega)
      have i1 : ixP (row (t0 :: ts)) (.int 0) p = some (fr t0) := ix0
      repeat' walk_at "fw go"
      exact ⟨rfl, rfl, rfl⟩
    · rw [show ((t0 :: ts).map fun t => fr (t - t0)) = ((t0 :: ts).map fun t => t - t0).map fr by rw [List.map_map]; rfl]
      repeat' walk_at "fw go"
      exact ⟨rfl, rfl⟩
set_option maxHeartbeats 2000000 in
theorem s_shaft_right (hp : Pool k p) (hk : k ≤ 800000) (d : Drawn ws t0 ts) : ∃ v p1, Rn (n + 12) 88 [.pool, wls ws, row (t0 :: ts)] p = some (v, p1) ∧ (v = .bl true ∧ Pool (k + 3) p1) := by
  obtain ⟨_, p2, f1, r, rfl, hr, hp2⟩ := s_fraction (n := n + 8) hp (by omega)
  have hs := d.sm
  have hz := d.eachz
  have l1 := d.l1
  have l2 := d.l2
  have t4 := d.t4
  have hE : (eachs ws (t0 :: ts)).length = ws.length := List.length_map _
  have st := e_shaft_step (n := n + 2) (p := p) d.wsok d.fl (by omega) hs.1
  have cm := e_common_multiple (n := n + 4) (p := p) (L := eachs ws (t0 :: ts)) (k := 22) (by omega) (by omega) (fun x hx => (hz x hx).1) (fun x hx => (hz x hx).2) (by omega) (by omega) (by rw [each_meas d]; exact hs.1)
  rw [each_meas d] at cm
  have ls := e_law_step (n := n + 7) (p := p) d
  have zst : Sz 41 (1 / smeas ws (t0 :: ts)) := (sz_one.div hs.2 hs.1).mono (by omega)
  have hst : 1 / smeas ws (t0 :: ts) ≠ 0 := by have := hs.1; grind
  obtain ⟨w0, wr, rfl⟩ : ∃ w0 wr, ws = w0 :: wr := by
    match ws, l1 with
    | w :: r, _ => exact ⟨w, r, rfl⟩
  have g0 := d.wd w0 (List.mem_cons_self ..)
  refine in88 ?_; (dsimp only [d88])
  repeat' walk_at "fw go"
  refine w_lcA (gi := wl) (go := fun w => fr (stp w.1 (t0 :: ts) / w.2.abs)) (L := w0 :: wr) (by walk_at "fw wp") ?_ (by omega) ?_ ?_
  · repeat' walk_at "fw go"
    exact ⟨rfl, rfl⟩
  · intro w hw
    have g := d.wd w hw
    have b1 := e_rate_step (n := n + 2) (p := p) g.ok.o1 g.ok.o2 d.fl (by omega) d.fm0
    have b2 := e_law_over (n := n + 8) (p := p) (d.stpz hw) (abs_sz g.ok.sz) (by omega) (Rat.ne_of_gt g.abs1)
    rw [fr_abs] at b2
    repeat' walk_at "fw go"
    exact ⟨rfl, rfl, rfl⟩
  · rw [show ((w0 :: wr).map fun w => fr (stp w.1 (t0 :: ts) / w.2.abs)) = (eachs (w0 :: wr) (t0 :: ts)).map fr by unfold eachs; rw [List.map_map]; rfl]
    repeat' walk_at "fw go"
    refine w_lcI (gi := fr) (go := fr) (L := eachs (w0 :: wr) (t0 :: ts)) (fun _ => false) (by walk_at "fw wp") ?_ (by omega) ?_ ?_
    · repeat' walk_at "fw go"
      exact ⟨rfl, rfl⟩
    · intro x hx
      obtain ⟨x0, x1⟩ := hz x hx
      have b1 := e_law_over (n := n + 8) (p := p) zst x1 (by omega) (Rat.ne_of_gt x0)
      have hd := part_int d x hx
      repeat' walk_at "fw go"
      refine ⟨rfl, ?_⟩
      repeat' walk_at "fw go"
      exact ⟨rfl, congrArg some (nd_F (by omega)), fun h => by cases h⟩
    · rw [filter_none]
      repeat' walk_at "fw go"
      have h2 : Sz 2 half := half_sz
      have h3 : Sz 2 third := third_sz
      have y2 : Rn (n + 11) 79 [fr (1 / smeas (w0 :: wr) (t0 :: ts)), .tup [.int 1, .int 2]] p2 = some (fr (1 / smeas (w0 :: wr) (t0 :: ts) * half), p2) := e_law_times (n := n + 8) (q := 1 / smeas (w0 :: wr) (t0 :: ts)) (r := half) zst h2 (by omega)
      have y3 : Rn (n + 11) 79 [fr (1 / smeas (w0 :: wr) (t0 :: ts)), .tup [.int 1, .int 3]] p2 = some (fr (1 / smeas (w0 :: wr) (t0 :: ts) * third), p2) := e_law_times (n := n + 8) (q := 1 / smeas (w0 :: wr) (t0 :: ts)) (r := third) zst h3 (by omega)
      have i0 : ixP (row (eachs (w0 :: wr) (t0 :: ts))) (.int 0) p2 = some (fr (stp w0.1 (t0 :: ts) / w0.2.abs)) := ix0
      have he0 := hz _ (List.mem_map_of_mem (List.mem_cons_self ..) : stp w0.1 (t0 :: ts) / w0.2.abs ∈ eachs (w0 :: wr) (t0 :: ts))
      refine xw_for (gi := fr) (L := [1 / smeas (w0 :: wr) (t0 :: ts), 1 / smeas (w0 :: wr) (t0 :: ts) * half, 1 / smeas (w0 :: wr) (t0 :: ts) * third, stp w0.1 (t0 :: ts) / w0.2.abs]) (fun pre ρ p' => p' = p2 ∧ ∃ a b c e, ρ = [.dat .pool, .dat (wls (w0 :: wr)), .dat (row (t0 :: ts)), .dat (row (eachs (w0 :: wr) (t0 :: ts))), .dat (fr (1 / smeas (w0 :: wr) (t0 :: ts))), .dat (fr r), a, .no, .no, b, c, e, .no, .no, .no]) ?hs ?hb ?he
      case hs =>
        repeat' walk_at "fw go"
        exact ⟨rfl, rfl, _, _, _, _, rfl⟩
      case hb =>
        rintro pre q post ρ p' e ⟨rfl, a, b, c, e', rfl⟩
        have hq : Sz 50 q := by
          have hm : q ∈ [1 / smeas (w0 :: wr) (t0 :: ts), 1 / smeas (w0 :: wr) (t0 :: ts) * half, 1 / smeas (w0 :: wr) (t0 :: ts) * third, stp w0.1 (t0 :: ts) / w0.2.abs] := by rw [e]; simp
          simp only [List.mem_cons, List.not_mem_nil, or_false] at hm
          rcases hm with rfl | rfl | rfl | rfl
          · exact zst.mono (by omega)
          · exact (zst.mul h2).mono (by omega)
          · exact (zst.mul h3).mono (by omega)
          · exact he0.2.mono (by omega)
        have zo : Sz 61 (r + q) := hr.sz.add hq
        have u1 := e_law_plus (n := n + 8) (p := p') hr.sz hq (by omega)
        have c1 := cmp_notin ((w0 :: wr).map fun w => decide (((r * w.2 - (r + q) * w.2) / stp w.1 (t0 :: ts)).den = 1))
        have u2 := e_law_over (n := n + 8) (p := p') hq zst (by omega) hst
        have hXY : ((w0 :: wr).map fun w => decide (((r * w.2 - (r + q) * w.2) / stp w.1 (t0 :: ts)).den = 1)).all id = decide (((q / (1 / smeas (w0 :: wr) (t0 :: ts))).den : Int) = 1) := by
          have := alike_all (r := r) d q
          rw [Bool.eq_iff_iff, List.all_eq_true, decide_eq_true_eq]
          rw [show (((q / (1 / smeas (w0 :: wr) (t0 :: ts))).den : Int) = 1) ↔ (q / (1 / smeas (w0 :: wr) (t0 :: ts))).den = 1 by omega, ← this]
          constructor
          · intro h w hw
            have := h _ (List.mem_map_of_mem hw)
            simpa using this
          · intro h x hx
            obtain ⟨w, hw, rfl⟩ := List.mem_map.mp hx
            simpa using h w hw
        have hBA : ((w0 :: wr).map fun w => decide (sights w.1 0 (r * w.2) (t0 :: ts) = sights w.1 ((r - (r + q)) * w.2 * t0) ((r + q) * w.2) (t0 :: ts))) = (w0 :: wr).map fun w => decide (((r * w.2 - (r + q) * w.2) / stp w.1 (t0 :: ts)).den = 1) := List.map_congr_left fun w hw => decide_eq_decide.mpr (same_alike d hw (r + q))
        have c2 := cmp_bls ((w0 :: wr).map fun w => decide (sights w.1 0 (r * w.2) (t0 :: ts) = sights w.1 ((r - (r + q)) * w.2 * t0) ((r + q) * w.2) (t0 :: ts))) ((w0 :: wr).map fun w => decide (((r * w.2 - (r + q) * w.2) / stp w.1 (t0 :: ts)).den = 1))
        repeat' walk_at "fw go"
        refine w_lcA (gi := wl) (go := fun w => .bl (decide (((r * w.2 - (r + q) * w.2) / stp w.1 (t0 :: ts)).den = 1))) (L := w0 :: wr) (by walk_at "fw wp") ?_ (by omega) ?_ ?_
        · repeat' walk_at "fw go"
          exact ⟨rfl, rfl⟩
        · intro w hw
          have g := d.wd w hw
          have b1 := e_law_times (n := n + 8) (p := p') hr.sz g.ok.sz (by omega)
          have b2 := e_law_times (n := n + 8) (p := p') zo g.ok.sz (by omega)
          have b3 := e_are_alike (n := n + 2) (p := p') g.ok.o1 g.ok.o2 d.fl (by omega) d.fm0 (hr.sz.mul g.ok.sz) (zo.mul g.ok.sz) (by omega)
          repeat' walk_at "fw go"
          exact ⟨rfl, rfl, rfl⟩
        · rw [show ((w0 :: wr).map fun w => D.bl (decide (((r * w.2 - (r + q) * w.2) / stp w.1 (t0 :: ts)).den = 1))) = ((w0 :: wr).map fun w => decide (((r * w.2 - (r + q) * w.2) / stp w.1 (t0 :: ts)).den = 1)).map D.bl by rw [List.map_map]; rfl]
          repeat' walk_at "fw go"
          refine w_lcA (gi := wl) (go := fun w => .bl (decide (sights w.1 0 (r * w.2) (t0 :: ts) = sights w.1 ((r - (r + q)) * w.2 * t0) ((r + q) * w.2) (t0 :: ts)))) (L := w0 :: wr) (by walk_at "fw wp") ?_ (by omega) ?_ ?_
          · repeat' walk_at "fw go"
            exact ⟨rfl, rfl⟩
          · intro w hw
            have g := d.wd w hw
            have zt0 := (d.tw t0 (List.mem_cons_self ..)).sz
            have zr : Sz 72 (r - (r + q)) := hr.sz.sub zo
            have b1 := e_law_times (n := n + 8) (p := p') hr.sz g.ok.sz (by omega)
            have b2 := e_law_times (n := n + 8) (p := p') zo g.ok.sz (by omega)
            have b3 := e_law_minus (n := n + 8) (p := p') hr.sz zo (by omega)
            have b4 := e_law_times (n := n + 8) (p := p') zr g.ok.sz (by omega)
            have b5 := e_law_times (n := n + 8) (p := p') (zr.mul g.ok.sz) zt0 (by omega)
            have i1 : ixP (row (t0 :: ts)) (.int 0) p' = some (fr t0) := ix0
            have b6 := e_look_same (n := n + 3) (p := p') (l := 88) g.ok.o1 g.ok.o2 d.fl (sz_zero.mono (by omega)) ((hr.sz.mul g.ok.sz).mono (by omega)) ((zr.mul g.ok.sz).mul zt0) ((zo.mul g.ok.sz).mono (by omega)) (by omega)
            rw [fr_zero] at b6
            repeat' walk_at "fw go"
            exact ⟨rfl, rfl, rfl⟩
          · rw [show ((w0 :: wr).map fun w => D.bl (decide (sights w.1 0 (r * w.2) (t0 :: ts) = sights w.1 ((r - (r + q)) * w.2 * t0) ((r + q) * w.2) (t0 :: ts)))) = ((w0 :: wr).map fun w => decide (sights w.1 0 (r * w.2) (t0 :: ts) = sights w.1 ((r - (r + q)) * w.2 * t0) ((r + q) * w.2) (t0 :: ts))).map D.bl by rw [List.map_map]; rfl]
            repeat' walk_at "fw go"
            exact ⟨rfl, _, _, _, _, rfl⟩
      case he =>
        rintro ρ p' ⟨rfl, a, b, c, e', rfl⟩
        have b1 : Rn (n + 11) 79 [fr (stp w0.1 (t0 :: ts) / w0.2.abs), fr w0.2.abs] p' = some (fr (stp w0.1 (t0 :: ts) / w0.2.abs * w0.2.abs), p') := e_law_times (n := n + 8) he0.2 (abs_sz g0.ok.sz) (by omega)
        rw [fr_abs w0.2] at b1
        repeat' walk_at "fw go"
        refine wr_ex (s_draw (m := 5) (n := n + 10) hp2 (by omega) (by decide) (by decide)) ?_
        rintro _ p3 ⟨u, rfl, hu, hp3⟩
        have vz : Sz 3 (Rat.divInt (1 + (u : Int)) 3) := sz_div (k := 3) (by decide) (by unfold Bd; omega) (by unfold Bd; decide) (by omega)
        have v0 : 0 < Rat.divInt (1 + (u : Int)) 3 := by
          rw [Rat.divInt_eq_div, Rat.div_def]
          exact Rat.mul_pos (Rat.intCast_pos.mpr (by omega)) (Rat.inv_pos.mpr (by decide))
        have w0' : 0 < stp w0.1 (t0 :: ts) / w0.2.abs * w0.2.abs * Rat.divInt (1 + (u : Int)) 3 := Rat.mul_pos (Rat.mul_pos he0.1 g0.abs1) v0
        have wz : Sz 31 (stp w0.1 (t0 :: ts) / w0.2.abs * w0.2.abs * Rat.divInt (1 + (u : Int)) 3) := (he0.2.mul (abs_sz g0.ok.sz)).mul vz
        have b2 := e_law_f (n := n + 9) (p := p3) (a := 1 + (u : Int)) (b := 3) (bd_small (by omega)) (by decide) (bd_small (by omega)) (by omega) (by omega)
        have b3 := e_law_times (n := n + 8) (p := p3) (he0.2.mul (abs_sz g0.ok.sz)) vz (by omega)
        have b4 := e_rate_step (n := n + 2) (p := p3) g0.ok.o1 g0.ok.o2 d.fl (by omega) d.fm0
        have b5 := e_do_tell (n := n + 1) (p := p3) g0.ok.o1 g0.ok.o2 d.fl (by omega) d.fm0 (l := 31) (sz_zero.mono (by omega)) wz (by omega) w0'
        rw [fr_zero, show stp w0.1 (t0 :: ts) / w0.2.abs * w0.2.abs * Rat.divInt (1 + (u : Int)) 3 - 0 = stp w0.1 (t0 :: ts) / w0.2.abs * w0.2.abs * Rat.divInt (1 + (u : Int)) 3 by grind] at b5
        have b6 := e_law_below (n := n + 10) (p := p3) wz (d.stpz (List.mem_cons_self ..)) (by omega)
        have b7 := e_shaft_sights (n := n + 2) (p := p3) (r := r) d.wsok d.fl (by omega) hr.sz (by omega)
        obtain ⟨q, b8, q1, q2⟩ := e_shaft_rate (n := n + 1) (p := p3) (r := r) d.wsok d.l2 d.fl d.t4 (fun w hw => (d.wd w hw).ra) d.tw hr hs.1
        have b9 := e_law_minus (n := n + 8) (p := p3) q1 hr.sz (by omega)
        have b10 := e_law_over (n := n + 8) (p := p3) (q1.sub hr.sz) zst (by omega) hst
        have hden : ((q - r) / (1 / smeas (w0 :: wr) (t0 :: ts))).den = 1 := by
          rw [← isInt_den, show (q - r) / (1 / smeas (w0 :: wr) (t0 :: ts)) = (q - r) * smeas (w0 :: wr) (t0 :: ts) by have := hs.1; grind]
          exact q2
        repeat' walk_at "fw go"
        exact ⟨by rw [hden]; rfl, hp3⟩
end
end FWL
namespace FWL
open PySem FW
/-! P23: the law's turns; the plain law. -/
def q32 : Rat := ⟨3, 2, by decide, by decide⟩
theorem q32_ne : q32 ≠ 0 := by decide +kernel
theorem q32_sz : Sz 6 q32 := ⟨by unfold Bd; decide, by unfold Bd; decide⟩
theorem q32_ra : Ra q32 := ⟨18, by decide +kernel, by decide⟩
theorem q32_eq : Rat.divInt 3 2 = q32 := by decide +kernel
section
variable {n k : Nat} {p : Pl}
theorem e_step_a : Rn (n + 9) 61 [.tup [.tup [.int 1, .tup [.int 1, .int 1]], .tup [.int 1, .tup [.int 3, .int 2]]], .tup [.tup [.int 0, .int 1], .tup [.int 1, .int 1]]] p = some (.tup [.int 2, .int 1], p) := by
  have hF : Fl 10 [0, 1] := ⟨by decide, by decide, by decide +kernel, by
    intro t ht
    simp at ht
    rcases ht with rfl | rfl
    · exact sz_zero.mono (by omega)
    · exact sz_one.mono (by omega), by
    intro i a b ha hb
    match i with
    | 0 => cases ha; cases hb; decide +kernel
    | i + 1 => simp at hb⟩
  have hW : WsOk [(1, 1), (1, ⟨3, 2, by decide, by decide⟩)] := ⟨by decide, by decide, by
    intro w hw
    simp at hw
    rcases hw with rfl | rfl
    · exact ⟨by decide, by decide, by decide +kernel, sz_one.mono (by omega)⟩
    · exact ⟨by decide, by decide, by decide +kernel, by unfold Bd; decide, by unfold Bd; decide⟩⟩
  have hv : 1 / smeas [(1, 1), (1, ⟨3, 2, by decide, by decide⟩)] [0, 1] = ⟨2, 1, by decide, by decide⟩ := by decide +kernel
  have h := e_shaft_step (n := n) (p := p) hW hF (by omega) (by decide +kernel)
  rw [hv] at h
  exact h
theorem e_step_b : Rn (n + 9) 61 [.tup [.tup [.int 2, .tup [.int 1, .int 1]], .tup [.int 3, .tup [.int (-1), .int 1]]], .tup [.tup [.int 0, .int 1], .tup [.int 1, .int 1]]] p = some (.tup [.int 1, .int 1], p) := by
  have hF : Fl 10 [0, 1] := ⟨by decide, by decide, by decide +kernel, by
    intro t ht
    simp at ht
    rcases ht with rfl | rfl
    · exact sz_zero.mono (by omega)
    · exact sz_one.mono (by omega), by
    intro i a b ha hb
    match i with
    | 0 => cases ha; cases hb; decide +kernel
    | i + 1 => simp at hb⟩
  have hW : WsOk [(2, 1), (3, ⟨-1, 1, by decide, by decide⟩)] := ⟨by decide, by decide, by
    intro w hw
    simp at hw
    rcases hw with rfl | rfl
    · exact ⟨by decide, by decide, by decide +kernel, sz_one.mono (by omega)⟩
    · exact ⟨by decide, by decide, by decide +kernel, by unfold Bd; decide, by unfold Bd; decide⟩⟩
  have hv : 1 / smeas [(2, 1), (3, ⟨-1, 1, by decide, by decide⟩)] [0, 1] = ⟨1, 1, by decide, by decide⟩ := by decide +kernel
  have h := e_shaft_step (n := n) (p := p) hW hF (by omega) (by decide +kernel)
  rw [hv] at h
  exact h
set_option maxHeartbeats 2000000 in
theorem s_law_right (hp : Pool k p) (hk : k ≤ 1000) : ∃ v p1, Rn (n + 13) 89 [.pool] p = some (v, p1) ∧ v = .bl true := by
  refine in89 ?_; (dsimp only [d89])
  repeat' walk_at "fw go"
  refine xw_for (gi := fun i : Nat => D.int (i : Nat)) (L := List.range 5) (fun pre ρ p' => Pool (k + 100 * pre.length) p' ∧ ∃ a b, ρ = [.dat .pool, a, b]) ?hs ?hb ?he
  case hs =>
    repeat' walk_at "fw go"
    exact ⟨5, rfl, by omega, rangeD0 _, hp, _, _, rfl⟩
  case hb =>
    rintro pre i post ρ p' e ⟨hpp, a, b, rfl⟩
    have hpl : pre.length < 5 := by
      have := congrArg List.length e
      rw [List.length_append, List.length_cons, List.length_range] at this
      omega
    repeat' walk_at "fw go"
    refine wr_ex (s_shaft (n := n + 8) hpp (by omega)) ?_
    rintro _ p2 ⟨ws, rfl, l1, l2, hws, hp2⟩
    repeat' walk_at "fw gx"
    refine WE.imp (Q := fun d p1 => p1 = p2 ∧ ∃ ws2, d = wls ws2 ∧ 1 ≤ ws2.length ∧ ws2.length ≤ 3 ∧ ∀ w ∈ ws2, WD w) ?_ ?_
    · have hb : biD .len [wls ws] = some (.int (ws.length : Nat)) := by
        show some (D.int ((ws.map wl).length : Nat)) = _
        rw [List.length_map]
      repeat' walk_at "fw go"
      refine wb_d (fun h => ?_) (fun h => ?_)
      · repeat' walk_at "fw go"
        exact ⟨rfl, ws, rfl, l1, l2, hws⟩
      · have hl : ws.length = 1 := by omega
        obtain ⟨w, rfl⟩ : ∃ w, ws = [w] := by
          match ws, hl with
          | [w], _ => exact ⟨w, rfl⟩
        have f := e_law_f (n := n + 10) (p := p2) (a := 3) (b := 2) (bd_small (by omega)) (by decide) (bd_small (by omega)) (by omega) (by omega)
        rw [q32_eq] at f
        repeat' walk_at "fw go"
        have g := hws w (by simp)
        refine ⟨rfl, [w, (w.1, q32)], rfl, by simp, by simp, fun v hv => ?_⟩
        simp only [List.mem_cons, List.not_mem_nil, or_false] at hv
        rcases hv with rfl | rfl
        · exact g
        · exact ⟨⟨g.ok.o1, g.ok.o2, q32_ne, q32_sz⟩, q32_ra⟩
    · rintro _ p3 ⟨rfl, ws2, rfl, m1, m2, hws2⟩
      repeat' walk_at "fw go"
      refine wr_ex (s_flashes (n := n + 8) hp2 (by omega)) ?_
      rintro _ p4 ⟨t0, ts, rfl, F, tw, t1, t4, hp4⟩
      repeat' walk_at "fw go"
      refine wr_ex (s_shaft_right (n := n) hp4 (by omega) ⟨m1, m2, hws2, F, tw, t1, t4⟩) ?_
      rintro _ p5 ⟨rfl, hp5⟩
      repeat' walk_at "fw go"
      exact ⟨hp5.mono (by rw [List.length_append, List.length_singleton]; omega), _, _, rfl⟩
  case he =>
    rintro ρ p' ⟨hpp, a, b, rfl⟩
    have h1 := e_step_a (n := n + 3) (p := p')
    have h2 := e_step_b (n := n + 3) (p := p')
    repeat' walk_at "fw go"
    rfl
end
theorem plain : Plain T CF 89 72 srcX 63 := by
  intro ns hn hb
  refine ⟨if 3 ≤ ns.length then 3 else 2, by split <;> omega, fun s => ?_, fun t ht => ?_⟩
  · have hl : biD .len [scrD ns] = some (.int (ns.length : Nat)) := by
      show some (D.int ((ns.map D.int).length : Nat)) = _
      rw [List.length_map]
    have key : WE (Cn 60) srcX [.dat (scrD ns), s] [] fun d p1 => d = .int ((if 3 ≤ ns.length then 3 else 2 : Nat) : Int) ∧ p1 = [] := by
      unfold srcX
      repeat' walk_at "fw go"
      refine ⟨?_, rfl⟩
      congr 1
      split <;> split <;> split <;> omega
    obtain ⟨d, p1, h, rfl, rfl⟩ := key
    exact h
  · have ht2 : t < 1000 := by
      have : (if 3 ≤ ns.length then 3 else 2) ≤ 3 := by split <;> omega
      omega
    obtain ⟨is, h1, hp⟩ := e_law_pool (n := 59) (p := []) hn hb ht2
    obtain ⟨v, p1, h2, rfl⟩ := s_law_right (n := 47) hp (by omega)
    exact ⟨is, p1, h1, h2⟩
end FWL
set_option maxHeartbeats 8000000
namespace FWL
open PySem PySem.Spec PyProof.Rows L2 FW
open HandSHeadRun
theorem fn_eq : dds T sts ++ [lawD (top 121)] = fnL := rfl
theorem headrun (w : World) : RunEqI R qv hk ob 6000 names w := map3 (run1 w) (run2 w) (run3 w)
theorem lawS : C8.scC ["script", "turn"] ["script"] (C8.fnScope lawSt) = true := by decide +kernel
theorem lawC : lawB T ["script", "turn"] (C8.fnScope lawSt) 89 72 srcX (C8.fnBody lawSt) = true := by decide +kernel
theorem facts {P : Program} {w : World} {K : PySem.W.Frag} {h : Heap} {mg : Str → Option Value} {f : Addr} (X : K.In h) (G : h.Ns mainGlobals mg) (hfa : mg ("law" : Str) = some (.ref f)) (c : SaysC consL fnL K) :
    ∃ fd : FuncData, (∀ (s : Shared) (v : Value), BindsTo s fd ⟨[v], []⟩ [("script", v)]) ∧ ∀ base : Heap, K.In base → base.Ns mainGlobals mg → FnOk P w K mg base CX0 (LV + 1) f fd ["script"] (spLaw K 63) := by
  have c : SaysT T (dds T sts ++ [lawD (top 121)]) K := by rw [fn_eq]; exact c
  obtain ⟨h1, fd, F⟩ := SaysT.law X G c
  have hh : HeadOk T sts K mg := HeadOk.of X G c
  have e := hfa.symm.trans h1
  cases e
  have b := FunD.bindsA (ps := ["script"]) F fun _ _ _ _ _ _ us hl => match us, hl with | [_], _ => rfl
  exact ⟨fd, fun s v => b s [v] rfl, fun base _ _ => law_fn tabOk hh F lawS lawC plain⟩
end FWL
open PySem PySem.W PySem.Calls PyProof.Rows
theorem PySem.Challenge.cw_flashwheels_k78_whole_shafts_that_keep_t_holds : PySem.Challenge.rw_flashwheels_k78_whole_shafts_that_keep_t.Holds := by
  w_on; o_law
  refine HandSHeadRun.head_imp (r := FWL.R) (q := FWL.qv) (H := FWL.hk) (ob := FWL.ob) (M := 6000) (loose := FWL.names) (d := FWL.ld) (kwd := []) FWL.ob_eq FWL.headrun FWL.t1 FWL.t2 FWL.t3 FWL.t4 FWL.t5 FWL.t6 FWL.t7 FWL.t8 ?hc
  refine FW.walk_bits (L := PySem.Challenge.rw_flashwheels_k78_whole_shafts_that_keep_t) (top := 63) (lvl := FWL.LV + 1) (par := "script") (cx := L2.CX0) rfl (by decide) FWL.t10 ⟨rfl, by decide, by decide⟩ ?F (fun _ _ _ _ z => z)
  intro w mg fa h Y G hmg0
  obtain ⟨K, KX, c⟩ := Y
  have hmg : mg ("law" : PySem.Str) = some (.ref fa) := by
    rw [← FWL.t9]
    exact hmg0
  obtain ⟨fd, hb, hF⟩ := FWL.facts (P := (PySem.Challenge.rw_flashwheels_k78_whole_shafts_that_keep_t).prog) (w := w) KX G hmg c
  exact ⟨K, fd, FW.spLaw K 63, KX, hb, fun H a ns hl hbt hO hS => ⟨a, ns, rfl, hl, hbt, FW.Scr.of hO hS, fun _ => rfl⟩, hF⟩
