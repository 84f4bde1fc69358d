import PyProof.Rows.All
import Wide.All
import OpenK.AllK
import Wide.FinOn
import HandS.ForMost
import HandS.Defaults
import HandS.MakeKwOnly
import HandS.Style
import HandS.Strs
import HandS.IsInst
import KE.LtSeq
import HandS.Codes
import PySem.Challenge.RW_windowrows_k37_whole_order_of_frames
set_option Elab.async false
set_option linter.all false
set_option maxRecDepth 100000
/-! Whole order of frames. Part A: the places of the text, the data, two rules of our own, the small defs. -/
namespace Wr
open PySem L2

/-! ### 1. the places in the text -/
def top (i : Nat) : Stmt := PySem.Challenge.pw_windowrows_k37_whole_order_of_frames.main.body.getD i (.Pass ⟨0, 0, 0, 0⟩)
abbrev sStart : Stmt := top 8
abbrev sEnd : Stmt := top 9
abbrev sRankF : Stmt := top 10
abbrev sTurned : Stmt := top 11
abbrev sInit : Stmt := inClass (top 12) 0
abbrev sBefore : Stmt := inClass (top 12) 2
abbrev sEq : Stmt := inClass (top 12) 3
abbrev sBegin : Stmt := top 14
abbrev sDraw : Stmt := top 15
abbrev sNear : Stmt := top 16
abbrev sDrawn : Stmt := top 17
abbrev sRank : Stmt := top 18
abbrev sLaw : Stmt := top 19

/-! ### 2. the data: what a frame is made of -/
def unitT : List Str := ["rows", "groups", "keys"]
def outT : List Str := ["nothing", "current", "group", "ties"]
structure Four where
  u : Str
  a : Option Int
  b : Option Int
  w : Str
  deriving DecidableEq
def endV : Option Int → V
  | none => .non
  | some i => .int i
def turnedB : Option Int → Option Int → Bool
  | some x, some y => decide (y < x)
  | _, _ => false
structure Four.Ok (q : Four) : Prop where
  u : q.u ∈ unitT
  w : q.w ∈ outT
  t : turnedB q.a q.b = false
def Four.vs (q : Four) : List V := [.str q.u, endV q.a, endV q.b, .str q.w]
def startR : Option Int → List Int
  | none => [0, 0]
  | some i => [1, i]
def endR : Option Int → List Int
  | none => [1, 0]
  | some i => [0, i]
/-- the place of a word in a table -/
def ixS : List Str → Str → Nat
  | [], _ => 0
  | y :: r, x => if y = x then 0 else ixS r x + 1
def Four.rank (q : Four) : List Int := [((ixS outT q.w : Nat) : Int), ((ixS unitT q.u : Nat) : Int)] ++ startR q.a ++ endR q.b
theorem ixS_get : ∀ {ys : List Str} {x : Str}, x ∈ ys → ys[ixS ys x]? = some x
  | [], x, h => by cases h
  | y :: r, x, h => by
    unfold ixS
    by_cases e : y = x
    · rw [if_pos e]
      show some y = some x
      rw [e]
    · rw [if_neg e]
      have h' : x ∈ r := by
        rcases List.mem_cons.mp h with z | z
        · exact absurd z.symm e
        · exact z
      show r[ixS r x]? = some x
      exact ixS_get h'
theorem ixS_no : ∀ {ys : List Str} {x : Str} {m : Nat}, m < ixS ys x → ys[m]? ≠ some x
  | [], x, m, h => by
    unfold ixS at h
    exact absurd h (Nat.not_lt_zero _)
  | y :: r, x, m, h => by
    unfold ixS at h
    by_cases e : y = x
    · rw [if_pos e] at h
      exact absurd h (Nat.not_lt_zero _)
    · rw [if_neg e] at h
      cases m with
      | zero =>
        intro z
        exact e (Option.some.inj z)
      | succ m =>
        show r[m]? ≠ some x
        exact ixS_no (Nat.lt_of_succ_lt_succ h)
theorem endV_inj {x y : Option Int} (h : endV x = endV y) : x = y := by
  cases x with
  | none =>
    cases y with
    | none => rfl
    | some j => cases h
  | some i =>
    cases y with
    | none => cases h
    | some j => rw [V.int.inj h]
theorem scal_end (x y : Option Int) : scal (endV x) (endV y) = true := by
  cases x <;> cases y <;> rfl
/-- the order of two lists of ints, as both tuples and lists tell it -/
def lexF (ns ms : List Int) : Bool :=
  SeqAt.firstLt (fun j => decide (ns.getD j 0 = ms.getD j 0)) (fun j => decide (ns.getD j 0 < ms.getD j 0)) (decide (ns.length < ms.length)) (List.range (min ns.length ms.length))

/-! ### 3. rules of our own: the order of tuples and of lists, an own equality with any right side -/
theorem eqInt (i j : Int) : (i == j) = decide (i = j) := by
  by_cases q : i = j
  · rw [decide_eq_true q]
    exact beq_iff_eq.mpr q
  · rw [decide_eq_false q]
    exact beq_eq_false_iff_ne.mpr q
theorem ltInt {A : Around} {s : Shared} (a b : Int) (t u : Tok) : SeqAt.RcLt A s (.int a t) (.int b u) (decide (a < b)) := fun _ _ _ _ h => PyProof.Rows.lt_int h
def rLtTup (K : PySem.W.Frag) : R2 := fun x y H Q => ∃ (a b : Addr) (ns ms : List Int), x = .ref a ∧ y = .ref b ∧ SqT K H a (ns.map V.int) ∧ SqT K H b (ms.map V.int) ∧ Q (.bl (lexF ns ms)) H
theorem op_ltTup {X : Cx} (hu : X.A.units < cLine) : OpR X (compareOp .Lt) (rLtTup X.K) := by
  intro pins s σ H x y v u Q I rx ry h
  obtain ⟨a, b, ns, ms, rfl, rfl, ha, hb, q⟩ := h
  cases rx
  cases ry
  obtain ⟨its, r1, p1, _⟩ := I.tuple ha
  obtain ⟨its2, r2, p2, _⟩ := I.tuple hb
  have i1 : PyProof.Rows.IntsAre its ns := intsAre_of r1
  have i2 : PyProof.Rows.IntsAre its2 ms := intsAre_of r2
  have e1 : its.toArray.size = ns.length := by rw [List.size_toArray]; exact i1.length
  have e2 : its2.toArray.size = ms.length := by rw [List.size_toArray]; exact i2.length
  have at1 : ∀ j (h1 : j < its.toArray.size), ∃ t, its.toArray[j] = .int (ns.getD j 0) t := fun j h1 => PyProof.Rows.IntsAre.int_at i1 _ _ (by simp at h1; simp [h1])
  have at2 : ∀ j (h1 : j < its2.toArray.size), ∃ t, its2.toArray[j] = .int (ms.getD j 0) t := fun j h1 => PyProof.Rows.IntsAre.int_at i2 _ _ (by simp at h1; simp [h1])
  have R := SeqAt.RcLt.tuples (A := X.A) (s := s) (e := fun j => decide (ns.getD j 0 = ms.getD j 0)) (r := fun j => decide (ns.getD j 0 < ms.getD j 0)) p1 p2 hu (fun j h1 h2 => by
    obtain ⟨t, et⟩ := at1 j h1
    obtain ⟨t', et'⟩ := at2 j h2
    rw [et, et', ← eqInt]
    exact SeqAt.EqAt.int_int _ _ _ _) (fun j h1 h2 _ => by
    obtain ⟨t, et⟩ := at1 j h1
    obtain ⟨t', et'⟩ := at2 j h2
    rw [et, et']
    exact ltInt _ _ _ _)
  rw [e1, e2] at R
  exact R X.prog X.w X.xe (EP X pins σ Q) ⟨.bl _, H, I, rfl, q⟩
def rLtLst (K : PySem.W.Frag) : R2 := fun x y H Q => ∃ (a b : Addr) (ns ms : List Int), x = .ref a ∧ y = .ref b ∧ SqL K H a (ns.map V.int) ∧ SqL K H b (ms.map V.int) ∧ Q (.bl (lexF ns ms)) H
theorem op_ltLst {X : Cx} (hu : X.A.units < cLine) : OpR X (compareOp .Lt) (rLtLst X.K) := by
  intro pins s σ H x y v u Q I rx ry h
  obtain ⟨a, b, ns, ms, rfl, rfl, ha, hb, q⟩ := h
  cases rx
  cases ry
  obtain ⟨its, r1, p1, _⟩ := I.list ha
  obtain ⟨its2, r2, p2, _⟩ := I.list hb
  have i1 : PyProof.Rows.IntsAre its ns := intsAre_of r1
  have i2 : PyProof.Rows.IntsAre its2 ms := intsAre_of r2
  have e1 : its.toArray.size = ns.length := by rw [List.size_toArray]; exact i1.length
  have e2 : its2.toArray.size = ms.length := by rw [List.size_toArray]; exact i2.length
  have at1 : ∀ j (h1 : j < its.toArray.size), ∃ t, its.toArray[j] = .int (ns.getD j 0) t := fun j h1 => PyProof.Rows.IntsAre.int_at i1 _ _ (by simp at h1; simp [h1])
  have at2 : ∀ j (h1 : j < its2.toArray.size), ∃ t, its2.toArray[j] = .int (ms.getD j 0) t := fun j h1 => PyProof.Rows.IntsAre.int_at i2 _ _ (by simp at h1; simp [h1])
  have R := SeqAt.RcLt.lists (A := X.A) (s := s) (e := fun j => decide (ns.getD j 0 = ms.getD j 0)) (r := fun j => decide (ns.getD j 0 < ms.getD j 0)) p1.isList p2.isList hu (fun j h1 h2 => by
    obtain ⟨t, et⟩ := at1 j h1
    obtain ⟨t', et'⟩ := at2 j h2
    rw [et, et', ← eqInt]
    exact SeqAt.EqAt.int_int _ _ _ _) (fun j h1 h2 _ => by
    obtain ⟨t, et⟩ := at1 j h1
    obtain ⟨t', et'⟩ := at2 j h2
    rw [et, et']
    exact ltInt _ _ _ _)
  rw [e1, e2] at R
  exact R X.prog X.w X.xe (EP X pins σ Q) ⟨.bl _, H, I, rfl, q⟩
/-- x == y, x an instance of the class at C whose own equality is at g and answers True or False; y: anything whose type is known and does not come first -/
def rOwnE (K : PySem.W.Frag) (C : Addr) (sp : Sp) (E : XK) : R2 := fun x y H Q => ∃ a dx fs t, x = .ref a ∧ H a = some (.ins C dx fs) ∧ TyX K H y t ∧ PySem.W.notFirst K C t = true ∧ sp [x, y] H (fun v H' => (∃ b, v = .bl b) ∧ Q v H') E
theorem op_ownE {X : Cx} {CX : CXT} {n : Nat} {C g : Addr} {fd : FuncData} {ps : List Str} {sp : Sp} {E : XK} (hs : PySem.W.findIn X.K (.ref C) "__eq__" = some (some (.ref g))) (hf : PySem.W.isFn X.K (.ref g) = true)
    (F : FnOk X.prog X.w X.K X.mg X.base CX n g fd ps sp) (hb : Binds X.K fd ps []) (hr : Room n X.A) (hx : Passes CX X E) : OpR X (compareOp .Eq) (rOwnE X.K C sp E) := by
  intro pins s σ H x y v u Q I rx ry h
  obtain ⟨a, dx, fs, t, rfl, ha, ty, hn, q⟩ := h
  obtain rfl : v = Value.ref a := rx
  obtain ⟨mA, J, _⟩ := ins_get I.hok ha
  obtain ⟨od, J, _⟩ := J.look
  obtain ⟨m, hF⟩ := I.fr
  obtain ⟨P, Z, p, _⟩ := kit_of I ry ty
  show wpAny (model X.prog X.w) X.A (richCompare .Eq (.ref a) u) (EP X pins σ Q) X.xe s
  refine PySem.W.cmp_K (op := .Eq) (tb := t) hr.units0 hF I.ok.mod.kin J (Z.ty _ _ I.kIn p) hn hs hf ?_
  refine wpAny_mono (run_fn (us := [.ref a, u]) (vs := [.ref a, y]) F hr hb .nil hx I (.cons rfl (.cons ry .nil)) q) (fun w s' z => ?_) fun _ _ x => x
  obtain ⟨z', H', I', rz, ⟨b, eb⟩, qz⟩ := z
  subst eb
  obtain rfl : w = Value.bool b := rz
  exact ⟨.bl b, H', I', rfl, qz⟩

/-! ### 4. what the text's top gives -/
structure Txt (K : PySem.W.Frag) (mg : Str → Option Value) (C U L : Addr) : Prop where
  cl : Cls K C
  nU : NoAttr K C "unit"
  nS : NoAttr K C "start"
  nE : NoAttr K C "end"
  nW : NoAttr K C "without"
  mgC : mg "Frame" = some (.ref C)
  mgU : mg "UNITS" = some (.ref U)
  mgL : mg "LEFT_OUT" = some (.ref L)
  tU : ∃ (its : Array Value) (n : Nat), K.lookup U = some { cls := .type "tuple", data := .seq its n } ∧ its.size ≤ sizeLine ∧ Vals (unitT.map V.str) its.toList
  tL : ∃ (its : Array Value) (n : Nat), K.lookup L = some { cls := .type "tuple", data := .seq its n } ∧ its.size ≤ sizeLine ∧ Vals (outT.map V.str) its.toList
  ca : PySem.W.findIn K (.ref C) "__class__" = some (some (.builtin "object.__class__"))
  cn : PySem.W.specialIn K (.builtin "object.__class__") "__get__" = some (some (.builtin "getset_descriptor.__get__"))
  ct : PySem.W.takesIn K (.builtin "object.__class__") = some true
  cm : PySem.W.mroIn K C (.type "object") = some true
  ic : PySem.W.isClsIn K C = true
  ty : PySem.W.typeIn K (.ref C) = some (.type "type")
  sL : PySem.W.subIn K (.type "list") (.ref C) = some false
  sS : PySem.W.subIn K (.type "str") (.ref C) = some false
  sI : PySem.W.subIn K (.type "int") (.ref C) = some false
  len : mg "len" = none
  int : mg "int" = none
  abs : mg "abs" = none
  rng : mg "range" = none
  lst : mg "list" = none
  bool : mg "bool" = none
  isi : mg "isinstance" = none
section
variable {K : PySem.W.Frag} {mg : Str → Option Value} {C U L : Addr}
theorem Txt.sqU (T : Txt K mg C U L) (H : Hp) : SqT K H U (unitT.map V.str) := by
  obtain ⟨its, n, h, z, r⟩ := T.tU
  exact .inr ⟨_, its, n, h, rfl, rfl, z, r⟩
theorem Txt.sqL (T : Txt K mg C U L) (H : Hp) : SqT K H L (outT.map V.str) := by
  obtain ⟨its, n, h, z, r⟩ := T.tL
  exact .inr ⟨_, its, n, h, rfl, rfl, z, r⟩
theorem Txt.tyU (T : Txt K mg C U L) (H : Hp) : tyV K "tuple" (.ref U) H := by
  obtain ⟨its, n, h, z, r⟩ := T.tU
  exact .inr (.inl ⟨rfl, _, h, rfl, rfl⟩)
theorem Txt.tyL (T : Txt K mg C U L) (H : Hp) : tyV K "tuple" (.ref L) H := by
  obtain ⟨its, n, h, z, r⟩ := T.tL
  exact .inr (.inl ⟨rfl, _, h, rfl, rfl⟩)
end

/-! ### 5. frames as they stand in the heap -/
def frF (q : Four) : List (Str × V) := putF "without" (.str q.w) (putF "end" (endV q.b) (putF "start" (endV q.a) (putF "unit" (.str q.u) [])))
theorem frF_get (q : Four) (m : Str) : (frF q).lookup m = if m = "without" then some (.str q.w) else if m = "end" then some (endV q.b) else if m = "start" then some (endV q.a) else if m = "unit" then some (.str q.u) else none := by
  unfold frF
  rw [lookup_putF, lookup_putF, lookup_putF, lookup_putF]
  rfl
theorem frF_w (q : Four) : (frF q).lookup ("without" : Str) = some (.str q.w) := by
  rw [frF_get, if_pos rfl]
theorem frF_e (q : Four) : (frF q).lookup ("end" : Str) = some (endV q.b) := by
  rw [frF_get, if_neg (by decide +kernel), if_pos rfl]
theorem frF_s (q : Four) : (frF q).lookup ("start" : Str) = some (endV q.a) := by
  rw [frF_get, if_neg (by decide +kernel), if_neg (by decide +kernel), if_pos rfl]
theorem frF_u (q : Four) : (frF q).lookup ("unit" : Str) = some (.str q.u) := by
  rw [frF_get, if_neg (by decide +kernel), if_neg (by decide +kernel), if_neg (by decide +kernel), if_pos rfl]
theorem frF_before (q : Four) : (frF q).lookup ("before" : Str) = none := by
  rw [frF_get, if_neg (by decide +kernel), if_neg (by decide +kernel), if_neg (by decide +kernel), if_neg (by decide +kernel)]
/-- a frame of the four q stands at p -/
def FrameAt (C : Addr) (H : Hp) (p : Addr) (q : Four) : Prop := ∃ dx, H p = some (.ins C dx (frF q))
theorem FrameAt.same {C : Addr} {H H' : Hp} {p : Addr} {q : Four} (h : FrameAt C H p q) (s : Same H H') : FrameAt C H' p q := by
  obtain ⟨dx, h⟩ := h
  exact ⟨dx, s _ _ h⟩
theorem same_new {H : Hp} {p : Addr} {o : HO} (h : H p = none) : Same H (upd H p o) := fun b x e => by
  rw [upd_ne (ne_of_none e h)]
  exact e
theorem if_no {c : Bool} {A B : Prop} (h : c = false) (q : B) : if c = true then A else B := by
  rw [h]
  exact iteF q
theorem if_yes {c : Bool} {A B : Prop} (h : c = true) (q : A) : if c = true then A else B := by
  rw [h]
  exact iteT q
theorem line_of {n : Nat} (h : n ≤ 1000) : n ≤ sizeLine := Nat.le_of_lt (small1000 h)
end Wr

/-! Whole order of frames. Part B: the defs of the frames' module. -/
namespace Wr
open PySem L2
section
variable {P : Program} {w : World} {K : PySem.W.Frag} {mg : Str → Option Value} {base : Heap} {C U L : Addr}

/-! ### start_rank, end_rank -/
def spPair (g : Option Int → List Int) : Sp := fun vs H Q _ => ∃ e : Option Int, vs = [endV e] ∧ ∀ H' p, Same H H' → H' p = some (.tup ((g e).map V.int)) → Q (.ref p) H'
theorem scStart : FnScope ["start"] ["start"] (defScope sStart) := ⟨rfl, rfl, rfl, by decide +kernel, rfl, by decide +kernel, by decide +kernel⟩
theorem ok_start {f : Addr} {fd : FuncData} (F : Fun K "start_rank" "start_rank" sStart f fd) : FnOk P w K mg base CX0 1 f fd ["start"] (spPair startR) := by
  refine F.ok scStart (fun vs H Q E h => ?_) (fun cdv A outer s H vs Q E hr h => ?_)
  · obtain ⟨e, rfl, _⟩ := h
    rfl
  · obtain ⟨e, rfl, k⟩ := h
    refine ⟨_, pss_cons (ps_if (pt_cmpR op_isN (pv 0) pe_non (nomark _)) (pss_one (ps_ret (pe_tup (pa_cons pe_int (pa_cons pe_int pa_nil))))) pss_nil)
      (pss_one (ps_ret (pe_tup (pa_cons pe_int (pa_cons (pv 0) pa_nil))))), ?_⟩
    cases e with
    | none =>
      refine ⟨_, rfl, rfl, _, rfl, if_yes (decide_eq_true rfl) ?_⟩
      exact ⟨line_of (by show 2 ≤ 1000; decide), fun p hp => k _ p (same_new hp) upd_same⟩
    | some i =>
      refine ⟨_, rfl, rfl, _, rfl, if_no (decide_eq_false (fun z => by cases z)) ?_⟩
      exact ⟨_, rfl, line_of (by show 2 ≤ 1000; decide), fun p hp => k _ p (same_new hp) upd_same⟩
theorem scEnd : FnScope ["end"] ["end"] (defScope sEnd) := ⟨rfl, rfl, rfl, by decide +kernel, rfl, by decide +kernel, by decide +kernel⟩
theorem ok_end {f : Addr} {fd : FuncData} (F : Fun K "end_rank" "end_rank" sEnd f fd) : FnOk P w K mg base CX0 1 f fd ["end"] (spPair endR) := by
  refine F.ok scEnd (fun vs H Q E h => ?_) (fun cdv A outer s H vs Q E hr h => ?_)
  · obtain ⟨e, rfl, _⟩ := h
    rfl
  · obtain ⟨e, rfl, k⟩ := h
    refine ⟨_, pss_cons (ps_if (pt_cmpR op_isN (pv 0) pe_non (nomark _)) (pss_one (ps_ret (pe_tup (pa_cons pe_int (pa_cons pe_int pa_nil))))) pss_nil)
      (pss_one (ps_ret (pe_tup (pa_cons pe_int (pa_cons (pv 0) pa_nil))))), ?_⟩
    cases e with
    | none =>
      refine ⟨_, rfl, rfl, _, rfl, if_yes (decide_eq_true rfl) ?_⟩
      exact ⟨line_of (by show 2 ≤ 1000; decide), fun p hp => k _ p (same_new hp) upd_same⟩
    | some i =>
      refine ⟨_, rfl, rfl, _, rfl, if_no (decide_eq_false (fun z => by cases z)) ?_⟩
      exact ⟨_, rfl, line_of (by show 2 ≤ 1000; decide), fun p hp => k _ p (same_new hp) upd_same⟩

/-! ### frame_rank -/
theorem startR_len (e : Option Int) : (startR e).length = 2 := by cases e <;> rfl
theorem endR_len (e : Option Int) : (endR e).length = 2 := by cases e <;> rfl
theorem map_ne {ns : List Int} (h : ns.length = 2) : ns.map V.int ≠ [] := fun z => by
  have e := congrArg List.length z
  rw [List.length_map, h] at e
  cases e
theorem rank_map (q : Four) : q.rank.map V.int = ([V.int ((ixS outT q.w : Nat) : Int), V.int ((ixS unitT q.u : Nat) : Int)] ++ (startR q.a).map V.int) ++ (endR q.b).map V.int := by
  unfold Four.rank
  rw [List.map_append, List.map_append]
  rfl
def spRankF (C : Addr) : Sp := fun vs H Q _ => ∃ (p : Addr) (q : Four), vs = [.ref p] ∧ FrameAt C H p q ∧ q.Ok ∧ ∀ H' t, Same H H' → H' t = some (.tup (q.rank.map V.int)) → Q (.ref t) H'
theorem scRankF : FnScope ["frame", "order"] ["frame"] (defScope sRankF) := ⟨rfl, rfl, rfl, by decide +kernel, rfl, by decide +kernel, by decide +kernel⟩
theorem ok_rankF {f fS fE : Addr} {fd fdS fdE : FuncData} (F : Fun K "frame_rank" "frame_rank" sRankF f fd) (T : Txt K mg C U L)
    (FS : Fun K "start_rank" "start_rank" sStart fS fdS) (bS : Binds K fdS ["start"] []) (gS : mg "start_rank" = some (.ref fS)) (FE : Fun K "end_rank" "end_rank" sEnd fE fdE) (bE : Binds K fdE ["end"] []) (gE : mg "end_rank" = some (.ref fE)) :
    FnOk P w K mg base CX0 2 f fd ["frame"] (spRankF C) := by
  have GS : FnOk P w K mg base CX0 1 fS fdS ["start"] (spPair startR) := ok_start FS
  have GE : FnOk P w K mg base CX0 1 fE fdE ["end"] (spPair endR) := ok_end FE
  refine F.ok scRankF (fun vs H Q E h => ?_) (fun cdv A outer s H vs Q E hr h => ?_)
  · obtain ⟨p, q, rfl, _⟩ := h
    rfl
  · obtain ⟨p, q, rfl, ⟨dx, hF⟩, ok, k⟩ := h
    refine ⟨_, pss_cons (ps_set (i := 1) scRankF.nd rfl (Or.inl rfl) (pe_tup
        (pa_cons (pe_bm PySem.F.plainAttrs_tuple PySem.F.slot_tuple_index PySem.F.type_tuple_index mt_tup_index (pe_glob (v := .ref L) (by rfl) T.mgL rfl) (pa_cons (pe_fld (pv 0) rfl) pa_nil))
        (pa_cons (pe_bm PySem.F.plainAttrs_tuple PySem.F.slot_tuple_index PySem.F.type_tuple_index mt_tup_index (pe_glob (v := .ref U) (by rfl) T.mgU rfl) (pa_cons (pe_fld (pv 0) rfl) pa_nil)) pa_nil))))
      (pss_one (ps_ret (pe_op op_catT (pe_op op_catT (pv 1) (pe_call GS hr (by rfl) gS FS.kp bS .nil pass0 (pa_cons (pe_fld (pv 0) rfl) pa_nil)))
        (pe_call GE hr (by rfl) gE FE.kp bE .nil pass0 (pa_cons (pe_fld (pv 0) rfl) pa_nil))))), ?_⟩
    -- order = (LEFT_OUT.index(..), UNITS.index(..))
    refine ⟨T.tyL _, _, rfl, p, C, dx, _, _, rfl, hF, T.cl, T.nW, frF_w q, L, outT, q.w, ixS outT q.w, rfl, rfl, T.sqL _, ixS_get ok.w, fun m hm => ixS_no hm, ?_⟩
    refine ⟨T.tyU _, _, rfl, p, C, dx, _, _, rfl, hF, T.cl, T.nU, frF_u q, U, unitT, q.u, ixS unitT q.u, rfl, rfl, T.sqU _, ixS_get ok.u, fun m hm => ixS_no hm, ?_⟩
    refine ⟨line_of (by show 2 ≤ 1000; decide), fun o no => ?_⟩
    have s1 : Same H (upd H o (.tup [V.int ((ixS outT q.w : Nat) : Int), V.int ((ixS unitT q.u : Nat) : Int)])) := same_new no
    -- order + start_rank(..)
    refine ⟨_, rfl, _, rfl, p, C, dx, _, _, rfl, s1 _ _ hF, T.cl, T.nS, frF_s q, q.a, rfl, fun H2 t2 s2 e2 => ?_⟩
    refine ⟨o, t2, _, _, rfl, rfl, SqT.of (s2 _ _ upd_same), SqT.of e2, (by intro z; cases z), line_of ?_, (fun z => absurd z (map_ne (startR_len _))), fun _ o3 n3 => ?_⟩
    · rw [List.length_map, startR_len]
      show 2 + 2 ≤ 1000
      decide
    have s3 := same_new (o := .tup ([V.int ((ixS outT q.w : Nat) : Int), V.int ((ixS unitT q.u : Nat) : Int)] ++ (startR q.a).map V.int)) n3
    -- .. + end_rank(..)
    refine ⟨_, rfl, p, C, dx, _, _, rfl, s3 _ _ (s2 _ _ (s1 _ _ hF)), T.cl, T.nE, frF_e q, q.b, rfl, fun H4 t4 s4 e4 => ?_⟩
    refine ⟨o3, t4, _, _, rfl, rfl, SqT.of (s4 _ _ upd_same), SqT.of e4, (by intro z; cases z), line_of ?_, (fun z => absurd z (map_ne (endR_len _))), fun _ o5 n5 => ?_⟩
    · rw [List.length_append, List.length_map, List.length_map, startR_len, endR_len]
      show 2 + 2 + 2 ≤ 1000
      decide
    exact k _ o5 (s1.trans (s2.trans (s3.trans (s4.trans (same_new n5))))) (by rw [upd_same, rank_map])

/-! ### before -/
def spBefore (C : Addr) : Sp := fun vs H Q _ => ∃ (p : Addr) (q : Four) (p2 : Addr) (q2 : Four), vs = [.ref p, .ref p2] ∧ FrameAt C H p q ∧ q.Ok ∧ FrameAt C H p2 q2 ∧ q2.Ok ∧ ∀ H', Same H H' → Q (.bl (lexF q.rank q2.rank)) H'
theorem scBefore : FnScope ["self", "other"] ["self", "other"] (defScope sBefore) := ⟨rfl, rfl, rfl, by decide +kernel, rfl, by decide +kernel, by decide +kernel⟩
theorem ok_before {f fR : Addr} {fd fdR : FuncData} (F : Fun K "before" "Frame.before" sBefore f fd) (GR : FnOk P w K mg base CX0 2 fR fdR ["frame"] (spRankF C)) (kR : PySem.W.keepIn K (.ref fR) = true) (bR : Binds K fdR ["frame"] []) (gR : mg "frame_rank" = some (.ref fR)) :
    FnOk P w K mg base CX0 3 f fd ["self", "other"] (spBefore C) := by
  refine F.ok scBefore (fun vs H Q E h => ?_) (fun cdv A outer s H vs Q E hr h => ?_)
  · obtain ⟨p, q, p2, q2, rfl, _⟩ := h
    rfl
  · obtain ⟨p, q, p2, q2, rfl, hF, ok, hF2, ok2, k⟩ := h
    refine ⟨_, pss_one (ps_ret (pe_cmpR (op_ltTup hr.units0) (pe_call GR hr (by rfl) gR kR bR .nil pass0 (pa_cons (pv 0) pa_nil)) (pe_call GR hr (by rfl) gR kR bR .nil pass0 (pa_cons (pv 1) pa_nil)) (nomark _))), ?_⟩
    refine ⟨_, rfl, p, q, rfl, hF, ok, fun H1 t1 s1 e1 => ?_⟩
    refine ⟨_, rfl, p2, q2, rfl, hF2.same s1, ok2, fun H2 t2 s2 e2 => ?_⟩
    exact ⟨t1, t2, _, _, rfl, rfl, SqT.of (s2 _ _ e1), SqT.of e2, k _ (s1.trans s2)⟩

/-! ### __eq__ -/
def spEq (K : PySem.W.Frag) (C : Addr) : Sp := fun vs H Q _ => ∃ (p : Addr) (q : Four) (y : V), vs = [.ref p, y] ∧ FrameAt C H p q ∧
  ((∃ (p2 : Addr) (q2 : Four), y = .ref p2 ∧ FrameAt C H p2 q2 ∧ Q (.bl (decide (q = q2))) H) ∨ ∃ t, TyX K H y t ∧ PySem.W.kitOne K t (.ref C) = some false ∧ Q (.bl false) H)
theorem kit_self (K : PySem.W.Frag) (C : Addr) : PySem.W.kitOne K (.ref C) (.ref C) = some true := by
  unfold PySem.W.kitOne
  rw [if_pos (beq_self_eq_true _)]
theorem scEq : FnScope ["self", "other"] ["self", "other"] (defScope sEq) := ⟨rfl, rfl, rfl, by decide +kernel, rfl, by decide +kernel, by decide +kernel⟩
theorem ok_eq {f : Addr} {fd : FuncData} (F : Fun K "__eq__" "Frame.__eq__" sEq f fd) (T : Txt K mg C U L) : FnOk P w K mg base CX0 1 f fd ["self", "other"] (spEq K C) := by
  refine F.ok scEq (fun vs H Q E h => ?_) (fun cdv A outer s H vs Q E hr h => ?_)
  · obtain ⟨p, q, y, rfl, _⟩ := h
    rfl
  · obtain ⟨p, q, y, rfl, ⟨dx, hF⟩, k⟩ := h
    refine ⟨_, pss_cons (ps_if (PW.pt (pw_or (pt_not (pt_val (pe_callB call_isi (by rfl) T.isi PyProof.Rows.boot_isinstance (pa_cons (pv 1) (pa_cons (pe_glob (v := .ref C) (by rfl) T.mgC rfl) pa_nil)))))
          (pw_or (pt_cmpR op_ne (pe_fld (pv 0) rfl) (pe_fld (pv 1) rfl) (nomark _)) (pw_or1 (pt_cmpR op_ne (pe_fld (pv 0) rfl) (pe_fld (pv 1) rfl) (nomark _))))))
        (pss_one (ps_ret pe_bl)) pss_nil)
      (pss_one (ps_ret (pe_and (pe_cmpR op_eq (pe_fld (pv 0) rfl) (pe_fld (pv 1) rfl) (nomark _)) (pe_one (pe_cmpR op_eq (pe_fld (pv 0) rfl) (pe_fld (pv 1) rfl) (nomark _)))))), ?_⟩
    rcases k with ⟨p2, q2, rfl, ⟨dy, hG⟩, k⟩ | ⟨t, ty, e, k⟩
    · refine ⟨_, rfl, .ref p2, .ref C, .ref C, .ref C, true, rfl, .own C, .base (.ins hG T.cl T.ca T.cn T.ct T.cm), kit_self K C, _, rfl, if_no rfl ?_⟩
      refine ⟨_, rfl, p, C, dx, _, _, rfl, hF, T.cl, T.nU, frF_u q, _, rfl, p2, C, dy, _, _, rfl, hG, T.cl, T.nU, frF_u q2, rfl, _, rfl, ?_⟩
      by_cases hu : q.u = q2.u
      · refine if_no (by rw [hu, decide_eq_true rfl]; rfl) ?_
        refine ⟨_, rfl, p, C, dx, _, _, rfl, hF, T.cl, T.nW, frF_w q, _, rfl, p2, C, dy, _, _, rfl, hG, T.cl, T.nW, frF_w q2, rfl, _, rfl, ?_⟩
        by_cases hw : q.w = q2.w
        · refine if_no (by rw [hw, decide_eq_true rfl]; rfl) ?_
          refine ⟨_, rfl, p, C, dx, _, _, rfl, hF, T.cl, T.nS, frF_s q, _, rfl, p2, C, dy, _, _, rfl, hG, T.cl, T.nS, frF_s q2, scal_end _ _, _, rfl, ?_⟩
          by_cases ha : q.a = q2.a
          · refine if_yes (by rw [ha, decide_eq_true rfl]) ?_
            refine ⟨_, rfl, p, C, dx, _, _, rfl, hF, T.cl, T.nE, frF_e q, _, rfl, p2, C, dy, _, _, rfl, hG, T.cl, T.nE, frF_e q2, scal_end _ _, ?_⟩
            have z : decide (endV q.b = endV q2.b) = decide (q = q2) := by
              refine decide_eq_decide.mpr ⟨fun e => ?_, fun e => by rw [e]⟩
              have hb := endV_inj e
              cases q
              cases q2
              simp only at hu hw ha hb
              rw [hu, hw, ha, hb]
            show Q (.bl (decide (endV q.b = endV q2.b))) H
            rw [z]
            exact k
          · refine if_no (decide_eq_false fun e => ha (endV_inj e)) ?_
            rw [decide_eq_false fun e => ha (by rw [e])] at k
            exact k
        · refine if_yes (by rw [decide_eq_false fun e => hw (V.str.inj e)]; rfl) ?_
          rw [decide_eq_false fun e => hw (by rw [e])] at k
          exact k
      · refine if_yes (by rw [decide_eq_false fun e => hu (V.str.inj e)]; rfl) ?_
        refine iteT ?_
        rw [decide_eq_false fun e => hu (by rw [e])] at k
        exact k
    · refine ⟨_, rfl, y, .ref C, t, .ref C, false, rfl, .own C, ty, e, _, rfl, if_yes rfl ?_⟩
      exact iteT k

/-! ### turned_ends -/
def spTurned : Sp := fun vs H Q _ => ∃ a b : Option Int, vs = [endV a, endV b] ∧ Q (.bl (turnedB a b)) H
theorem scTurned : FnScope ["start", "end"] ["start", "end"] (defScope sTurned) := ⟨rfl, rfl, rfl, by decide +kernel, rfl, by decide +kernel, by decide +kernel⟩
theorem ok_turned {f : Addr} {fd : FuncData} (F : Fun K "turned_ends" "turned_ends" sTurned f fd) : FnOk P w K mg base CX0 1 f fd ["start", "end"] spTurned := by
  refine F.ok scTurned (fun vs H Q E h => ?_) (fun cdv A outer s H vs Q E hr h => ?_)
  · obtain ⟨a, b, rfl, _⟩ := h
    rfl
  · obtain ⟨a, b, rfl, k⟩ := h
    refine ⟨_, pss_one (ps_ret (pe_and (pe_cmpR op_notN (pv 0) pe_non (nomark _)) (pe_and (pe_cmpR op_notN (pv 1) pe_non (nomark _)) (pe_one (pe_cmpR op_gt (pv 0) (pv 1) (nomark _)))))), ?_⟩
    refine ⟨_, rfl, rfl, _, rfl, ?_⟩
    cases a with
    | none => exact if_no (by rw [show endV none = V.non from rfl, decide_eq_true rfl]; rfl) k
    | some x =>
      refine if_yes (by rw [decide_eq_false (fun z => by cases z)]; rfl) ?_
      refine ⟨_, rfl, rfl, _, rfl, ?_⟩
      cases b with
      | none => exact if_no (by rw [show endV none = V.non from rfl, decide_eq_true rfl]; rfl) k
      | some y =>
        refine if_yes (by rw [decide_eq_false (fun z => by cases z)]; rfl) ?_
        exact ⟨_, rfl, _, rfl, x, y, rfl, rfl, k⟩

/-! ### __init__ -/
theorem inV_yes : ∀ {ys : List Str} {x : Str}, x ∈ ys → inV (.str x) (ys.map V.str) = true
  | y :: r, x, h => by
    unfold inV
    rw [List.map_cons, List.any_cons]
    rcases List.mem_cons.mp h with z | z
    · rw [z]
      show (y == y || _) = true
      rw [beq_self_eq_true, Bool.true_or]
    · have q := inV_yes z
      unfold inV at q
      rw [q, Bool.or_true]
def spInit (C : Addr) : Sp := fun vs H Q _ => ∃ (p dx : Addr) (q : Four), vs = [.ref p, .str q.u, endV q.a, endV q.b, .str q.w] ∧ q.Ok ∧ H p = some (.ins C dx []) ∧ Q .non (upd H p (.ins C dx (frF q)))
theorem scInit : FnScope ["self", "unit", "start", "end", "without"] ["self", "unit", "start", "end", "without"] (defScope sInit) := ⟨rfl, rfl, rfl, by decide +kernel, rfl, by decide +kernel, by decide +kernel⟩
theorem ok_init {f fT : Addr} {fd fdT : FuncData} (F : Fun K "__init__" "Frame.__init__" sInit f fd) (T : Txt K mg C U L) (FT : Fun K "turned_ends" "turned_ends" sTurned fT fdT) (bT : Binds K fdT ["start", "end"] []) (gT : mg "turned_ends" = some (.ref fT)) :
    FnOk P w K mg base CX0 2 f fd ["self", "unit", "start", "end", "without"] (spInit C) := by
  have GT : FnOk P w K mg base CX0 1 fT fdT ["start", "end"] spTurned := ok_turned FT
  refine F.ok scInit (fun vs H Q E h => ?_) (fun cdv A outer s H vs Q E hr h => ?_)
  · obtain ⟨p, dx, q, rfl, _⟩ := h
    rfl
  · obtain ⟨p, dx, q, rfl, ok, hp, k⟩ := h
    refine ⟨_, pss_cons (ps_if (pt_cmpR op_notIn_seq (pv 1) (pe_glob (v := .ref U) (by rfl) T.mgU rfl) (by rfl)) (pss_one ps_never) pss_nil)
      (pss_cons (ps_if (pt_cmpR op_notIn_seq (pv 4) (pe_glob (v := .ref L) (by rfl) T.mgL rfl) (by rfl)) (pss_one ps_never) pss_nil)
      (pss_cons (ps_if (pt_val (pe_call GT hr (by rfl) gT FT.kp bT .nil pass0 (pa_cons (pv 2) (pa_cons (pv 3) pa_nil)))) (pss_one ps_never) pss_nil)
      (pss_cons (ps_fld (pv 0) (pv 1) rfl) (pss_cons (ps_fld (pv 0) (pv 2) rfl) (pss_cons (ps_fld (pv 0) (pv 3) rfl) (pss_one (ps_fld (pv 0) (pv 4) rfl))))))), ?_⟩
    refine ⟨_, rfl, U, unitT.map V.str, rfl, .inr (T.sqU _), rfl, flat_strs _, _, rfl, if_no (by rw [inV_yes ok.u]; rfl) ?_⟩
    refine ⟨_, rfl, L, outT.map V.str, rfl, .inr (T.sqL _), rfl, flat_strs _, _, rfl, if_no (by rw [inV_yes ok.w]; rfl) ?_⟩
    refine ⟨_, rfl, _, rfl, q.a, q.b, rfl, _, rfl, if_no ok.t ?_⟩
    have l1 := length_putF "unit" (.str q.u) []
    have l2 := length_putF "start" (endV q.a) (putF "unit" (.str q.u) [])
    have l3 := length_putF "end" (endV q.b) (putF "start" (endV q.a) (putF "unit" (.str q.u) []))
    have l0 : ([] : List (Str × V)).length = 0 := rfl
    refine ⟨_, rfl, _, rfl, p, C, dx, _, rfl, hp, T.cl, T.nU, by rw [l0]; decide, ?_⟩
    refine ⟨_, rfl, _, rfl, p, C, dx, _, rfl, upd_same, T.cl, T.nS, by omega, ?_⟩
    refine ⟨_, rfl, _, rfl, p, C, dx, _, rfl, upd_same, T.cl, T.nE, by omega, ?_⟩
    refine ⟨_, rfl, _, rfl, p, C, dx, _, rfl, upd_same, T.cl, T.nW, by omega, ?_⟩
    rw [upd_upd, upd_upd, upd_upd]
    exact k
end
end Wr

/-! Whole order of frames. Part C: the law's own drawing. -/
namespace Wr
open PySem L2

/-- the answer of an operation on ints, as a letter with its equation -/
theorem letter {X : Cx} {f : Value → Value → Sem Value} {c : Int → Int → Prop} {g : Int → Int → Int} (h : OpR X f (rI c fun i j => .int (g i j))) :
    OpR X f (fun x y H Q => ∃ i j : Int, x = .int i ∧ y = .int j ∧ c i j ∧ ∀ z, z = g i j → Q (.int z) H) := by
  intro pins s σ H x y v u Q I rx ry hq
  obtain ⟨i, j, e1, e2, hc, q⟩ := hq
  exact h pins s σ H x y v u Q I rx ry ⟨i, j, e1, e2, hc, q _ rfl⟩
theorem letter0 {X : Cx} {f : Value → Value → Sem Value} {g : Int → Int → Int} (h : OpR X f (rI0 fun i j => .int (g i j))) :
    OpR X f (fun x y H Q => ∃ i j : Int, x = .int i ∧ y = .int j ∧ ∀ z, z = g i j → Q (.int z) H) := by
  intro pins s σ H x y v u Q I rx ry hq
  obtain ⟨i, j, e1, e2, q⟩ := hq
  exact h pins s σ H x y v u Q I rx ry ⟨i, j, e1, e2, q _ rfl⟩
theorem ixN_at {n j : Nat} (h : j < n) : ixN n (j : Int) = some j := by
  unfold ixN
  rw [if_pos (by omega), if_pos (by omega)]
  simp
theorem int_at {cs : List Int} {j : Nat} (h : j < cs.length) : (cs.map V.int)[j]? = some (.int cs[j]) := by
  rw [List.getElem?_map, List.getElem?_eq_getElem h]
  rfl

/-! ### what is drawn from -/
/-- a list at d of: the cells at c, what is left of them at s, the turn -/
structure DrawAt (H : Hp) (d c s : Addr) : Prop where
  ex : ∃ (cs ss : List Int) (t : Int), H d = some (.lst [.ref c, .ref s, .int t]) ∧ H c = some (.lst (cs.map V.int)) ∧ H s = some (.lst (ss.map V.int)) ∧ cs.length = ss.length ∧ 0 < cs.length
  dc : d ≠ c
  ds : d ≠ s
  cs : c ≠ s
/-- all that is tracked but the list at d and what is left at s stays -/
def Keep (d s : Addr) (H H' : Hp) : Prop := ∀ b o, b ≠ d → b ≠ s → H b = some o → H' b = some o
theorem Keep.of {d s : Addr} {H H' : Hp} (h : Same H H') : Keep d s H H' := fun b o _ _ e => h b o e
theorem Keep.trans {d s : Addr} {H H1 H2 : Hp} (a : Keep d s H H1) (b : Keep d s H1 H2) : Keep d s H H2 := fun x o h1 h2 e => b x o h1 h2 (a x o h1 h2 e)
theorem DrawAt.same {H H' : Hp} {d c s : Addr} (h : DrawAt H d c s) (k : Same H H') : DrawAt H' d c s := by
  obtain ⟨⟨cs, ss, t, h1, h2, h3, h4, h5⟩, n1, n2, n3⟩ := h
  exact ⟨⟨cs, ss, t, k _ _ h1, k _ _ h2, k _ _ h3, h4, h5⟩, n1, n2, n3⟩
theorem DrawAt.tracked {H : Hp} {d c s : Addr} (h : DrawAt H d c s) : ∃ o u, H d = some o ∧ H s = some u := by
  obtain ⟨⟨cs, ss, t, h1, h2, h3, _⟩, _⟩ := h
  exact ⟨_, _, h1, h3⟩
/-- a new address is neither d nor s -/
theorem DrawAt.apart {H : Hp} {d c s p : Addr} (h : DrawAt H d c s) (n : H p = none) : p ≠ d ∧ p ≠ s := by
  obtain ⟨o, u, h1, h2⟩ := h.tracked
  exact ⟨(ne_of_none h1 n).symm, (ne_of_none h2 n).symm⟩

section
variable {P : Program} {w : World} {K : PySem.W.Frag} {mg : Str → Option Value} {base : Heap} {C U L : Addr}

/-! ### _law_draw -/
def spDraw : Sp := fun vs H Q _ => ∃ (d c s : Addr) (m : Int), vs = [.ref d, .int m] ∧ DrawAt H d c s ∧ 0 < m ∧ m ≤ 60000 ∧ ∀ (r : Int) H', 0 ≤ r → r < m → DrawAt H' d c s → Keep d s H H' → Q (.int r) H'
theorem scDraw : FnScope ["_law_draws", "_law_many", "_law_turn", "_law_at", "_law_cell", "_law_got", "_law_first", "_law_salt", "_law_second", "_law_mixed", "_law_third"] ["_law_draws", "_law_many"] (defScope sDraw) :=
  ⟨rfl, rfl, rfl, by decide +kernel, rfl, by decide +kernel, by decide +kernel⟩
theorem ok_draw {f : Addr} {fd : FuncData} (F : Fun K "_law_draw" "_law_draw" sDraw f fd) (T : Txt K mg C U L) : FnOk P w K mg base CX0 1 f fd ["_law_draws", "_law_many"] spDraw := by
  refine F.ok scDraw (fun vs H Q E h => ?_) (fun cdv A outer s H vs Q E hr h => ?_)
  · obtain ⟨d, c, s, m, rfl, _⟩ := h
    rfl
  · obtain ⟨d, c, s, m, rfl, ⟨⟨cs, ss, t, hD, hC, hS, hl, h0⟩, dc, ds, cds⟩, m0, mM, k⟩ := h
    refine ⟨_, pss_cons (ps_set (i := 2) scDraw.nd rfl (Or.inl rfl) (pe_ix ix_list (pv 0) pe_int (fun _ _ => rfl)))
      (pss_cons (ps_asg (pe_op op_add (pv 2) pe_int) (pg_sub (pv 0) pe_int set_list))
      (pss_cons (ps_set (i := 3) scDraw.nd rfl (Or.inl rfl) (pe_op (letter op_mod) (pe_callTy call_int1 (by rfl) T.int PyProof.Rows.boot_int (pa_cons (pv 2) pa_nil))
          (pe_callB call_len_seq (by rfl) T.len PySem.boot_len (pa_cons (pe_ix ix_list (pv 0) pe_int (fun _ _ => rfl)) pa_nil))))
      (pss_cons (ps_set (i := 4) scDraw.nd rfl (Or.inl rfl) (pe_ix ix_list (pe_ix ix_list (pv 0) pe_int (fun _ _ => rfl)) (pv 3) (fun _ _ => rfl)))
      (pss_cons (ps_if (pt_cmpR op_gt (pe_ix ix_list (pe_ix ix_list (pv 0) pe_int (fun _ _ => rfl)) (pv 3) (fun _ _ => rfl)) pe_int (nomark _))
          (pss_cons (ps_set (i := 5) scDraw.nd rfl (Or.inl rfl) (pe_op (letter op_mod) (pe_callTy call_int1 (by rfl) T.int PyProof.Rows.boot_int (pa_cons (pe_ix ix_list (pe_ix ix_list (pv 0) pe_int (fun _ _ => rfl)) (pv 3) (fun _ _ => rfl)) pa_nil)) (pv 1)))
          (pss_cons (ps_asg (pe_op (letter op_fdiv) (pe_ix ix_list (pe_ix ix_list (pv 0) pe_int (fun _ _ => rfl)) (pv 3) (fun _ _ => rfl)) (pv 1)) (pg_sub (pe_ix ix_list (pv 0) pe_int (fun _ _ => rfl)) (pv 3) set_list))
          (pss_one (ps_ret (pv 5))))) pss_nil)
      (pss_cons (ps_set (i := 6) scDraw.nd rfl (Or.inl rfl) (pe_op (letter op_mod) (pe_callTy call_int1 (by rfl) T.int PyProof.Rows.boot_int (pa_cons
          (pe_op (letter op_mul) (pe_op (letter0 op_add) (pe_op (letter op_mod) (pe_callTy call_int1 (by rfl) T.int PyProof.Rows.boot_int (pa_cons (pv 4) pa_nil)) pe_int) pe_int) (pe_op (letter0 op_add) (pv 2) pe_int)) pa_nil)) pe_int))
      (pss_cons (ps_set (i := 7) scDraw.nd rfl (Or.inl rfl) (pe_op (letter0 op_add) (pe_op (letter op_mod) (pe_callTy call_int1 (by rfl) T.int PyProof.Rows.boot_int (pa_cons (pv 4) pa_nil)) pe_int) (pe_op (letter op_mul) pe_int (pv 2))))
      (pss_cons (ps_set (i := 8) scDraw.nd rfl (Or.inl rfl) (pe_op (letter op_mod) (pe_callTy call_int1 (by rfl) T.int PyProof.Rows.boot_int (pa_cons
          (pe_op (letter0 op_add) (pe_op (letter0 op_add) (pe_op (letter op_mul) (pv 6) (pv 6)) (pe_op (letter op_mul) pe_int (pv 6))) (pv 7)) pa_nil)) pe_int))
      (pss_cons (ps_set (i := 9) scDraw.nd rfl (Or.inl rfl) (pe_op (letter0 op_add) (pe_op (letter op_mul) (pe_op (letter op_mod) (pe_callTy call_int1 (by rfl) T.int PyProof.Rows.boot_int (pa_cons (pv 8) pa_nil)) pe_int) pe_int)
          (pe_op (letter op_mul) (pe_op (letter op_fdiv) (pv 8) pe_int) pe_int)))
      (pss_cons (ps_set (i := 10) scDraw.nd rfl (Or.inl rfl) (pe_op (letter op_mod) (pe_callTy call_int1 (by rfl) T.int PyProof.Rows.boot_int (pa_cons (pe_op (letter0 op_add) (pv 9) (pv 6)) pa_nil)) pe_int))
      (pss_cons (ps_if (pt_cmpR op_le (pv 1) pe_int (nomark _)) (pss_one (ps_ret (pe_op (letter op_mod) (pe_callTy call_int1 (by rfl) T.int PyProof.Rows.boot_int (pa_cons (pv 10) pa_nil)) (pv 1)))) pss_nil)
      (pss_one ps_never))))))))))), ?_⟩
    -- the turn, one more
    refine ⟨_, rfl, d, _, 2, .int t, rfl, rfl, SqL.of hD, atI_nat (j := 2) rfl, ?_⟩
    refine ⟨_, rfl, t, 1, rfl, rfl, _, rfl, d, _, 2, 2, rfl, rfl, hD, ixN_at (n := 3) (j := 2) (by decide), ?_⟩
    generalize hH1 : upd H d (.lst ([V.ref c, .ref s, .int t].set 2 (.int (t + 1)))) = H1
    have hD1 : H1 d = some (.lst [.ref c, .ref s, .int (t + 1)]) := by rw [← hH1]; exact upd_same
    have hC1 : H1 c = some (.lst (cs.map V.int)) := by rw [← hH1, upd_ne dc.symm]; exact hC
    have hS1 : H1 s = some (.lst (ss.map V.int)) := by rw [← hH1, upd_ne ds.symm]; exact hS
    have kp1 : Keep d s H H1 := fun b o n1 n2 e => by rw [← hH1, upd_ne n1]; exact e
    have g0 : atI [V.ref c, V.ref s, V.int (t + 1)] 0 = some (.ref c) := atI_nat (j := 0) rfl
    have g1 : atI [V.ref c, V.ref s, V.int (t + 1)] 1 = some (.ref s) := atI_nat (j := 1) rfl
    -- the place
    have hpos : (0 : Int) < ((cs.map V.int).length : Nat) := by rw [List.length_map]; omega
    refine ⟨_, rfl, .inl ⟨t, rfl, _, rfl, d, _, 0, .ref c, rfl, rfl, SqL.of hD1, g0, c, _, rfl, .inl (SqL.of hC1), t, _, rfl, rfl, hpos, fun z ez => ?_⟩⟩
    rw [List.length_map] at ez
    obtain ⟨j, rfl⟩ : ∃ j : Nat, z = (j : Int) := ⟨z.toNat, by have := Int.emod_nonneg t (b := (cs.length : Int)) (by omega); omega⟩
    have hj : j < cs.length := by
      have := Int.emod_lt_of_pos t (b := (cs.length : Int)) (by omega)
      omega
    have hj' : j < ss.length := by omega
    -- the cell
    refine ⟨_, rfl, d, _, 0, .ref c, rfl, rfl, SqL.of hD1, g0, _, rfl, c, _, (j : Int), .int cs[j], rfl, rfl, SqL.of hC1, atI_nat (int_at hj), ?_⟩
    -- if there is something left at this place
    refine ⟨_, rfl, d, _, 1, .ref s, rfl, rfl, SqL.of hD1, g1, _, rfl, s, _, (j : Int), .int ss[j], rfl, rfl, SqL.of hS1, atI_nat (int_at hj'), _, _, rfl, rfl, _, rfl, ite2 (fun _ => ?_) (fun _ => ?_)⟩
    · refine ⟨_, rfl, d, _, 1, .ref s, rfl, rfl, SqL.of hD1, g1, _, rfl, s, _, (j : Int), .int ss[j], rfl, rfl, SqL.of hS1, atI_nat (int_at hj'), .inl ⟨_, rfl, _, rfl, _, _, rfl, rfl, m0, fun r er => ?_⟩⟩
      refine ⟨_, rfl, d, _, 1, .ref s, rfl, rfl, SqL.of hD1, g1, _, rfl, s, _, (j : Int), .int ss[j], rfl, rfl, SqL.of hS1, atI_nat (int_at hj'), _, rfl, _, _, rfl, rfl, ⟨m0, by omega⟩, fun x ex => ?_⟩
      refine ⟨_, rfl, d, _, 1, .ref s, rfl, rfl, SqL.of hD1, g1, _, rfl, s, _, (j : Int), j, rfl, rfl, hS1, ixN_at (by rw [List.length_map]; exact hj'), ?_⟩
      refine ⟨_, rfl, k r _ (by rw [er]; exact Int.emod_nonneg _ (by omega)) (by rw [er]; exact Int.emod_lt_of_pos _ m0) ⟨⟨cs, ss.set j x, t + 1, ?_, ?_, ?_, ?_, h0⟩, dc, ds, cds⟩ ?_⟩
      · rw [upd_ne ds]; exact hD1
      · rw [upd_ne cds]; exact hC1
      · rw [upd_same, List.map_set]
      · rw [List.length_set]; exact hl
      · exact kp1.trans fun b o n1 n2 e => by rw [upd_ne n2]; exact e
    · -- first
      refine ⟨_, rfl, .inl ⟨_, rfl, _, _, rfl, rfl, (by decide), fun a1 e1 => ⟨_, _, rfl, rfl, fun a2 e2 => ⟨_, rfl, _, _, rfl, rfl, fun a3 e3 => ⟨_, _, rfl, rfl, .inl ⟨by omega, by omega⟩, fun a4 e4 => .inl ⟨_, rfl, _, _, rfl, rfl, (by decide), fun f1 ef => ?_⟩⟩⟩⟩⟩⟩
      -- salt
      refine ⟨_, rfl, .inl ⟨_, rfl, _, _, rfl, rfl, (by decide), fun b1 g1' => ⟨_, rfl, _, _, rfl, rfl, .inl ⟨by omega, by omega⟩, fun b2 g2 => ⟨_, _, rfl, rfl, fun salt es => ?_⟩⟩⟩⟩
      -- second
      refine ⟨_, rfl, _, rfl, _, _, rfl, rfl, .inl ⟨by omega, by omega⟩, fun c1 i1 => ⟨_, rfl, _, _, rfl, rfl, .inl ⟨by omega, by omega⟩, fun c2 i2 => ⟨_, _, rfl, rfl, fun c3 i3 => ⟨_, rfl, _, _, rfl, rfl, fun c4 i4 => .inl ⟨_, rfl, _, _, rfl, rfl, (by decide), fun sec esec => ?_⟩⟩⟩⟩⟩
      -- mixed
      refine ⟨_, rfl, .inl ⟨_, rfl, _, _, rfl, rfl, (by decide), fun x1 y1 => ⟨_, _, rfl, rfl, .inr ⟨by omega, by omega⟩, fun x2 y2 => ⟨_, rfl, _, _, rfl, rfl, ⟨by decide, by decide⟩, fun x3 y3 => ⟨_, _, rfl, rfl, .inr ⟨by omega, by omega⟩, fun x4 y4 => ⟨_, _, rfl, rfl, fun mix emix => ?_⟩⟩⟩⟩⟩⟩
      -- third
      refine ⟨_, rfl, _, rfl, _, _, rfl, rfl, fun z1 u1 => .inl ⟨_, rfl, _, _, rfl, rfl, (by decide), fun third et => ?_⟩⟩
      -- the answer
      refine ⟨_, rfl, _, _, rfl, rfl, _, rfl, if_yes (decide_eq_true mM) ?_⟩
      refine ⟨_, rfl, .inl ⟨_, rfl, _, rfl, _, _, rfl, rfl, m0, fun r er => ?_⟩⟩
      exact k r _ (by rw [er]; exact Int.emod_nonneg _ (by omega)) (by rw [er]; exact Int.emod_lt_of_pos _ m0) ⟨⟨cs, ss, t + 1, hD1, hC1, hS1, hl, h0⟩, dc, ds, cds⟩ kp1
end
end Wr

/-! Whole order of frames. Part D: the law's other small defs. -/
namespace Wr
open PySem L2
section
variable {P : Program} {w : World} {K : PySem.W.Frag} {mg : Str → Option Value} {base : Heap} {C U L : Addr}

/-! ### _law_end_near -/
def spNear : Sp := fun vs H Q _ => ∃ (d c s : Addr), vs = [.ref d] ∧ DrawAt H d c s ∧ ∀ (e : Option Int) H', DrawAt H' d c s → Keep d s H H' → Q (endV e) H'
theorem six_at {r : Int} (h0 : 0 ≤ r) (h6 : r < 6) : ∃ e : Int, atI [V.int (0 - 12), V.int (0 - 3), V.int (0 - 2), V.int 2, V.int 3, V.int 12] r = some (.int e) := by
  have h : r = 0 ∨ r = 1 ∨ r = 2 ∨ r = 3 ∨ r = 4 ∨ r = 5 := by omega
  rcases h with rfl | rfl | rfl | rfl | rfl | rfl
  · exact ⟨_, atI_nat (j := 0) rfl⟩
  · exact ⟨_, atI_nat (j := 1) rfl⟩
  · exact ⟨_, atI_nat (j := 2) rfl⟩
  · exact ⟨_, atI_nat (j := 3) rfl⟩
  · exact ⟨_, atI_nat (j := 4) rfl⟩
  · exact ⟨_, atI_nat (j := 5) rfl⟩
theorem scNear : FnScope ["_law_draws", "_law_way"] ["_law_draws"] (defScope sNear) := ⟨rfl, rfl, rfl, by decide +kernel, rfl, by decide +kernel, by decide +kernel⟩
theorem ok_near {f fD : Addr} {fd fdD : FuncData} (F : Fun K "_law_end_near" "_law_end_near" sNear f fd) (GD : FnOk P w K mg base CX0 1 fD fdD ["_law_draws", "_law_many"] spDraw) (kD : PySem.W.keepIn K (.ref fD) = true)
    (bD : Binds K fdD ["_law_draws", "_law_many"] []) (gD : mg "_law_draw" = some (.ref fD)) : FnOk P w K mg base CX0 2 f fd ["_law_draws"] spNear := by
  refine F.ok scNear (fun vs H Q E h => ?_) (fun cdv A outer s H vs Q E hr h => ?_)
  · obtain ⟨d, c, s, rfl, _⟩ := h
    rfl
  · obtain ⟨d, c, s, rfl, hD, k⟩ := h
    refine ⟨_, pss_cons (ps_set (i := 1) scNear.nd rfl (Or.inl rfl) (pe_call GD hr (by rfl) gD kD bD .nil pass0 (pa_cons (pv 0) (pa_cons pe_int pa_nil))))
      (pss_cons (ps_if (pt_cmpR op_eq (pv 1) pe_int (nomark _)) (pss_one (ps_ret pe_non)) pss_nil)
      (pss_cons (ps_if (pt_cmpR op_lt (pv 1) pe_int (nomark _)) (pss_one (ps_ret (pe_op op_sub (pe_call GD hr (by rfl) gD kD bD .nil pass0 (pa_cons (pv 0) (pa_cons pe_int pa_nil))) pe_int))) pss_nil)
      (pss_one (ps_ret (pe_ix ix_list (pe_lst (pa_cons (pe_op op_sub pe_int pe_int) (pa_cons (pe_op op_sub pe_int pe_int) (pa_cons (pe_op op_sub pe_int pe_int) (pa_cons pe_int (pa_cons pe_int (pa_cons pe_int pa_nil)))))))
        (pe_call GD hr (by rfl) gD kD bD .nil pass0 (pa_cons (pv 0) (pa_cons pe_int pa_nil))) (fun _ _ => rfl)))))), ?_⟩
    refine ⟨_, rfl, d, c, s, 4, rfl, hD, by decide, by decide, fun r H1 _ _ hD1 k1 => ?_⟩
    refine ⟨_, rfl, rfl, _, rfl, ite2 (fun _ => ?_) (fun _ => ?_)⟩
    · exact k none H1 hD1 k1
    · refine ⟨_, rfl, _, _, rfl, rfl, _, rfl, ite2 (fun _ => ?_) (fun _ => ?_)⟩
      · refine ⟨_, rfl, d, c, s, 3, rfl, hD1, by decide, by decide, fun r2 H2 _ _ hD2 k2 => ?_⟩
        exact ⟨_, _, rfl, rfl, k (some (r2 - 1)) H2 hD2 (k1.trans k2)⟩
      · refine ⟨_, _, rfl, rfl, _, _, rfl, rfl, _, _, rfl, rfl, line_of (by show 6 ≤ 1000; decide), fun p hp => ?_⟩
        have sm := same_new (o := .lst [V.int (0 - 12), V.int (0 - 3), V.int (0 - 2), V.int 2, V.int 3, V.int 12]) hp
        obtain ⟨n1, n2⟩ := hD1.apart hp
        refine ⟨_, rfl, d, c, s, 6, rfl, hD1.same sm, by decide, by decide, fun r2 H2 h0 h6 hD2 k2 => ?_⟩
        obtain ⟨e, he⟩ := six_at h0 h6
        exact ⟨p, _, r2, .int e, rfl, rfl, SqL.of (k2 _ _ n1 n2 upd_same), he, k (some e) H2 hD2 (k1.trans ((Keep.of sm).trans k2))⟩

/-! ### _law_drawn -/
def spDrawn : Sp := fun vs H Q _ => ∃ (d c s : Addr), vs = [.ref d] ∧ DrawAt H d c s ∧ ∀ (q : Four) (p : Addr) H', q.Ok → H p = none → H' p = some (.lst q.vs) → DrawAt H' d c s → Keep d s H H' → Q (.ref p) H'
theorem unit_at {r : Int} (h0 : 0 ≤ r) (h3 : r < 3) : ∃ u ∈ unitT, atI [V.str "rows", V.str "groups", V.str "keys"] r = some (.str u) := by
  have h : r = 0 ∨ r = 1 ∨ r = 2 := by omega
  rcases h with rfl | rfl | rfl
  · exact ⟨"rows", List.mem_cons_self, atI_nat (j := 0) rfl⟩
  · exact ⟨"groups", List.mem_cons_of_mem _ List.mem_cons_self, atI_nat (j := 1) rfl⟩
  · exact ⟨"keys", List.mem_cons_of_mem _ (List.mem_cons_of_mem _ List.mem_cons_self), atI_nat (j := 2) rfl⟩
theorem out_at {r : Int} (h0 : 0 ≤ r) (h4 : r < 4) : ∃ u ∈ outT, atI [V.str "nothing", V.str "current", V.str "group", V.str "ties"] r = some (.str u) := by
  have h : r = 0 ∨ r = 1 ∨ r = 2 ∨ r = 3 := by omega
  rcases h with rfl | rfl | rfl | rfl
  · exact ⟨"nothing", List.mem_cons_self, atI_nat (j := 0) rfl⟩
  · exact ⟨"current", List.mem_cons_of_mem _ List.mem_cons_self, atI_nat (j := 1) rfl⟩
  · exact ⟨"group", List.mem_cons_of_mem _ (List.mem_cons_of_mem _ List.mem_cons_self), atI_nat (j := 2) rfl⟩
  · exact ⟨"ties", List.mem_cons_of_mem _ (List.mem_cons_of_mem _ (List.mem_cons_of_mem _ List.mem_cons_self)), atI_nat (j := 3) rfl⟩
theorem scDrawn : FnScope ["_law_draws", "_law_begin_here", "_law_close", "_law_unit"] ["_law_draws"] (defScope sDrawn) := ⟨rfl, rfl, rfl, by decide +kernel, rfl, by decide +kernel, by decide +kernel⟩
theorem ok_drawn {f fD fN : Addr} {fd fdD fdN : FuncData} (F : Fun K "_law_drawn" "_law_drawn" sDrawn f fd) (GD : FnOk P w K mg base CX0 1 fD fdD ["_law_draws", "_law_many"] spDraw) (kD : PySem.W.keepIn K (.ref fD) = true)
    (bD : Binds K fdD ["_law_draws", "_law_many"] []) (gD : mg "_law_draw" = some (.ref fD)) (GN : FnOk P w K mg base CX0 2 fN fdN ["_law_draws"] spNear) (kN : PySem.W.keepIn K (.ref fN) = true)
    (bN : Binds K fdN ["_law_draws"] []) (gN : mg "_law_end_near" = some (.ref fN)) : FnOk P w K mg base CX0 3 f fd ["_law_draws"] spDrawn := by
  refine F.ok scDrawn (fun vs H Q E h => ?_) (fun cdv A outer s H vs Q E hr h => ?_)
  · obtain ⟨d, c, s, rfl, _⟩ := h
    rfl
  · obtain ⟨d, c, s, rfl, hD, k⟩ := h
    have hr1 : Room 1 _ := hr.mono (by decide)
    refine ⟨_, pss_cons (ps_set (i := 1) scDrawn.nd rfl (Or.inl rfl) (pe_call GN hr (by rfl) gN kN bN .nil pass0 (pa_cons (pv 0) pa_nil)))
      (pss_cons (ps_set (i := 2) scDrawn.nd rfl (Or.inl rfl) (pe_call GN hr (by rfl) gN kN bN .nil pass0 (pa_cons (pv 0) pa_nil)))
      (C8.pss_cut (ps_if (PW.pt (pw_and (pt_cmpR op_notN (pv 1) pe_non (nomark _)) (pw_and (pt_cmpR op_notN (pv 2) pe_non (nomark _)) (pw_and1 (pt_cmpR op_gt (pv 1) (pv 2) (nomark _))))))
          (pss_one (ps_par (i := 1) (j := 2) rfl scDrawn.nd rfl rfl (by decide) rfl rfl (pa_cons (pv 2) (pa_cons (pv 1) pa_nil)) (by rfl))) pss_nil)
      (pss_cons (ps_set (i := 3) scDrawn.nd rfl (Or.inl rfl) (pe_ix ix_list (pe_lst (pa_cons pe_str (pa_cons pe_str (pa_cons pe_str pa_nil)))) (pe_call GD hr1 (by rfl) gD kD bD .nil pass0 (pa_cons (pv 0) (pa_cons pe_int pa_nil))) (fun _ _ => rfl)))
      (pss_one (ps_ret (pe_lst (pa_cons (pv 3) (pa_cons (pv 1) (pa_cons (pv 2) (pa_cons (pe_ix ix_list (pe_lst (pa_cons pe_str (pa_cons pe_str (pa_cons pe_str (pa_cons pe_str pa_nil)))))
        (pe_call GD hr1 (by rfl) gD kD bD .nil pass0 (pa_cons (pv 0) (pa_cons pe_int pa_nil))) (fun _ _ => rfl)) pa_nil)))))))))), ?_⟩
    refine ⟨_, rfl, d, c, s, rfl, hD, fun a H1 hD1 k1 => ?_⟩
    refine ⟨_, rfl, d, c, s, rfl, hD1, fun b H2 hD2 k2 => ?_⟩
    refine ⟨fun σ' H' => H' = H2 ∧ ∃ x y : Option Int, turnedB x y = false ∧ σ' = [some (.ref d), some (endV x), some (endV y), none], ?_, ?_⟩
    · refine ⟨_, rfl, rfl, _, rfl, ?_⟩
      cases a with
      | none => exact if_no (by rw [show endV none = V.non from rfl, decide_eq_true rfl]; rfl) (iteF ⟨rfl, none, b, rfl, rfl⟩)
      | some x =>
        refine if_yes (by rw [decide_eq_false (fun z => by cases z)]; rfl) ?_
        refine ⟨_, rfl, rfl, _, rfl, ?_⟩
        cases b with
        | none => exact if_no (by rw [show endV none = V.non from rfl, decide_eq_true rfl]; rfl) (iteF ⟨rfl, some x, none, rfl, rfl⟩)
        | some y =>
          refine if_yes (by rw [decide_eq_false (fun z => by cases z)]; rfl) ?_
          refine ⟨_, rfl, _, rfl, x, y, rfl, rfl, _, rfl, ite2 (fun h => ?_) (fun h => ?_)⟩
          · have hlt : y < x := of_decide_eq_true h
            refine ⟨_, rfl, _, rfl, _, _, rfl, rfl, some y, some x, decide_eq_false (by omega), rfl⟩
          · have hlt : ¬ y < x := fun z => h (decide_eq_true z)
            exact ⟨rfl, some x, some y, decide_eq_false hlt, rfl⟩
    · rintro σ' H' ⟨rfl, x, y, ht, rfl⟩
      -- the unit
      refine ⟨line_of (by show 3 ≤ 1000; decide), fun p hp => ?_⟩
      have sm := same_new (o := .lst [V.str "rows", V.str "groups", V.str "keys"]) hp
      obtain ⟨n1, n2⟩ := hD2.apart hp
      refine ⟨_, rfl, d, c, s, 3, rfl, hD2.same sm, by decide, by decide, fun r3 H3 h0 h3 hD3 k3 => ?_⟩
      obtain ⟨u, hu, eu⟩ := unit_at h0 h3
      refine ⟨p, _, r3, .str u, rfl, rfl, SqL.of (k3 _ _ n1 n2 upd_same), eu, ?_⟩
      -- the four
      refine ⟨_, rfl, _, rfl, _, rfl, line_of (by show 4 ≤ 1000; decide), fun p2 hp2 => ?_⟩
      have sm2 := same_new (o := .lst [V.str "nothing", V.str "current", V.str "group", V.str "ties"]) hp2
      obtain ⟨n3, n4⟩ := hD3.apart hp2
      refine ⟨_, rfl, d, c, s, 4, rfl, hD3.same sm2, by decide, by decide, fun r4 H4 h0' h4 hD4 k4 => ?_⟩
      obtain ⟨o, ho, eo⟩ := out_at h0' h4
      refine ⟨p2, _, r4, .str o, rfl, rfl, SqL.of (k4 _ _ n3 n4 upd_same), eo, ?_⟩
      refine ⟨line_of (by show 4 ≤ 1000; decide), fun p3 hp3 => ?_⟩
      have kk : Keep d s H H4 := k1.trans (k2.trans ((Keep.of sm).trans (k3.trans ((Keep.of sm2).trans k4))))
      obtain ⟨m1, m2⟩ := hD4.apart hp3
      have hp0 : H p3 = none := by
        cases e : H p3 with
        | none => rfl
        | some o' =>
          have z := kk _ _ m1 m2 e
          rw [hp3] at z
          cases z
      exact k ⟨u, x, y, o⟩ p3 _ ⟨hu, ho, ht⟩ hp0 upd_same (hD4.same (same_new hp3)) (kk.trans (Keep.of (same_new hp3)))

/-! ### _law_rank -/
def spRank (K : PySem.W.Frag) : Sp := fun vs H Q _ => ∃ (p : Addr) (q : Four), vs = [.ref p] ∧ SqL K H p q.vs ∧ q.Ok ∧ ∀ H' t, Same H H' → H' t = some (.lst (q.rank.map V.int)) → Q (.ref t) H'
theorem str_no {ys : List Str} {x : Str} {m : Nat} {z : V} (h : m < ixS ys x) (e : (ys.map V.str)[m]? = some z) : eqV z (.str x) = false := by
  rw [List.getElem?_map] at e
  cases hy : ys[m]? with
  | none => rw [hy] at e; cases e
  | some y =>
    rw [hy] at e
    have ez : V.str y = z := Option.some.inj e
    rw [← ez]
    show (y == x) = false
    exact beq_eq_false_iff_ne.mpr fun q => ixS_no h (by rw [hy, q])
theorem str_get {ys : List Str} {x : Str} (h : x ∈ ys) : (ys.map V.str)[ixS ys x]? = some (.str x) := by
  rw [List.getElem?_map, ixS_get h]
  rfl
theorem at0 (q : Four) : atI q.vs 0 = some (.str q.u) := atI_nat (j := 0) rfl
theorem at1 (q : Four) : atI q.vs 1 = some (endV q.a) := atI_nat (j := 1) rfl
theorem at2 (q : Four) : atI q.vs 2 = some (endV q.b) := atI_nat (j := 2) rfl
theorem at3 (q : Four) : atI q.vs 3 = some (.str q.w) := atI_nat (j := 3) rfl
theorem scRank : FnScope ["_law_four", "_law_words", "_law_rank_here"] ["_law_four"] (defScope sRank) := ⟨rfl, rfl, rfl, by decide +kernel, rfl, by decide +kernel, by decide +kernel⟩
theorem ok_rank {f : Addr} {fd : FuncData} (F : Fun K "_law_rank" "_law_rank" sRank f fd) : FnOk P w K mg base CX0 1 f fd ["_law_four"] (spRank K) := by
  refine F.ok scRank (fun vs H Q E h => ?_) (fun cdv A outer s H vs Q E hr h => ?_)
  · obtain ⟨p, q, rfl, _⟩ := h
    rfl
  · obtain ⟨p, q, rfl, hq, ok, k⟩ := h
    refine ⟨_, pss_cons (ps_set (i := 1) scRank.nd rfl (Or.inl rfl) (pe_lst (pa_cons pe_str (pa_cons pe_str (pa_cons pe_str (pa_cons pe_str pa_nil))))))
      (pss_cons (ps_set (i := 2) scRank.nd rfl (Or.inl rfl) (pe_lst
        (pa_cons (pe_bm PySem.F.plainAttrs_list PySem.F.slot_list_index PySem.F.type_list_index mt_index (pv 1) (pa_cons (pe_ix ix_list (pv 0) pe_int (fun _ _ => rfl)) pa_nil))
        (pa_cons (pe_bm PySem.F.plainAttrs_list PySem.F.slot_list_index PySem.F.type_list_index mt_index (pe_lst (pa_cons pe_str (pa_cons pe_str (pa_cons pe_str pa_nil)))) (pa_cons (pe_ix ix_list (pv 0) pe_int (fun _ _ => rfl)) pa_nil)) pa_nil))))
      (C8.pss_cut (ps_if (pt_cmpR op_isN (pe_ix ix_list (pv 0) pe_int (fun _ _ => rfl)) pe_non (nomark _))
        (pss_one (ps_aug (i := 2) scRank.nd rfl (Or.inl rfl) (pe_lst (pa_cons pe_int (pa_cons pe_int pa_nil))) iop_ext))
        (pss_one (ps_aug (i := 2) scRank.nd rfl (Or.inl rfl) (pe_lst (pa_cons pe_int (pa_cons (pe_ix ix_list (pv 0) pe_int (fun _ _ => rfl)) pa_nil))) iop_ext)))
      (pss_cons (ps_if (pt_cmpR op_isN (pe_ix ix_list (pv 0) pe_int (fun _ _ => rfl)) pe_non (nomark _)) (pss_one (ps_ret (pe_op op_cat (pv 2) (pe_lst (pa_cons pe_int (pa_cons pe_int pa_nil)))))) pss_nil)
      (pss_one (ps_ret (pe_op op_cat (pv 2) (pe_lst (pa_cons pe_int (pa_cons (pe_ix ix_list (pv 0) pe_int (fun _ _ => rfl)) pa_nil))))))))), ?_⟩
    -- the words
    refine ⟨line_of (by show 4 ≤ 1000; decide), fun o no => ?_⟩
    have s1 : Same H (upd H o (.lst (outT.map V.str))) := same_new no
    -- the two first places
    refine ⟨_, rfl, .inl ⟨rfl, _, SqL.of upd_same⟩, _, rfl, p, q.vs, 3, .str q.w, rfl, rfl, s1.seq hq, at3 q, ?_⟩
    refine ⟨o, outT.map V.str, .str q.w, ixS outT q.w, .str q.w, rfl, rfl, SqL.of upd_same, rfl, flat_strs _, str_get ok.w, (by show (q.w == q.w) = true; exact beq_self_eq_true _), fun m z hm e => str_no hm e, ?_⟩
    refine ⟨line_of (by show 3 ≤ 1000; decide), fun o2 no2 => ?_⟩
    have s2 : Same (upd H o (.lst (outT.map V.str))) (upd (upd H o (.lst (outT.map V.str))) o2 (.lst (unitT.map V.str))) := same_new no2
    refine ⟨.inl ⟨rfl, _, SqL.of upd_same⟩, _, rfl, p, q.vs, 0, .str q.u, rfl, rfl, s2.seq (s1.seq hq), at0 q, ?_⟩
    refine ⟨o2, unitT.map V.str, .str q.u, ixS unitT q.u, .str q.u, rfl, rfl, SqL.of upd_same, rfl, flat_strs _, str_get ok.u, (by show (q.u == q.u) = true; exact beq_self_eq_true _), fun m z hm e => str_no hm e, ?_⟩
    refine ⟨line_of (by show 2 ≤ 1000; decide), fun o3 no3 => ?_⟩
    have s3 := same_new (o := .lst [V.int ((ixS outT q.w : Nat) : Int), V.int ((ixS unitT q.u : Nat) : Int)]) no3
    have sA := s1.trans (s2.trans s3)
    have hq3 := sA.seq hq
    have no0 : H o3 = none := (s1.trans s2).free no3
    -- the start
    refine ⟨fun σ' H' => ∃ y, σ' = [some (.ref p), y, some (.ref o3)] ∧ Same H H' ∧ H' o3 = some (.lst ([V.int ((ixS outT q.w : Nat) : Int), V.int ((ixS unitT q.u : Nat) : Int)] ++ (startR q.a).map V.int)), ?_, ?_⟩
    · refine ⟨_, rfl, p, q.vs, 1, endV q.a, rfl, rfl, hq3, at1 q, rfl, _, rfl, ?_⟩
      cases ha : q.a with
      | none =>
        refine if_yes (decide_eq_true rfl) ?_
        refine ⟨_, rfl, line_of (by show 2 ≤ 1000; decide), fun o4 no4 => ?_⟩
        have n34 : o3 ≠ o4 := ne_of_none upd_same no4
        refine ⟨o3, o4, _, _, rfl, rfl, (by rw [upd_ne n34]; exact upd_same), upd_same, line_of (by show 2 + 2 ≤ 1000; decide), _, rfl, fun b x e => ?_, upd_same⟩
        rw [upd_ne (ne_of_none e no0)]
        exact same_new no4 _ _ (sA _ _ e)
      | some i =>
        refine if_no (decide_eq_false (fun z => by cases z)) ?_
        refine ⟨_, rfl, _, rfl, p, q.vs, 1, .int i, rfl, rfl, hq3, (by rw [at1, ha]; rfl), line_of (by show 2 ≤ 1000; decide), fun o4 no4 => ?_⟩
        have n34 : o3 ≠ o4 := ne_of_none upd_same no4
        refine ⟨o3, o4, _, _, rfl, rfl, (by rw [upd_ne n34]; exact upd_same), upd_same, line_of (by show 2 + 2 ≤ 1000; decide), _, rfl, fun b x e => ?_, upd_same⟩
        rw [upd_ne (ne_of_none e no0)]
        exact same_new no4 _ _ (sA _ _ e)
    · rintro σ' H' ⟨y, rfl, sB, hB⟩
      have hqB := sB.seq hq
      refine ⟨_, rfl, p, q.vs, 2, endV q.b, rfl, rfl, hqB, at2 q, rfl, _, rfl, ?_⟩
      cases hb : q.b with
      | none =>
        refine if_yes (decide_eq_true rfl) ?_
        refine ⟨_, rfl, line_of (by show 2 ≤ 1000; decide), fun o5 no5 => ?_⟩
        have s5 := same_new (o := .lst [V.int 1, V.int 0]) no5
        refine ⟨o3, o5, _, _, rfl, rfl, s5 _ _ hB, upd_same, line_of ?_, fun o6 no6 => ?_⟩
        · rw [List.length_append, List.length_map, startR_len]
          show 2 + 2 + 2 ≤ 1000
          decide
        · exact k _ o6 (sB.trans (s5.trans (same_new no6))) (by rw [upd_same, rank_map, hb]; rfl)
      | some i =>
        refine if_no (decide_eq_false (fun z => by cases z)) ?_
        refine ⟨_, rfl, _, rfl, p, q.vs, 2, .int i, rfl, rfl, hqB, (by rw [at2, hb]; rfl), line_of (by show 2 ≤ 1000; decide), fun o5 no5 => ?_⟩
        have s5 := same_new (o := .lst [V.int 0, V.int i]) no5
        refine ⟨o3, o5, _, _, rfl, rfl, s5 _ _ hB, upd_same, line_of ?_, fun o6 no6 => ?_⟩
        · rw [List.length_append, List.length_map, startR_len]
          show 2 + 2 + 2 ≤ 1000
          decide
        · exact k _ o6 (sB.trans (s5.trans (same_new no6))) (by rw [upd_same, rank_map, hb]; rfl)
end
end Wr

/-! Whole order of frames. Part E: _law_begin. -/
namespace Wr
open PySem L2
theorem of_int_at {ms : List Int} {i : Nat} {x : V} (h : (ms.map V.int)[i]? = some x) : ∃ v, ms[i]? = some v ∧ x = .int v := by
  rw [List.getElem?_map] at h
  cases e : ms[i]? with
  | none => rw [e] at h; cases h
  | some v =>
    rw [e] at h
    exact ⟨v, rfl, (Option.some.inj h).symm⟩
theorem take_map {ms : List Int} {i : Nat} {v : Int} (h : ms[i]? = some v) : (ms.take (i + 1)).map V.int = (ms.take i).map V.int ++ [V.int v] := by
  rw [List.take_add_one, h, List.map_append]
  rfl
theorem cut_ints (ns : List Int) (lo hi : Option Int) : ∃ ms : List Int, cutV (ns.map V.int) lo hi = ms.map V.int ∧ ms.length ≤ ns.length := by
  refine ⟨(ns.drop (HT.sIx (ns.map V.int).length 0 lo)).take (HT.sIx (ns.map V.int).length (ns.map V.int).length hi - HT.sIx (ns.map V.int).length 0 lo), ?_, ?_⟩
  · unfold cutV
    rw [List.map_take, List.map_drop]
  · rw [List.length_take, List.length_drop]
    omega
theorem b01 (k : Bool) : -(2 ^ 64) < (if k = true then (1 : Int) else 0) ∧ (if k = true then (1 : Int) else 0) < 2 ^ 64 := by
  cases k <;> decide
section
variable {P : Program} {w : World} {K : PySem.W.Frag} {mg : Str → Option Value} {base : Heap} {C U L : Addr}
abbrev nBegin : List Str := ["_law_script", "_law_cells", "_law_cell"]
def spBegin (K : PySem.W.Frag) : Sp := fun vs H Q _ => ∃ (a : Addr) (ns : List Int), vs = [.ref a] ∧ SqL K H a (ns.map V.int) ∧ ns.length ≤ 63 ∧ ∀ (d c s : Addr) H', DrawAt H' d c s → Q (.ref d) H'
theorem scBegin : FnScope nBegin ["_law_script"] (defScope sBegin) := ⟨rfl, rfl, rfl, by decide +kernel, rfl, by decide +kernel, by decide +kernel⟩
theorem ok_begin {f : Addr} {fd : FuncData} (F : Fun K "_law_begin" "_law_begin" sBegin f fd) (T : Txt K mg C U L) : FnOk P w K mg base CX0 1 f fd ["_law_script"] (spBegin K) := by
  refine F.ok scBegin (fun vs H Q E h => ?_) (fun cdv A outer s H vs Q E hr h => ?_)
  · obtain ⟨a, ns, rfl, _⟩ := h
    rfl
  · obtain ⟨a, ns, rfl, hS, hlen, k⟩ := h
    refine ⟨_, pss_cons (ps_setLc (i := 1) (own := [("_law_cell", 2)]) (g := gName 2) (tt := tYes) rfl scBegin.nd rfl rfl (sw_true rfl rfl rfl (by decide +kernel))
        (pi_list (pe_slice sl_list (pv 0) po_none (po_some pe_int))) (blkOk_by (N := nBegin) (sc := defScope sBegin) (by decide +kernel))
        (fun _ _ _ _ _ => pg_name (i := 2) scBegin.nd rfl (Or.inl rfl)) (fun _ _ _ _ _ => pts_nil) (fun _ _ _ _ _ => pe_callTy call_int1 (by rfl) T.int PyProof.Rows.boot_int (pa_cons (pv 2) pa_nil)))
      (C8.pss_cut (ps_if (pt_cmpR op_eq (pe_callB call_len_seq (by rfl) T.len PySem.boot_len (pa_cons (pv 1) pa_nil)) pe_int (nomark _)) (pss_one (ps_set (i := 1) scBegin.nd rfl (Or.inl rfl) (pe_lst (pa_cons pe_int pa_nil)))) pss_nil)
      (pss_one (ps_ret (pe_lst (pa_cons (pv 1) (pa_cons (pe_lc (own := [("_law_cell", 2)]) (g := gName 2) (tt := tYes) rfl scBegin.nd (pi_list (pv 1)) (blkOk_by (N := nBegin) (sc := defScope sBegin) (by decide +kernel))
          (fun _ _ _ _ _ => pg_name (i := 2) scBegin.nd rfl (Or.inl rfl)) (fun _ _ _ _ _ => pts_nil)
          (fun _ _ _ _ _ => pe_op (letter op_mul) (pe_callB call_abs (by rfl) T.abs PyProof.Rows.boot_abs (pa_cons (pv 2) pa_nil))
            (pe_callTy call_int1 (by rfl) T.int PyProof.Rows.boot_int (pa_cons (pe_cmpR op_ge (pe_callB call_abs (by rfl) T.abs PyProof.Rows.boot_abs (pa_cons (pv 2) pa_nil)) (pe_op op_pow pe_int pe_int) (nomark _)) pa_nil))))
        (pa_cons pe_int pa_nil))))))), ?_⟩
    -- the cells
    refine ⟨_, rfl, 63, rfl, a, ns.map V.int, rfl, hS, fun p hp => ⟨p, rfl, ⟨_, SqL.of upd_same⟩, fun D hD => ?_⟩⟩
    obtain ⟨ms, ems, hms⟩ := cut_ints ns none (some 63)
    generalize hH1 : upd H p (.lst (cutV (ns.map V.int) none (some 63))) = H1 at hD ⊢
    have hp1 : H1 p = some (.lst (ms.map V.int)) := by rw [← hH1, ems]; exact upd_same
    have npD : p ≠ D := ne_of_none hp1 hD
    refine lc_list (K := K) (a := p) (xs := ms.map V.int) (fun i H' => H' p = some (.lst (ms.map V.int)) ∧ H' D = some (.lst ((ms.take i).map V.int))) ⟨by rw [upd_ne npD]; exact hp1, upd_same⟩
      (fun i H' _ h => SqL.of h.1) (fun i x H' hx h => ?_) (fun H2 h => ?_)
    · obtain ⟨v, hv, rfl⟩ := of_int_at hx
      refine ⟨rfl, ?_⟩
      refine ⟨_, rfl, .inl ⟨v, rfl, _, h.2, ?_, by rw [upd_ne npD]; exact h.1, ?_⟩⟩
      · rw [List.length_map, List.length_take]
        exact Nat.lt_of_le_of_lt (Nat.min_le_right _ _) (small1000 (by omega))
      · rw [upd_same, take_map hv]
    · -- not empty
      rw [List.length_map, List.take_length] at h
      refine ⟨fun σ' H' => ∃ (c : Addr) (cs : List Int), σ' = [some (.ref a), some (.ref c), none] ∧ H' c = some (.lst (cs.map V.int)) ∧ 0 < cs.length ∧ cs.length ≤ 1000, ?_, ?_⟩
      · refine ⟨_, rfl, D, _, rfl, .inl (SqL.of h.2), rfl, _, rfl, ite2 (fun _ => ?_) (fun hne => ?_)⟩
        · exact ⟨line_of (by show 1 ≤ 1000; decide), fun c2 hc2 => ⟨c2, [0], rfl, upd_same, by decide, by decide⟩⟩
        · refine ⟨D, ms, rfl, h.2, ?_, by omega⟩
          rcases Nat.eq_zero_or_pos ms.length with z | z
          · refine absurd (decide_eq_true ?_) hne
            rw [List.length_map, z]
            rfl
          · exact z
      · rintro σ' H3 ⟨c, cs, rfl, hc, h0, hle⟩
        -- what is left
        refine ⟨_, rfl, _, rfl, c, rfl, ⟨_, SqL.of hc⟩, fun D2 hD2 => ?_⟩
        have ncD : c ≠ D2 := ne_of_none hc hD2
        refine lc_list (K := K) (a := c) (xs := cs.map V.int) (fun i H' => H' c = some (.lst (cs.map V.int)) ∧ ∃ ss : List Int, ss.length = i ∧ H' D2 = some (.lst (ss.map V.int))) ⟨by rw [upd_ne ncD]; exact hc, [], rfl, upd_same⟩
          (fun i H' _ h => SqL.of h.1) (fun i x H' hx h => ?_) (fun H4 h => ?_)
        · obtain ⟨v, hv, rfl⟩ := of_int_at hx
          obtain ⟨h1, ss, hss, h2⟩ := h
          have hi : i < cs.length := (List.getElem?_eq_some_iff.mp hv).1
          refine ⟨rfl, ?_⟩
          refine ⟨_, rfl, v, rfl, _, rfl, v, rfl, 10, 18, rfl, rfl, ⟨by decide, by decide, by decide⟩, _, _, rfl, rfl, .inr ⟨_, rfl, _, _, rfl, rfl, .inr (b01 _), fun z _ => ?_⟩⟩
          refine ⟨_, h2, ?_, by rw [upd_ne ncD]; exact h1, ss ++ [z], by rw [List.length_append, hss]; rfl, ?_⟩
          · rw [List.length_map]
            exact small1000 (by omega)
          · rw [upd_same, List.map_append]
            rfl
        · rw [List.length_map] at h
          obtain ⟨h1, ss, hss, h2⟩ := h
          refine ⟨line_of (by show 3 ≤ 1000; decide), fun d hd => ?_⟩
          have ncd : c ≠ d := ne_of_none h1 hd
          have nsd : D2 ≠ d := ne_of_none h2 hd
          exact k d c D2 _ ⟨⟨cs, ss, 0, upd_same, by rw [upd_ne ncd]; exact h1, by rw [upd_ne nsd]; exact h2, hss.symm, h0⟩, ncd.symm, nsd.symm, ncD⟩
end
end Wr

/-! Whole order of frames. Part F: the plain law, and the law's own def. -/
namespace Wr
open PySem L2

/-! ### the plain law: equal as lists of data is equal -/
def endD : Option Int → PyData
  | none => .none
  | some i => .int i
def Four.dat (q : Four) : PyData := .list [.str q.u, endD q.a, endD q.b, .str q.w]
theorem dp_end (K : PySem.W.Frag) (H : Hp) (e : Option Int) : Dp K H (endV e) (endD e) := by
  cases e with
  | none => exact .non
  | some i => exact .int i
theorem dp_four {K : PySem.W.Frag} {H : Hp} {p : Addr} {q : Four} (h : H p = some (.lst q.vs)) : Dp K H (.ref p) q.dat :=
  .lst (SqL.of h) (.cons (.str _) (.cons (dp_end K H _) (.cons (dp_end K H _) (.cons (.str _) .nil))))
theorem lay_unit {x : Str} (h : x ∈ unitT) : PyData.canLay0 (.str x) = true := by
  have all : ∀ y ∈ unitT, PyData.canLay0 (.str y) = true := by decide +kernel
  exact all x h
theorem lay_out {x : Str} (h : x ∈ outT) : PyData.canLay0 (.str x) = true := by
  have all : ∀ y ∈ outT, PyData.canLay0 (.str y) = true := by decide +kernel
  exact all x h
theorem lay_end (e : Option Int) : PyData.canLay0 (endD e) = true ∧ PyData.depth (endD e) = 0 := by
  cases e <;> exact ⟨by simp [endD, PyData.canLay0], by simp [endD, PyData.depth]⟩
theorem shaped_four {q : Four} (ok : q.Ok) : SeqAt.shaped q.dat = true := by
  have h1 := lay_unit ok.u
  have h2 := lay_out ok.w
  obtain ⟨h3, h4⟩ := lay_end q.a
  obtain ⟨h5, h6⟩ := lay_end q.b
  have d1 : PyData.depth (.str q.u) = 0 := by simp [PyData.depth]
  have d2 : PyData.depth (.str q.w) = 0 := by simp [PyData.depth]
  unfold SeqAt.shaped Four.dat
  rw [PyData.canLay0, PyData.canLayAll0, PyData.canLayAll0, PyData.canLayAll0, PyData.canLayAll0, PyData.canLayAll0, h1, h2, h3, h5, PyData.depth, PyData.depthAll, PyData.depthAll, PyData.depthAll, PyData.depthAll, PyData.depthAll, d1, d2, h4, h6]
  rfl
theorem eqv_end (x y : Option Int) : PyData.eqv (endD x) (endD y) = decide (x = y) := by
  cases x with
  | none =>
    cases y with
    | none => rfl
    | some j => rfl
  | some i =>
    cases y with
    | none => rfl
    | some j =>
      show (i == j) = decide (some i = some j)
      rw [eqInt]
      exact decide_eq_decide.mpr ⟨fun e => by rw [e], fun e => Option.some.inj e⟩
theorem eqv_four (q r : Four) : PyData.eqv q.dat r.dat = decide (q = r) := by
  obtain ⟨u, a, b, o⟩ := q
  obtain ⟨u2, a2, b2, o2⟩ := r
  show ((u == u2) && (PyData.eqv (endD a) (endD a2) && (PyData.eqv (endD b) (endD b2) && ((o == o2) && true)))) = decide (Four.mk u a b o = Four.mk u2 a2 b2 o2)
  rw [eqv_end, eqv_end, Bool.and_true]
  by_cases h1 : u = u2
  · by_cases h2 : a = a2
    · by_cases h3 : b = b2
      · by_cases h4 : o = o2
        · rw [h1, h2, h3, h4, decide_eq_true rfl, decide_eq_true rfl, decide_eq_true rfl, beq_self_eq_true, beq_self_eq_true]
          rfl
        · rw [beq_eq_false_iff_ne.mpr h4, Bool.and_false, Bool.and_false, Bool.and_false]
          exact (decide_eq_false fun e => h4 (congrArg Four.w e)).symm
      · rw [decide_eq_false h3, Bool.false_and, Bool.and_false, Bool.and_false]
        exact (decide_eq_false fun e => h3 (congrArg Four.b e)).symm
    · rw [decide_eq_false h2, Bool.false_and, Bool.and_false]
      exact (decide_eq_false fun e => h2 (congrArg Four.a e)).symm
  · rw [beq_eq_false_iff_ne.mpr h1, Bool.false_and]
    exact (decide_eq_false fun e => h1 (congrArg Four.u e)).symm

/-! ### the fours as they stand -/
structure FoursAt (H : Hp) (d c s F : Addr) (ps : List Addr) (qs : List Four) : Prop where
  l : ps.length = qs.length
  hF : H F = some (.lst (ps.map V.ref))
  nd : F ≠ d
  nc : F ≠ c
  ns : F ≠ s
  it : ∀ (j : Nat) (p : Addr) (q : Four), ps[j]? = some p → qs[j]? = some q → q.Ok ∧ H p = some (.lst q.vs) ∧ p ≠ d ∧ p ≠ s ∧ p ≠ F
theorem FoursAt.keep {H H' : Hp} {d c s F : Addr} {ps : List Addr} {qs : List Four} (h : FoursAt H d c s F ps qs) (k : Keep d s H H') : FoursAt H' d c s F ps qs :=
  ⟨h.l, k _ _ h.nd h.ns h.hF, h.nd, h.nc, h.ns, fun j p q e1 e2 => by
    obtain ⟨ok, hp, n1, n2, n3⟩ := h.it j p q e1 e2
    exact ⟨ok, k _ _ n1 n2 hp, n1, n2, n3⟩⟩
theorem at_end {α : Type} {xs : List α} {y z : α} {j : Nat} (h : (xs ++ [y])[j]? = some z) : (j < xs.length ∧ xs[j]? = some z) ∨ (j = xs.length ∧ z = y) := by
  have hj : j < (xs ++ [y]).length := (List.getElem?_eq_some_iff.mp h).1
  rw [List.length_append, List.length_singleton] at hj
  by_cases e : j < xs.length
  · rw [List.getElem?_append_left e] at h
    exact .inl ⟨e, h⟩
  · have ej : j = xs.length := by omega
    rw [List.getElem?_append_right (by omega), ej, Nat.sub_self] at h
    exact .inr ⟨ej, (Option.some.inj h).symm⟩
theorem FoursAt.push {H : Hp} {d c s F p : Addr} {ps : List Addr} {qs : List Four} {q : Four} (h : FoursAt H d c s F ps qs) (ok : q.Ok) (hp : H p = some (.lst q.vs)) (n1 : p ≠ d) (n2 : p ≠ s) (n3 : p ≠ F) :
    FoursAt (upd H F (.lst (ps.map V.ref ++ [V.ref p]))) d c s F (ps ++ [p]) (qs ++ [q]) := by
  refine ⟨by rw [List.length_append, List.length_append, h.l]; rfl, by rw [upd_same, List.map_append]; rfl, h.nd, h.nc, h.ns, fun j p' q' e1 e2 => ?_⟩
  rcases at_end e1 with ⟨j1, e1⟩ | ⟨j1, e1⟩
  · rcases at_end e2 with ⟨j2, e2⟩ | ⟨j2, e2⟩
    · obtain ⟨ok', hp', m1, m2, m3⟩ := h.it j p' q' e1 e2
      exact ⟨ok', by rw [upd_ne m3]; exact hp', m1, m2, m3⟩
    · have := h.l
      omega
  · rcases at_end e2 with ⟨j2, e2⟩ | ⟨j2, e2⟩
    · have := h.l
      omega
    · rw [e1, e2]
      exact ⟨ok, by rw [upd_ne n3]; exact hp, n1, n2, n3⟩
theorem DrawAt.put {H : Hp} {d c s F : Addr} {o : HO} (h : DrawAt H d c s) (nd : F ≠ d) (nc : F ≠ c) (ns : F ≠ s) : DrawAt (upd H F o) d c s := by
  obtain ⟨⟨cs, ss, t, h1, h2, h3, h4, h5⟩, n1, n2, n3⟩ := h
  exact ⟨⟨cs, ss, t, by rw [upd_ne nd.symm]; exact h1, by rw [upd_ne nc.symm]; exact h2, by rw [upd_ne ns.symm]; exact h3, h4, h5⟩, n1, n2, n3⟩
theorem DrawAt.cell {H : Hp} {d c s p : Addr} (h : DrawAt H d c s) (n : H p = none) : p ≠ c := by
  obtain ⟨⟨cs, ss, t, h1, h2, h3, _⟩, _⟩ := h
  exact (ne_of_none h2 n).symm
theorem ref_at {ps : List Addr} {j : Nat} {p : Addr} (h : ps[j]? = some p) : (ps.map V.ref)[j]? = some (.ref p) := by
  rw [List.getElem?_map, h]
  rfl
theorem of_ref_at {ps : List Addr} {j : Nat} {x : V} (h : (ps.map V.ref)[j]? = some x) : ∃ p, ps[j]? = some p ∧ x = .ref p := by
  rw [List.getElem?_map] at h
  cases e : ps[j]? with
  | none => rw [e] at h; cases h
  | some v =>
    rw [e] at h
    exact ⟨v, rfl, (Option.some.inj h).symm⟩
theorem some_at {α : Type} {xs : List α} {j : Nat} (h : j < xs.length) : ∃ x, xs[j]? = some x := ⟨_, List.getElem?_eq_getElem h⟩
/-- the frames and the fours, side by side, as they stand behind the comprehension -/
structure Both (C : Addr) (H : Hp) (F D : Addr) (ps fs : List Addr) (qs : List Four) : Prop where
  lp : ps.length = qs.length
  lf : fs.length = qs.length
  few : qs.length ≤ 100
  hF : H F = some (.lst (ps.map V.ref))
  hD : H D = some (.lst (fs.map V.ref))
  it : ∀ j : Nat, j < qs.length → ∃ p f q, ps[j]? = some p ∧ fs[j]? = some f ∧ qs[j]? = some q ∧ q.Ok ∧ H p = some (.lst q.vs) ∧ FrameAt C H f q
theorem Both.same {C : Addr} {H H' : Hp} {F D : Addr} {ps fs : List Addr} {qs : List Four} (h : Both C H F D ps fs qs) (s : Same H H') : Both C H' F D ps fs qs :=
  ⟨h.lp, h.lf, h.few, s _ _ h.hF, s _ _ h.hD, fun j hj => by
    obtain ⟨p, f, q, e1, e2, e3, ok, hp, hf⟩ := h.it j hj
    exact ⟨p, f, q, e1, e2, e3, ok, s _ _ hp, hf.same s⟩⟩
theorem at_ref {ps : List Addr} {j : Nat} {p : Addr} (h : ps[j]? = some p) : atI (ps.map V.ref) (0 + (j : Int)) = some (.ref p) := at_of (by omega) (ref_at h)
section
variable {P : Program} {w : World} {K : PySem.W.Frag} {mg : Str → Option Value} {base : Heap} {C U L : Addr}
theorem Txt.first (T : Txt K mg C U L) {n : String} (h : PySem.W.subIn K (.type n) (.ref C) = some false) : PySem.W.notFirst K C (.type n) = true := by
  simp [PySem.W.notFirst, h]
theorem Txt.firstC (T : Txt K mg C U L) : PySem.W.notFirst K C (.ref C) = true := by
  simp [PySem.W.notFirst]
theorem Txt.kitN (T : Txt K mg C U L) {n : String} (h : PySem.W.subIn K (.type n) (.ref C) = some false) : PySem.W.kitOne K (.type n) (.ref C) = some false := by
  have e1 : (PySem.W.clsIn K C).isSome = true := T.ic
  have e2 : ¬ (Value.type n == Value.ref C) = true := by
    intro z
    cases eq_of_beq z
  unfold PySem.W.kitOne
  rw [if_neg e2]
  show (if ((PySem.W.clsIn K C).isSome && PySem.W.typeIn K (.ref C) == some (.type "type")) = true then PySem.W.subIn K (.type n) (.ref C) else none) = some false
  rw [e1, T.ty, if_pos (by simp)]
  exact h

/-! ### the law -/
abbrev nLaw : List Str := ["_law_script", "_law_draws", "_law_fours", "_law_k", "_law_frames", "_law_j", "_law_earlier", "_law_equal", "_law_four"]
def spLaw (K : PySem.W.Frag) : Sp := fun vs H Q _ => ∃ (a : Addr) (ns : List Int), vs = [.ref a] ∧ SqL K H a (ns.map V.int) ∧ ns.length ≤ 63 ∧ ∀ H', Q (.bl true) H'
theorem scLaw : FnScope nLaw ["_law_script"] (defScope sLaw) := ⟨rfl, rfl, rfl, by decide +kernel, rfl, by decide +kernel, by decide +kernel⟩
/-- a def that is called by its name -/
structure Called (P : Program) (w : World) (K : PySem.W.Frag) (mg : Str → Option Value) (base : Heap) (k : Nat) (x : Str) (f : Addr) (fd : FuncData) (ps : List Str) (sp : Sp) : Prop where
  ok : FnOk P w K mg base CX0 k f fd ps sp
  kp : PySem.W.keepIn K (.ref f) = true
  b : Binds K fd ps []
  g : mg x = some (.ref f)
theorem ok_law {f fB fD fN fR fI fM fE : Addr} {fd fdB fdD fdN fdR fdI fdM fdE : FuncData} (F : Fun K "law" "law" sLaw f fd) (T : Txt K mg C U L)
    (cB : Called P w K mg base 1 "_law_begin" fB fdB ["_law_script"] (spBegin K)) (cD : Called P w K mg base 1 "_law_draw" fD fdD ["_law_draws", "_law_many"] spDraw)
    (cN : Called P w K mg base 3 "_law_drawn" fN fdN ["_law_draws"] spDrawn) (cR : Called P w K mg base 1 "_law_rank" fR fdR ["_law_four"] (spRank K))
    (M : Mk K C fI) (GI : FnOk P w K mg base CX0 2 fI fdI ["self", "unit", "start", "end", "without"] (spInit C))
    (bI : KBn K fdI ["self", "unit", "start", "end", "without"] 4 ["without"] (fun us ws => us ++ ws) (fun vs zs => vs ++ zs))
    (mM : Meth K C "before" fM) (GM : FnOk P w K mg base CX0 3 fM fdM ["self", "other"] (spBefore C)) (bM : Binds K fdM ["self", "other"] [])
    (eE : PySem.W.findIn K (.ref C) "__eq__" = some (some (.ref fE))) (iE : PySem.W.isFn K (.ref fE) = true) (GE : FnOk P w K mg base CX0 1 fE fdE ["self", "other"] (spEq K C)) (bE : Binds K fdE ["self", "other"] []) :
    FnOk P w K mg base CX0 4 f fd ["_law_script"] (spLaw K) := by
  refine F.ok scLaw (fun vs H Q E h => ?_) (fun cdv A outer s H vs Q E hr h => ?_)
  · obtain ⟨a, ns, rfl, _⟩ := h
    rfl
  · obtain ⟨a, ns, rfl, hS, hlen, k⟩ := h
    have hr1 : Room 1 _ := hr.mono (by decide)
    refine ⟨_, pss_cons (ps_set (i := 1) scLaw.nd rfl (Or.inl rfl) (pe_call cB.ok hr1 (by rfl) cB.g cB.kp cB.b .nil pass0 (pa_cons (pv 0) pa_nil)))
      (pss_cons (ps_set (i := 2) scLaw.nd rfl (Or.inl rfl) (pe_lst pa_nil))
      (pss_cons (ps_for PassesOwn.never rfl (pi_range1 (by rfl) T.rng (pa_cons (pe_op op_add pe_int (pe_call cD.ok hr1 (by rfl) cD.g cD.kp cD.b .nil pass0 (pa_cons (pv 1) (pa_cons pe_int pa_nil)))) pa_nil))
          (pg_name (i := 3) scLaw.nd rfl (Or.inl rfl))
          (pss_one (ps_if (PW.pt (pw_and (pt_cmpR op_gt (pe_callB call_len_seq (by rfl) T.len PySem.boot_len (pa_cons (pv 2) pa_nil)) pe_int (nomark _))
              (pw_and1 (pt_cmpR op_eq (pe_call cD.ok hr1 (by rfl) cD.g cD.kp cD.b .nil pass0 (pa_cons (pv 1) (pa_cons pe_int pa_nil))) pe_int (nomark _)))))
            (pss_one (ps_expr (pe_bm PySem.F.plainAttrs_list PySem.F.slot_list_append PySem.F.type_list_append mt_append (pv 2) (pa_cons (pe_callTy call_list_of (by rfl) T.lst PyProof.Rows.boot_list
              (pa_cons (pe_ix ix_list (pv 2) (pe_call cD.ok hr1 (by rfl) cD.g cD.kp cD.b .nil pass0 (pa_cons (pv 1) (pa_cons (pe_callB call_len_seq (by rfl) T.len PySem.boot_len (pa_cons (pv 2) pa_nil)) pa_nil))) (fun _ _ => rfl)) pa_nil)) pa_nil))))
            (pss_one (ps_expr (pe_bm PySem.F.plainAttrs_list PySem.F.slot_list_append PySem.F.type_list_append mt_append (pv 2) (pa_cons (pe_call cN.ok hr (by rfl) cN.g cN.kp cN.b .nil pass0 (pa_cons (pv 1) pa_nil)) pa_nil)))))))
      (pss_cons (ps_setLc (i := 4) (own := [("_law_four", 8)]) (g := gName 8) (tt := tYes) rfl scLaw.nd rfl rfl (sw_true rfl rfl rfl (by decide +kernel))
          (pi_list (pv 2)) (blkOk_by (N := nLaw) (sc := defScope sLaw) (by decide +kernel)) (fun _ _ _ _ _ => pg_name (i := 8) scLaw.nd rfl (Or.inl rfl)) (fun _ _ _ _ _ => pts_nil)
          (fun _ _ _ _ _ => pe_makeK (n := 3) M GI hr (by rfl) T.mgC bI pass0
            (pa_cons (pe_ix (r := rIxL K) ix_list (pv 8) pe_int (fun _ _ => rfl)) (pa_cons (pe_ix (r := rIxL K) ix_list (pv 8) pe_int (fun _ _ => rfl)) (pa_cons (pe_ix (r := rIxL K) ix_list (pv 8) pe_int (fun _ _ => rfl)) pa_nil)))
            (pk_cons (pe_ix (r := rIxL K) ix_list (pv 8) pe_int (fun _ _ => rfl)) pk_nil)))
      (pss_cons (ps_for PassesOwn.never rfl (pi_range1 (by rfl) T.rng (pa_cons (pe_callB call_len_seq (by rfl) T.len PySem.boot_len (pa_cons (pv 2) pa_nil)) pa_nil)) (pg_name (i := 5) scLaw.nd rfl (Or.inl rfl))
          (pss_cons (ps_for PassesOwn.never rfl (pi_range1 (by rfl) T.rng (pa_cons (pe_callB call_len_seq (by rfl) T.len PySem.boot_len (pa_cons (pv 2) pa_nil)) pa_nil)) (pg_name (i := 3) scLaw.nd rfl (Or.inl rfl))
              (pss_cons (ps_set (i := 6) scLaw.nd rfl (Or.inl rfl) (pe_meth (pe_ix ix_list (pv 4) (pv 5) (fun _ _ => rfl)) T.cl mM GM hr bM .nil pass0 (pa_cons (pe_ix ix_list (pv 4) (pv 3) (fun _ _ => rfl)) pa_nil)))
              (pss_cons (ps_set (i := 7) scLaw.nd rfl (Or.inl rfl) (pe_cmpR (op_ownE eE iE GE bE hr1 pass0) (pe_ix ix_list (pv 4) (pv 5) (fun _ _ => rfl)) (pe_ix ix_list (pv 4) (pv 3) (fun _ _ => rfl)) (nomark _)))
              (pss_cons (ps_if (PW.pt (pw_or (pt_not (pt_val (pe_callB call_isi (by rfl) T.isi PyProof.Rows.boot_isinstance (pa_cons (pv 6) (pa_cons (pe_bltn (v := .ty "bool") (by rfl) T.bool PyProof.Rows.boot_bool rfl) pa_nil)))))
                  (pw_or1 (pt_not (pt_val (pe_callB call_isi (by rfl) T.isi PyProof.Rows.boot_isinstance (pa_cons (pv 7) (pa_cons (pe_bltn (v := .ty "bool") (by rfl) T.bool PyProof.Rows.boot_bool rfl) pa_nil))))))))
                (pss_one (ps_ret pe_bl)) pss_nil)
              (pss_one (ps_if (PW.pt (pw_or (pt_cmpR op_ne (pv 6) (pe_cmpR (op_ltLst hr.units0)
                    (pe_call cR.ok hr1 (by rfl) cR.g cR.kp cR.b .nil pass0 (pa_cons (pe_ix ix_list (pv 2) (pv 5) (fun _ _ => rfl)) pa_nil))
                    (pe_call cR.ok hr1 (by rfl) cR.g cR.kp cR.b .nil pass0 (pa_cons (pe_ix ix_list (pv 2) (pv 3) (fun _ _ => rfl)) pa_nil)) (nomark _)) (nomark _))
                  (pw_or1 (pt_cmpR op_ne (pv 7) (pe_cmpR (op_eqD hr.units) (pe_ix ix_list (pv 2) (pv 5) (fun _ _ => rfl)) (pe_ix ix_list (pv 2) (pv 3) (fun _ _ => rfl)) (nomark _)) (nomark _)))))
                (pss_one (ps_ret pe_bl)) pss_nil))))))
          (pss_one (ps_if (PW.pt (pw_or (pt_cmpR (op_ownE eE iE GE bE hr1 pass0) (pe_ix ix_list (pv 4) (pv 5) (fun _ _ => rfl)) (pe_ix ix_list (pv 2) (pv 5) (fun _ _ => rfl)) (nomark _))
              (pw_or (pt_cmpR (op_ownE eE iE GE bE hr1 pass0) (pe_ix ix_list (pv 4) (pv 5) (fun _ _ => rfl)) (pe_ix ix_list (pe_ix ix_list (pv 2) (pv 5) (fun _ _ => rfl)) pe_int (fun _ _ => rfl)) (nomark _))
              (pw_or1 (pt_cmpR (op_ownE eE iE GE bE hr1 pass0) (pe_ix ix_list (pv 4) (pv 5) (fun _ _ => rfl)) pe_int (nomark _))))))
            (pss_one (ps_ret pe_bl)) pss_nil))))
      (pss_one (ps_ret pe_bl)))))), ?_⟩
    -- the draws
    refine ⟨_, rfl, a, ns, rfl, hS, hlen, fun d c s H1 hD1 => ?_⟩
    refine ⟨Nat.zero_le _, fun F hF => ?_⟩
    obtain ⟨nFd, nFs⟩ := hD1.apart hF
    have nFc := hD1.cell hF
    refine ⟨_, rfl, d, c, s, 7, rfl, hD1.same (same_new hF), by decide, by decide, fun r H2 r0 r7 hD2 k2 => ?_⟩
    refine ⟨2, r, rfl, rfl, 2 + r, rfl, by omega, by omega, ?_⟩
    have hF2 : H2 F = some (.lst []) := k2 _ _ nFd nFs upd_same
    -- the fours
    refine for_range (lo := 0) (n := (2 + r).toNat) (fun i σ H' => ∃ (ps : List Addr) (qs : List Four) (v : Option V), σ = [some (.ref a), some (.ref d), some (.ref F), v, none, none, none, none, none] ∧ DrawAt H' d c s ∧ FoursAt H' d c s F ps qs ∧ ps.length = i)
      ⟨[], [], none, rfl, hD2, ⟨rfl, hF2, nFd, nFc, nFs, fun j p q e _ => by cases e⟩, rfl⟩ (fun i σ H' hi hP => ?_) (fun σ H' hP => ?_)
    · obtain ⟨ps, qs, v, rfl, hD, hq, rfl⟩ := hP
      have hsz : ps.length ≤ 1000 := by omega
      refine ⟨_, rfl, F, _, rfl, .inl (SqL.of hq.hF), _, _, rfl, rfl, _, rfl, ite2 (fun hpos => ?_) (fun _ => ?_)⟩
      · refine ⟨_, rfl, d, c, s, 4, rfl, hD, by decide, by decide, fun r2 H3 _ _ hD3 k3 => ⟨rfl, _, rfl, ite2 (fun _ => ?_) (fun _ => ?_)⟩⟩
        · -- one of the elder ones, once more
          have hq3 := hq.keep k3
          have hpos' : (0 : Int) < ((ps.map V.ref).length : Nat) := of_decide_eq_true hpos
          refine ⟨_, rfl, .inl ⟨rfl, _, SqL.of hq3.hF⟩, _, rfl, _, rfl, _, rfl, F, _, rfl, .inl (SqL.of hq3.hF), d, c, s, _, rfl, hD3, hpos', by rw [List.length_map]; omega, fun r4 H4 h0 hm hD4 k4 => ?_⟩
          have hq4 := hq3.keep k4
          obtain ⟨j, rfl⟩ : ∃ j : Nat, r4 = (j : Int) := ⟨r4.toNat, by omega⟩
          rw [List.length_map] at hm
          have hj : j < ps.length := by omega
          obtain ⟨p, ep⟩ := some_at hj
          obtain ⟨q, eq⟩ := some_at (xs := qs) (j := j) (by rw [← hq.l]; exact hj)
          obtain ⟨ok, hp, _, _, _⟩ := hq4.it j p q ep eq
          refine ⟨F, _, _, .ref p, rfl, rfl, SqL.of hq4.hF, atI_nat (ref_at ep), p, q.vs, rfl, .inl (SqL.of hp), fun l hl => ?_⟩
          have hD5 := hD4.same (same_new (o := .lst q.vs) hl)
          have hq5 := hq4.keep (Keep.of (same_new (o := .lst q.vs) hl))
          obtain ⟨m1, m2⟩ := hD4.apart hl
          have m3 : l ≠ F := (ne_of_none hq4.hF hl).symm
          refine ⟨F, _, _, rfl, rfl, hq5.hF, by rw [List.length_map]; exact small1000 hsz, ?_⟩
          exact ⟨ps ++ [l], qs ++ [q], _, rfl, hD5.put hq5.nd hq5.nc hq5.ns, hq5.push ok upd_same m1 m2 m3, by rw [List.length_append]; rfl⟩
        · -- a new one
          have hq3 := hq.keep k3
          refine ⟨_, rfl, .inl ⟨rfl, _, SqL.of hq3.hF⟩, _, rfl, d, c, s, rfl, hD3, fun q p H4 ok hp0 hp hD4 k4 => ?_⟩
          have hq4 := hq3.keep k4
          obtain ⟨m1, m2⟩ := hD3.apart hp0
          have m3 : p ≠ F := (ne_of_none hq3.hF hp0).symm
          refine ⟨F, _, _, rfl, rfl, hq4.hF, by rw [List.length_map]; exact small1000 hsz, ?_⟩
          exact ⟨ps ++ [p], qs ++ [q], _, rfl, hD4.put hq4.nd hq4.nc hq4.ns, hq4.push ok hp m1 m2 m3, by rw [List.length_append]; rfl⟩
      · refine iteF ?_
        refine ⟨_, rfl, .inl ⟨rfl, _, SqL.of hq.hF⟩, _, rfl, d, c, s, rfl, hD, fun q p H4 ok hp0 hp hD4 k4 => ?_⟩
        have hq4 := hq.keep k4
        obtain ⟨m1, m2⟩ := hD.apart hp0
        have m3 : p ≠ F := (ne_of_none hq.hF hp0).symm
        refine ⟨F, _, _, rfl, rfl, hq4.hF, by rw [List.length_map]; exact small1000 hsz, ?_⟩
        exact ⟨ps ++ [p], qs ++ [q], _, rfl, hD4.put hq4.nd hq4.nc hq4.ns, hq4.push ok hp m1 m2 m3, by rw [List.length_append]; rfl⟩
    · -- the frames
      obtain ⟨ps, qs, v, rfl, hD, hq, hn⟩ := hP
      refine ⟨_, rfl, F, rfl, ⟨_, SqL.of hq.hF⟩, fun D nD => ?_⟩
      refine lc_list (K := K) (a := F) (xs := ps.map V.ref) (fun i H3 => Same H' H3 ∧ ∃ fs : List Addr, fs.length = i ∧ H3 D = some (.lst (fs.map V.ref)) ∧ ∀ (j : Nat) (f : Addr) (q : Four), fs[j]? = some f → qs[j]? = some q → FrameAt C H3 f q ∧ f ≠ D)
        ⟨same_new nD, [], rfl, upd_same, fun j f q e _ => by cases e⟩ (fun i H3 _ h => SqL.of (h.1 _ _ hq.hF)) (fun i x H3 hx h => ?_) (fun H3 h => ?_)
      · obtain ⟨p, ep, rfl⟩ := of_ref_at hx
        obtain ⟨sm, fs, rfl, hDl, hfs⟩ := h
        have hi : fs.length < ps.length := (List.getElem?_eq_some_iff.mp ep).1
        obtain ⟨q, eq⟩ := some_at (xs := qs) (j := fs.length) (by rw [← hq.l]; exact hi)
        obtain ⟨ok, hp0, _, _, _⟩ := hq.it _ p q ep eq
        have hp := sm _ _ hp0
        refine ⟨rfl, ?_⟩
        refine ⟨_, rfl, p, q.vs, 0, .str q.u, rfl, rfl, SqL.of hp, at0 q, ?_⟩
        refine ⟨_, rfl, p, q.vs, 1, endV q.a, rfl, rfl, SqL.of hp, at1 q, ?_⟩
        refine ⟨_, rfl, p, q.vs, 2, endV q.b, rfl, rfl, SqL.of hp, at2 q, ?_⟩
        refine ⟨_, rfl, p, q.vs, 3, .str q.w, rfl, rfl, SqL.of hp, at3 q, rfl, rfl, fun x dx nx ndx nex => ?_⟩
        refine ⟨x, dx, q, rfl, ok, upd_same, rfl, ?_⟩
        have nDx : D ≠ x := ne_of_none hDl nx
        have nDd : D ≠ dx := ne_of_none hDl ndx
        rw [upd_upd]
        generalize hH5 : upd (upd H3 dx (.own x)) x (.ins C dx (frF q)) = H5
        have s5 : Same H3 H5 := fun b o e => by
          rw [← hH5, upd_ne (ne_of_none e nx), upd_ne (ne_of_none e ndx)]
          exact e
        have h5 : H5 x = some (.ins C dx (frF q)) := by
          rw [← hH5]
          exact upd_same
        refine ⟨_, s5 _ _ hDl, by rw [List.length_map]; exact small1000 (by omega), fun b o e => ?_, fs ++ [x], by rw [List.length_append]; rfl, by rw [upd_same, List.map_append]; rfl, fun j f' q' e1 e2 => ?_⟩
        · rw [upd_ne (ne_of_none e nD)]
          exact s5 _ _ (sm _ _ e)
        · rcases at_end e1 with ⟨j1, e1⟩ | ⟨j1, e1⟩
          · obtain ⟨⟨dz, hz⟩, nz⟩ := hfs j f' q' e1 e2
            exact ⟨⟨dz, by rw [upd_ne nz]; exact s5 _ _ hz⟩, nz⟩
          · rw [j1, eq] at e2
            obtain rfl : q = q' := Option.some.inj e2
            rw [e1]
            exact ⟨⟨dx, by rw [upd_ne nDx.symm]; exact h5⟩, nDx.symm⟩
      · -- every pair
        obtain ⟨sm, fs, hfl, hDl, hfs⟩ := h
        rw [List.length_map] at hfl
        have B : Both C H3 F D ps fs qs := ⟨hq.l, hfl.trans hq.l, by rw [← hq.l]; omega, sm _ _ hq.hF, hDl, fun j hj => by
          obtain ⟨p, ep⟩ := some_at (xs := ps) (j := j) (by rw [hq.l]; exact hj)
          obtain ⟨f, ef⟩ := some_at (xs := fs) (j := j) (by rw [hfl, hq.l]; exact hj)
          obtain ⟨q, eq⟩ := some_at hj
          obtain ⟨ok, hp, _⟩ := hq.it j p q ep eq
          exact ⟨p, f, q, ep, ef, eq, ok, sm _ _ hp, (hfs j f q ef eq).1⟩⟩
        have few : (ps.map V.ref).length ≤ 100 := by rw [List.length_map, hq.l]; exact B.few
        refine ⟨_, rfl, F, _, rfl, .inl (SqL.of B.hF), _, rfl, by omega, by omega, ?_⟩
        refine for_range (lo := 0) (fun _ σ H4 => ∃ v3 v5 v6 v7 : Option V, σ = [some (.ref a), some (.ref d), some (.ref F), v3, some (.ref D), v5, v6, v7, none] ∧ Same H3 H4)
          ⟨_, _, _, _, rfl, Same.refl _⟩ (fun j σ H4 hj hP => ?_) (fun σ H4 hP => ?_)
        · obtain ⟨v3, v5, v6, v7, rfl, s4⟩ := hP
          have B4 := B.same s4
          have hj' : j < qs.length := by
            have e := hq.l
            rw [List.length_map] at hj
            omega
          obtain ⟨p, f, q, ep, ef, eq, ok, hp, hf⟩ := B4.it j hj'
          refine ⟨_, rfl, F, _, rfl, .inl (SqL.of B4.hF), _, rfl, by omega, by omega, ?_⟩
          refine for_range (lo := 0) (fun _ σ H5 => ∃ v3 v6 v7 : Option V, σ = [some (.ref a), some (.ref d), some (.ref F), v3, some (.ref D), some (.int (0 + (j : Int))), v6, v7, none] ∧ Same H4 H5)
            ⟨_, _, _, rfl, Same.refl _⟩ (fun m σ H5 hm hP => ?_) (fun σ H5 hP => ?_)
          · obtain ⟨v3', v6', v7', rfl, s5⟩ := hP
            have B5 := B4.same s5
            have hm' : m < qs.length := by
              have e := hq.l
              rw [List.length_map] at hm
              omega
            obtain ⟨p2, f2, q2, ep2, ef2, eq2, ok2, hp2, hf2⟩ := B5.it m hm'
            have hfA := hf.same s5
            have hpA := s5 _ _ hp
            obtain ⟨df, hfo⟩ := id hfA
            -- earlier
            refine ⟨_, rfl, _, rfl, D, _, _, .ref f, rfl, rfl, SqL.of B5.hD, at_ref ef, f, df, _, rfl, hfo, frF_before q, ?_⟩
            refine ⟨_, rfl, _, rfl, D, _, _, .ref f2, rfl, rfl, SqL.of B5.hD, at_ref ef2, f, q, f2, q2, rfl, hfA, ok, hf2, ok2, fun H6 s6 => ?_⟩
            have B6 := B5.same s6
            have hf6 := hfA.same s6
            have hg6 := hf2.same s6
            obtain ⟨dg, hgo⟩ := id hg6
            -- equal
            refine ⟨_, rfl, _, rfl, D, _, _, .ref f, rfl, rfl, SqL.of B6.hD, at_ref ef, ?_⟩
            refine ⟨_, rfl, _, rfl, D, _, _, .ref f2, rfl, rfl, SqL.of B6.hD, at_ref ef2, ?_⟩
            refine ⟨f, df, _, .ref C, rfl, s6 _ _ hfo, .base (.ins hgo T.cl T.ca T.cn T.ct T.cm), T.firstC, f, q, .ref f2, rfl, hf6, .inl ⟨f2, q2, rfl, hg6, ⟨_, rfl⟩, ?_⟩⟩
            -- both are bools
            refine ⟨_, rfl, _, .ty "bool", .type "bool", .type "bool", true, rfl, .ty "bool", .base (.bl _), kit_ty (by decide +kernel), _, rfl, if_no rfl ?_⟩
            refine ⟨_, rfl, _, .ty "bool", .type "bool", .type "bool", true, rfl, .ty "bool", .base (.bl _), kit_ty (by decide +kernel), _, rfl, if_no rfl ?_⟩
            -- the order
            refine ⟨_, rfl, _, rfl, _, rfl, F, _, _, .ref p, rfl, rfl, SqL.of B6.hF, at_ref ep, p, q, rfl, SqL.of (s6 _ _ hpA), ok, fun H7 t7 s7 e7 => ?_⟩
            refine ⟨_, rfl, _, rfl, F, _, _, .ref p2, rfl, rfl, SqL.of (s7 _ _ B6.hF), at_ref ep2, p2, q2, rfl, SqL.of (s7 _ _ (s6 _ _ hp2)), ok2, fun H8 t8 s8 e8 => ?_⟩
            refine ⟨t7, t8, _, _, rfl, rfl, SqL.of (s8 _ _ e7), SqL.of e8, rfl, _, rfl, if_no (by rw [decide_eq_true rfl]; rfl) ?_⟩
            -- the equality
            have s68 := s6.trans (s7.trans s8)
            refine ⟨_, rfl, _, rfl, _, rfl, F, _, _, .ref p, rfl, rfl, SqL.of (s68 _ _ B5.hF), at_ref ep, _, rfl, _, rfl, F, _, _, .ref p2, rfl, rfl, SqL.of (s68 _ _ B5.hF), at_ref ep2, ?_⟩
            refine ⟨q.dat, q2.dat, dp_four (s68 _ _ hpA), dp_four (s68 _ _ hp2), shaped_four ok, shaped_four ok2, rfl, _, rfl, if_no (by rw [eqv_four, decide_eq_true rfl]; rfl) ?_⟩
            exact ⟨_, _, _, rfl, s5.trans s68⟩
          · -- equal to nothing else
            obtain ⟨v3', v6', v7', rfl, s5⟩ := hP
            have B5 := B4.same s5
            have hfA := hf.same s5
            have hpA := s5 _ _ hp
            obtain ⟨df, hfo⟩ := id hfA
            refine ⟨_, rfl, _, rfl, D, _, _, .ref f, rfl, rfl, SqL.of B5.hD, at_ref ef, _, rfl, _, rfl, F, _, _, .ref p, rfl, rfl, SqL.of B5.hF, at_ref ep, ?_⟩
            refine ⟨f, df, _, .type "list", rfl, hfo, .base (.lst hpA), T.first T.sL, f, q, _, rfl, hfA, .inr ⟨_, .base (.lst hpA), T.kitN T.sL, ⟨_, rfl⟩, _, rfl, if_no rfl ?_⟩⟩
            refine ⟨_, rfl, _, rfl, D, _, _, .ref f, rfl, rfl, SqL.of B5.hD, at_ref ef, _, rfl, _, rfl, F, _, _, .ref p, rfl, rfl, SqL.of B5.hF, at_ref ep, p, q.vs, 0, .str q.u, rfl, rfl, SqL.of hpA, at0 q, ?_⟩
            refine ⟨f, df, _, .type "str", rfl, hfo, .base (.str _), T.first T.sS, f, q, _, rfl, hfA, .inr ⟨_, .base (.str _), T.kitN T.sS, ⟨_, rfl⟩, _, rfl, if_no rfl ?_⟩⟩
            refine ⟨_, rfl, _, rfl, D, _, _, .ref f, rfl, rfl, SqL.of B5.hD, at_ref ef, ?_⟩
            refine ⟨f, df, _, .type "int", rfl, hfo, .base (.int _), T.first T.sI, f, q, _, rfl, hfA, .inr ⟨_, .base (.int _), T.kitN T.sI, ⟨_, rfl⟩, _, rfl, if_no rfl ?_⟩⟩
            exact ⟨_, _, _, _, rfl, s4.trans s5⟩
        · obtain ⟨v3, v5, v6, v7, rfl, s4⟩ := hP
          exact k H4
end
end Wr

/-! Whole order of frames. Part G: what the top has written, and the end. -/
namespace Wr
open PySem L2
theorem kb_init {K : PySem.W.Frag} {kV dc pm cd ct : Value} {an : Option Addr} :
    KBn K (PySem.W.fnOf "__init__" "Frame.__init__" (defArgs sInit) (defBody sInit) (defScope sInit) .none kV dc pm an cd ct) ["self", "unit", "start", "end", "without"] 4 ["without"] (fun us ws => us ++ ws) (fun vs zs => vs ++ zs) :=
  ⟨fun s us ws _ h1 h2 => match us, ws, h1, h2 with | [_, _, _, _], [_], _, _ => .of_eq rfl, fun r1 r2 => r1.append r2⟩
theorem all_mk {l : PySem.W.OpenLaw} {w : World} {K : PySem.W.Frag} {h : Heap} {mg : Str → Option Value} {fa C U L : Addr} (X : K.In h) (G : h.Ns mainGlobals mg) (hfa : mg "law" = some (.ref fa))
    {t1 t2 t3 u1 u2 u3 u4 : Tok} {nU nL : Nat}
    {f1 f2 f3 f4 f5 f6 f7 f8 f9 f10 f11 f12 f13 : Addr} {od1 an1 od2 an2 od3 an3 od4 an4 od5 an5 od6 an6 od7 an7 od8 an8 od9 an9 od10 an10 od11 an11 od12 an12 od13 an13 : Option Addr} {sl1 sl2 sl3 sl4 sl5 sl6 sl7 sl8 sl9 sl10 sl11 sl12 sl13 : Array (Option Value)}
    {oc1 kV1 dc1 pm1 cd1 ct1 oc2 kV2 dc2 pm2 cd2 ct2 oc3 kV3 dc3 pm3 cd3 ct3 oc4 kV4 dc4 pm4 cd4 ct4 oc5 kV5 dc5 pm5 cd5 ct5 oc6 kV6 dc6 pm6 cd6 ct6 oc7 kV7 dc7 pm7 cd7 ct7 oc8 kV8 dc8 pm8 cd8 ct8 oc9 kV9 dc9 pm9 cd9 ct9 oc10 kV10 dc10 pm10 cd10 ct10 oc11 kV11 dc11 pm11 cd11 ct11 oc12 kV12 dc12 pm12 cd12 ct12 oc13 kV13 dc13 pm13 cd13 ct13 : Value}
    (aC : PySem.W.nsIn K mainGlobals "Frame" = some (some (.ref C)))
    (aU : PySem.W.nsIn K mainGlobals "UNITS" = some (some (.ref U)))
    (aL : PySem.W.nsIn K mainGlobals "LEFT_OUT" = some (some (.ref L)))
    (lU : K.lookup U = some { cls := .type "tuple", data := .seq #[.str "rows" t1, .str "groups" t2, .str "keys" t3] nU })
    (lL : K.lookup L = some { cls := .type "tuple", data := .seq #[.str "nothing" u1, .str "current" u2, .str "group" u3, .str "ties" u4] nL })
    (a1 : PySem.W.nsIn K mainGlobals "start_rank" = some (some (.ref f1)))
    (l1 : K.lookup f1 = some ⟨oc1, od1, .func (PySem.W.fnOf "start_rank" "start_rank" (defArgs sStart) (defBody sStart) (defScope sStart) .none kV1 dc1 pm1 an1 cd1 ct1), sl1⟩)
    (c1 : PySem.W.codeIn K cd1 "start_rank" = true)
    (k1 : PySem.W.keepIn K (.ref f1) = true)
    (a2 : PySem.W.nsIn K mainGlobals "end_rank" = some (some (.ref f2)))
    (l2 : K.lookup f2 = some ⟨oc2, od2, .func (PySem.W.fnOf "end_rank" "end_rank" (defArgs sEnd) (defBody sEnd) (defScope sEnd) .none kV2 dc2 pm2 an2 cd2 ct2), sl2⟩)
    (c2 : PySem.W.codeIn K cd2 "end_rank" = true)
    (k2 : PySem.W.keepIn K (.ref f2) = true)
    (a3 : PySem.W.nsIn K mainGlobals "frame_rank" = some (some (.ref f3)))
    (l3 : K.lookup f3 = some ⟨oc3, od3, .func (PySem.W.fnOf "frame_rank" "frame_rank" (defArgs sRankF) (defBody sRankF) (defScope sRankF) .none kV3 dc3 pm3 an3 cd3 ct3), sl3⟩)
    (c3 : PySem.W.codeIn K cd3 "frame_rank" = true)
    (k3 : PySem.W.keepIn K (.ref f3) = true)
    (a4 : PySem.W.nsIn K mainGlobals "turned_ends" = some (some (.ref f4)))
    (l4 : K.lookup f4 = some ⟨oc4, od4, .func (PySem.W.fnOf "turned_ends" "turned_ends" (defArgs sTurned) (defBody sTurned) (defScope sTurned) .none kV4 dc4 pm4 an4 cd4 ct4), sl4⟩)
    (c4 : PySem.W.codeIn K cd4 "turned_ends" = true)
    (k4 : PySem.W.keepIn K (.ref f4) = true)
    (a5 : PySem.W.findIn K (.ref C) "__init__" = some (some (.ref f5)))
    (l5 : K.lookup f5 = some ⟨oc5, od5, .func (PySem.W.fnOf "__init__" "Frame.__init__" (defArgs sInit) (defBody sInit) (defScope sInit) .none kV5 dc5 pm5 an5 cd5 ct5), sl5⟩)
    (c5 : PySem.W.codeIn K cd5 "Frame.__init__" = true)
    (k5 : PySem.W.keepIn K (.ref f5) = true)
    (i5 : PySem.W.isFn K (.ref f5) = true)
    (a6 : PySem.W.findIn K (.ref C) "before" = some (some (.ref f6)))
    (l6 : K.lookup f6 = some ⟨oc6, od6, .func (PySem.W.fnOf "before" "Frame.before" (defArgs sBefore) (defBody sBefore) (defScope sBefore) .none kV6 dc6 pm6 an6 cd6 ct6), sl6⟩)
    (c6 : PySem.W.codeIn K cd6 "Frame.before" = true)
    (k6 : PySem.W.keepIn K (.ref f6) = true)
    (i6 : PySem.W.isFn K (.ref f6) = true)
    (a7 : PySem.W.findIn K (.ref C) "__eq__" = some (some (.ref f7)))
    (l7 : K.lookup f7 = some ⟨oc7, od7, .func (PySem.W.fnOf "__eq__" "Frame.__eq__" (defArgs sEq) (defBody sEq) (defScope sEq) .none kV7 dc7 pm7 an7 cd7 ct7), sl7⟩)
    (c7 : PySem.W.codeIn K cd7 "Frame.__eq__" = true)
    (k7 : PySem.W.keepIn K (.ref f7) = true)
    (i7 : PySem.W.isFn K (.ref f7) = true)
    (a8 : PySem.W.nsIn K mainGlobals "_law_begin" = some (some (.ref f8)))
    (l8 : K.lookup f8 = some ⟨oc8, od8, .func (PySem.W.fnOf "_law_begin" "_law_begin" (defArgs sBegin) (defBody sBegin) (defScope sBegin) .none kV8 dc8 pm8 an8 cd8 ct8), sl8⟩)
    (c8 : PySem.W.codeIn K cd8 "_law_begin" = true)
    (k8 : PySem.W.keepIn K (.ref f8) = true)
    (a9 : PySem.W.nsIn K mainGlobals "_law_draw" = some (some (.ref f9)))
    (l9 : K.lookup f9 = some ⟨oc9, od9, .func (PySem.W.fnOf "_law_draw" "_law_draw" (defArgs sDraw) (defBody sDraw) (defScope sDraw) .none kV9 dc9 pm9 an9 cd9 ct9), sl9⟩)
    (c9 : PySem.W.codeIn K cd9 "_law_draw" = true)
    (k9 : PySem.W.keepIn K (.ref f9) = true)
    (a10 : PySem.W.nsIn K mainGlobals "_law_end_near" = some (some (.ref f10)))
    (l10 : K.lookup f10 = some ⟨oc10, od10, .func (PySem.W.fnOf "_law_end_near" "_law_end_near" (defArgs sNear) (defBody sNear) (defScope sNear) .none kV10 dc10 pm10 an10 cd10 ct10), sl10⟩)
    (c10 : PySem.W.codeIn K cd10 "_law_end_near" = true)
    (k10 : PySem.W.keepIn K (.ref f10) = true)
    (a11 : PySem.W.nsIn K mainGlobals "_law_drawn" = some (some (.ref f11)))
    (l11 : K.lookup f11 = some ⟨oc11, od11, .func (PySem.W.fnOf "_law_drawn" "_law_drawn" (defArgs sDrawn) (defBody sDrawn) (defScope sDrawn) .none kV11 dc11 pm11 an11 cd11 ct11), sl11⟩)
    (c11 : PySem.W.codeIn K cd11 "_law_drawn" = true)
    (k11 : PySem.W.keepIn K (.ref f11) = true)
    (a12 : PySem.W.nsIn K mainGlobals "_law_rank" = some (some (.ref f12)))
    (l12 : K.lookup f12 = some ⟨oc12, od12, .func (PySem.W.fnOf "_law_rank" "_law_rank" (defArgs sRank) (defBody sRank) (defScope sRank) .none kV12 dc12 pm12 an12 cd12 ct12), sl12⟩)
    (c12 : PySem.W.codeIn K cd12 "_law_rank" = true)
    (k12 : PySem.W.keepIn K (.ref f12) = true)
    (a13 : PySem.W.nsIn K mainGlobals "law" = some (some (.ref f13)))
    (l13 : K.lookup f13 = some ⟨oc13, od13, .func (PySem.W.fnOf "law" "law" (defArgs sLaw) (defBody sLaw) (defScope sLaw) .none kV13 dc13 pm13 an13 cd13 ct13), sl13⟩)
    (c13 : PySem.W.codeIn K cd13 "law" = true)
    (k13 : PySem.W.keepIn K (.ref f13) = true)
    (pg : PySem.W.plainGet K C Str.empty = true)
    (hd : PySem.W.hasDictIn K C = true)
    (po : PySem.W.plainOver K C = true)
    (sa : PySem.W.findIn K (.ref C) "__setattr__" = some (some (.builtin "object.__setattr__")))
    (mk : PySem.W.makesIn K C = true)
    (kc : PySem.W.keepIn K (.ref C) = true)
    (n1 : PySem.W.findIn K (.ref C) "unit" = some none)
    (n2 : PySem.W.findIn K (.ref C) "start" = some none)
    (n3 : PySem.W.findIn K (.ref C) "end" = some none)
    (n4 : PySem.W.findIn K (.ref C) "without" = some none)
    (ca : PySem.W.findIn K (.ref C) "__class__" = some (some (.builtin "object.__class__")))
    (cn : PySem.W.specialIn K (.builtin "object.__class__") "__get__" = some (some (.builtin "getset_descriptor.__get__")))
    (ct : PySem.W.takesIn K (.builtin "object.__class__") = some true)
    (cm : PySem.W.mroIn K C (.type "object") = some true)
    (ic : PySem.W.isClsIn K C = true)
    (ty : PySem.W.typeIn K (.ref C) = some (.type "type"))
    (s1 : PySem.W.subIn K (.type "list") (.ref C) = some false)
    (s2 : PySem.W.subIn K (.type "str") (.ref C) = some false)
    (s3 : PySem.W.subIn K (.type "int") (.ref C) = some false)
    (z1 : PySem.W.nsIn K mainGlobals "len" = some none)
    (z2 : PySem.W.nsIn K mainGlobals "int" = some none)
    (z3 : PySem.W.nsIn K mainGlobals "abs" = some none)
    (z4 : PySem.W.nsIn K mainGlobals "range" = some none)
    (z5 : PySem.W.nsIn K mainGlobals "list" = some none)
    (z6 : PySem.W.nsIn K mainGlobals "bool" = some none)
    (z7 : PySem.W.nsIn K mainGlobals "isinstance" = some none)
    : ∃ fd : FuncData, (∀ (s : Shared) (v : Value), BindsTo s fd ⟨[v], []⟩ [("_law_script", v)]) ∧ ∀ base : Heap, K.In base → base.Ns mainGlobals mg → FnOk l.prog w K mg base CX0 4 fa fd ["_law_script"] (spLaw K) := by
  have e := hfa.symm.trans (PySem.W.mg_of X G a13)
  cases e
  have T : Txt K mg C U L := ⟨⟨pg, hd, po, sa⟩, n1, n2, n3, n4, PySem.W.mg_of X G aC, PySem.W.mg_of X G aU, PySem.W.mg_of X G aL,
    ⟨_, _, lU, line_of (by show 3 ≤ 1000; decide), .cons ⟨_, rfl⟩ (.cons ⟨_, rfl⟩ (.cons ⟨_, rfl⟩ .nil))⟩, ⟨_, _, lL, line_of (by show 4 ≤ 1000; decide), .cons ⟨_, rfl⟩ (.cons ⟨_, rfl⟩ (.cons ⟨_, rfl⟩ (.cons ⟨_, rfl⟩ .nil)))⟩,
    ca, cn, ct, cm, ic, ty, s1, s2, s3, PySem.W.mg_none_of X G z1, PySem.W.mg_none_of X G z2, PySem.W.mg_none_of X G z3, PySem.W.mg_none_of X G z4, PySem.W.mg_none_of X G z5, PySem.W.mg_none_of X G z6, PySem.W.mg_none_of X G z7⟩
  have F1 := fun_mk (st := sStart) l1 c1 k1
  have F2 := fun_mk (st := sEnd) l2 c2 k2
  have F3 := fun_mk (st := sRankF) l3 c3 k3
  have F4 := fun_mk (st := sTurned) l4 c4 k4
  have F5 := fun_mk (st := sInit) l5 c5 k5
  have F6 := fun_mk (st := sBefore) l6 c6 k6
  have F7 := fun_mk (st := sEq) l7 c7 k7
  have F8 := fun_mk (st := sBegin) l8 c8 k8
  have F9 := fun_mk (st := sDraw) l9 c9 k9
  have F10 := fun_mk (st := sNear) l10 c10 k10
  have F11 := fun_mk (st := sDrawn) l11 c11 k11
  have F12 := fun_mk (st := sRank) l12 c12 k12
  have F13 := fun_mk (st := sLaw) l13 c13 k13
  have b1 := F1.binds (ps := ["start"]) fun _ _ _ _ _ _ us hl => match us, hl with | [_], _ => rfl
  have b2 := F2.binds (ps := ["end"]) fun _ _ _ _ _ _ us hl => match us, hl with | [_], _ => rfl
  have b3 := F3.binds (ps := ["frame"]) fun _ _ _ _ _ _ us hl => match us, hl with | [_], _ => rfl
  have b4 := F4.binds (ps := ["start", "end"]) fun _ _ _ _ _ _ us hl => match us, hl with | [_, _], _ => rfl
  have b6 := F6.binds (ps := ["self", "other"]) fun _ _ _ _ _ _ us hl => match us, hl with | [_, _], _ => rfl
  have b7 := F7.binds (ps := ["self", "other"]) fun _ _ _ _ _ _ us hl => match us, hl with | [_, _], _ => rfl
  have b8 := F8.binds (ps := ["_law_script"]) fun _ _ _ _ _ _ us hl => match us, hl with | [_], _ => rfl
  have b9 := F9.binds (ps := ["_law_draws", "_law_many"]) fun _ _ _ _ _ _ us hl => match us, hl with | [_, _], _ => rfl
  have b10 := F10.binds (ps := ["_law_draws"]) fun _ _ _ _ _ _ us hl => match us, hl with | [_], _ => rfl
  have b11 := F11.binds (ps := ["_law_draws"]) fun _ _ _ _ _ _ us hl => match us, hl with | [_], _ => rfl
  have b12 := F12.binds (ps := ["_law_four"]) fun _ _ _ _ _ _ us hl => match us, hl with | [_], _ => rfl
  have g1 := PySem.W.mg_of X G a1
  have g2 := PySem.W.mg_of X G a2
  have g3 := PySem.W.mg_of X G a3
  have g4 := PySem.W.mg_of X G a4
  have g8 := PySem.W.mg_of X G a8
  have g9 := PySem.W.mg_of X G a9
  have g10 := PySem.W.mg_of X G a10
  have g11 := PySem.W.mg_of X G a11
  have g12 := PySem.W.mg_of X G a12
  refine ⟨_, fun s v => .of_eq (show bindArgs (PySem.W.fnOf "law" "law" (defArgs sLaw) (defBody sLaw) (defScope sLaw) .none kV13 dc13 pm13 an13 cd13 ct13) ⟨[v], []⟩ = _ from rfl), fun base _ _ => ?_⟩
  have D : Called l.prog w K mg base 1 "_law_draw" f9 _ ["_law_draws", "_law_many"] spDraw := ⟨ok_draw F9 T, k9, b9, g9⟩
  have N := ok_near (P := l.prog) (w := w) (mg := mg) (base := base) F10 D.ok D.kp D.b D.g
  have R := ok_rankF (P := l.prog) (w := w) (mg := mg) (base := base) F3 T F1 b1 g1 F2 b2 g2
  exact ok_law F13 T ⟨ok_begin F8 T, k8, b8, g8⟩ D ⟨ok_drawn F11 D.ok D.kp D.b D.g N k10 b10 g10, k11, b11, g11⟩ ⟨ok_rank F12, k12, b12, g12⟩
    ⟨mk, a5, i5, kc⟩ (ok_init F5 T F4 b4 g4) kb_init ⟨a6, i6, k6⟩ (ok_before F6 R k3 b3 g3) b6 a7 i7 (ok_eq F7 T) b7
end Wr
open PySem PySem.W PyProof.Rows
set_option maxRecDepth 100000 in
set_option maxHeartbeats 0 in
theorem PySem.Challenge.cw_windowrows_k37_whole_order_of_frames_holds : PySem.Challenge.rw_windowrows_k37_whole_order_of_frames.Holds := by
  w_on; o_law; k_head; (case hw => w_witness2)
  k_fill
  refine L2.walk_of (l := PySem.Challenge.rw_windowrows_k37_whole_order_of_frames) (n := 63) (k := 4) (x := "_law_script") (CX := fun _ => L2.CX0) (sp := fun w => Wr.spLaw _) rfl (by decide) rfl ⟨rfl, by decide, by decide⟩ (fun w h Y => PySem.W.kIn_of Y) ?F
    (fun _ _ a ns hl _ hS => ⟨a, ns, rfl, hS, hl, fun _ => rfl⟩) (fun _ _ _ _ _ h => h)
  case F =>
    intro w mg fa h KX G hmg
    refine' Wr.all_mk KX G hmg ?aC ?aU ?aL ?lU ?lL ?a1 ?l1 ?c1 ?k1 ?a2 ?l2 ?c2 ?k2 ?a3 ?l3 ?c3 ?k3 ?a4 ?l4 ?c4 ?k4 ?a5 ?l5 ?c5 ?k5 ?i5 ?a6 ?l6 ?c6 ?k6 ?i6 ?a7 ?l7 ?c7 ?k7 ?i7 ?a8 ?l8 ?c8 ?k8 ?a9 ?l9 ?c9 ?k9 ?a10 ?l10 ?c10 ?k10 ?a11 ?l11 ?c11 ?k11 ?a12 ?l12 ?c12 ?k12 ?a13 ?l13 ?c13 ?k13 ?pg ?hd ?po ?sa ?mk ?kc ?n1 ?n2 ?n3 ?n4 ?ca ?cn ?ct ?cm ?ic ?ty ?s1 ?s2 ?s3 ?z1 ?z2 ?z3 ?z4 ?z5 ?z6 ?z7
    (case aC => k_is)
    (case aU => k_is)
    (case aL => k_is)
    (case lU => k_is)
    (case lL => k_is)
    (case a1 => k_is)
    (case l1 => k_is)
    (case c1 => k_is)
    (case k1 => k_is)
    (case a2 => k_is)
    (case l2 => k_is)
    (case c2 => k_is)
    (case k2 => k_is)
    (case a3 => k_is)
    (case l3 => k_is)
    (case c3 => k_is)
    (case k3 => k_is)
    (case a4 => k_is)
    (case l4 => k_is)
    (case c4 => k_is)
    (case k4 => k_is)
    (case a5 => k_is)
    (case l5 => k_is)
    (case c5 => k_is)
    (case k5 => k_is)
    (case i5 => k_is)
    (case a6 => k_is)
    (case l6 => k_is)
    (case c6 => k_is)
    (case k6 => k_is)
    (case i6 => k_is)
    (case a7 => k_is)
    (case l7 => k_is)
    (case c7 => k_is)
    (case k7 => k_is)
    (case i7 => k_is)
    (case a8 => k_is)
    (case l8 => k_is)
    (case c8 => k_is)
    (case k8 => k_is)
    (case a9 => k_is)
    (case l9 => k_is)
    (case c9 => k_is)
    (case k9 => k_is)
    (case a10 => k_is)
    (case l10 => k_is)
    (case c10 => k_is)
    (case k10 => k_is)
    (case a11 => k_is)
    (case l11 => k_is)
    (case c11 => k_is)
    (case k11 => k_is)
    (case a12 => k_is)
    (case l12 => k_is)
    (case c12 => k_is)
    (case k12 => k_is)
    (case a13 => k_is)
    (case l13 => k_is)
    (case c13 => k_is)
    (case k13 => k_is)
    (case pg => k_is)
    (case hd => k_is)
    (case po => k_is)
    (case sa => k_is)
    (case mk => k_is)
    (case kc => k_is)
    (case n1 => k_is)
    (case n2 => k_is)
    (case n3 => k_is)
    (case n4 => k_is)
    (case ca => k_is)
    (case cn => k_is)
    (case ct => k_is)
    (case cm => k_is)
    (case ic => k_is)
    (case ty => k_is)
    (case s1 => k_is)
    (case s2 => k_is)
    (case s3 => k_is)
    (case z1 => k_is)
    (case z2 => k_is)
    (case z3 => k_is)
    (case z4 => k_is)
    (case z5 => k_is)
    (case z6 => k_is)
    (case z7 => k_is)
#print axioms PySem.Challenge.cw_windowrows_k37_whole_order_of_frames_holds
