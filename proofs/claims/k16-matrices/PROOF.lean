import PyProof.Rows.All
import Wide.All
import OpenK.AllK
import Wide.FinOn
import HandS.TupMul
import HandS.TupAny
import HandS.ForMost
import HandS.Exc
import HandS.WordsExc
import HandS.TryOnly
import HandS.TryMany
import HandS.CallSlots
import HandS.ExcField
import HandS.ExcIs
import HandS.IsInst
import HandS.Walk
import HandS.Wide
import HandS.EndBits
import HandS.Defaults
import HandS.Lambda
import HandS.SortInts
import HandS.Zip
import KE.GoesEnum
import HandS.ExcOwn
import KE.KExcSuper
import HandS.TupLen
import HandS.Conv
import HandS.WordsDict
import KE.KIsAll
import HandS.Style
import HandS.EndTab
import PySem.Challenge.RW_endlesswalks_k16_matrices_and_powers
set_option Elab.async false
set_option linter.all false
set_option maxRecDepth 100000
set_option maxHeartbeats 20000000
namespace DL
open PySem PySem.Spec PyProof.Rows L2
/-! ### t * 1, t * 0 -/
theorem tuple_mulS (l : Addr) (items : Array Value) (n : Nat) (dd : Option Addr) (sl : Array (Option Value)) (x : Int) (u : Tok) (c0 : (decide (x < -(2 ^ 63)) || decide (x ≥ 2 ^ 63)) = false) (c1 : (items.isEmpty || x == 1) = true) :
    Meets (Builtin.«tuple.__mul__» ⟨[.ref l, .int x u], []⟩) (fun _ R s => s.heap.get? l = some { cls := .type "tuple", dict := dd, data := .seq items n, slots := sl } ∧
      R (.ok (.ret (Value.ref l))) s) :=
  .of_wp fun prog w A R s h => by
    obtain ⟨hp, g, d, tk, os⟩ := s
    obtain ⟨hl, h⟩ := h
    have f1 := AutoSeq1.idx_int
    wp_walk using wpAny_loadPart' hl
    repeat (first
      | (refine wpAny_ite_false (decide_eq_false (by rw [c0]; exact Bool.false_ne_true)) ?_; wp_walk using wpAny_loadPart' hl)
      | (refine wpAny_ite_true (decide_eq_true c1) ?_; wp_walk using wpAny_loadPart' hl))
    exact ⟨_, rfl, h⟩
theorem tuple_mulZ (l : Addr) (items : Array Value) (n : Nat) (dd : Option Addr) (sl : Array (Option Value)) (x : Int) (u : Tok) (c0 : (decide (x < -(2 ^ 63)) || decide (x ≥ 2 ^ 63)) = false) (c1 : (items.isEmpty || x == 1) = false) (c2 : (decide (x ≤ 0) || items.isEmpty) = true) :
    Meets (Builtin.«tuple.__mul__» ⟨[.ref l, .int x u], []⟩) (fun _ R s => s.heap.get? l = some { cls := .type "tuple", dict := dd, data := .seq items n, slots := sl } ∧
      R (.ok (.ret (Value.ref s.heap.objs.size))) { s with heap := s.heap.push { cls := Value.type "tuple", data := Data.seq #[] }, toks := s.toks }) :=
  .of_wp fun prog w A R s h => by
    obtain ⟨hp, g, d, tk, os⟩ := s
    obtain ⟨hl, h⟩ := h
    have f1 := AutoSeq1.idx_int
    wp_walk using wpAny_loadPart' hl
    repeat (first
      | (refine wpAny_ite_false (decide_eq_false (by rw [c0]; exact Bool.false_ne_true)) ?_; wp_walk using wpAny_loadPart' hl)
      | (refine wpAny_ite_false (decide_eq_false (by rw [c1]; exact Bool.false_ne_true)) ?_; wp_walk using wpAny_loadPart' hl)
      | (refine wpAny_ite_true (decide_eq_true c2) ?_; wp_walk using wpAny_loadPart' hl))
    exact ⟨_, rfl, h⟩
/-- t * k, k 0 or 1, or t empty -/
def rRepS (K : PySem.W.Frag) : R2 := fun x y H Q => ∃ l k xs, x = .ref l ∧ y = .int k ∧ SqT K H l xs ∧ -(2 ^ 63) ≤ k ∧ k < 2 ^ 63 ∧ (((xs.isEmpty || k == 1) = true ∧ Q (.ref l) H) ∨ ((xs.isEmpty || k == 1) = false ∧ k ≤ 0 ∧ ∀ p, H p = none → Q (.ref p) (upd H p (.tup []))))
theorem op_repS {X : Cx} : OpR X (binaryOp .Mult) (rRepS X.K) := by
  intro pins s σ H x y v u Q I rx ry h
  obtain ⟨l, k, xs, rfl, rfl, hT, h1, h2, q⟩ := h
  cases rx
  obtain ⟨t, rfl⟩ := ry
  obtain ⟨its, r, ⟨⟨cls, dd, data, sl⟩, ho, hc, n, hd⟩, hs⟩ := I.tuple hT
  simp only at hc hd
  subst hc hd
  have hi : its.toArray.isEmpty = xs.isEmpty := by
    have hle : its.length = xs.length := r.length.symm
    cases its with
    | nil =>
      cases xs with
      | nil => rfl
      | cons a b => cases hle
    | cons a b =>
      cases xs with
      | nil => cases hle
      | cons a b => rfl
  have c0 : (decide (k < -(2 ^ 63)) || decide (k ≥ 2 ^ 63)) = false := by
    rw [decide_eq_false (by omega), decide_eq_false (by omega)] <;> rfl
  have go : ∀ {R : Result → Shared → Prop}, (wpAny (model X.prog X.w) X.A (call (.builtin "tuple.__mul__") [.ref l, .int k t]) (EP X pins σ Q) X.xe s) → wpAny (model X.prog X.w) X.A (binaryOp .Mult (.ref l) (.int k t)) (EP X pins σ Q) X.xe s := fun {_} hh =>
    wpAny_binaryOp_repeat_ref (T := "tuple") (U := "int") (by decide) ⟨_, ho, rfl⟩ (fun s' => typeIs_int s' k t) noFill_tuple_mul F.fills_int_mul F.slot_int_rmul repeat_tuple F.slot_int_index.lookup
      (call_meets F.slot_int_rmul (typeIs_int s k t) F.entry_int_rmul (F.args_int_rmul_2 _ _) (int_rmul_tuple k t l its.toArray n dd sl) ⟨ho, rfl, ⟨_, ho, rfl⟩, hh⟩)
  rcases q with ⟨c1, q⟩ | ⟨c1, c2, q⟩
  · rw [← hi] at c1
    refine go (R := fun _ _ => True) (call_meets F.slot_tuple_mul ⟨_, ho, rfl⟩ F.entry_tuple_mul (F.args_tuple_mul_2 _ _) (tuple_mulS l its.toArray n dd sl k t c0 c1) ⟨ho, ?_⟩)
    exact ⟨.ref l, H, I, rfl, q⟩
  · rw [← hi] at c1
    refine go (R := fun _ _ => True) (call_meets F.slot_tuple_mul ⟨_, ho, rfl⟩ F.entry_tuple_mul (F.args_tuple_mul_2 _ _) (tuple_mulZ l its.toArray n dd sl k t c0 c1 (by rw [decide_eq_true c2]; rfl)) ⟨ho, ?_⟩)
    exact ⟨.ref s.heap.objs.size, _, I.laid (t' := s.toks) (o := .tup []) (fun b ob q => Heap.get?_push_of_some _ q) (Nat.le_refl _) ⟨Nat.zero_le _, [], .nil, IsTup.new _ _⟩, rfl, q _ (I.hok.fresh (Nat.le_refl _))⟩
end DL
/-! D layer: plain data over HandS's heap; which lists are owned by which slot; what an expression or a statement computes, as a Lean function. -/
namespace DL
open PySem PySem.Spec PyProof.Rows L2
abbrev Sl := L2.St

/-! ## data -/
inductive D where
  | non | bl (b : Bool) | int (i : Int) | str (s : Str)
  | tup (ds : List D) | lst (ds : List D)
  | dct (kvs : List (Key × D)) | dtt (kvs : List (List Key × D))
  | raw (v : V) | exc (f : Str) (d : D) | scr (ns : List Int) | xob (c : String) (d : D)

/-- the field that an own exception bears -/
def fldOf : String → String
  | "BadWeb" => "place" | "BadNumber" => "value" | "BadPlaces" => "value" | "BadWord" => "value" | "BadMatrix" => "place" | "BadFraction" => "value"
  | "BadMarks" => "place" | "BadWindow" => "place" | "BadRule" => "place" | "BadMove" => "place" | "BadPaper" => "place" | "BadStep" => "place"
  | "BadText" => "line" | "Unalike" => "place" | "NoSuch" => "value" | "TooMany" => "most"
  | _ => ""
/-- an own exception that was caught: its class stands at C, its dict at dx -/
def ExH (C : Value) (d : Option Addr) (a : Addr) : HO := .ext fun h => ∃ (oe : Obj) (vs : Array Value), h.get? a = some oe ∧ Zc C d oe ∧ oe.data = .fields vs
/-- the name of the class that stands at C -/
def nameIn (K : PySem.W.Frag) (C : Addr) : Option Str := (PySem.W.clsIn K C).map ClassData.name
mutual
def Rep (K : PySem.W.Frag) (H : Hp) : D → V → Prop
  | .non, v => v = .non
  | .bl b, v => v = .bl b
  | .int i, v => v = .int i
  | .str s, v => v = .str s
  | .raw u, v => v = u
  | .tup ds, v => ∃ a vs, v = .ref a ∧ SqT K H a vs ∧ RepL K H ds vs
  | .lst ds, v => ∃ a vs, v = .ref a ∧ H a = some (.lst vs) ∧ RepL K H ds vs
  | .scr ns, v => ∃ a, v = .ref a ∧ SqL K H a (ns.map V.int)
  | .dct kvs, v => ∃ a xs, v = .ref a ∧ H a = some (.dK xs) ∧ RepK K H kvs xs
  | .dtt kvs, v => ∃ a xs, v = .ref a ∧ H a = some (.dT xs) ∧ RepT K H kvs xs
  | .exc f d, v => ∃ a u, v = .ref a ∧ H a = some (.xd [(f, u)]) ∧ Rep K H d u
  | .xob c d, v => ∃ a C dx u, v = .ref a ∧ H a = some (ExH (.ref C) (some dx) a) ∧ nameIn K C = some (c : Str) ∧ H dx = some (.xd [((fldOf c : String), u)]) ∧ Rep K H d u
def RepL (K : PySem.W.Frag) (H : Hp) : List D → List V → Prop
  | [], vs => vs = []
  | d :: ds, vs => ∃ v r, vs = v :: r ∧ Rep K H d v ∧ RepL K H ds r
def RepK (K : PySem.W.Frag) (H : Hp) : List (Key × D) → List (Key × V) → Prop
  | [], vs => vs = []
  | p :: ds, vs => ∃ v r, vs = (p.1, v) :: r ∧ RepP K H p v ∧ RepK K H ds r
def RepT (K : PySem.W.Frag) (H : Hp) : List (List Key × D) → List (List Key × V) → Prop
  | [], vs => vs = []
  | p :: ds, vs => ∃ v r, vs = (p.1, v) :: r ∧ RepQ K H p v ∧ RepT K H ds r
def RepP (K : PySem.W.Frag) (H : Hp) : Key × D → V → Prop
  | (_, d), v => Rep K H d v
def RepQ (K : PySem.W.Frag) (H : Hp) : List Key × D → V → Prop
  | (_, d), v => Rep K H d v
end

theorem rd_mono {H H' : Hp} {a : Addr} {u : HO} (s : Same H H') (h : Rd H a u) : Rd H' a u := by
  rcases h with h | ⟨o, h⟩
  · exact .inl (s _ _ h)
  · exact .inr ⟨o, s _ _ h⟩
theorem sqT_mono {K : PySem.W.Frag} {H H' : Hp} {a : Addr} {xs : List V} (s : Same H H') (h : SqT K H a xs) : SqT K H' a xs := by
  rcases h with h | h
  · exact .inl (rd_mono s h)
  · exact .inr h

mutual
theorem Rep.mono {K : PySem.W.Frag} {H H' : Hp} (s : Same H H') : ∀ (d : D) (v : V), Rep K H d v → Rep K H' d v
  | .non, v, h => h
  | .bl b, v, h => h
  | .int i, v, h => h
  | .str x, v, h => h
  | .raw u, v, h => h
  | .tup ds, v, h => by
    obtain ⟨a, vs, e, q, r⟩ := h
    exact ⟨a, vs, e, sqT_mono s q, RepL.mono s ds vs r⟩
  | .lst ds, v, h => by
    obtain ⟨a, vs, e, q, r⟩ := h
    exact ⟨a, vs, e, s _ _ q, RepL.mono s ds vs r⟩
  | .scr ns, v, h => by
    obtain ⟨a, e, q⟩ := h
    exact ⟨a, e, s.seq q⟩
  | .dct kvs, v, h => by
    obtain ⟨a, vs, e, q, r⟩ := h
    exact ⟨a, vs, e, s _ _ q, RepK.mono s kvs vs r⟩
  | .dtt kvs, v, h => by
    obtain ⟨a, vs, e, q, r⟩ := h
    exact ⟨a, vs, e, s _ _ q, RepT.mono s kvs vs r⟩
  | .exc f d, v, h => by
    obtain ⟨a, u, e, q, r⟩ := h
    exact ⟨a, u, e, s _ _ q, Rep.mono s d u r⟩
  | .xob c d, v, h => by
    obtain ⟨a, C, dx, u, e, q, n, q2, r⟩ := h
    exact ⟨a, C, dx, u, e, s _ _ q, n, s _ _ q2, Rep.mono s d u r⟩
theorem RepL.mono {K : PySem.W.Frag} {H H' : Hp} (s : Same H H') : ∀ (ds : List D) (vs : List V), RepL K H ds vs → RepL K H' ds vs
  | [], vs, h => h
  | d :: ds, vs, h => by
    obtain ⟨v, r, e, q, t⟩ := h
    exact ⟨v, r, e, Rep.mono s d v q, RepL.mono s ds r t⟩
theorem RepK.mono {K : PySem.W.Frag} {H H' : Hp} (s : Same H H') : ∀ (ds : List (Key × D)) (vs : List (Key × V)), RepK K H ds vs → RepK K H' ds vs
  | [], vs, h => h
  | d :: ds, vs, h => by
    obtain ⟨v, r, e, q, t⟩ := h
    exact ⟨v, r, e, RepP.mono s d v q, RepK.mono s ds r t⟩
theorem RepT.mono {K : PySem.W.Frag} {H H' : Hp} (s : Same H H') : ∀ (ds : List (List Key × D)) (vs : List (List Key × V)), RepT K H ds vs → RepT K H' ds vs
  | [], vs, h => h
  | d :: ds, vs, h => by
    obtain ⟨v, r, e, q, t⟩ := h
    exact ⟨v, r, e, RepQ.mono s d v q, RepT.mono s ds r t⟩
theorem RepP.mono {K : PySem.W.Frag} {H H' : Hp} (s : Same H H') : ∀ (d : Key × D) (v : V), RepP K H d v → RepP K H' d v
  | (_, d), v, h => Rep.mono s d v h
theorem RepQ.mono {K : PySem.W.Frag} {H H' : Hp} (s : Same H H') : ∀ (d : List Key × D) (v : V), RepQ K H d v → RepQ K H' d v
  | (_, d), v, h => Rep.mono s d v h
end

section
variable {K : PySem.W.Frag} {H : Hp}
theorem RepL.len : ∀ {ds : List D} {vs : List V}, RepL K H ds vs → vs.length = ds.length
  | [], vs, h => by
    subst h
    rfl
  | d :: ds, vs, h => by
    obtain ⟨v, r, rfl, _, t⟩ := h
    show r.length + 1 = ds.length + 1
    rw [RepL.len t]
theorem RepL.at : ∀ {ds : List D} {vs : List V} {i : Nat} {d : D}, RepL K H ds vs → ds[i]? = some d → ∃ v, vs[i]? = some v ∧ Rep K H d v
  | [], vs, i, d, h, e => by simp at e
  | x :: ds, vs, 0, d, h, e => by
    obtain ⟨v, r, rfl, q, t⟩ := h
    cases e
    exact ⟨v, rfl, q⟩
  | x :: ds, vs, i + 1, d, h, e => by
    obtain ⟨v, r, rfl, q, t⟩ := h
    exact RepL.at (ds := ds) (i := i) t e
theorem RepL.app : ∀ {ds es : List D} {vs us : List V}, RepL K H ds vs → RepL K H es us → RepL K H (ds ++ es) (vs ++ us)
  | [], es, vs, us, h, h' => by
    subst h
    exact h'
  | x :: ds, es, vs, us, h, h' => by
    obtain ⟨v, r, rfl, q, t⟩ := h
    exact ⟨v, r ++ us, rfl, q, RepL.app t h'⟩
theorem RepL.one {d : D} {v : V} (h : Rep K H d v) : RepL K H [d] [v] := ⟨v, [], rfl, h, rfl⟩
theorem RepL.take : ∀ {ds : List D} {vs : List V} (n : Nat), RepL K H ds vs → RepL K H (ds.take n) (vs.take n)
  | ds, vs, 0, h => by
    rw [List.take_zero, List.take_zero]
    exact rfl
  | [], vs, n + 1, h => by
    subst h
    exact rfl
  | x :: ds, vs, n + 1, h => by
    obtain ⟨v, r, rfl, q, t⟩ := h
    exact ⟨v, r.take n, rfl, q, RepL.take n t⟩
theorem RepL.drop : ∀ {ds : List D} {vs : List V} (n : Nat), RepL K H ds vs → RepL K H (ds.drop n) (vs.drop n)
  | ds, vs, 0, h => h
  | [], vs, n + 1, h => by
    subst h
    exact rfl
  | x :: ds, vs, n + 1, h => by
    obtain ⟨v, r, rfl, q, t⟩ := h
    exact RepL.drop n t
theorem RepL.set : ∀ {ds : List D} {vs : List V} (i : Nat) {d : D} {v : V}, RepL K H ds vs → Rep K H d v → RepL K H (ds.set i d) (vs.set i v)
  | [], vs, i, d, v, h, h' => by
    subst h
    exact rfl
  | x :: ds, vs, 0, d, v, h, h' => by
    obtain ⟨u, r, rfl, q, t⟩ := h
    exact ⟨v, r, rfl, h', t⟩
  | x :: ds, vs, i + 1, d, v, h, h' => by
    obtain ⟨u, r, rfl, q, t⟩ := h
    exact ⟨u, r.set i v, rfl, q, RepL.set i t h'⟩
theorem RepL.ints : ∀ {ns : List Int}, RepL K H (ns.map D.int) (ns.map V.int)
  | [] => rfl
  | n :: ns => ⟨V.int n, ns.map V.int, rfl, rfl, RepL.ints⟩
theorem RepL.ofInts : ∀ {ns : List Int} {vs : List V}, RepL K H (ns.map D.int) vs → vs = ns.map V.int
  | [], vs, h => h
  | n :: ns, vs, h => by
    obtain ⟨v, r, rfl, q, t⟩ := h
    have q' : v = .int n := q
    rw [q', RepL.ofInts t]
    rfl
theorem RepL.bls : ∀ {bs : List Bool}, RepL K H (bs.map D.bl) (bs.map V.bl)
  | [] => rfl
  | n :: ns => ⟨V.bl n, ns.map V.bl, rfl, rfl, RepL.bls⟩
theorem RepL.ofBls : ∀ {bs : List Bool} {vs : List V}, RepL K H (bs.map D.bl) vs → vs = bs.map V.bl
  | [], vs, h => h
  | n :: ns, vs, h => by
    obtain ⟨v, r, rfl, q, t⟩ := h
    have q' : v = .bl n := q
    rw [q', RepL.ofBls t]
    rfl
end

/-! ## the law's own state of draws, the ghosts -/
/-- the dict from which numbers are drawn: where it stands, where its lists stand, what they hold -/
structure MSt where
  am : Addr
  cc : Addr
  cg : Addr
  cells : List Int
  great : List Int
  spot : Int
  /-- tables of code objects, and the names of their codes -/
  tb : List (Addr × Str) := []
abbrev MS := Option MSt
/-- each table tells frozen codes alone -/
def TabF (f H : Hp) (T : List (Addr × Str)) : Prop := ∀ p ∈ T, ∃ ps : Array Value, H p.1 = some (.tbl ps) ∧ TriplesOk ps.toList ∧ ∀ (pos : Pos) (cv : Value), codeAmong pos ps.toList = some cv → ∃ c, cv = .ref c ∧ f c = some (LamX.CodeO c p.2)
theorem TabF.ff {f f' H : Hp} {T : List (Addr × Str)} (s : Same f f') (h : TabF f H T) : TabF f' H T := fun p hp => by
  obtain ⟨ps, h1, h2, h3⟩ := h p hp
  refine ⟨ps, h1, h2, fun pos cv hc => ?_⟩
  obtain ⟨c, e, q⟩ := h3 pos cv hc
  exact ⟨c, e, s _ _ q⟩
theorem TabF.hh {f H H' : Hp} {T : List (Addr × Str)} (s : ∀ p ∈ T, H' p.1 = H p.1) (h : TabF f H T) : TabF f H' T := fun p hp => by
  obtain ⟨ps, h1, h2, h3⟩ := h p hp
  exact ⟨ps, (s p hp).trans h1, h2, h3⟩
theorem TabF.upd {f H : Hp} {T : List (Addr × Str)} {a : Addr} {o : HO} (n : ∀ ps, H a ≠ some (.tbl ps)) (h : TabF f H T) : TabF f (upd H a o) T := h.hh fun p hp => by
  obtain ⟨ps, h1, _⟩ := h p hp
  exact upd_ne fun z => n ps (by rw [← z]; exact h1)
theorem TabF.same {f H H' : Hp} {T : List (Addr × Str)} (s : Same H H') (h : TabF f H T) : TabF f H' T := fun p hp => by
  obtain ⟨ps, h1, h2⟩ := h p hp
  exact ⟨ps, s _ _ h1, h2⟩
/-- where the classes stand; the tables -/
structure ClT where
  at_ : String → Addr
  tb : List (Addr × Str) := []
instance : CoeFun ClT (fun _ => String → Addr) := ⟨ClT.at_⟩
def tbm (ms : MS) : Option (List (Addr × Str)) := ms.map MSt.tb
def mfp : MS → Addr → Prop
  | none, _ => False
  | some m, a => a = m.am ∨ a = m.cg ∨ ∃ q, (a, q) ∈ m.tb
def MRep (f H : Hp) : MS → Prop
  | none => True
  | some m => H m.am = some (.dK [(Sum.inr "cells", .ref m.cc), (Sum.inr "great", .ref m.cg), (Sum.inr "spot", .int m.spot)]) ∧
      f m.cc = some (.lst (m.cells.map V.int)) ∧ H m.cg = some (.lst (m.great.map V.int)) ∧ m.am ≠ m.cg ∧ TabF f H m.tb
theorem tbm_eq {ms ms' : MS} {T : List (Addr × Str)} (hm : ∀ a, mfp ms' a ↔ mfp ms a) (h : ∀ U, tbm ms = some U → U = T) (h' : ∀ U, tbm ms' = some U → U = T) : tbm ms' = tbm ms := by
  cases ms with
  | none =>
    cases ms' with
    | none => rfl
    | some m => exact ((hm m.am).mp (.inl rfl)).elim
  | some m0 =>
    cases ms' with
    | none => exact ((hm m0.am).mpr (.inl rfl)).elim
    | some m => exact congrArg some ((h' m.tb rfl).trans (h m0.tb rfl).symm)
/-- frozen; known; owners (0: the value in hand; i + 1: slot i; then the place within) -/
structure Zs where
  f : Hp
  b : Hp
  o : Addr → Option (Nat × Nat)
/-- a def's entry -/
structure Gh where
  H0 : Hp
  f0 : Hp
  m0 : MS
  cls : ClT
  /-- within an except suite: the slot that names the exception, where it stands, its dict, its field, what this holds -/
  xf : Option (Nat × Addr × Addr × Str × D) := none
structure Aft (G : Gh) (H f : Hp) (ms : MS) : Prop where
  ff : Same G.f0 f
  keep : ∀ a o, G.H0 a = some o → ¬ mfp G.m0 a → H a = some o
  new : ∀ a o, f a = some o → G.f0 a = none → G.H0 a = none
  mf : ∀ a, mfp ms a ↔ mfp G.m0 a
abbrev Ent := Option (Nat × D)
abbrev Env := List Ent

/-- a list, a dict that one slot alone reaches -/
def Own1 (K : PySem.W.Frag) (Z : Zs) (id : Nat × Nat) (d : D) (v : V) : Prop :=
  ∃ a, v = .ref a ∧ Z.o a = some id ∧ match d with
    | .lst ds => ∃ vs, Z.b a = some (.lst vs) ∧ RepL K Z.f ds vs
    | .dct kvs => ∃ xs, Z.b a = some (.dK xs) ∧ RepK K Z.f kvs xs
    | .dtt kvs => ∃ xs, Z.b a = some (.dT xs) ∧ RepT K Z.f kvs xs
    | _ => False
/-- a list of such -/
def Own2 (K : PySem.W.Frag) (Z : Zs) (id : Nat) (d : D) (v : V) : Prop :=
  ∃ a, v = .ref a ∧ Z.o a = some (id, 0) ∧ ∃ ds vs, d = .lst ds ∧ Z.b a = some (.lst vs) ∧ vs.length = ds.length ∧
    ∀ (j : Nat) (d : D) (u : V), ds[j]? = some d → vs[j]? = some u → Own1 K Z (id, j + 1) d u
def Own (K : PySem.W.Frag) (Z : Zs) (id : Nat) : Nat → D → V → Prop
  | 0, d, v => Rep K Z.f d v
  | 1, d, v => Own1 K Z (id, 0) d v
  | 2, d, v => Own2 K Z id d v
  | _, _, _ => False

def XF (K : PySem.W.Frag) (G : Gh) (env : Env) (σ : Sl) (f : Hp) : Prop := ∀ i a sd fl d, G.xf = some (i, a, sd, fl, d) → (env[i]? = some none → σ[i]? = some (some (.ref a))) ∧ ∃ u, f sd = some (.xd [(fl, u)]) ∧ Rep K f d u
theorem XF.mono {K : PySem.W.Frag} {G : Gh} {env : Env} {σ : Sl} {f f' : Hp} (s : Same f f') (h : XF K G env σ f) : XF K G env σ f' := fun i a sd fl d e => by
  obtain ⟨h1, u, h2, h3⟩ := h i a sd fl d e
  exact ⟨h1, u, s _ _ h2, Rep.mono s _ _ h3⟩
structure R (K : PySem.W.Frag) (G : Gh) (env : Env) (ms : MS) (σ : Sl) (H : Hp) (Z : Zs) : Prop where
  aft : Aft G H Z.f ms
  fb : Same Z.f Z.b
  bh : Same Z.b H
  bm : ∀ a, mfp ms a → Z.b a = none
  mr : MRep Z.f H ms
  tb : ∀ T, tbm ms = some T → T = G.cls.tb
  own : ∀ a i, Z.o a = some i → Z.f a = none ∧ G.H0 a = none ∧ Z.b a ≠ none
  len : σ.length = env.length
  lb : env.length < 1000
  xf : XF K G env σ Z.f
  sl : ∀ i k d, env[i]? = some (some (k, d)) → ∃ v, σ[i]? = some (some v) ∧ Own K Z (i + 1) k d v

/-- a step of an expression -/
structure Ext (ms : MS) (Z : Zs) (H : Hp) (Z' : Zs) (H' : Hp) : Prop where
  ff : Same Z.f Z'.f
  bb : Same Z.b Z'.b
  keep : ∀ a o, H a = some o → ¬ mfp ms a → H' a = some o
  newb : ∀ a o, Z'.b a = some o → Z.b a = none → H a = none
  nm : ∀ a, mfp ms a → Z'.b a = none
  oo : ∀ a i, Z.o a = some i → i.1 ≠ 0 → i.1 ≠ 1000000 → Z'.o a = some i
theorem R.refl {K : PySem.W.Frag} {G : Gh} {env : Env} {ms : MS} {σ : Sl} {H : Hp} {Z : Zs} (r : R K G env ms σ H Z) : Ext ms Z H Z H := ⟨Same.refl _, Same.refl _, fun _ _ h _ => h, (fun a o h h' => by
  rw [h] at h'
  cases h'), r.bm, fun _ _ h _ _ => h⟩
theorem Ext.trans {ms ms' : MS} {Z Z' Z'' : Zs} {H H' H'' : Hp} (hm : ∀ a, mfp ms' a ↔ mfp ms a) (x : Ext ms Z H Z' H') (y : Ext ms' Z' H' Z'' H'') : Ext ms Z H Z'' H'' where
  ff := x.ff.trans y.ff
  bb := x.bb.trans y.bb
  keep := fun a o h n => y.keep a o (x.keep a o h n) fun q => n ((hm a).mp q)
  newb := fun a o h n => by
    cases e : Z'.b a with
    | some u => exact x.newb a u e n
    | none =>
      have := y.newb a o h e
      cases e' : H a with
      | none => rfl
      | some u =>
        by_cases q : mfp ms a
        · rw [y.nm a ((hm a).mpr q)] at h
          cases h
        · rw [x.keep a u e' q] at this
          cases this
  nm := fun a q => y.nm a ((hm a).mpr q)
  oo := fun a i h n n' => y.oo a i (x.oo a i h n n') n n'
theorem Aft.mm {G : Gh} {H f H' f' : Hp} {ms ms' : MS} (x : Aft G H f ms) (y : Aft G H' f' ms') (a : Addr) : mfp ms' a ↔ mfp ms a := (y.mf a).trans (x.mf a).symm

/-! ## what an expression computes -/
/-- how a value is had: of one's own (0: frozen; 1: a list in hand; 2: a list of such), or borrowed of a slot -/
inductive Fl where
  | o (k : Nat) | b (k : Nat)
inductive Out where
  | ok (fl : Fl) (d : D) (ms : MS)
  | exc (c : String) (d : D) (ms : MS)
  | bad
/-- a list of frozen items -/
def Bor1 (K : PySem.W.Frag) (Z : Zs) (d : D) (v : V) : Prop :=
  ∃ a, v = .ref a ∧ match d with
    | .lst ds => ∃ vs, Z.b a = some (.lst vs) ∧ RepL K Z.f ds vs
    | .dct kvs => ∃ xs, Z.b a = some (.dK xs) ∧ RepK K Z.f kvs xs
    | .dtt kvs => ∃ xs, Z.b a = some (.dT xs) ∧ RepT K Z.f kvs xs
    | _ => False
def Bor2 (K : PySem.W.Frag) (Z : Zs) (d : D) (v : V) : Prop :=
  ∃ a, v = .ref a ∧ ∃ ds vs, d = .lst ds ∧ Z.b a = some (.lst vs) ∧ vs.length = ds.length ∧
    ∀ (j : Nat) (d : D) (u : V), ds[j]? = some d → vs[j]? = some u → Bor1 K Z d u
def Bor (K : PySem.W.Frag) (Z : Zs) : Nat → D → V → Prop
  | 0, d, v => Rep K Z.b d v
  | 1, d, v => Bor1 K Z d v
  | 2, d, v => Bor2 K Z d v
  | _, _, _ => False
def Top (K : PySem.W.Frag) (Z : Zs) : Fl → D → V → Prop
  | .o k, d, v => Own K Z 0 k d v
  | .b k, d, v => Bor K Z k d v
section
variable (K : PySem.W.Frag) (G : Gh) (W : WX) (env : Env) (σ : Sl)
def PostE (ms : MS) (Z : Zs) (H : Hp) (Q : VK) : Out → Prop
  | .ok fl d ms' => ∀ v H' Z', Ext ms Z H Z' H' → R K G env ms' σ H' Z' → Top K Z' fl d v → Q v H'
  | .exc c d ms' => ∀ dx H' Z', Ext ms Z H Z' H' → R K G env ms' σ H' Z' → Rep K Z'.f (.exc (fldOf c) d) (.ref dx) → W (.ref (G.cls c)) (some dx) σ H'
  | .bad => False
end
def Out.bind (o : Out) (k : Fl → D → MS → Out) : Out :=
  match o with
  | .ok fl d ms => k fl d ms
  | .exc c d ms => .exc c d ms
  | .bad => .bad
/-- for a value that is read alone -/
def Out.bindR (o : Out) (k : D → MS → Out) : Out := o.bind fun _ d ms => k d ms
/-- for a value that is handed on: not a slot's own list -/
def Out.bindF (o : Out) (k : D → MS → Out) : Out := o.bind fun fl d ms => match fl with
  | .b _ => .bad
  | .o _ => k d ms
section
variable {K : PySem.W.Frag} {G : Gh} {W : WX} {env : Env} {σ : Sl} {ms ms' : MS} {Z Z' : Zs} {H H' : Hp} {Q Q' : VK} {o : Out}
theorem PostE.ext (hm : ∀ a, mfp ms' a ↔ mfp ms a) (x : Ext ms Z H Z' H') : ∀ {o : Out}, PostE K G W env σ ms Z H Q o → PostE K G W env σ ms' Z' H' Q o
  | .ok fl d m, p => fun v H2 Z2 y r t => p v H2 Z2 (x.trans hm y) r t
  | .exc c d m, p => fun dx H2 Z2 y r t => p dx H2 Z2 (x.trans hm y) r t
  | .bad, p => p
theorem PostE.bind {k : Fl → D → MS → Out} (r : R K G env ms σ H Z) (p : PostE K G W env σ ms Z H Q (o.bind k))
    (h : ∀ fl d ms' v H' Z', Ext ms Z H Z' H' → R K G env ms' σ H' Z' → Top K Z' fl d v → PostE K G W env σ ms' Z' H' Q (k fl d ms') → Q' v H') : PostE K G W env σ ms Z H Q' o := by
  cases o with
  | ok fl d m => exact fun v H2 Z2 y r2 t => h fl d m v H2 Z2 y r2 t (PostE.ext (r.aft.mm r2.aft) y p)
  | exc c d m => exact p
  | bad => exact p
theorem RepL.of_at {f : Hp} : ∀ {ds : List D} {vs : List V}, vs.length = ds.length → (∀ (j : Nat) (d : D) (u : V), ds[j]? = some d → vs[j]? = some u → Rep K f d u) → RepL K f ds vs
  | [], vs, l, h => List.length_eq_zero_iff.mp l
  | d :: ds, [], l, h => by simp at l
  | d :: ds, v :: vs, l, h => ⟨v, vs, rfl, h 0 d v rfl rfl, RepL.of_at (Nat.succ.inj l) fun j d' u e e' => h (j + 1) d' u e e'⟩
theorem Own1.rep {id : Nat × Nat} {d : D} {v : V} (fb : Same Z.f Z.b) (h : Own1 K Z id d v) : Rep K Z.b d v := by
  obtain ⟨a, e, ho, h⟩ := h
  cases d with
  | lst ds =>
    obtain ⟨vs, hb, r⟩ := h
    exact ⟨a, vs, e, hb, RepL.mono fb _ _ r⟩
  | dct ds =>
    obtain ⟨vs, hb, r⟩ := h
    exact ⟨a, vs, e, hb, RepK.mono fb _ _ r⟩
  | dtt ds =>
    obtain ⟨vs, hb, r⟩ := h
    exact ⟨a, vs, e, hb, RepT.mono fb _ _ r⟩
  | _ => exact h.elim
theorem Own.rep {id k : Nat} {d : D} {v : V} (fb : Same Z.f Z.b) (h : Own K Z id k d v) : Rep K Z.b d v := by
  match k, h with
  | 0, h => exact Rep.mono fb _ _ h
  | 1, h => exact Own1.rep fb h
  | 2, h =>
    obtain ⟨a, e, ho, ds, vs, rfl, hb, hl, hr⟩ := h
    exact ⟨a, vs, e, hb, RepL.of_at hl fun j d u e1 e2 => Own1.rep fb (hr j d u e1 e2)⟩
theorem Own1.bor {id : Nat × Nat} {d : D} {v : V} (h : Own1 K Z id d v) : Bor1 K Z d v := by
  obtain ⟨a, e, _, h⟩ := h
  exact ⟨a, e, h⟩
theorem Bor1.rep {d : D} {v : V} (fb : Same Z.f Z.b) (h : Bor1 K Z d v) : Rep K Z.b d v := by
  obtain ⟨a, e, h⟩ := h
  cases d with
  | lst ds =>
    obtain ⟨vs, hb, r⟩ := h
    exact ⟨a, vs, e, hb, RepL.mono fb _ _ r⟩
  | dct ds =>
    obtain ⟨vs, hb, r⟩ := h
    exact ⟨a, vs, e, hb, RepK.mono fb _ _ r⟩
  | dtt ds =>
    obtain ⟨vs, hb, r⟩ := h
    exact ⟨a, vs, e, hb, RepT.mono fb _ _ r⟩
  | _ => exact h.elim
theorem Bor.rep {k : Nat} {d : D} {v : V} (fb : Same Z.f Z.b) (h : Bor K Z k d v) : Rep K Z.b d v := by
  match k, h with
  | 0, h => exact h
  | 1, h => exact Bor1.rep fb h
  | 2, h =>
    obtain ⟨a, e, ds, vs, rfl, hb, hl, hr⟩ := h
    exact ⟨a, vs, e, hb, RepL.of_at hl fun j d u e1 e2 => Bor1.rep fb (hr j d u e1 e2)⟩
theorem Own.bor {id k : Nat} {d : D} {v : V} (fb : Same Z.f Z.b) (h : Own K Z id k d v) : Bor K Z k d v := by
  match k, h with
  | 0, h => exact Rep.mono fb _ _ h
  | 1, h => exact Own1.bor h
  | 2, h =>
    obtain ⟨a, e, ho, ds, vs, rfl, hb, hl, hr⟩ := h
    exact ⟨a, e, ds, vs, rfl, hb, hl, fun j d u e1 e2 => (hr j d u e1 e2).bor⟩
theorem Top.rep {fl : Fl} {d : D} {v : V} (fb : Same Z.f Z.b) (h : Top K Z fl d v) : Rep K Z.b d v := by
  cases fl with
  | o k => exact Own.rep fb h
  | b k => exact Bor.rep fb h

/-! ## freezing -/
/-- what the owner id has is frozen -/
def Zs.freeze (Z : Zs) (id : Nat) : Zs where
  f := fun a => match Z.o a with
    | some i => if i.1 = id then Z.b a else Z.f a
    | none => Z.f a
  b := Z.b
  o := fun a => match Z.o a with
    | some i => if i.1 = id then none else some i
    | none => none
theorem freeze_in {Z : Zs} {id : Nat} {a : Addr} {j : Nat} (h : Z.o a = some (id, j)) : (Z.freeze id).f a = Z.b a := by
  simp only [Zs.freeze, h, if_true]
theorem freeze_other {Z : Zs} {id : Nat} {a : Addr} {i : Nat × Nat} (h : Z.o a = some i) (n : i.1 ≠ id) : (Z.freeze id).o a = some i := by
  simp only [Zs.freeze, h, n, if_false]
theorem freeze_ff {Z : Zs} {id : Nat} (own : ∀ a i, Z.o a = some i → Z.f a = none) : Same Z.f (Z.freeze id).f := fun a o h => by
  cases e : Z.o a with
  | none => simpa only [Zs.freeze, e] using h
  | some i =>
    rw [own a i e] at h
    cases h
theorem Own1.other {id : Nat} {i : Nat × Nat} {d : D} {v : V} (own : ∀ a i, Z.o a = some i → Z.f a = none) (n : i.1 ≠ id) (h : Own1 K Z i d v) : Own1 K (Z.freeze id) i d v := by
  obtain ⟨a, e, ho, h⟩ := h
  refine ⟨a, e, freeze_other ho n, ?_⟩
  cases d with
  | lst ds =>
    obtain ⟨vs, hb, r⟩ := h
    exact ⟨vs, hb, RepL.mono (freeze_ff own) _ _ r⟩
  | dct ds =>
    obtain ⟨vs, hb, r⟩ := h
    exact ⟨vs, hb, RepK.mono (freeze_ff own) _ _ r⟩
  | dtt ds =>
    obtain ⟨vs, hb, r⟩ := h
    exact ⟨vs, hb, RepT.mono (freeze_ff own) _ _ r⟩
  | _ => exact h.elim
theorem Own.other {id i k : Nat} {d : D} {v : V} (own : ∀ a i, Z.o a = some i → Z.f a = none) (n : i ≠ id) (h : Own K Z i k d v) : Own K (Z.freeze id) i k d v := by
  match k, h with
  | 0, h => exact Rep.mono (freeze_ff own) _ _ h
  | 1, h => exact Own1.other own n h
  | 2, h =>
    obtain ⟨a, e, ho, ds, vs, rfl, hb, hl, hr⟩ := h
    exact ⟨a, e, freeze_other ho n, ds, vs, rfl, hb, hl, fun j d u e1 e2 => Own1.other own n (hr j d u e1 e2)⟩
theorem Own1.frozen {id j : Nat} {d : D} {v : V} (own : ∀ a i, Z.o a = some i → Z.f a = none) (h : Own1 K Z (id, j) d v) : Rep K (Z.freeze id).f d v := by
  obtain ⟨a, e, ho, h⟩ := h
  cases d with
  | lst ds =>
    obtain ⟨vs, hb, r⟩ := h
    exact ⟨a, vs, e, (freeze_in ho).trans hb, RepL.mono (freeze_ff own) _ _ r⟩
  | dct ds =>
    obtain ⟨vs, hb, r⟩ := h
    exact ⟨a, vs, e, (freeze_in ho).trans hb, RepK.mono (freeze_ff own) _ _ r⟩
  | dtt ds =>
    obtain ⟨vs, hb, r⟩ := h
    exact ⟨a, vs, e, (freeze_in ho).trans hb, RepT.mono (freeze_ff own) _ _ r⟩
  | _ => exact h.elim
theorem Own.frozen {id k : Nat} {d : D} {v : V} (own : ∀ a i, Z.o a = some i → Z.f a = none) (h : Own K Z id k d v) : Rep K (Z.freeze id).f d v := by
  match k, h with
  | 0, h => exact Rep.mono (freeze_ff own) _ _ h
  | 1, h => exact Own1.frozen own h
  | 2, h =>
    obtain ⟨a, e, ho, ds, vs, rfl, hb, hl, hr⟩ := h
    exact ⟨a, vs, e, (freeze_in ho).trans hb, RepL.of_at hl fun j d u e1 e2 => Own1.frozen own (hr j d u e1 e2)⟩
theorem freeze_f {Z : Zs} {id : Nat} {a : Addr} {o : HO} (h : (Z.freeze id).f a = some o) : Z.f a = some o ∨ ((∃ i, Z.o a = some i) ∧ Z.b a = some o) := by
  cases e : Z.o a with
  | none =>
    rw [Zs.freeze] at h
    simp only [e] at h
    exact .inl h
  | some i =>
    by_cases q : i.1 = id
    · rw [Zs.freeze] at h
      simp only [e, q, if_true] at h
      exact .inr ⟨⟨i, rfl⟩, h⟩
    · rw [Zs.freeze] at h
      simp only [e, q, if_false] at h
      exact .inl h
theorem freeze_o {Z : Zs} {id : Nat} {a : Addr} {i : Nat × Nat} (h : (Z.freeze id).o a = some i) : Z.o a = some i ∧ i.1 ≠ id := by
  cases e : Z.o a with
  | none =>
    rw [Zs.freeze] at h
    simp only [e] at h
    cases h
  | some j =>
    by_cases q : j.1 = id
    · rw [Zs.freeze] at h
      simp only [e, q, if_true] at h
      cases h
    · rw [Zs.freeze] at h
      simp only [e, q, if_false] at h
      cases h
      exact ⟨rfl, q⟩
/-- the frozen ghost; the slot of that owner is frozen too -/
def frzEnv (env : Env) (i : Nat) : Env := match env[i]? with
  | some (some (_, d)) => env.set i (some (0, d))
  | _ => env
theorem R.ownf (r : R K G env ms σ H Z) : ∀ a i, Z.o a = some i → Z.f a = none := fun a i h => (r.own a i h).1
theorem R.freeze0 (r : R K G env ms σ H Z) : R K G env ms σ H (Z.freeze 0) where
  aft := ⟨r.aft.ff.trans (freeze_ff r.ownf), r.aft.keep, fun a o h n => by
    rcases freeze_f h with h | ⟨⟨i, hi⟩, h⟩
    · exact r.aft.new a o h n
    · exact (r.own a i hi).2.1, r.aft.mf⟩
  fb := fun a o h => by
    rcases freeze_f h with h | ⟨_, h⟩
    · exact r.fb a o h
    · exact h
  bh := r.bh
  bm := r.bm
  mr := by
    cases ms with
    | none => trivial
    | some m => exact ⟨r.mr.1, freeze_ff r.ownf _ _ r.mr.2.1, r.mr.2.2.1, r.mr.2.2.2.1, r.mr.2.2.2.2.ff (freeze_ff r.ownf)⟩
  tb := r.tb
  own := fun a i h => by
    obtain ⟨h, n⟩ := freeze_o h
    refine ⟨?_, (r.own a i h).2⟩
    simp only [Zs.freeze, h, n, if_false]
    exact (r.own a i h).1
  len := r.len
  lb := r.lb
  xf := r.xf.mono (freeze_ff r.ownf)
  sl := fun i k d h => by
    obtain ⟨v, e, q⟩ := r.sl i k d h
    exact ⟨v, e, Own.other r.ownf (Nat.succ_ne_zero i) q⟩
theorem frzEnv_len (env : Env) (i : Nat) : (frzEnv env i).length = env.length := by
  unfold frzEnv
  split
  · rw [List.length_set]
  · rfl
theorem frzEnv_at {env : Env} {i j k : Nat} {d : D} (h : (frzEnv env i)[j]? = some (some (k, d))) : (j ≠ i ∧ env[j]? = some (some (k, d))) ∨ (j = i ∧ k = 0 ∧ ∃ k', env[j]? = some (some (k', d))) := by
  unfold frzEnv at h
  cases e : env[i]? with
  | none =>
    simp only [e] at h
    exact .inl ⟨(fun z => by
      subst z
      rw [e] at h
      cases h), h⟩
  | some x =>
    cases x with
    | none =>
      simp only [e] at h
      exact .inl ⟨(fun z => by
        subst z
        rw [e] at h
        cases h), h⟩
    | some p =>
      obtain ⟨k', d'⟩ := p
      simp only [e] at h
      by_cases q : j = i
      · subst q
        have hj : j < env.length := by
          rcases Nat.lt_or_ge j env.length with z | z
          · exact z
          · rw [List.getElem?_eq_none z] at e
            cases e
        rw [List.getElem?_set_self hj] at h
        cases h
        exact .inr ⟨rfl, rfl, k', e⟩
      · rw [List.getElem?_set_ne (Ne.symm q)] at h
        exact .inl ⟨q, h⟩
theorem frzEnv_none {env : Env} {i j : Nat} (h : (frzEnv env i)[j]? = some none) : env[j]? = some none := by
  unfold frzEnv at h
  split at h
  · rename_i x k d e
    by_cases q : j = i
    · subst q
      have hj : j < env.length := by
        rcases Nat.lt_or_ge j env.length with z | z
        · exact z
        · rw [List.getElem?_eq_none z] at e
          cases e
      rw [List.getElem?_set_self hj] at h
      cases h
    · rw [List.getElem?_set_ne (Ne.symm q)] at h
      exact h
  · exact h
theorem R.freeze (r : R K G env ms σ H Z) (i : Nat) : R K G (frzEnv env i) ms σ H (Z.freeze (i + 1)) where
  aft := ⟨r.aft.ff.trans (freeze_ff r.ownf), r.aft.keep, fun a o h n => by
    rcases freeze_f h with h | ⟨⟨i, hi⟩, h⟩
    · exact r.aft.new a o h n
    · exact (r.own a i hi).2.1, r.aft.mf⟩
  fb := fun a o h => by
    rcases freeze_f h with h | ⟨_, h⟩
    · exact r.fb a o h
    · exact h
  bh := r.bh
  bm := r.bm
  mr := by
    cases ms with
    | none => trivial
    | some m => exact ⟨r.mr.1, freeze_ff r.ownf _ _ r.mr.2.1, r.mr.2.2.1, r.mr.2.2.2.1, r.mr.2.2.2.2.ff (freeze_ff r.ownf)⟩
  tb := r.tb
  own := fun a i h => by
    obtain ⟨h, n⟩ := freeze_o h
    refine ⟨?_, (r.own a i h).2⟩
    simp only [Zs.freeze, h, n, if_false]
    exact (r.own a i h).1
  len := (frzEnv_len env i).symm ▸ r.len
  lb := (frzEnv_len env i).symm ▸ r.lb
  xf := fun j a sd fl d e => by
    obtain ⟨h1, h2⟩ := r.xf.mono (freeze_ff (id := i + 1) r.ownf) j a sd fl d e
    exact ⟨fun q => h1 (frzEnv_none q), h2⟩
  sl := fun j k d h => by
    rcases frzEnv_at h with ⟨q, h⟩ | ⟨rfl, rfl, k', h⟩
    · obtain ⟨v, e, q'⟩ := r.sl j k d h
      exact ⟨v, e, Own.other r.ownf (fun z => q (Nat.succ.inj z)) q'⟩
    · obtain ⟨v, e, q⟩ := r.sl j k' d h
      exact ⟨v, e, Own.frozen r.ownf q⟩
theorem R.ext0 (r : R K G env ms σ H Z) : Ext ms Z H (Z.freeze 0) H := ⟨freeze_ff r.ownf, Same.refl _, fun _ _ h _ => h, (fun a o h n => by
  have h' : Z.b a = some o := h
  rw [h'] at n
  cases n), r.bm, fun a i h n _ => freeze_other h n⟩
theorem PostE.bindR {k : D → MS → Out} (r : R K G env ms σ H Z) (p : PostE K G W env σ ms Z H Q (o.bindR k))
    (h : ∀ d ms' v H' Z', Ext ms Z H Z' H' → R K G env ms' σ H' Z' → Rep K Z'.b d v → PostE K G W env σ ms' Z' H' Q (k d ms') → Q' v H') : PostE K G W env σ ms Z H Q' o :=
  PostE.bind r p fun fl d ms' v H' Z' x r' t p' => h d ms' v H' Z' x r' (t.rep r'.fb) p'
theorem PostE.bindF {k : D → MS → Out} (r : R K G env ms σ H Z) (p : PostE K G W env σ ms Z H Q (o.bindF k))
    (h : ∀ d ms' v H' Z', Ext ms Z H Z' H' → R K G env ms' σ H' Z' → Rep K Z'.f d v → PostE K G W env σ ms' Z' H' Q (k d ms') → Q' v H') : PostE K G W env σ ms Z H Q' o :=
  PostE.bind r p fun fl d ms' v H' Z' x r' t p' => by
    cases fl with
    | b n => exact p'.elim
    | o n => exact h d ms' v H' (Z'.freeze 0) (x.trans (r.aft.mm r'.aft) r'.ext0) r'.freeze0 (Own.frozen r'.ownf t) (PostE.ext (fun _ => Iff.rfl) r'.ext0 p')

/-! ## new objects -/
/-- a new object, frozen at once (a tuple) -/
def Zs.newF (Z : Zs) (p : Addr) (u : HO) : Zs := ⟨upd Z.f p u, upd Z.b p u, Z.o⟩
/-- a new object, in hand -/
def Zs.newO (Z : Zs) (p : Addr) (u : HO) : Zs := ⟨Z.f, upd Z.b p u, fun a => if a = p then some (0, 0) else Z.o a⟩
theorem same_new {H : Hp} {p : Addr} {u : HO} (h : H p = none) : Same H (upd H p u) := fun b x e => by
  rw [upd_ne (ne_of_none e h)]
  exact e
theorem upd_some {H : Hp} {p a : Addr} {u o : HO} (h : upd H p u a = some o) : (a = p ∧ o = u) ∨ (a ≠ p ∧ H a = some o) := by
  by_cases q : a = p
  · subst q
    rw [upd_same] at h
    cases h
    exact .inl ⟨rfl, rfl⟩
  · rw [upd_ne q] at h
    exact .inr ⟨q, h⟩
theorem R.nb (r : R K G env ms σ H Z) {p : Addr} (h : H p = none) : Z.b p = none := r.bh.free h
theorem R.nf (r : R K G env ms σ H Z) {p : Addr} (h : H p = none) : Z.f p = none := r.fb.free (r.nb h)
theorem R.nm (r : R K G env ms σ H Z) {p : Addr} (h : H p = none) : ¬ mfp ms p := fun q => by
  cases ms with
  | none => exact q
  | some m =>
    rcases q with rfl | rfl | ⟨q, hq⟩
    · rw [r.mr.1] at h
      cases h
    · rw [r.mr.2.2.1] at h
      cases h
    · obtain ⟨ps, h1, _⟩ := r.mr.2.2.2.2 _ hq
      have h1' : H p = some (.tbl ps) := h1
      rw [h1'] at h
      cases h
theorem R.nmm (r : R K G env ms σ H Z) {p a : Addr} (h : H p = none) (m : mfp ms a) : a ≠ p := fun z => r.nm h (z ▸ m)
theorem R.n0 (r : R K G env ms σ H Z) {p : Addr} (h : H p = none) : G.H0 p = none := by
  cases e : G.H0 p with
  | none => rfl
  | some o =>
    have := r.aft.keep p o e fun q => r.nm h ((r.aft.mf p).mpr q)
    rw [this] at h
    cases h
theorem Own1.mono {Z Z' : Zs} {i : Nat × Nat} {d : D} {v : V} (hf : Same Z.f Z'.f) (hb : Same Z.b Z'.b) (ho : ∀ a i, Z.o a = some i → Z.b a ≠ none → Z'.o a = some i) (h : Own1 K Z i d v) : Own1 K Z' i d v := by
  obtain ⟨a, e, hO, h⟩ := h
  cases d with
  | lst ds =>
    obtain ⟨vs, hB, r⟩ := h
    exact ⟨a, e, ho a i hO (by rw [hB]; exact Option.some_ne_none _), vs, hb _ _ hB, RepL.mono hf _ _ r⟩
  | dct ds =>
    obtain ⟨vs, hB, r⟩ := h
    exact ⟨a, e, ho a i hO (by rw [hB]; exact Option.some_ne_none _), vs, hb _ _ hB, RepK.mono hf _ _ r⟩
  | dtt ds =>
    obtain ⟨vs, hB, r⟩ := h
    exact ⟨a, e, ho a i hO (by rw [hB]; exact Option.some_ne_none _), vs, hb _ _ hB, RepT.mono hf _ _ r⟩
  | _ => exact h.elim
theorem Own.mono {Z Z' : Zs} {i k : Nat} {d : D} {v : V} (hf : Same Z.f Z'.f) (hb : Same Z.b Z'.b) (ho : ∀ a i, Z.o a = some i → Z.b a ≠ none → Z'.o a = some i) (h : Own K Z i k d v) : Own K Z' i k d v := by
  match k, h with
  | 0, h => exact Rep.mono hf _ _ h
  | 1, h => exact Own1.mono hf hb ho h
  | 2, h =>
    obtain ⟨a, e, hO, ds, vs, rfl, hB, hl, hr⟩ := h
    exact ⟨a, e, ho a _ hO (by rw [hB]; exact Option.some_ne_none _), ds, vs, rfl, hb _ _ hB, hl, fun j d u e1 e2 => Own1.mono hf hb ho (hr j d u e1 e2)⟩
theorem MRep.newT {f H : Hp} {p : Addr} {u : HO} (hf : f p = none) (hp : H p = none) {ms : MS} (h : MRep f H ms) : MRep (upd f p u) (upd H p u) ms := by
  cases ms with
  | none => trivial
  | some m => exact ⟨same_new hp _ _ h.1, same_new hf _ _ h.2.1, same_new hp _ _ h.2.2.1, h.2.2.2.1, (h.2.2.2.2.ff (same_new hf)).same (same_new hp)⟩
theorem MRep.newH {f H : Hp} {p : Addr} {u : HO} (hp : H p = none) {ms : MS} (h : MRep f H ms) : MRep f (upd H p u) ms := by
  cases ms with
  | none => trivial
  | some m => exact ⟨same_new hp _ _ h.1, h.2.1, same_new hp _ _ h.2.2.1, h.2.2.2.1, h.2.2.2.2.same (same_new hp)⟩
theorem R.no (r : R K G env ms σ H Z) {p : Addr} (h : H p = none) : Z.o p = none := by
  cases e : Z.o p with
  | none => rfl
  | some i => exact absurd (r.nb h) (r.own p i e).2.2
theorem R.newF (r : R K G env ms σ H Z) {p : Addr} {u : HO} (h : H p = none) : R K G env ms σ (upd H p u) (Z.newF p u) where
  aft := ⟨r.aft.ff.trans (same_new (r.nf h)), fun a o e n => same_new h _ _ (r.aft.keep a o e n), fun a o e n => by
    rcases upd_some e with ⟨rfl, _⟩ | ⟨_, e⟩
    · exact r.n0 h
    · exact r.aft.new a o e n, r.aft.mf⟩
  fb := fun a o e => by
    rcases upd_some e with ⟨rfl, rfl⟩ | ⟨q, e⟩
    · exact upd_same
    · exact (upd_ne q).trans (r.fb a o e)
  bh := fun a o e => by
    rcases upd_some e with ⟨rfl, rfl⟩ | ⟨q, e⟩
    · exact upd_same
    · exact (upd_ne q).trans (r.bh a o e)
  bm := fun a m => by
    have q : a ≠ p := fun z => r.nm h (z ▸ m)
    exact (upd_ne q).trans (r.bm a m)
  mr := r.mr.newT (r.nf h) h
  tb := r.tb
  own := fun a i e => by
    have q : a ≠ p := fun z => by
      have e' : Z.o a = some i := e
      rw [z, r.no h] at e'
      cases e'
    exact ⟨(upd_ne q).trans (r.own a i e).1, (r.own a i e).2.1, fun z => (r.own a i e).2.2 (by rw [← z]; exact (upd_ne q).symm)⟩
  len := r.len
  lb := r.lb
  xf := r.xf.mono (same_new (r.nf h))
  sl := fun i k d e => by
    obtain ⟨v, e1, q⟩ := r.sl i k d e
    exact ⟨v, e1, q.mono (same_new (r.nf h)) (same_new (r.nb h)) fun a i e _ => e⟩
theorem R.extF (r : R K G env ms σ H Z) {p : Addr} {u : HO} (h : H p = none) : Ext ms Z H (Z.newF p u) (upd H p u) where
  ff := same_new (r.nf h)
  bb := same_new (r.nb h)
  keep := fun a o e _ => same_new h _ _ e
  newb := fun a o e n => by
    rcases upd_some e with ⟨rfl, _⟩ | ⟨_, e⟩
    · exact h
    · rw [e] at n
      cases n
  nm := fun a m => (upd_ne (r.nmm h m)).trans (r.bm a m)
  oo := fun _ _ h _ _ => h
theorem R.newO (r : R K G env ms σ H Z) {p : Addr} {u : HO} (h : H p = none) : R K G env ms σ (upd H p u) (Z.newO p u) where
  aft := ⟨r.aft.ff, fun a o e n => same_new h _ _ (r.aft.keep a o e n), r.aft.new, r.aft.mf⟩
  fb := r.fb.trans (same_new (r.nb h))
  bh := fun a o e => by
    rcases upd_some e with ⟨rfl, rfl⟩ | ⟨q, e⟩
    · exact upd_same
    · exact (upd_ne q).trans (r.bh a o e)
  bm := fun a m => (upd_ne (r.nmm h m)).trans (r.bm a m)
  mr := r.mr.newH h
  tb := r.tb
  own := fun a i e => by
    by_cases q : a = p
    · subst q
      refine ⟨r.nf h, r.n0 h, ?_⟩
      show upd Z.b a u a ≠ none
      rw [upd_same]
      exact Option.some_ne_none _
    · have e' : Z.o a = some i := by
        have e2 : (if a = p then some (0, 0) else Z.o a) = some i := e
        rwa [if_neg q] at e2
      refine ⟨(r.own a i e').1, (r.own a i e').2.1, ?_⟩
      show upd Z.b p u a ≠ none
      rw [upd_ne q]
      exact (r.own a i e').2.2
  len := r.len
  lb := r.lb
  xf := r.xf
  sl := fun i k d e => by
    obtain ⟨v, e1, q⟩ := r.sl i k d e
    refine ⟨v, e1, Own.mono (Z := Z) (Z' := Z.newO p u) (Same.refl _) (same_new (r.nb h)) (fun a i e n => ?_) q⟩
    have q : a ≠ p := fun z => n (by rw [z]; exact r.nb h)
    show (if a = p then some (0, 0) else Z.o a) = some i
    rw [if_neg q]
    exact e
theorem R.extO (r : R K G env ms σ H Z) {p : Addr} {u : HO} (h : H p = none) : Ext ms Z H (Z.newO p u) (upd H p u) where
  ff := Same.refl _
  bb := same_new (r.nb h)
  keep := fun a o e _ => same_new h _ _ e
  newb := fun a o e n => by
    rcases upd_some e with ⟨rfl, _⟩ | ⟨_, e⟩
    · exact h
    · rw [e] at n
      cases n
  nm := fun a m => (upd_ne (r.nmm h m)).trans (r.bm a m)
  oo := fun a i e _ _ => by
    show (if a = p then some (0, 0) else Z.o a) = some i
    have q : a ≠ p := fun z => by
      rw [z, r.no h] at e
      cases e
    rw [if_neg q]
    exact e
/-- a new list in hand -/
theorem R.topL (r : R K G env ms σ H Z) {p : Addr} {ds : List D} {vs : List V} (h : H p = none) (q : RepL K Z.f ds vs) : Top K (Z.newO p (.lst vs)) (.o 1) (.lst ds) (.ref p) :=
  ⟨p, rfl, if_pos rfl, vs, upd_same, q⟩
theorem R.topT (r : R K G env ms σ H Z) {p : Addr} {ds : List D} {vs : List V} (h : H p = none) (q : RepL K Z.f ds vs) : Top K (Z.newF p (.tup vs)) (.o 0) (.tup ds) (.ref p) :=
  ⟨p, vs, rfl, SqT.of upd_same, RepL.mono (same_new (r.nf h)) _ _ q⟩
end
end DL
namespace DL
open PySem PySem.Spec PyProof.Rows L2

section
variable {K : PySem.W.Frag} {Z Z' : Zs}
theorem Bor1.mono {d : D} {v : V} (hf : Same Z.f Z'.f) (hb : Same Z.b Z'.b) (h : Bor1 K Z d v) : Bor1 K Z' d v := by
  obtain ⟨a, e, h⟩ := h
  cases d with
  | lst ds =>
    obtain ⟨vs, q, r⟩ := h
    exact ⟨a, e, vs, hb _ _ q, RepL.mono hf _ _ r⟩
  | dct ds =>
    obtain ⟨vs, q, r⟩ := h
    exact ⟨a, e, vs, hb _ _ q, RepK.mono hf _ _ r⟩
  | dtt ds =>
    obtain ⟨vs, q, r⟩ := h
    exact ⟨a, e, vs, hb _ _ q, RepT.mono hf _ _ r⟩
  | _ => exact h.elim
theorem Bor.mono {k : Nat} {d : D} {v : V} (hf : Same Z.f Z'.f) (hb : Same Z.b Z'.b) (h : Bor K Z k d v) : Bor K Z' k d v := by
  match k, h with
  | 0, h => exact Rep.mono hb _ _ h
  | 1, h => exact Bor1.mono hf hb h
  | 2, h =>
    obtain ⟨a, e, ds, vs, rfl, q, hl, hr⟩ := h
    exact ⟨a, e, ds, vs, rfl, hb _ _ q, hl, fun j d u e1 e2 => Bor1.mono hf hb (hr j d u e1 e2)⟩
/-- the value as it may be read later on -/
def Seen (K : PySem.W.Frag) (Z : Zs) : Fl → D → V → Prop
  | .o 0, d, v => Rep K Z.f d v
  | .o k, d, v => Bor K Z k d v
  | .b k, d, v => Bor K Z k d v
theorem Top.seen {fl : Fl} {d : D} {v : V} (fb : Same Z.f Z.b) (h : Top K Z fl d v) : Seen K Z fl d v := by
  cases fl with
  | o k =>
    cases k with
    | zero => exact h
    | succ k => exact Own.bor fb h
  | b k => exact h
theorem Seen.mono {fl : Fl} {d : D} {v : V} (hf : Same Z.f Z'.f) (hb : Same Z.b Z'.b) (h : Seen K Z fl d v) : Seen K Z' fl d v := by
  cases fl with
  | o k =>
    cases k with
    | zero => exact Rep.mono hf _ _ h
    | succ k => exact Bor.mono hf hb h
  | b k => exact Bor.mono hf hb h
theorem Seen.rep {fl : Fl} {d : D} {v : V} (fb : Same Z.f Z.b) (h : Seen K Z fl d v) : Rep K Z.b d v := by
  cases fl with
  | o k =>
    cases k with
    | zero => exact Rep.mono fb _ _ h
    | succ k => exact Bor.rep fb h
  | b k => exact Bor.rep fb h
end

abbrev EF := Env → MS → Out
def SE (X : Cx) (G : Gh) (W : WX) (e : Expr) (f : EF) : Prop :=
  ∃ t, PE X e t ∧ ∀ (σ : Sl) (H : Hp) (env : Env) (ms : MS) (Z : Zs) (Q : VK), R X.K G env ms σ H Z → PostE X.K G W env σ ms Z H Q (f env ms) → t σ H Q
section
variable (K : PySem.W.Frag) (G : Gh) (W : WX) (env : Env) (σ : Sl)
def PostB (ms : MS) (Z : Zs) (H : Hp) (Q : Bool → Hp → Prop) : Out → Prop
  | .ok _ (.bl c) ms' => ∀ H' Z', Ext ms Z H Z' H' → R K G env ms' σ H' Z' → Q c H'
  | .ok _ _ _ => False
  | .exc c d ms' => ∀ dx H' Z', Ext ms Z H Z' H' → R K G env ms' σ H' Z' → Rep K Z'.f (.exc (fldOf c) d) (.ref dx) → W (.ref (G.cls c)) (some dx) σ H'
  | .bad => False
end
def ST (X : Cx) (G : Gh) (W : WX) (e : Expr) (f : EF) : Prop :=
  ∃ t, PT X e t ∧ ∀ (σ : Sl) (H : Hp) (env : Env) (ms : MS) (Z : Zs) (Q : Bool → Hp → Prop), R X.K G env ms σ H Z → PostB X.K G W env σ ms Z H Q (f env ms) → t σ H Q
def SW (X : Cx) (G : Gh) (W : WX) (e : Expr) (f : EF) : Prop :=
  ∃ t, PW X e t ∧ ∀ (σ : Sl) (H : Hp) (env : Env) (ms : MS) (Z : Zs) (Q : Bool → Hp → Prop), R X.K G env ms σ H Z → PostB X.K G W env σ ms Z H Q (f env ms) → t σ H Q
/-- argument lists -/
inductive OutL where
  | ok (ds : List D) (ms : MS) | exc (c : String) (d : D) (ms : MS) | bad
section
variable (K : PySem.W.Frag) (G : Gh) (W : WX) (env : Env) (σ : Sl)
def PostL (ms : MS) (Z : Zs) (H : Hp) (Q : List V → Hp → Prop) : OutL → Prop
  | .ok ds ms' => ∀ vs H' Z', Ext ms Z H Z' H' → R K G env ms' σ H' Z' → RepL K Z'.f ds vs → Q vs H'
  | .exc c d ms' => ∀ dx H' Z', Ext ms Z H Z' H' → R K G env ms' σ H' Z' → Rep K Z'.f (.exc (fldOf c) d) (.ref dx) → W (.ref (G.cls c)) (some dx) σ H'
  | .bad => False
end
abbrev EL := Env → MS → OutL
def SA (X : Cx) (G : Gh) (W : WX) (es : List Expr) (f : EL) : Prop :=
  ∃ t, PA X es t ∧ ∀ (σ : Sl) (H : Hp) (env : Env) (ms : MS) (Z : Zs) (Q : List V → Hp → Prop), R X.K G env ms σ H Z → PostL X.K G W env σ ms Z H Q (f env ms) → t σ H Q

section
variable {K : PySem.W.Frag} {G : Gh} {W : WX} {env : Env} {σ : Sl} {ms ms' : MS} {Z Z' : Zs} {H H' : Hp} {Q Q' : VK} {o : Out}
theorem PostB.ext {Q : Bool → Hp → Prop} (hm : ∀ a, mfp ms' a ↔ mfp ms a) (x : Ext ms Z H Z' H') : ∀ {o : Out}, PostB K G W env σ ms Z H Q o → PostB K G W env σ ms' Z' H' Q o
  | .ok fl d m, p => by
    cases d with
    | bl c => exact fun H2 Z2 y r => p H2 Z2 (x.trans hm y) r
    | _ => exact p.elim
  | .exc c d m, p => fun dx H2 Z2 y r t => p dx H2 Z2 (x.trans hm y) r t
  | .bad, p => p
theorem PostL.ext {Q : List V → Hp → Prop} (hm : ∀ a, mfp ms' a ↔ mfp ms a) (x : Ext ms Z H Z' H') : ∀ {o : OutL}, PostL K G W env σ ms Z H Q o → PostL K G W env σ ms' Z' H' Q o
  | .ok d m, p => fun v H2 Z2 y r t => p v H2 Z2 (x.trans hm y) r t
  | .exc c d m, p => fun dx H2 Z2 y r t => p dx H2 Z2 (x.trans hm y) r t
  | .bad, p => p
/-- a test behind a value -/
theorem PostB.bind {k : Fl → D → MS → Out} {Q : Bool → Hp → Prop} (r : R K G env ms σ H Z) (p : PostB K G W env σ ms Z H Q (o.bind k))
    (h : ∀ fl d ms' v H' Z', Ext ms Z H Z' H' → R K G env ms' σ H' Z' → Top K Z' fl d v → PostB K G W env σ ms' Z' H' Q (k fl d ms') → Q' v H') : PostE K G W env σ ms Z H Q' o := by
  cases o with
  | ok fl d m => exact fun v H2 Z2 y r2 t => h fl d m v H2 Z2 y r2 t (PostB.ext (r.aft.mm r2.aft) y p)
  | exc c d m => exact p
  | bad => exact p
theorem PostB.bindR {k : D → MS → Out} {Q : Bool → Hp → Prop} (r : R K G env ms σ H Z) (p : PostB K G W env σ ms Z H Q (o.bindR k))
    (h : ∀ d ms' v H' Z', Ext ms Z H Z' H' → R K G env ms' σ H' Z' → Rep K Z'.b d v → PostB K G W env σ ms' Z' H' Q (k d ms') → Q' v H') : PostE K G W env σ ms Z H Q' o :=
  PostB.bind r p fun fl d ms' v H' Z' x r' t p' => h d ms' v H' Z' x r' (t.rep r'.fb) p'
/-- behind a test -/
theorem PostB.test {k : D → MS → Out} {Q Q' : Bool → Hp → Prop} (r : R K G env ms σ H Z) (p : PostB K G W env σ ms Z H Q (o.bindR k))
    (hn : ∀ d ms, (∀ c, d ≠ .bl c) → k d ms = .bad)
    (h : ∀ c ms' H' Z', Ext ms Z H Z' H' → R K G env ms' σ H' Z' → PostB K G W env σ ms' Z' H' Q (k (.bl c) ms') → Q' c H') : PostB K G W env σ ms Z H Q' o := by
  cases o with
  | ok fl d m =>
    cases d with
    | bl c => exact fun H2 Z2 y r2 => h c m H2 Z2 y r2 (PostB.ext (r.aft.mm r2.aft) y p)
    | _ =>
      have p' : PostB K G W env σ ms Z H Q (k _ m) := p
      rw [hn _ m (fun c z => by cases z)] at p'
      exact p'.elim
  | exc c d m => exact p
  | bad => exact p
theorem PostE.test {k : D → MS → Out} {Q : VK} {Q' : Bool → Hp → Prop} (r : R K G env ms σ H Z) (p : PostE K G W env σ ms Z H Q (o.bindR k))
    (hn : ∀ d ms, (∀ c, d ≠ .bl c) → k d ms = .bad)
    (h : ∀ c ms' H' Z', Ext ms Z H Z' H' → R K G env ms' σ H' Z' → PostE K G W env σ ms' Z' H' Q (k (.bl c) ms') → Q' c H') : PostB K G W env σ ms Z H Q' o := by
  cases o with
  | ok fl d m =>
    cases d with
    | bl c => exact fun H2 Z2 y r2 => h c m H2 Z2 y r2 (PostE.ext (r.aft.mm r2.aft) y p)
    | _ =>
      have p' : PostE K G W env σ ms Z H Q (k _ m) := p
      rw [hn _ m (fun c z => by cases z)] at p'
      exact p'.elim
  | exc c d m => exact p
  | bad => exact p
def OutL.bind (o : OutL) (k : List D → MS → Out) : Out :=
  match o with
  | .ok ds ms => k ds ms
  | .exc c d ms => .exc c d ms
  | .bad => .bad
theorem PostE.args {k : List D → MS → Out} {o : OutL} {Q' : List V → Hp → Prop} (r : R K G env ms σ H Z) (p : PostE K G W env σ ms Z H Q (o.bind k))
    (h : ∀ ds ms' vs H' Z', Ext ms Z H Z' H' → R K G env ms' σ H' Z' → RepL K Z'.f ds vs → PostE K G W env σ ms' Z' H' Q (k ds ms') → Q' vs H') : PostL K G W env σ ms Z H Q' o := by
  cases o with
  | ok d m => exact fun v H2 Z2 y r2 t => h d m v H2 Z2 y r2 t (PostE.ext (r.aft.mm r2.aft) y p)
  | exc c d m => exact p
  | bad => exact p
theorem PostE.fin {fl : Fl} {d : D} {v : V} (r : R K G env ms σ H Z) (p : PostE K G W env σ ms Z H Q (.ok fl d ms)) (t : Top K Z fl d v) : Q v H := p v H Z r.refl r t
theorem PostB.fin {fl : Fl} {c : Bool} {Q : Bool → Hp → Prop} (r : R K G env ms σ H Z) (p : PostB K G W env σ ms Z H Q (.ok fl (.bl c) ms)) : Q c H := p H Z r.refl r
end

section
variable {X : Cx} {G : Gh} {W : WX} {a b c e : Expr} {es : List Expr} {fa fb fc f : EF} {fl : EL} {pos : Pos}

/-! ### names, constants -/
def eVar (i : Nat) : EF := fun env ms => match env[i]? with
  | some (some (0, d)) => .ok (.o 0) d ms
  | some (some (k + 1, d)) => .ok (.b (k + 1)) d ms
  | _ => .bad
theorem se_var (i : Nat) {x : Str} (hN : X.N[i]? = some x := by rfl) (hv : Vis X.env.scope x := by first | exact Or.inl rfl | exact Or.inr (Or.inl rfl) | exact Or.inr (Or.inr rfl)) (hd : (x == ("__debug__" : Str)) = false := by decide)
    (hcd : (x == ("__classdict__" : Str)) = false := by decide) : SE X G W (.Name x pos) (eVar i) := by
  refine ⟨_, pe_var hN hv hd hcd, fun σ H env ms Z Q r p => ?_⟩
  unfold eVar at p
  match h : env[i]?, p with
  | some (some (0, d)), p =>
    simp only [h] at p
    obtain ⟨v, e, q⟩ := r.sl i 0 d h
    exact ⟨v, e, p.fin r q⟩
  | some (some (k + 1, d)), p =>
    simp only [h] at p
    obtain ⟨v, e, q⟩ := r.sl i (k + 1) d h
    exact ⟨v, e, p.fin r (Own.bor r.fb q)⟩
  | some none, p =>
    simp only [h] at p
    exact p.elim
  | none, p =>
    simp only [h] at p
    exact p.elim
def eC (d : D) : EF := fun _ ms => .ok (.o 0) d ms
theorem se_int {i : Int} {j : Nat} : SE X G W (.Constant (.int i) j pos) (eC (.int i)) := ⟨_, pe_int, fun σ H env ms Z Q r p => PostE.fin r p rfl⟩
theorem se_bl {i : Bool} {j : Nat} : SE X G W (.Constant (.bool i) j pos) (eC (.bl i)) := ⟨_, pe_bl, fun σ H env ms Z Q r p => PostE.fin r p rfl⟩
theorem se_non {j : Nat} : SE X G W (.Constant .none j pos) (eC .non) := ⟨_, pe_non, fun σ H env ms Z Q r p => PostE.fin r p rfl⟩
theorem se_str {i : Str} {j : Nat} : SE X G W (.Constant (.str i) j pos) (eC (.str i)) := ⟨_, pe_str, fun σ H env ms Z Q r p => PostE.fin r p rfl⟩
/-- a module's int constant -/
theorem se_glob {x : Str} {i : Int} {t : Tok} (hm : X.mg x = some (.int i t)) (hg : Gl X x := by rfl) (hd : (x == ("__debug__" : Str)) = false := by decide) : SE X G W (.Name x pos) (eC (.int i)) :=
  ⟨_, pe_glob hg hm (v := .int i) ⟨t, rfl⟩ hd, fun σ H env ms Z Q r p => PostE.fin r p rfl⟩

/-! ### two-place operations -/
def eBin (g : D → D → MS → Out) (fa fb : EF) : EF := fun env ms => (fa env ms).bindR fun d1 ms1 => (fb env ms1).bindR fun d2 ms2 => g d1 d2 ms2
def OkR2 (X : Cx) (G : Gh) (W : WX) (r : R2) (g : D → D → MS → Out) : Prop := ∀ (env : Env) (ms : MS) (σ : Sl) (H : Hp) (Z : Zs) (Q : VK) (d1 d2 : D) (x y : V),
  R X.K G env ms σ H Z → Rep X.K Z.b d1 x → Rep X.K Z.b d2 y → PostE X.K G W env σ ms Z H Q (g d1 d2 ms) → r x y H Q
theorem run_bin {r : R2} {g : D → D → MS → Out} {ta tb : TE} {σ : Sl} {H : Hp} {env : Env} {ms : MS} {Z : Zs} {Q : VK} (hg : OkR2 X G W r g)
    (ha : ∀ (σ : Sl) (H : Hp) (env : Env) (ms : MS) (Z : Zs) (Q : VK), R X.K G env ms σ H Z → PostE X.K G W env σ ms Z H Q (fa env ms) → ta σ H Q)
    (hb : ∀ (σ : Sl) (H : Hp) (env : Env) (ms : MS) (Z : Zs) (Q : VK), R X.K G env ms σ H Z → PostE X.K G W env σ ms Z H Q (fb env ms) → tb σ H Q)
    (hr : R X.K G env ms σ H Z) (p : PostE X.K G W env σ ms Z H Q (eBin g fa fb env ms)) : tOp r ta tb σ H Q :=
  ha σ H env ms Z _ hr (PostE.bindR hr p fun d1 ms1 x H1 Z1 x1 r1 q1 p1 =>
    hb σ H1 env ms1 Z1 _ r1 (PostE.bindR r1 p1 fun d2 ms2 y H2 Z2 x2 r2 q2 p2 =>
      hg env ms2 σ H2 Z2 Q d1 d2 x y r2 (Rep.mono x2.bb _ _ q1) q2 p2))
theorem se_op {op : Operator} {r : R2} {g : D → D → MS → Out} (ho : OpR X (binaryOp op) r) (hg : OkR2 X G W r g) (ha : SE X G W a fa) (hb : SE X G W b fb) : SE X G W (.BinOp a op b pos) (eBin g fa fb) := by
  obtain ⟨ta, pa, ha⟩ := ha
  obtain ⟨tb, pb, hb⟩ := hb
  exact ⟨_, pe_op ho pa pb, fun σ H env ms Z Q hr p => run_bin hg ha hb hr p⟩
theorem se_cmp {op : CmpOp} {r : R2} {g : D → D → MS → Out} (ho : OpR X (compareOp op) r) (hg : OkR2 X G W r g) (hm : behindInMarks op b = false) (ha : SE X G W a fa) (hb : SE X G W b fb) : SE X G W (.Compare a [op] [b] pos) (eBin g fa fb) := by
  obtain ⟨ta, pa, ha⟩ := ha
  obtain ⟨tb, pb, hb⟩ := hb
  exact ⟨_, pe_cmpR ho pa pb hm, fun σ H env ms Z Q hr p => run_bin hg ha hb hr p⟩
/-- the values that a test comes to are truths -/
theorem bl_of {K : PySem.W.Frag} {G : Gh} {W : WX} {env : Env} {σ : Sl} {ms : MS} {Z : Zs} {H : Hp} {Q : Bool → Hp → Prop} {o : Out} (p : PostB K G W env σ ms Z H Q o) :
    PostE K G W env σ ms Z H (fun x H' => ∃ k, x = .bl k ∧ Q k H') o := by
  cases o with
  | ok fl d m =>
    cases d with
    | bl c =>
      intro v H2 Z2 y r2 t
      have e : v = .bl c := t.rep r2.fb
      exact ⟨c, e, p H2 Z2 y r2⟩
    | _ => exact p.elim
  | exc c d m => exact p
  | bad => exact p
theorem st_cmp {op : CmpOp} {r : R2} {g : D → D → MS → Out} (ho : OpR X (compareOp op) r) (hg : OkR2 X G W r g) (hm : behindInMarks op b = false) (ha : SE X G W a fa) (hb : SE X G W b fb) : ST X G W (.Compare a [op] [b] pos) (eBin g fa fb) := by
  obtain ⟨ta, pa, ha⟩ := ha
  obtain ⟨tb, pb, hb⟩ := hb
  exact ⟨_, pt_cmpR ho pa pb hm, fun σ H env ms Z Q hr p => run_bin hg ha hb hr (bl_of p)⟩
/-- a op b op' c -/
def eChain (g g' : D → D → MS → Out) (fa fb fc : EF) : EF := fun env ms => (fa env ms).bindR fun d1 ms1 => (fb env ms1).bindR fun d2 ms2 => (g d1 d2 ms2).bindR fun t ms3 => match t with
  | .bl true => (fc env ms3).bindR fun d3 ms4 => g' d2 d3 ms4
  | .bl false => .ok (.o 0) (.bl false) ms3
  | _ => .bad
theorem run_chain {r r' : R2} {g g' : D → D → MS → Out} {ta tb tc : TE} {σ : Sl} {H : Hp} {env : Env} {ms : MS} {Z : Zs} {Q : VK} (hg : OkR2 X G W r g) (hg' : OkR2 X G W r' g')
    (ha : ∀ (σ : Sl) (H : Hp) (env : Env) (ms : MS) (Z : Zs) (Q : VK), R X.K G env ms σ H Z → PostE X.K G W env σ ms Z H Q (fa env ms) → ta σ H Q)
    (hb : ∀ (σ : Sl) (H : Hp) (env : Env) (ms : MS) (Z : Zs) (Q : VK), R X.K G env ms σ H Z → PostE X.K G W env σ ms Z H Q (fb env ms) → tb σ H Q)
    (hc : ∀ (σ : Sl) (H : Hp) (env : Env) (ms : MS) (Z : Zs) (Q : VK), R X.K G env ms σ H Z → PostE X.K G W env σ ms Z H Q (fc env ms) → tc σ H Q)
    (hr : R X.K G env ms σ H Z) (p : PostE X.K G W env σ ms Z H Q (eChain g g' fa fb fc env ms)) : tChain r r' ta tb tc σ H Q :=
  ha σ H env ms Z _ hr (PostE.bindR hr p fun d1 ms1 x H1 Z1 x1 r1 q1 p1 =>
    hb σ H1 env ms1 Z1 _ r1 (PostE.bindR r1 p1 fun d2 ms2 y H2 Z2 x2 r2 q2 p2 =>
      hg env ms2 σ H2 Z2 _ d1 d2 x y r2 (Rep.mono x2.bb _ _ q1) q2 (PostE.bindR r2 p2 fun t ms3 z H3 Z3 x3 r3 q3 p3 => by
        cases t with
        | bl k =>
          refine ⟨k, q3, ?_⟩
          cases k with
          | true =>
            rw [if_pos rfl]
            exact hc σ H3 env ms3 Z3 _ r3 (PostE.bindR r3 p3 fun d3 ms4 w H4 Z4 x4 r4 q4 p4 => hg' env ms4 σ H4 Z4 Q d2 d3 y w r4 (Rep.mono (x3.bb.trans x4.bb) _ _ q2) q4 p4)
          | false =>
            rw [if_neg Bool.false_ne_true]
            exact PostE.fin r3 p3 rfl
        | _ => exact p3.elim)))
theorem se_chain {op op' : CmpOp} {r r' : R2} {g g' : D → D → MS → Out} (ho : OpR X (compareOp op) r) (hg : OkR2 X G W r g) (ho' : OpR X (compareOp op') r') (hg' : OkR2 X G W r' g') (ha : SE X G W a fa) (hb : SE X G W b fb) (hc : SE X G W c fc)
    (hm : lastMarks [op, op'] [b, c] = false := by with_unfolding_all rfl) : SE X G W (.Compare a [op, op'] [b, c] pos) (eChain g g' fa fb fc) := by
  obtain ⟨ta, pa, ha⟩ := ha
  obtain ⟨tb, pb, hb⟩ := hb
  obtain ⟨tc, pc, hc⟩ := hc
  exact ⟨_, pe_chain ho ho' pa pb pc hm, fun σ H env ms Z Q hr p => run_chain hg hg' ha hb hc hr p⟩
theorem st_chain {op op' : CmpOp} {r r' : R2} {g g' : D → D → MS → Out} (ho : OpR X (compareOp op) r) (hg : OkR2 X G W r g) (ho' : OpR X (compareOp op') r') (hg' : OkR2 X G W r' g') (ha : SE X G W a fa) (hb : SE X G W b fb) (hc : SE X G W c fc)
    (hm : lastMarks [op, op'] [b, c] = false := by with_unfolding_all rfl) : ST X G W (.Compare a [op, op'] [b, c] pos) (eChain g g' fa fb fc) := by
  obtain ⟨ta, pa, ha⟩ := ha
  obtain ⟨tb, pb, hb⟩ := hb
  obtain ⟨tc, pc, hc⟩ := hc
  exact ⟨_, pt_chain ho ho' pa pb pc hm, fun σ H env ms Z Q hr p => run_chain hg hg' ha hb hc hr (bl_of p)⟩

/-! ### and, or, not -/
def eNot (f : EF) : EF := fun env ms => (f env ms).bindR fun d ms1 => match d with
  | .bl c => .ok (.o 0) (.bl !c) ms1
  | _ => .bad
def eAnd (fa fb : EF) : EF := fun env ms => (fa env ms).bindR fun d ms1 => match d with
  | .bl true => fb env ms1
  | .bl false => .ok (.o 0) (.bl false) ms1
  | _ => .bad
def eOr (fa fb : EF) : EF := fun env ms => (fa env ms).bindR fun d ms1 => match d with
  | .bl true => .ok (.o 0) (.bl true) ms1
  | .bl false => fb env ms1
  | _ => .bad
theorem st_not (h : ST X G W a fa) : ST X G W (.UnaryOp .Not a pos) (eNot fa) := by
  obtain ⟨t, pt, h⟩ := h
  refine ⟨_, pt_not pt, fun σ H env ms Z Q hr p => h σ H env ms Z _ hr (PostB.test hr p (fun d ms n => ?_) fun c ms' H' Z' x r' p' => p'.fin r')⟩
  cases d with
  | bl c => exact absurd rfl (n c)
  | _ => rfl
theorem sw_and1 (h : ST X G W a fa) : SW X G W (.BoolOp .And [a] pos) fa := by
  obtain ⟨t, pt, h⟩ := h
  exact ⟨_, pw_and1 pt, h⟩
theorem sw_or1 (h : ST X G W a fa) : SW X G W (.BoolOp .Or [a] pos) fa := by
  obtain ⟨t, pt, h⟩ := h
  exact ⟨_, pw_or1 pt, h⟩
theorem sw_and (h : ST X G W a fa) (h' : SW X G W (.BoolOp .And (b :: es) pos) fb) : SW X G W (.BoolOp .And (a :: b :: es) pos) (eAnd fa fb) := by
  obtain ⟨t, pt, h⟩ := h
  obtain ⟨u, pu, h'⟩ := h'
  refine ⟨_, pw_and pt pu, fun σ H env ms Z Q hr p => h σ H env ms Z _ hr (PostB.test hr p (fun d ms n => ?_) fun c ms' H' Z' x r' p' => ?_)⟩
  · cases d with
    | bl c => exact absurd rfl (n c)
    | _ => rfl
  · cases c with
    | true =>
      rw [if_pos rfl]
      exact h' σ H' env ms' Z' Q r' p'
    | false =>
      rw [if_neg Bool.false_ne_true]
      exact p'.fin r'
theorem sw_or (h : ST X G W a fa) (h' : SW X G W (.BoolOp .Or (b :: es) pos) fb) : SW X G W (.BoolOp .Or (a :: b :: es) pos) (eOr fa fb) := by
  obtain ⟨t, pt, h⟩ := h
  obtain ⟨u, pu, h'⟩ := h'
  refine ⟨_, pw_or pt pu, fun σ H env ms Z Q hr p => h σ H env ms Z _ hr (PostB.test hr p (fun d ms n => ?_) fun c ms' H' Z' x r' p' => ?_)⟩
  · cases d with
    | bl c => exact absurd rfl (n c)
    | _ => rfl
  · cases c with
    | true =>
      rw [if_pos rfl]
      exact p'.fin r'
    | false =>
      rw [if_neg Bool.false_ne_true]
      exact h' σ H' env ms' Z' Q r' p'
theorem SW.pt (h : SW X G W e f) : ST X G W e f := by
  obtain ⟨t, pt, h⟩ := h
  exact ⟨t, pt.pt, h⟩
/-- as values: all operands are truths -/
def bl1 (o : Out) : Out := o.bindR fun d ms => match d with
  | .bl c => .ok (.o 0) (.bl c) ms
  | _ => .bad
theorem se_one {op : BoolOp} (h : SE X G W a fa) : SE X G W (.BoolOp op [a] pos) fa := by
  obtain ⟨t, pt, h⟩ := h
  exact ⟨_, pe_one pt, h⟩
theorem PostE.bl {K : PySem.W.Frag} {env : Env} {σ : Sl} {ms : MS} {Z : Zs} {H : Hp} {Q Q' : VK} {o : Out} {k : D → MS → Out} (r : R K G env ms σ H Z) (p : PostE K G W env σ ms Z H Q (o.bindR k))
    (hn : ∀ d ms, (∀ c, d ≠ .bl c) → k d ms = .bad)
    (h : ∀ c ms' H' Z', Ext ms Z H Z' H' → R K G env ms' σ H' Z' → PostE K G W env σ ms' Z' H' Q (k (.bl c) ms') → Q' (.bl c) H') : PostE K G W env σ ms Z H Q' o :=
  PostE.bindR r p fun d ms' v H' Z' x r' q p' => by
    cases d with
    | bl c =>
      have e : v = .bl c := q
      rw [e]
      exact h c ms' H' Z' x r' p'
    | _ =>
      rw [hn _ ms' (fun c z => by cases z)] at p'
      exact p'.elim
theorem se_and (h : SE X G W a fa) (h' : SE X G W (.BoolOp .And (b :: es) pos) fb) : SE X G W (.BoolOp .And (a :: b :: es) pos) (eAnd fa fb) := by
  obtain ⟨t, pt, h⟩ := h
  obtain ⟨u, pu, h'⟩ := h'
  refine ⟨_, pe_and pt pu, fun σ H env ms Z Q hr p => h σ H env ms Z _ hr (PostE.bl hr p (fun d ms n => ?_) fun c ms' H' Z' x r' p' => ⟨c, rfl, ?_⟩)⟩
  · cases d with
    | bl c => exact absurd rfl (n c)
    | _ => rfl
  · cases c with
    | true =>
      rw [if_pos rfl]
      exact h' σ H' env ms' Z' Q r' p'
    | false =>
      rw [if_neg Bool.false_ne_true]
      exact PostE.fin r' p' rfl
theorem se_or (h : SE X G W a fa) (h' : SE X G W (.BoolOp .Or (b :: es) pos) fb) : SE X G W (.BoolOp .Or (a :: b :: es) pos) (eOr fa fb) := by
  obtain ⟨t, pt, h⟩ := h
  obtain ⟨u, pu, h'⟩ := h'
  refine ⟨_, pe_or pt pu, fun σ H env ms Z Q hr p => h σ H env ms Z _ hr (PostE.bl hr p (fun d ms n => ?_) fun c ms' H' Z' x r' p' => ⟨c, rfl, ?_⟩)⟩
  · cases d with
    | bl c => exact absurd rfl (n c)
    | _ => rfl
  · cases c with
    | true =>
      rw [if_pos rfl]
      exact PostE.fin r' p' rfl
    | false =>
      rw [if_neg Bool.false_ne_true]
      exact h' σ H' env ms' Z' Q r' p'
theorem se_not (h : SE X G W a fa) : SE X G W (.UnaryOp .Not a pos) (eNot fa) := by
  obtain ⟨t, pt, h⟩ := h
  refine ⟨_, pe_not pt, fun σ H env ms Z Q hr p => h σ H env ms Z _ hr (PostE.bl hr p (fun d ms n => ?_) fun c ms' H' Z' x r' p' => ⟨c, rfl, PostE.fin r' p' rfl⟩)⟩
  cases d with
  | bl c => exact absurd rfl (n c)
  | _ => rfl
/-- a if t else b -/
def eIf (ft fa fb : EF) : EF := fun env ms => (ft env ms).bindR fun d ms1 => match d with
  | .bl true => fa env ms1
  | .bl false => fb env ms1
  | _ => .bad
theorem se_if {t : Expr} {ft : EF} (h : ST X G W t ft) (ha : SE X G W a fa) (hb : SE X G W b fb) : SE X G W (.IfExp t a b pos) (eIf ft fa fb) := by
  obtain ⟨t, pt, h⟩ := h
  obtain ⟨ta, pa, ha⟩ := ha
  obtain ⟨tb, pb, hb⟩ := hb
  refine ⟨_, pe_ifExp pt pa pb, fun σ H env ms Z Q hr p => h σ H env ms Z _ hr (PostE.test hr p (fun d ms n => ?_) fun c ms' H' Z' x r' p' => ?_)⟩
  · cases d with
    | bl c => exact absurd rfl (n c)
    | _ => rfl
  · cases c with
    | true =>
      rw [if_pos rfl]
      exact ha σ H' env ms' Z' Q r' p'
    | false =>
      rw [if_neg Bool.false_ne_true]
      exact hb σ H' env ms' Z' Q r' p'
/-! ### truth -/
def truD : D → Option Bool
  | .non => some false
  | .bl b => some b
  | .int i => some (i != 0)
  | .str y => if y.length ≤ sizeLine then some ((y.length : Int) != 0) else none
  | .lst ds => some !ds.isEmpty
  | .tup ds => some !ds.isEmpty
  | .dct kvs => some !kvs.isEmpty
  | _ => none
def eTru (f : EF) : EF := fun env ms => (f env ms).bindR fun d ms1 => match truD d with
  | some c => .ok (.o 0) (.bl c) ms1
  | none => .bad
theorem RepL.empty {K : PySem.W.Frag} {H : Hp} {ds : List D} {vs : List V} (h : RepL K H ds vs) : ds.isEmpty = vs.isEmpty := by
  cases ds with
  | nil =>
    have e : vs = [] := h
    rw [e]
    rfl
  | cons d ds =>
    obtain ⟨v, r, rfl, _⟩ := h
    rfl
theorem RepK.empty {K : PySem.W.Frag} {H : Hp} {ds : List (Key × D)} {vs : List (Key × V)} (h : RepK K H ds vs) : ds.isEmpty = vs.isEmpty := by
  cases ds with
  | nil =>
    have e : vs = [] := h
    rw [e]
    rfl
  | cons d ds =>
    obtain ⟨v, r, rfl, _⟩ := h
    rfl
theorem truV_of {K : PySem.W.Frag} {G : Gh} {env : Env} {σ : Sl} {ms : MS} {Z : Zs} {H : Hp} {d : D} {v : V} {c : Bool} (r : R K G env ms σ H Z) (q : Rep K Z.b d v) (h : truD d = some c) : TruV K v H c := by
  cases d with
  | non =>
    have e : v = .non := q
    subst e
    cases h
    exact rfl
  | bl b =>
    have e : v = .bl b := q
    subst e
    cases h
    exact rfl
  | int b =>
    have e : v = .int b := q
    subst e
    cases h
    exact rfl
  | str b =>
    have e : v = .str b := q
    subst e
    have h' : (if b.length ≤ sizeLine then some ((b.length : Int) != 0) else none) = some c := h
    by_cases l : b.length ≤ sizeLine
    · rw [if_pos l] at h'
      cases h'
      exact ⟨l, rfl⟩
    · rw [if_neg l] at h'
      cases h'
  | tup ds =>
    obtain ⟨a, vs, rfl, s, l⟩ := q
    cases h
    exact .inr (.inl ⟨vs, sqT_mono r.bh s, by rw [l.empty]⟩)
  | lst ds =>
    obtain ⟨a, vs, rfl, s, l⟩ := q
    cases h
    exact .inl ⟨vs, SqL.of (r.bh _ _ s), by rw [l.empty]⟩
  | dct ds =>
    obtain ⟨a, vs, rfl, s, l⟩ := q
    cases h
    exact .inr (.inr ⟨vs, r.bh _ _ s, by rw [l.empty]⟩)
  | _ => cases h
theorem st_tru (h : SE X G W a fa) (he : ∀ whole, isTrue a X.env whole = (do let v ← whole; standAt a.pos; holding [v] (truthy v)) := by intro _; rfl) : ST X G W a (eTru fa) := by
  obtain ⟨t, pt, h⟩ := h
  refine ⟨_, pt_truth pt he, fun σ H env ms Z Q hr p => h σ H env ms Z _ hr (PostB.bindR hr p fun d ms' v H' Z' x r' q p' => ?_)⟩
  cases e : truD d with
  | none =>
    rw [e] at p'
    exact p'.elim
  | some c =>
    rw [e] at p'
    exact ⟨c, truV_of r' q e, p'.fin r'⟩
/-! ### argument lists, displays -/
def lNil : EL := fun _ ms => .ok [] ms
def lCons (f : EF) (fl : EL) : EL := fun env ms => match f env ms with
  | .ok (.o _) d ms1 => (match fl env ms1 with
    | .ok ds ms2 => .ok (d :: ds) ms2
    | .exc c d ms2 => .exc c d ms2
    | .bad => .bad)
  | .ok (.b _) _ _ => .bad
  | .exc c d ms1 => .exc c d ms1
  | .bad => .bad
theorem sa_nil : SA X G W [] lNil := ⟨_, pa_nil, fun σ H env ms Z Q r p => p [] H Z r.refl r rfl⟩
theorem sa_cons (h : SE X G W e f) (h' : SA X G W es fl) (hs : starEach (e :: es) X.env = (false, eval e X.env) :: starEach es X.env := by rfl) : SA X G W (e :: es) (lCons f fl) := by
  obtain ⟨t, pt, h⟩ := h
  obtain ⟨u, pu, h'⟩ := h'
  refine ⟨_, pa_cons pt pu hs, fun σ H env ms Z Q hr p => h σ H env ms Z _ hr ?_⟩
  unfold lCons at p
  match e : f env ms, p with
  | .ok (.o k) d ms1, p =>
    intro v H1 Z1 x1 r1 t1
    dsimp only at p
    have x1' := x1.trans (hr.aft.mm r1.aft) r1.ext0
    have t1' := Own.frozen r1.ownf t1
    refine h' σ H1 env ms1 (Z1.freeze 0) _ r1.freeze0 ?_
    cases e2 : fl env ms1 with
    | ok ds ms2 =>
      rw [e2] at p
      intro vs H2 Z2 x2 r2 t2
      exact p (v :: vs) H2 Z2 (x1'.trans (hr.aft.mm r1.aft) x2) r2 ⟨v, vs, rfl, Rep.mono x2.ff _ _ t1', t2⟩
    | exc c d ms2 =>
      rw [e2] at p
      exact PostL.ext (o := .exc c d ms2) (hr.aft.mm r1.aft) x1' p
    | bad =>
      rw [e2] at p
      exact p.elim
  | .ok (.b k) d ms1, p => exact p.elim
  | .exc c d ms1, p => exact p
  | .bad, p => exact p.elim
def eTup (fl : EL) : EF := fun env ms => (fl env ms).bind fun ds ms1 => if ds.length ≤ sizeLine then .ok (.o 0) (.tup ds) ms1 else .bad
def eLst (fl : EL) : EF := fun env ms => (fl env ms).bind fun ds ms1 => if ds.length ≤ sizeLine then .ok (.o 1) (.lst ds) ms1 else .bad
theorem se_tup {x1 : Nat} (h : SA X G W es fl) : SE X G W (.Tuple es x1 pos) (eTup fl) := by
  obtain ⟨t, pt, h⟩ := h
  refine ⟨_, pe_tup pt, fun σ H env ms Z Q hr p => h σ H env ms Z _ hr (PostE.args hr p fun ds ms' vs H' Z' x r' q p' => ?_)⟩
  by_cases l : ds.length ≤ sizeLine
  · rw [if_pos l] at p'
    exact ⟨by rw [q.len]; exact l, fun a na => p' _ _ _ (r'.extF na) (r'.newF na) (r'.topT na q)⟩
  · rw [if_neg l] at p'
    exact p'.elim
theorem se_lst (h : SA X G W es fl) : SE X G W (.List es pos) (eLst fl) := by
  obtain ⟨t, pt, h⟩ := h
  refine ⟨_, pe_lst pt, fun σ H env ms Z Q hr p => h σ H env ms Z _ hr (PostE.args hr p fun ds ms' vs H' Z' x r' q p' => ?_)⟩
  by_cases l : ds.length ≤ sizeLine
  · rw [if_pos l] at p'
    exact ⟨by rw [q.len]; exact l, fun a na => p' _ _ _ (r'.extO na) (r'.newO na) (r'.topL na q)⟩
  · rw [if_neg l] at p'
    exact p'.elim
end
end DL
namespace DL
open PySem PySem.Spec PyProof.Rows L2

section
variable {X : Cx} {G : Gh} {W : WX} {a b c e : Expr} {es : List Expr} {fa fb fc f : EF} {fl : EL} {pos : Pos}
/-! ### two-place operations that look at how a value is had -/
def eBinS (g : Fl → D → Fl → D → MS → Out) (fa fb : EF) : EF := fun env ms => (fa env ms).bind fun l1 d1 ms1 => (fb env ms1).bind fun l2 d2 ms2 => g l1 d1 l2 d2 ms2
def OkS2 (X : Cx) (G : Gh) (W : WX) (r : R2) (g : Fl → D → Fl → D → MS → Out) : Prop := ∀ (env : Env) (ms : MS) (σ : Sl) (H : Hp) (Z : Zs) (Q : VK) (l1 l2 : Fl) (d1 d2 : D) (x y : V),
  R X.K G env ms σ H Z → Seen X.K Z l1 d1 x → Seen X.K Z l2 d2 y → PostE X.K G W env σ ms Z H Q (g l1 d1 l2 d2 ms) → r x y H Q
theorem run_binS {r : R2} {g : Fl → D → Fl → D → MS → Out} {ta tb : TE} {σ : Sl} {H : Hp} {env : Env} {ms : MS} {Z : Zs} {Q : VK} (hg : OkS2 X G W r g)
    (ha : ∀ (σ : Sl) (H : Hp) (env : Env) (ms : MS) (Z : Zs) (Q : VK), R X.K G env ms σ H Z → PostE X.K G W env σ ms Z H Q (fa env ms) → ta σ H Q)
    (hb : ∀ (σ : Sl) (H : Hp) (env : Env) (ms : MS) (Z : Zs) (Q : VK), R X.K G env ms σ H Z → PostE X.K G W env σ ms Z H Q (fb env ms) → tb σ H Q)
    (hr : R X.K G env ms σ H Z) (p : PostE X.K G W env σ ms Z H Q (eBinS g fa fb env ms)) : tOp r ta tb σ H Q :=
  ha σ H env ms Z _ hr (PostE.bind hr p fun l1 d1 ms1 x H1 Z1 x1 r1 q1 p1 =>
    hb σ H1 env ms1 Z1 _ r1 (PostE.bind r1 p1 fun l2 d2 ms2 y H2 Z2 x2 r2 q2 p2 =>
      hg env ms2 σ H2 Z2 Q l1 l2 d1 d2 x y r2 ((q1.seen r1.fb).mono x2.ff x2.bb) (q2.seen r2.fb) p2))
theorem se_opS {op : Operator} {r : R2} {g : Fl → D → Fl → D → MS → Out} (ho : OpR X (binaryOp op) r) (hg : OkS2 X G W r g) (ha : SE X G W a fa) (hb : SE X G W b fb) : SE X G W (.BinOp a op b pos) (eBinS g fa fb) := by
  obtain ⟨ta, pa, ha⟩ := ha
  obtain ⟨tb, pb, hb⟩ := hb
  exact ⟨_, pe_op ho pa pb, fun σ H env ms Z Q hr p => run_binS hg ha hb hr p⟩
theorem se_ixS {r : R2} {g : Fl → D → Fl → D → MS → Out} (ho : IxR X r) (hg : OkS2 X G W r g) (hs : PlainIx b) (ha : SE X G W a fa) (hb : SE X G W b fb) : SE X G W (.Subscript a b pos) (eBinS g fa fb) := by
  obtain ⟨ta, pa, ha⟩ := ha
  obtain ⟨tb, pb, hb⟩ := hb
  exact ⟨_, pe_ix ho pa pb hs, fun σ H env ms Z Q hr p => run_binS hg ha hb hr p⟩
/-- frozen -/
def isFz : Fl → Bool
  | .o 0 => true
  | _ => false
/-- a list whose items are frozen -/
def fzI : Fl → Bool
  | .o 0 => true
  | .o 1 => true
  | .b 1 => true
  | _ => false
theorem Seen.fz {K : PySem.W.Frag} {Z : Zs} {l : Fl} {d : D} {v : V} (h : Seen K Z l d v) (e : isFz l = true) : Rep K Z.f d v := by
  match l, h, e with
  | .o 0, h, _ => exact h
theorem Seen.items {K : PySem.W.Frag} {Z : Zs} {l : Fl} {ds : List D} {v : V} (fb : Same Z.f Z.b) (h : Seen K Z l (.lst ds) v) (e : fzI l = true) : ∃ a vs, v = .ref a ∧ Z.b a = some (.lst vs) ∧ RepL K Z.f ds vs := by
  match l, h, e with
  | .o 0, h, _ =>
    obtain ⟨a, vs, e, q, r⟩ := h
    exact ⟨a, vs, e, fb _ _ q, r⟩
  | .o 1, h, _ =>
    obtain ⟨a, e, vs, q, r⟩ := h
    exact ⟨a, vs, e, q, r⟩
  | .b 1, h, _ =>
    obtain ⟨a, e, vs, q, r⟩ := h
    exact ⟨a, vs, e, q, r⟩
/-! ### + -/
def gAdd : Fl → D → Fl → D → MS → Out := fun l1 d1 l2 d2 ms => match d1, d2 with
  | .int i, .int j => .ok (.o 0) (.int (i + j)) ms
  | .str s, .str t => if s.length + t.length ≤ sizeLine then .ok (.o 0) (.str (s ++ t)) ms else .bad
  | .tup s, .tup t => if (isFz l1 && isFz l2 && decide (s.length + t.length ≤ sizeLine)) = true then .ok (.o 0) (.tup (s ++ t)) ms else .bad
  | .lst s, .lst t => if (fzI l1 && fzI l2 && decide (s.length + t.length ≤ sizeLine)) = true then .ok (.o 1) (.lst (s ++ t)) ms else .bad
  | _, _ => .bad
theorem ok_add : OkS2 X G W (fun x y H Q => rI0 (fun i j => .int (i + j)) x y H Q ∨ (∃ i j, x = .str i ∧ y = .str j ∧ i.length + j.length ≤ sizeLine ∧ Q (.str (i ++ j)) H) ∨ rCatA X.K x y H Q ∨ rCat x y H Q) gAdd := by
  intro env ms σ H Z Q l1 l2 d1 d2 x y r q1 q2 p
  unfold gAdd at p
  split at p
  · exact .inl ⟨_, _, q1.rep r.fb, q2.rep r.fb, PostE.fin r p rfl⟩
  · split at p
    · rename_i h
      exact .inr (.inl ⟨_, _, q1.rep r.fb, q2.rep r.fb, h, PostE.fin r p rfl⟩)
    · exact p.elim
  · rename_i s t
    split at p
    · rename_i h
      rw [Bool.and_eq_true, Bool.and_eq_true] at h
      obtain ⟨a, vs, e1, s1, r1⟩ := q1.fz h.1.1
      obtain ⟨b, us, e2, s2, r2⟩ := q2.fz h.1.2
      have r12 := r1.app r2
      refine .inr (.inr (.inl ⟨a, b, vs, us, e1, e2, sqT_mono (r.fb.trans r.bh) s1, sqT_mono (r.fb.trans r.bh) s2, ?_, fun z => ?_, fun _ z => ?_, fun _ _ c nc => ?_⟩))
      · rw [r1.len, r2.len]
        exact of_decide_eq_true h.2
      · rw [z, List.nil_append] at r12
        exact PostE.fin r p ⟨b, us, rfl, s2, r12⟩
      · rw [z, List.append_nil] at r12
        exact PostE.fin r p ⟨a, vs, rfl, s1, r12⟩
      · exact p _ _ _ (r.extF nc) (r.newF nc) (r.topT nc r12)
    · exact p.elim
  · rename_i s t
    split at p
    · rename_i h
      rw [Bool.and_eq_true, Bool.and_eq_true] at h
      obtain ⟨a, vs, e1, s1, r1⟩ := q1.items r.fb h.1.1
      obtain ⟨b, us, e2, s2, r2⟩ := q2.items r.fb h.1.2
      refine .inr (.inr (.inr ⟨a, b, vs, us, e1, e2, r.bh _ _ s1, r.bh _ _ s2, ?_, fun c nc => p _ _ _ (r.extO nc) (r.newO nc) (r.topL nc (r1.app r2))⟩))
      rw [r1.len, r2.len]
      exact of_decide_eq_true h.2
    · exact p.elim
  · exact p.elim
theorem opr_add : OpR X (binaryOp .Add) (fun x y H Q => rI0 (fun i j => .int (i + j)) x y H Q ∨ (∃ i j, x = .str i ∧ y = .str j ∧ i.length + j.length ≤ sizeLine ∧ Q (.str (i ++ j)) H) ∨ rCatA X.K x y H Q ∨ rCat x y H Q) :=
  op_add.or (op_add_str.or (op_catA.or op_cat))
theorem se_add (ha : SE X G W a fa) (hb : SE X G W b fb) : SE X G W (.BinOp a .Add b pos) (eBinS gAdd fa fb) := se_opS opr_add ok_add ha hb
/-! ### * -/
theorem RepL.rep {K : PySem.W.Frag} {H : Hp} {ds : List D} {vs : List V} (h : RepL K H ds vs) : ∀ n : Nat, RepL K H (List.replicate n ds).flatten (List.replicate n vs).flatten
  | 0 => rfl
  | n + 1 => by
    rw [List.replicate_succ, List.replicate_succ, List.flatten_cons, List.flatten_cons]
    exact h.app (RepL.rep h n)
def mulOk (i j : Int) : Bool := decide (-(2 ^ 64) < i ∧ i < 2 ^ 64) || decide (-(2 ^ 64) < j ∧ j < 2 ^ 64) || decide (i.natAbs.log2 + j.natAbs.log2 < 1000000)
def gMul : Fl → D → Fl → D → MS → Out := fun l1 d1 l2 d2 ms => match d1, d2 with
  | .int i, .int j => if mulOk i j = true then .ok (.o 0) (.int (i * j)) ms else .bad
  | .lst s, .int k => if (fzI l1 && decide (-(2 ^ 63) ≤ k ∧ k < 2 ^ 63) && decide (s.length * k.toNat ≤ sizeLine)) = true then .ok (.o 1) (.lst (List.replicate k.toNat s).flatten) ms else .bad
  | .tup s, .int k => if (isFz l1 && decide (-(2 ^ 63) ≤ k ∧ k ≤ 1000) && decide (s.length ≤ 1000)) = true then .ok (.o 0) (.tup (List.replicate k.toNat s).flatten) ms else .bad
  | _, _ => .bad
theorem opr_mul : OpR X (binaryOp .Mult) (fun x y H Q => rI CMul (fun i j => .int (i * j)) x y H Q ∨ rI CMulW (fun i j => .int (i * j)) x y H Q ∨ rRep x y H Q ∨ rRepT X.K x y H Q ∨ rRepS X.K x y H Q) :=
  op_mul.or (op_mulW.or (op_rep.or (op_repT.or op_repS)))
theorem ok_mul : OkS2 X G W (fun x y H Q => rI CMul (fun i j => .int (i * j)) x y H Q ∨ rI CMulW (fun i j => .int (i * j)) x y H Q ∨ rRep x y H Q ∨ rRepT X.K x y H Q ∨ rRepS X.K x y H Q) gMul := by
  intro env ms σ H Z Q l1 l2 d1 d2 x y r q1 q2 p
  unfold gMul at p
  split at p
  · rename_i i j
    split at p
    · rename_i h
      unfold mulOk at h
      rw [Bool.or_eq_true, Bool.or_eq_true] at h
      rcases h with (h | h) | h
      · exact .inl ⟨_, _, q1.rep r.fb, q2.rep r.fb, .inl (of_decide_eq_true h), PostE.fin r p rfl⟩
      · exact .inl ⟨_, _, q1.rep r.fb, q2.rep r.fb, .inr (of_decide_eq_true h), PostE.fin r p rfl⟩
      · exact .inr (.inl ⟨_, _, q1.rep r.fb, q2.rep r.fb, (show i.natAbs.log2 + j.natAbs.log2 < 1000000 from of_decide_eq_true h), PostE.fin r p rfl⟩)
    · exact p.elim
  · rename_i s k
    split at p
    · rename_i h
      rw [Bool.and_eq_true, Bool.and_eq_true] at h
      obtain ⟨a, vs, e1, s1, r1⟩ := q1.items r.fb h.1.1
      have hk := of_decide_eq_true h.1.2
      refine .inr (.inr (.inl ⟨a, k, vs, e1, q2.rep r.fb, r.bh _ _ s1, hk.1, hk.2, ?_, fun c nc => p _ _ _ (r.extO nc) (r.newO nc) (r.topL nc (r1.rep _))⟩))
      rw [r1.len]
      exact of_decide_eq_true h.2
    · exact p.elim
  · rename_i s k
    split at p
    · rename_i h
      rw [Bool.and_eq_true, Bool.and_eq_true] at h
      have qf := q1.fz h.1.1
      obtain ⟨a, vs, e1, s1, r1⟩ := id qf
      have hk := of_decide_eq_true h.1.2
      have hz := of_decide_eq_true h.2
      have hs := sqT_mono (r.fb.trans r.bh) s1
      by_cases h1 : (vs.isEmpty || k == 1) = true
      · have es : (List.replicate k.toNat s).flatten = s := by
          rw [Bool.or_eq_true] at h1
          rcases h1 with h1 | h1
          · rw [← r1.empty, List.isEmpty_iff] at h1
            rw [h1]
            simp
          · rw [eq_of_beq h1]
            simp
        rw [es] at p
        exact .inr (.inr (.inr (.inr ⟨a, k, vs, e1, q2.rep r.fb, hs, hk.1, by omega, .inl ⟨h1, by
          rw [e1] at qf
          exact PostE.fin r p qf⟩⟩)))
      · have h1' : (vs.isEmpty || k == 1) = false := by simpa using h1
        by_cases h0 : k ≤ 0
        · have es : (List.replicate k.toNat s).flatten = [] := by
            rw [Int.toNat_of_nonpos h0]
            rfl
          rw [es] at p
          exact .inr (.inr (.inr (.inr ⟨a, k, vs, e1, q2.rep r.fb, hs, hk.1, by omega, .inr ⟨h1', h0, fun c nc => p _ _ _ (r.extF nc) (r.newF nc) (r.topT (ds := []) nc rfl)⟩⟩)))
        · rw [Bool.or_eq_false_iff] at h1'
          have hk1 : k ≠ 1 := fun z => by
            rw [z] at h1'
            exact absurd h1'.2 (by decide)
          refine .inr (.inr (.inr (.inl ⟨a, k, vs, e1, q2.rep r.fb, hs, fun z => ?_, by omega, hk.2, ?_, fun c nc => p _ _ _ (r.extF nc) (r.newF nc) (r.topT nc (r1.rep _))⟩)))
          · rw [z] at h1'
            exact absurd h1'.1 (by decide)
          · rw [r1.len]
            exact hz
    · exact p.elim
  · exact p.elim
theorem se_mul (ha : SE X G W a fa) (hb : SE X G W b fb) : SE X G W (.BinOp a .Mult b pos) (eBinS gMul fa fb) := se_opS opr_mul ok_mul ha hb
/-! ### ints alone -/
def gI (C : Int → Int → Bool) (g : Int → Int → D) : D → D → MS → Out := fun d1 d2 ms => match d1, d2 with
  | .int i, .int j => if C i j = true then .ok (.o 0) (g i j) ms else .bad
  | _, _ => .bad
theorem ok_int {C : Int → Int → Bool} {P : Int → Int → Prop} {g : Int → Int → D} {gv : Int → Int → V} (hC : ∀ i j, C i j = true → P i j) (hg : ∀ (K : PySem.W.Frag) (H : Hp) (i j : Int), Rep K H (g i j) (gv i j)) : OkR2 X G W (rI P gv) (gI C g) := by
  intro env ms σ H Z Q d1 d2 x y r q1 q2 p
  unfold gI at p
  split at p
  · split at p
    · rename_i h
      exact ⟨_, _, q1, q2, hC _ _ h, PostE.fin r p (hg _ _ _ _)⟩
    · exact p.elim
  · exact p.elim
theorem ok_int0 {g : Int → Int → D} {gv : Int → Int → V} (hg : ∀ (K : PySem.W.Frag) (H : Hp) (i j : Int), Rep K H (g i j) (gv i j)) : OkR2 X G W (rI0 gv) (gI (fun _ _ => true) g) := by
  intro env ms σ H Z Q d1 d2 x y r q1 q2 p
  unfold gI at p
  split at p
  · split at p
    · exact ⟨_, _, q1, q2, PostE.fin r p (hg _ _ _ _)⟩
    · exact p.elim
  · exact p.elim
abbrev gSub := gI (fun _ _ => true) fun i j => .int (i - j)
theorem se_sub (ha : SE X G W a fa) (hb : SE X G W b fb) : SE X G W (.BinOp a .Sub b pos) (eBin gSub fa fb) := se_op op_sub (ok_int0 fun _ _ _ _ => rfl) ha hb
/-- // by a positive number below 2 ^ 9000, or any other small one -/
def gDiv : D → D → MS → Out := fun d1 d2 ms => match d1, d2 with
  | .int i, .int j => if 0 < j then (if j.natAbs.log2 < 9000 then .ok (.o 0) (.int (i / j)) ms else .bad) else if j ≠ 0 ∧ j.natAbs < 1073741824 then .ok (.o 0) (.int (i.fdiv j)) ms else .bad
  | _, _ => .bad
theorem ok_div : OkR2 X G W (fun x y H Q => rI CDivW (fun i j => .int (i / j)) x y H Q ∨ rI CDivN (fun i j => .int (i.fdiv j)) x y H Q) gDiv := by
  intro env ms σ H Z Q d1 d2 x y r q1 q2 p
  unfold gDiv at p
  split at p
  · split at p
    · rename_i h
      split at p
      · rename_i h'
        exact .inl ⟨_, _, q1, q2, ⟨h, h'⟩, PostE.fin r p rfl⟩
      · exact p.elim
    · split at p
      · rename_i h'
        exact .inr ⟨_, _, q1, q2, h', PostE.fin r p rfl⟩
      · exact p.elim
  · exact p.elim
theorem se_div (ha : SE X G W a fa) (hb : SE X G W b fb) : SE X G W (.BinOp a .FloorDiv b pos) (eBin gDiv fa fb) := se_op (op_fdivW.or op_fdivN) ok_div ha hb
def gMod : D → D → MS → Out := fun d1 d2 ms => match d1, d2 with
  | .int i, .int j => if 0 < j then .ok (.o 0) (.int (i % j)) ms else if j ≠ 0 then .ok (.o 0) (.int (i.fmod j)) ms else .bad
  | _, _ => .bad
theorem ok_mod : OkR2 X G W (fun x y H Q => rI (fun _ j => 0 < j) (fun i j => .int (i % j)) x y H Q ∨ rI (fun _ j => j ≠ 0) (fun i j => .int (i.fmod j)) x y H Q) gMod := by
  intro env ms σ H Z Q d1 d2 x y r q1 q2 p
  unfold gMod at p
  split at p
  · split at p
    · rename_i h
      exact .inl ⟨_, _, q1, q2, h, PostE.fin r p rfl⟩
    · split at p
      · rename_i h'
        exact .inr ⟨_, _, q1, q2, h', PostE.fin r p rfl⟩
      · exact p.elim
  · exact p.elim
theorem se_mod (ha : SE X G W a fa) (hb : SE X G W b fb) : SE X G W (.BinOp a .Mod b pos) (eBin gMod fa fb) := se_op (op_mod.or op_modN) ok_mod ha hb
abbrev gPow := gI (fun i j => decide (0 ≤ j ∧ j ≤ 1000000 ∧ i.natAbs < 2 ^ 64)) fun i j => .int (i ^ j.toNat)
theorem se_pow (ha : SE X G W a fa) (hb : SE X G W b fb) : SE X G W (.BinOp a .Pow b pos) (eBin gPow fa fb) := se_op op_pow (ok_int (fun i j h => (show 0 ≤ j ∧ j ≤ 1000000 ∧ i.natAbs < 2 ^ 64 from of_decide_eq_true h)) fun _ _ _ _ => rfl) ha hb
def eNeg (f : EF) : EF := fun env ms => (f env ms).bindR fun d ms1 => match d with
  | .int i => .ok (.o 0) (.int (-i)) ms1
  | _ => .bad
theorem se_neg (ha : SE X G W a fa) : SE X G W (.UnaryOp .USub a pos) (eNeg fa) := by
  obtain ⟨t, pt, h⟩ := ha
  refine ⟨_, pe_un un_neg pt, fun σ H env ms Z Q hr p => h σ H env ms Z _ hr (PostE.bindR hr p fun d ms' v H' Z' x r' q p' => ?_)⟩
  cases d with
  | int i => exact ⟨i, q, PostE.fin r' p' rfl⟩
  | _ => exact p'.elim
/-! ### order -/
def intsD : List D → Option (List Int)
  | [] => some []
  | .int i :: r => (intsD r).map (i :: ·)
  | _ :: _ => none
theorem intsD_some : ∀ {ds : List D} {ns : List Int}, intsD ds = some ns → ds = ns.map D.int
  | [], ns, h => by
    cases h
    rfl
  | d :: r, ns, h => by
    cases d with
    | int i =>
      have h' : (intsD r).map (i :: ·) = some ns := h
      cases e : intsD r with
      | none =>
        rw [e] at h'
        cases h'
      | some ms =>
        rw [e] at h'
        cases h'
        rw [intsD_some e]
        rfl
    | _ => cases h
def gLt : D → D → MS → Out := fun d1 d2 ms => match d1, d2 with
  | .int i, .int j => .ok (.o 0) (.bl (decide (i < j))) ms
  | .str s, .str t => .ok (.o 0) (.bl (decide (s.cps.toList < t.cps.toList))) ms
  | .tup s, .tup t => (match intsD s, intsD t with
    | some ns, some ks => .ok (.o 0) (.bl (HT.lexLt ns ks)) ms
    | _, _ => .bad)
  | _, _ => .bad
theorem ok_lt : OkR2 X G W (fun x y H Q => rI0 (fun i j => .bl (decide (i < j))) x y H Q ∨ (∃ i j, x = .str i ∧ y = .str j ∧ Q (.bl (decide (i.cps.toList < j.cps.toList))) H) ∨ rLtT X.K x y H Q) gLt := by
  intro env ms σ H Z Q d1 d2 x y r q1 q2 p
  unfold gLt at p
  split at p
  · exact .inl ⟨_, _, q1, q2, PostE.fin r p rfl⟩
  · exact .inr (.inl ⟨_, _, q1, q2, PostE.fin r p rfl⟩)
  · split at p
    · rename_i s t o1 o2 ns ks h1 h2
      obtain ⟨a, vs, e1, s1, r1⟩ := q1
      obtain ⟨b, us, e2, s2, r2⟩ := q2
      rw [intsD_some h1] at r1
      rw [intsD_some h2] at r2
      rw [r1.ofInts] at s1
      rw [r2.ofInts] at s2
      exact .inr (.inr ⟨a, b, ns, ks, e1, e2, sqT_mono r.bh s1, sqT_mono r.bh s2, PostE.fin r p rfl⟩)
    · exact p.elim
  · exact p.elim
theorem opr_lt (hu : X.A.units < cLine) : OpR X (compareOp .Lt) (fun x y H Q => rI0 (fun i j => .bl (decide (i < j))) x y H Q ∨ (∃ i j, x = .str i ∧ y = .str j ∧ Q (.bl (decide (i.cps.toList < j.cps.toList))) H) ∨ rLtT X.K x y H Q) :=
  op_lt.or (op_lt_str.or (op_ltT hu))
abbrev gLe := gI (fun _ _ => true) fun i j => .bl (decide (i ≤ j))
abbrev gGt := gI (fun _ _ => true) fun i j => .bl (decide (j < i))
abbrev gGe := gI (fun _ _ => true) fun i j => .bl (decide (j ≤ i))
theorem ok_le : OkR2 X G W (rI0 fun i j => .bl (decide (i ≤ j))) gLe := ok_int0 fun _ _ _ _ => rfl
theorem ok_gt : OkR2 X G W (rI0 fun i j => .bl (decide (j < i))) gGt := ok_int0 fun _ _ _ _ => rfl
theorem ok_ge : OkR2 X G W (rI0 fun i j => .bl (decide (j ≤ i))) gGe := ok_int0 fun _ _ _ _ => rfl
/-! ### == -/
mutual
def toPy : D → Option PyData
  | .non => some .none
  | .bl b => some (.bool b)
  | .int i => some (.int i)
  | .str s => some (.str s)
  | .tup ds => (toPyL ds).map .tuple
  | .lst ds => (toPyL ds).map .list
  | .dct _ => none
  | .dtt _ => none
  | .raw _ => none
  | .exc _ _ => none
  | .xob _ _ => none
  | .scr _ => none
def toPyL : List D → Option (List PyData)
  | [] => some []
  | d :: ds => match toPy d, toPyL ds with
    | some p, some ps => some (p :: ps)
    | _, _ => none
end
mutual
theorem dp_of {K : PySem.W.Frag} {H : Hp} : ∀ (d : D) (v : V) (p : PyData), Rep K H d v → toPy d = some p → Dp K H v p
  | .non, v, p, h, e => by
    have h' : v = .non := h
    subst h'
    cases e
    exact .non
  | .bl b, v, p, h, e => by
    have h' : v = .bl b := h
    subst h'
    cases e
    exact .bl b
  | .int b, v, p, h, e => by
    have h' : v = .int b := h
    subst h'
    cases e
    exact .int b
  | .str b, v, p, h, e => by
    have h' : v = .str b := h
    subst h'
    cases e
    exact .str b
  | .tup ds, v, p, h, e => by
    obtain ⟨a, vs, rfl, s, r⟩ := h
    have e' : (toPyL ds).map PyData.tuple = some p := e
    cases z : toPyL ds with
    | none =>
      rw [z] at e'
      cases e'
    | some ps =>
      rw [z] at e'
      cases e'
      exact .tup s (dpL_of ds vs ps r z)
  | .lst ds, v, p, h, e => by
    obtain ⟨a, vs, rfl, s, r⟩ := h
    have e' : (toPyL ds).map PyData.list = some p := e
    cases z : toPyL ds with
    | none =>
      rw [z] at e'
      cases e'
    | some ps =>
      rw [z] at e'
      cases e'
      exact .lst (SqL.of s) (dpL_of ds vs ps r z)
  | .dct _, v, p, h, e => by
    cases e
  | .dtt _, v, p, h, e => by
    cases e
  | .raw _, v, p, h, e => by
    cases e
  | .exc _ _, v, p, h, e => by
    cases e
  | .xob _ _, v, p, h, e => by
    cases e
  | .scr _, v, p, h, e => by
    cases e
theorem dpL_of {K : PySem.W.Frag} {H : Hp} : ∀ (ds : List D) (vs : List V) (ps : List PyData), RepL K H ds vs → toPyL ds = some ps → DpAll K H vs ps
  | [], vs, ps, h, e => by
    have h' : vs = [] := h
    subst h'
    cases e
    exact .nil
  | d :: ds, vs, ps, h, e => by
    obtain ⟨v, r, rfl, q, t⟩ := h
    rw [toPyL] at e
    cases z1 : toPy d with
    | none =>
      rw [z1] at e
      cases e
    | some p =>
      cases z2 : toPyL ds with
      | none =>
        rw [z1, z2] at e
        cases e
      | some qs =>
        rw [z1, z2] at e
        cases e
        exact .cons (dp_of d v p q z1) (dpL_of ds r qs t z2)
end
def deq (d1 d2 : D) : Option Bool := match toPy d1, toPy d2 with
  | some p, some q => if (SeqAt.shaped p && SeqAt.shaped q) = true then some (PyData.eqv p q) else none
  | _, _ => none
def gEq : D → D → MS → Out := fun d1 d2 ms => match deq d1 d2 with
  | some b => .ok (.o 0) (.bl b) ms
  | none => .bad
def gNe : D → D → MS → Out := fun d1 d2 ms => match deq d1 d2 with
  | some b => .ok (.o 0) (.bl !b) ms
  | none => .bad
theorem deq_some {K : PySem.W.Frag} {H : Hp} {d1 d2 : D} {x y : V} {b : Bool} (q1 : Rep K H d1 x) (q2 : Rep K H d2 y) (h : deq d1 d2 = some b) : ∃ d e, Dp K H x d ∧ Dp K H y e ∧ SeqAt.shaped d = true ∧ SeqAt.shaped e = true ∧ b = PyData.eqv d e := by
  unfold deq at h
  split at h
  · rename_i p q h1 h2
    split at h
    · rename_i s
      rw [Bool.and_eq_true] at s
      cases h
      exact ⟨p, q, dp_of _ _ _ q1 h1, dp_of _ _ _ q2 h2, s.1, s.2, rfl⟩
    · cases h
  · cases h
theorem ok_eq : OkR2 X G W (rEqD X.K) gEq := by
  intro env ms σ H Z Q d1 d2 x y r q1 q2 p
  unfold gEq at p
  cases e : deq d1 d2 with
  | none =>
    rw [e] at p
    exact p.elim
  | some b =>
    rw [e] at p
    obtain ⟨d, e', a1, a2, a3, a4, rfl⟩ := deq_some (Rep.mono r.bh _ _ q1) (Rep.mono r.bh _ _ q2) e
    exact ⟨d, e', a1, a2, a3, a4, PostE.fin r p rfl⟩
theorem ok_ne : OkR2 X G W (rNeD X.K) gNe := by
  intro env ms σ H Z Q d1 d2 x y r q1 q2 p
  unfold gNe at p
  cases e : deq d1 d2 with
  | none =>
    rw [e] at p
    exact p.elim
  | some b =>
    rw [e] at p
    obtain ⟨d, e', a1, a2, a3, a4, rfl⟩ := deq_some (Rep.mono r.bh _ _ q1) (Rep.mono r.bh _ _ q2) e
    exact ⟨d, e', a1, a2, a3, a4, PostE.fin r p rfl⟩
/-! ### is None -/
def isNonD : D → Option Bool
  | .non => some true
  | .raw _ => none
  | _ => some false
def gIsN : D → D → MS → Out := fun d1 d2 ms => match d2, isNonD d1 with
  | .non, some b => .ok (.o 0) (.bl b) ms
  | _, _ => .bad
def gNotN : D → D → MS → Out := fun d1 d2 ms => match d2, isNonD d1 with
  | .non, some b => .ok (.o 0) (.bl !b) ms
  | _, _ => .bad
theorem isNon_of {K : PySem.W.Frag} {H : Hp} {d : D} {x : V} {b : Bool} (q : Rep K H d x) (h : isNonD d = some b) : decide (x = .non) = b := by
  cases d with
  | non =>
    have q' : x = .non := q
    cases h
    rw [q']
    rfl
  | raw v => cases h
  | bl c =>
    have q' : x = .bl c := q
    cases h
    rw [q']
    rfl
  | int c =>
    have q' : x = .int c := q
    cases h
    rw [q']
    rfl
  | str c =>
    have q' : x = .str c := q
    cases h
    rw [q']
    rfl
  | tup _ =>
    obtain ⟨a, _, q', _⟩ := q
    cases h
    rw [q']
    rfl
  | lst _ =>
    obtain ⟨a, _, q', _⟩ := q
    cases h
    rw [q']
    rfl
  | dct _ =>
    obtain ⟨a, _, q', _⟩ := q
    cases h
    rw [q']
    rfl
  | dtt _ =>
    obtain ⟨a, _, q', _⟩ := q
    cases h
    rw [q']
    rfl
  | exc _ _ =>
    obtain ⟨a, _, q', _⟩ := q
    cases h
    rw [q']
    rfl
  | xob _ _ =>
    obtain ⟨a, _, _, _, q', _⟩ := q
    cases h
    rw [q']
    rfl
  | scr _ =>
    obtain ⟨a, q', _⟩ := q
    cases h
    rw [q']
    rfl
theorem ok_isN : OkR2 X G W (fun x y H Q => y = .non ∧ Q (.bl (decide (x = .non))) H) gIsN := by
  intro env ms σ H Z Q d1 d2 x y r q1 q2 p
  unfold gIsN at p
  split at p
  · rename_i b h
    exact ⟨q2, by rw [isNon_of q1 h]; exact PostE.fin r p rfl⟩
  · exact p.elim
theorem ok_notN : OkR2 X G W (fun x y H Q => y = .non ∧ Q (.bl (!decide (x = .non))) H) gNotN := by
  intro env ms σ H Z Q d1 d2 x y r q1 q2 p
  unfold gNotN at p
  split at p
  · rename_i b h
    exact ⟨q2, by rw [isNon_of q1 h]; exact PostE.fin r p rfl⟩
  · exact p.elim
/-! ### items -/
def ixFl : Fl → Fl
  | .o 0 => .o 0
  | .o 1 => .o 0
  | .b 1 => .o 0
  | .o 2 => .b 1
  | .b 2 => .b 1
  | _ => .b 0
def gIx : Fl → D → Fl → D → MS → Out := fun l1 d1 _ d2 ms => match d1, d2 with
  | .tup ds, .int i => (match atI ds i with
    | some d => .ok (if isFz l1 = true then .o 0 else .b 0) d ms
    | none => .bad)
  | .lst ds, .int i => (match atI ds i with
    | some d => .ok (ixFl l1) d ms
    | none => .bad)
  | .str z, .int i => if z.length ≤ sizeLine then (match atI z.cps.toList i with
    | some c => .ok (.o 0) (.str ⟨#[c]⟩) ms
    | none => .bad) else .bad
  | _, _ => .bad
theorem RepL.atI {K : PySem.W.Frag} {H : Hp} {ds : List D} {vs : List V} {i : Int} {d : D} (h : RepL K H ds vs) (e : L2.atI ds i = some d) : ∃ v, L2.atI vs i = some v ∧ Rep K H d v := by
  unfold L2.atI at e ⊢
  rw [h.len]
  cases z : ixN ds.length i with
  | none =>
    rw [z] at e
    cases e
  | some j =>
    rw [z] at e
    exact h.at e
theorem atI_at {α : Type} {xs : List α} {i : Int} {v : α} (h : L2.atI xs i = some v) : ∃ j, ixN xs.length i = some j ∧ xs[j]? = some v := by
  unfold L2.atI at h
  cases z : ixN xs.length i with
  | none =>
    rw [z] at h
    cases h
  | some j =>
    rw [z] at h
    exact ⟨j, rfl, h⟩
theorem ok_ix : OkS2 X G W (rIx X.K) gIx := by
  intro env ms σ H Z Q l1 l2 d1 d2 x y r q1 q2 p
  unfold gIx at p
  split at p
  · rename_i ds i
    cases e : atI ds i with
    | none =>
      rw [e] at p
      exact p.elim
    | some d =>
      rw [e] at p
      dsimp only at p
      by_cases z : isFz l1 = true
      · rw [if_pos z] at p
        obtain ⟨a, vs, e1, s1, r1⟩ := q1.fz z
        obtain ⟨v, hv, q⟩ := r1.atI e
        exact .inr (.inl ⟨a, vs, i, v, e1, q2.rep r.fb, sqT_mono (r.fb.trans r.bh) s1, hv, PostE.fin r p q⟩)
      · rw [if_neg z] at p
        obtain ⟨a, vs, e1, s1, r1⟩ := q1.rep r.fb
        obtain ⟨v, hv, q⟩ := r1.atI e
        exact .inr (.inl ⟨a, vs, i, v, e1, q2.rep r.fb, sqT_mono r.bh s1, hv, PostE.fin r p q⟩)
  · rename_i ds i
    cases e : atI ds i with
    | none =>
      rw [e] at p
      exact p.elim
    | some d =>
      rw [e] at p
      dsimp only at p
      have fz : fzI l1 = true → ixFl l1 = .o 0 → rIx X.K x y H Q := fun z w => by
        rw [w] at p
        obtain ⟨a, vs, e1, s1, r1⟩ := q1.items r.fb z
        obtain ⟨v, hv, q⟩ := r1.atI e
        exact .inl ⟨a, vs, i, v, e1, q2.rep r.fb, SqL.of (r.bh _ _ s1), hv, PostE.fin r p q⟩
      have bo : ixFl l1 = .b 0 → rIx X.K x y H Q := fun w => by
        rw [w] at p
        obtain ⟨a, vs, e1, s1, r1⟩ := q1.rep r.fb
        obtain ⟨v, hv, q⟩ := r1.atI e
        exact .inl ⟨a, vs, i, v, e1, q2.rep r.fb, SqL.of (r.bh _ _ s1), hv, PostE.fin r p q⟩
      have b2 : Bor X.K Z 2 (.lst ds) x → ixFl l1 = .b 1 → rIx X.K x y H Q := fun h w => by
        rw [w] at p
        obtain ⟨a, e1, es, vs, e3, s1, hl, hr⟩ := h
        cases e3
        obtain ⟨j, hj, hd⟩ := atI_at e
        have hj2 : j < vs.length := by
          rw [hl]
          rcases Nat.lt_or_ge j ds.length with z | z
          · exact z
          · rw [List.getElem?_eq_none z] at hd
            cases hd
        have hv : vs[j]? = some vs[j] := List.getElem?_eq_getElem hj2
        refine .inl ⟨a, vs, i, vs[j], e1, q2.rep r.fb, SqL.of (r.bh _ _ s1), ?_, PostE.fin r p (hr j d _ hd hv)⟩
        unfold L2.atI
        rw [hl, hj]
        exact hv
      match l1, q1 with
      | .o 0, q1 => exact fz rfl rfl
      | .o 1, q1 => exact fz rfl rfl
      | .b 1, q1 => exact fz rfl rfl
      | .o 2, q1 => exact b2 q1 rfl
      | .b 2, q1 => exact b2 q1 rfl
      | .o (n + 3), q1 => exact bo rfl
      | .b 0, q1 => exact bo rfl
      | .b (n + 3), q1 => exact bo rfl
  · rename_i z i
    split at p
    · rename_i l
      cases e : atI z.cps.toList i with
      | none =>
        rw [e] at p
        exact p.elim
      | some c =>
        rw [e] at p
        exact .inr (.inr ⟨z, i, c, q1.rep r.fb, q2.rep r.fb, l, e, PostE.fin r p rfl⟩)
    · exact p.elim
  · exact p.elim
theorem se_ix (ha : SE X G W a fa) (hb : SE X G W b fb) (hs : PlainIx b := by exact fun _ _ => rfl) : SE X G W (.Subscript a b pos) (eBinS gIx fa fb) := se_ixS ix_seq ok_ix hs ha hb
end
end DL
namespace DL
open PySem PySem.Spec PyProof.Rows L2

/-! ### enumerate(t), t a tuple -/
theorem enumNewB {v : Value} {o : Obj} {Hq : Heap → Prop} (B : Begins v o Hq) :
    Meets (Builtin.«enumerate.__new__» ⟨[.type "enumerate", v], []⟩) (fun _ rr st => Hq st.heap ∧
      rr (.ok (.ret (.ref (st.heap.push o).objs.size))) { st with heap := (st.heap.push o).push { cls := .type "enumerate", data := .fields #[.none, .bool false, .ref st.heap.objs.size, rawInt 0, .none, .none] } }) :=
  .of_wp fun prog w A rr st hh => by
    obtain ⟨hp, g, d, tk, os⟩ := st
    obtain ⟨b1, hh⟩ := hh
    have hsub := sub_enumerate
    have nx : ∀ {A' : Around} {E : Value → Shared → Prop} {Q : Value → Shared → Prop}, Q (.ref hp.objs.size) ⟨hp.push o, g, d, tk, os⟩ → wpAny (model prog w) A' (pyIter v) Q E ⟨hp, g, d, tk, os⟩ :=
      fun q => B.iter prog w _ _ ⟨hp, g, d, tk, os⟩ _ b1 q
    wp_walk
    refine wpAny_stack_any fun zz => wpAny_pure ?_
    split
    · rename_i cl _ _ _ _ _
      cases (cl == Value.type "enumerate")
      · wp_walk using nx
        exact ⟨_, rfl, hh⟩
      · wp_walk using nx
        exact ⟨_, rfl, hh⟩
    · wp_walk using nx
      exact ⟨_, rfl, hh⟩
theorem enumCallB {prog : Program} {w : World} {A : Around} {E : Value → Shared → Prop} {s : Shared} {v : Value} {o : Obj} {Hq : Heap → Prop} {Q : Value → Shared → Prop} (B : Begins v o Hq) (b1 : Hq s.heap)
    (fin : ∀ h', IsEnum h' (s.heap.objs.size + 1) s.heap.objs.size 0 .none → h'.get? s.heap.objs.size = some o → h'.objs.size = s.heap.objs.size + 2 →
      (∀ b u, s.heap.get? b = some u → h'.get? b = some u) → Q (.ref (s.heap.objs.size + 1)) { s with heap := h' }) :
    wpAny (model prog w) A (call (.type "enumerate") [v]) Q E s := by
  refine callType_new F.called_enumerate (by decide) (F.typeCall_enumerate_1 _) (F.newCall_enumerate_1 _) (fun obj => F.args_object_init_2 obj _) F.entry_enumerate_new (enumNewB B) ⟨b1, ?_⟩
  have sz : (s.heap.push o).objs.size = s.heap.objs.size + 1 := Heap.size_push ..
  show _ ∧ _
  rw [sz]
  have ee : IsEnum ((s.heap.push o).push { cls := .type "enumerate", data := .fields #[.none, .bool false, .ref s.heap.objs.size, rawInt 0, .none, .none] }) (s.heap.objs.size + 1) s.heap.objs.size 0 .none := by
    have z := Heap.get?_push_size (s.heap.push o) (o := { cls := .type "enumerate", data := .fields #[.none, .bool false, .ref s.heap.objs.size, rawInt 0, .none, .none] }) rfl
    rw [sz] at z
    exact z
  exact ⟨⟨_, ee, rfl⟩, fin _ ee (Heap.get?_push_of_some _ (Heap.get?_push_size _ B.free)) (by rw [Heap.size_push, sz]) fun b u x => Heap.get?_push_of_some _ (Heap.get?_push_of_some _ x)⟩

def IteT (K : PySem.W.Frag) (a : Addr) (n : Nat) : It :=
  ⟨fun i H => ∃ (xs : List V) (x : V), SqT K H a xs ∧ xs.length = n ∧ xs[i]? = some x, fun i H v H' => ∃ T x, v = .ref T ∧ H T = none ∧ H' = upd H T (.tup [.int (i : Nat), x]) ∧ ∀ xs, SqT K H a xs → xs[i]? = some x,
    fun i H => ∃ xs : List V, SqT K H a xs ∧ xs.length = n ∧ n ≤ i⟩
theorem turn_enumT {P : Program} {w : World} {K : PySem.W.Frag} {elts : List Expr} {kk : Nat} {tpos : Pos} (a e it : Addr) (n : Nat) :
    Turn P w K (.Tuple elts kk tpos) (IteT K a n) [e, it] e (fun i h => (∃ old, IsEnum h e it ((i : Nat) : Int) old) ∧ h.IsTupleIter it a i ∧ e ≠ it ∧ a ≠ it ∧ a ≠ e ∧ i ≤ n) where
  mem := by simp
  obj := fun i h st b hb => by
    obtain ⟨⟨old, he⟩, ⟨o, ho, hc, hd⟩, _⟩ := st
    have z : b = e ∨ b = it := by simpa using hb
    rcases z with z | z
    · rw [z]
      exact ⟨_, he, fun v q => nomatch q⟩
    · rw [z]
      exact ⟨o, ho, fun v q => by rw [hd] at q; cases q⟩
  keep := fun i h h' st k => by
    obtain ⟨⟨old, he⟩, hi, n1, n2, n3, n4⟩ := st
    exact ⟨⟨old, k e (by simp) _ he⟩, hi.at fun o q => k it (by simp) o q, n1, n2, n3, n4⟩
  item := by
    intro X hP hw hK hc i pins s σ H E I hf st hg
    subst hP hw hK
    obtain ⟨⟨old, he⟩, hit, n1, n2, n3, n4⟩ := st
    obtain ⟨xs, x, hq, hn, hx⟩ := hg
    obtain ⟨its, rv, p, hz⟩ := I.tuple hq
    obtain ⟨u, hu, ru⟩ := rv.get hx
    have pt : s.heap.IsTuple a its.toArray := p
    have hel : e < s.heap.objs.size := Heap.lt_size he
    have hil : it < s.heap.objs.size := by
      obtain ⟨_, q, _⟩ := hit
      exact Heap.lt_size q
    have hlt : i < its.toArray.size := by
      rcases Nat.lt_or_ge i its.length with z | z
      · simpa using z
      · rw [List.getElem?_eq_none z] at hu
        cases hu
    refine wpAny_pyNext_enum_itemC (Draws.tuple (by exact I.ok.hd hc) it a n2 its.toArray) he ⟨hit, pt⟩ hlt n1 (by simp; exact ⟨n1, n3.symm⟩) fun y h' tk hy ho hst hT hsz hk => ?_
    have ey : y = u := by
      have h1 : its[i]? = some y := by simpa using hy
      rw [hu] at h1
      cases h1
      rfl
    subst ey
    refine ⟨_, rfl, wpAny_letOwnedTupleGo_enum (s := { s with heap := h', toks := tk + 1 }) ho fun h'' he' sb => ?_⟩
    have hT2 : h''.get? s.heap.objs.size = some { cls := .type "tuple", data := .seq #[.int i tk, y] } := (sb.2 _ (Nat.ne_of_gt hel)).trans hT
    have new : ObjOk X.prog X.w (upd H s.heap.objs.size (.tup [.int (i : Nat), x])) h'' s.heap.objs.size (.tup [.int (i : Nat), x]) :=
      ⟨by show 2 ≤ sizeLine; decide, [.int i tk, y], .cons ⟨_, rfl⟩ (.cons ru .nil), ⟨_, hT2, rfl, _, rfl⟩⟩
    have I1 : Inv X pins σ (upd H s.heap.objs.size (.tup [.int (i : Nat), x])) { s with heap := h'', toks := tk + 1 } :=
      I.turnedNew (ch := [e, it]) (fun b ob hb q => (sb.2 b (fun z => hb (by simp [z]))).trans (hk b ob (fun z => hb (by simp [z])) (fun z => hb (by simp [z])) q)) hf (Nat.le_refl _) new
    refine ⟨.ref s.heap.objs.size, _, I1, rfl, ⟨_, x, rfl, I.hok.fresh (Nat.le_refl _), rfl, fun ys hy => by rw [I.tuple_inj hy hq]; exact hx⟩, ⟨⟨y, ?_⟩, hst.1.at fun o q => (sb.2 it (Ne.symm n1)).trans q, n1, n2, n3, by have := rv.length; simp at hlt; omega⟩, fun b hb => ?_⟩
    · have e1 : ((i + 1 : Nat) : Int) = (i : Int) + 1 := by omega
      rw [e1]
      exact he'
    · have hb' : b < s.heap.objs.size := by
        have z : b = e ∨ b = it := by simpa using hb
        rcases z with z | z
        · rw [z]
          exact hel
        · rw [z]
          exact hil
      rw [upd_ne (Nat.ne_of_lt hb')]
      exact (hf b hb).1
  done := by
    intro X hP hw hK hc i pins s σ H E I hf st hg
    subst hP hw hK
    obtain ⟨⟨old, he⟩, hit, n1, n2, n3, n4⟩ := st
    obtain ⟨xs, hq, hn, hx⟩ := hg
    obtain ⟨its, rv, p, hz⟩ := I.tuple hq
    have pt : s.heap.IsTuple a its.toArray := p
    obtain ⟨f0, f1, f2, f3, f4, f5⟩ := hf it (by simp)
    have hl := rv.length
    have ei : i = its.toArray.size := by
      simp
      omega
    subst ei
    exact wpAny_pyNext_enum_endD (Draws.tuple (by exact I.ok.hd hc) it a n2 its.toArray) he ⟨hit, pt⟩ fun h' eb => ⟨rfl, I.turned (t' := s.toks) (fun b o hb q => eb b o hb q) f0 f1 f3 f4 f5⟩
  self := fun A i s Q E st h => by
    obtain ⟨⟨_, he⟩, _⟩ := st
    exact wpAny_pyIter_enum he h
def iEnumA (K : PySem.W.Frag) (ta : TA) : TI := fun σ H Rk => ta σ H fun vs H1 => ∃ a, vs = [.ref a] ∧ ((∃ xs, SqL K H1 a xs ∧ Rk (Ite K a) H1) ∨ (∃ xs, SqT K H1 a xs ∧ Rk (IteT K a xs.length) H1))
theorem pi_enumA {X : Cx} {e : Expr} {ta : TA} {p pos tpos : Pos} {elts : List Expr} {kk : Nat} (hg : Gl X "enumerate") (hm : X.mg "enumerate" = none) (ha : PA X [e] ta) (hs : starEach [e] X.env = [(false, eval e X.env)] := by rfl) :
    PI X (.Tuple elts kk tpos) (.Call (.Name "enumerate" p) [e] [] pos) (iEnumA X.K ta) := by
  refine ⟨fun pins s σ H Rk I h => ?_⟩
  refine Call_ (ld_blt I hg hm boot_enumerate (PyProof.Rows.callWith_type1 (thn (ha.run pos pins s σ H _ I h) fun us s1 ⟨vs, H1, I1, r1, q1⟩ => ?_) hs rfl))
  obtain ⟨a, ex, q1⟩ := q1
  subst ex
  have eu : us = [Value.ref a] := Vals.ref1 r1
  subst eu
  have fp : ∀ b ∈ [s1.heap.objs.size + 1, s1.heap.objs.size], FpOk X pins H1 b := fun b hb => by
    have z : b = s1.heap.objs.size + 1 ∨ b = s1.heap.objs.size := by simpa using hb
    have hle : s1.heap.objs.size ≤ b := by
      rcases z with z | z
      · rw [z]
        exact Nat.le_add_right _ _
      · rw [z]
        exact Nat.le_refl _
    exact I1.fpOk hle (I1.hok.fresh hle)
  rcases q1 with ⟨xs, hq, q⟩ | ⟨xs, hq, q⟩
  · obtain ⟨its, rv, p', hz⟩ := I1.list hq
    refine call_enumerate_list p'.isList fun h' he hit hsz hk => wpAny_pyIter_enum he ?_
    exact ⟨s1.heap.objs.size + 1, [s1.heap.objs.size + 1, s1.heap.objs.size], _, _, H1, rfl, I1.kept (t' := s1.toks) hk, turn_enum a (s1.heap.objs.size + 1) s1.heap.objs.size, ⟨⟨.none, he⟩, hit, Nat.succ_ne_self _⟩, fp, q⟩
  · obtain ⟨its, rv, p', hz⟩ := I1.tuple hq
    have pt : s1.heap.IsTuple a its.toArray := p'
    refine enumCallB (begins_tuple a its.toArray) pt fun h' he hit hsz hk => wpAny_pyIter_enum he ?_
    have hal : a < s1.heap.objs.size := by
      obtain ⟨o, q, _⟩ := pt
      exact Heap.lt_size q
    exact ⟨s1.heap.objs.size + 1, [s1.heap.objs.size + 1, s1.heap.objs.size], _, _, H1, rfl, I1.kept (t' := s1.toks) hk, turn_enumT a (s1.heap.objs.size + 1) s1.heap.objs.size xs.length,
      ⟨⟨.none, he⟩, ⟨_, hit, rfl, rfl⟩, Nat.succ_ne_self _, Nat.ne_of_lt hal, Nat.ne_of_lt (Nat.lt_succ_of_lt hal), Nat.zero_le _⟩, fp, q⟩
/-! ### a list or a tuple -/
def iSeq (K : PySem.W.Frag) (tl : TE) : TI := fun σ H Rk => tl σ H fun x H1 => ∃ a, x = .ref a ∧ ((∃ xs, SqL K H1 a xs ∧ Rk (Itl K a) H1) ∨ (∃ xs, SqT K H1 a xs ∧ Rk (Itt K a) H1))
theorem pi_seq {X : Cx} {tg l : Expr} {tl : TE} (hl : PE X l tl) : PI X tg l (iSeq X.K tl) := by
  refine ⟨fun pins s σ H Rk I h => ?_⟩
  refine thn (hl.run pins s σ H _ I h) fun v s1 ⟨x, H1, I1, r1, q1⟩ => ?_
  obtain ⟨a, e, q1⟩ := q1
  subst e
  cases r1
  have fp : ∀ b ∈ [s1.heap.objs.size], FpOk X pins H1 b := fun b hb => by
    have z : b = s1.heap.objs.size := by simpa using hb
    rw [z]
    exact I1.fpOk (Nat.le_refl _) (I1.hok.fresh (Nat.le_refl _))
  rcases q1 with ⟨xs, hq, q⟩ | ⟨xs, hq, q⟩
  · obtain ⟨its, rv, p, hz⟩ := I1.list hq
    exact wpAny_pyIter_list p.isList ⟨s1.heap.objs.size, [s1.heap.objs.size], _, _, H1, rfl, I1.kept (t' := s1.toks) fun b o e => Heap.get?_push_of_some _ e, turn_list a _, ⟨_, Heap.get?_push_size _ rfl, rfl, rfl⟩, fp, q⟩
  · obtain ⟨its, rv, p, hz⟩ := I1.tuple hq
    exact wpAny_pyIter_tuple (show s1.heap.IsTuple a its.toArray from p) ⟨s1.heap.objs.size, [s1.heap.objs.size], _, _, H1, rfl, I1.kept (t' := s1.toks) fun b o e => Heap.get?_push_of_some _ e, turn_tuple a _, ⟨_, Heap.get?_push_size _ rfl, rfl, rfl⟩, fp, q⟩
end DL
namespace DL
open PySem PySem.Spec PyProof.Rows L2

/-! ### readings in one form -/
def tE (K : PySem.W.Frag) (G : Gh) (W : WX) (f : EF) : TE := fun σ H Q => ∃ env ms Z, R K G env ms σ H Z ∧ PostE K G W env σ ms Z H Q (f env ms)
def tT (K : PySem.W.Frag) (G : Gh) (W : WX) (f : EF) : TT := fun σ H Q => ∃ env ms Z, R K G env ms σ H Z ∧ PostB K G W env σ ms Z H Q (f env ms)
theorem SE.can {X : Cx} {G : Gh} {W : WX} {e : Expr} {f : EF} (h : SE X G W e f) : PE X e (tE X.K G W f) := by
  obtain ⟨t, pt, h⟩ := h
  exact ⟨fun pins s σ H Q I ⟨env, ms, Z, r, p⟩ => pt.run pins s σ H Q I (h σ H env ms Z Q r p)⟩
theorem ST.can {X : Cx} {G : Gh} {W : WX} {e : Expr} {f : EF} (h : ST X G W e f) : PT X e (tT X.K G W f) := by
  obtain ⟨t, pt, h⟩ := h
  exact ⟨fun pins s σ H Q I ⟨env, ms, Z, r, p⟩ => pt.run pins s σ H Q I (h σ H env ms Z Q r p)⟩

/-! ### slots -/
theorem wipe_at (σ : Sl) : ∀ (vs : List Nat) (j : Nat), (wipe σ vs)[j]? = if j ∈ vs ∧ j < σ.length then some none else σ[j]?
  | [], j => by simp [wipe]
  | v :: vs, j => by
    show ((wipe σ vs).set v none)[j]? = _
    rw [List.getElem?_set, wipe_at σ vs j, wipe_length]
    by_cases h : v = j
    · subst h
      by_cases l : v < σ.length
      · simp [l]
      · simp only [l, if_true, if_false, and_false]
        rw [List.getElem?_eq_none (by omega)]
    · have h' : ¬ j = v := fun z => h z.symm
      simp [h, h']
theorem wipe_set {σ : Sl} {vs : List Nat} {i : Nat} {x : Option V} (h : i ∈ vs) : wipe (σ.set i x) vs = wipe σ vs := by
  apply List.ext_getElem?
  intro j
  rw [wipe_at, wipe_at, List.length_set]
  by_cases z : j ∈ vs ∧ j < σ.length
  · rw [if_pos z, if_pos z]
  · rw [if_neg z, if_neg z]
    by_cases q : i = j
    · subst q
      have l : ¬ i < σ.length := fun l => z ⟨h, l⟩
      rw [List.getElem?_eq_none (by rw [List.length_set]; omega), List.getElem?_eq_none (by omega)]
    · rw [List.getElem?_set_ne q]
theorem wipe_wipe (σ : Sl) (vs : List Nat) : wipe (wipe σ vs) vs = wipe σ vs := by
  apply List.ext_getElem?
  intro j
  rw [wipe_at, wipe_length, wipe_at]
  by_cases z : j ∈ vs ∧ j < σ.length
  · rw [if_pos z, if_pos z]
  · rw [if_neg z, if_neg z]
def wipeE (env : Env) : List Nat → Env
  | [] => env
  | v :: vs => (wipeE env vs).set v none
theorem wipeE_length (env : Env) : ∀ vs : List Nat, (wipeE env vs).length = env.length
  | [] => rfl
  | v :: vs => by
    show ((wipeE env vs).set v none).length = _
    rw [List.length_set, wipeE_length env vs]
theorem wipeE_some {env : Env} {i : Nat} {x : Nat × D} : ∀ {vs : List Nat}, (wipeE env vs)[i]? = some (some x) → env[i]? = some (some x) ∧ i ∉ vs
  | [], h => ⟨h, by simp⟩
  | v :: vs, h => by
    have h' : ((wipeE env vs).set v none)[i]? = some (some x) := h
    by_cases q : v = i
    · subst q
      rw [List.getElem?_set] at h'
      simp only [if_true] at h'
      split at h' <;> cases h'
    · rw [List.getElem?_set_ne q] at h'
      obtain ⟨a, b⟩ := wipeE_some h'
      exact ⟨a, by simp [b, Ne.symm q]⟩
section
variable {K : PySem.W.Frag} {G : Gh} {W : WX} {env : Env} {σ : Sl} {ms ms' : MS} {Z Z' : Zs} {H H' : Hp}
theorem R.wiped (r : R K G env ms σ H Z) (nx : G.xf = none) (vs : List Nat) : R K G (wipeE env vs) ms (wipe σ vs) H Z where
  aft := r.aft
  fb := r.fb
  bh := r.bh
  bm := r.bm
  mr := r.mr
  tb := r.tb
  own := r.own
  len := by rw [wipe_length, wipeE_length, r.len]
  lb := by rw [wipeE_length]; exact r.lb
  xf := fun i a sd fl d e => by
    rw [nx] at e
    cases e
  sl := fun i k d h => by
    obtain ⟨h1, h2⟩ := wipeE_some h
    obtain ⟨v, e, q⟩ := r.sl i k d h1
    refine ⟨v, ?_, q⟩
    rw [wipe_at, if_neg fun z => h2 z.1]
    exact e
theorem mfp_ne {ms : MS} {p a : Addr} (h : ¬ mfp ms p) (m : mfp ms a) : a ≠ p := fun z => h (z ▸ m)
theorem Own.ids {Z Z' : Zs} {i k : Nat} {d : D} {v : V} (hf : Same Z.f Z'.f) (hb : Same Z.b Z'.b) (ho : ∀ a j, Z.o a = some (i, j) → Z'.o a = some (i, j)) (h : Own K Z i k d v) : Own K Z' i k d v := by
  have one : ∀ {j : Nat} {d : D} {v : V}, Own1 K Z (i, j) d v → Own1 K Z' (i, j) d v := fun {j d v} h => by
    obtain ⟨a, e, hO, h⟩ := h
    refine ⟨a, e, ho a j hO, ?_⟩
    cases d with
    | lst ds =>
      obtain ⟨vs, hB, r⟩ := h
      exact ⟨vs, hb _ _ hB, RepL.mono hf _ _ r⟩
    | dct ds =>
      obtain ⟨vs, hB, r⟩ := h
      exact ⟨vs, hb _ _ hB, RepK.mono hf _ _ r⟩
    | dtt ds =>
      obtain ⟨vs, hB, r⟩ := h
      exact ⟨vs, hb _ _ hB, RepT.mono hf _ _ r⟩
    | _ => exact h.elim
  match k, h with
  | 0, h => exact Rep.mono hf _ _ h
  | 1, h => exact one h
  | 2, h =>
    obtain ⟨a, e, hO, ds, vs, rfl, hB, hl, hr⟩ := h
    exact ⟨a, e, ho a _ hO, ds, vs, rfl, hb _ _ hB, hl, fun j d u e1 e2 => one (hr j d u e1 e2)⟩
/-- back in the block's surrounding -/
theorem R.unwiped {σ2 : Sl} {env2 : Env} (r0 : R K G env ms σ H Z) (x : Ext ms Z H Z' H') (r : R K G env2 ms' σ2 H' Z') : R K G env ms' σ H' Z' where
  aft := r.aft
  fb := r.fb
  bh := r.bh
  bm := r.bm
  mr := r.mr
  tb := r.tb
  own := r.own
  len := r0.len
  lb := r0.lb
  xf := r0.xf.mono x.ff
  sl := fun i k d h => by
    obtain ⟨v, e, q⟩ := r0.sl i k d h
    have hi : i < env.length := by
      rcases Nat.lt_or_ge i env.length with z | z
      · exact z
      · rw [List.getElem?_eq_none z] at h
        cases h
    have := r0.lb
    exact ⟨v, e, q.ids x.ff x.bb fun a j hO => x.oo a _ hO (Nat.succ_ne_zero i) (by show i + 1 ≠ 1000000; omega)⟩
/-- owners renamed -/
def Zs.ren (Z : Zs) (ρ : Nat × Nat → Nat × Nat) : Zs := ⟨Z.f, Z.b, fun a => (Z.o a).map ρ⟩
theorem R.ren (r : R K G env ms σ H Z) {ρ : Nat × Nat → Nat × Nat} (hρ : ∀ i j, i < env.length → ρ (i + 1, j) = (i + 1, j)) : R K G env ms σ H (Z.ren ρ) where
  aft := r.aft
  fb := r.fb
  bh := r.bh
  bm := r.bm
  mr := r.mr
  tb := r.tb
  own := fun a i e => by
    have e' : (Z.o a).map ρ = some i := e
    cases z : Z.o a with
    | none =>
      rw [z] at e'
      cases e'
    | some q => exact r.own a q z
  len := r.len
  lb := r.lb
  xf := r.xf
  sl := fun i k d h => by
    obtain ⟨v, e, q⟩ := r.sl i k d h
    have hi : i < env.length := by
      rcases Nat.lt_or_ge i env.length with z | z
      · exact z
      · rw [List.getElem?_eq_none z] at h
        cases h
    refine ⟨v, e, Own.ids (Z := Z) (Z' := Z.ren ρ) (Same.refl _) (Same.refl _) (fun a j hO => ?_) q⟩
    show (Z.o a).map ρ = _
    rw [hO]
    exact congrArg some (hρ i j hi)
theorem XF.set {f : Hp} (h : XF K G env σ f) (i : Nat) (x : Nat × D) (v : V) : XF K G (env.set i (some x)) (σ.set i (some v)) f := fun j a sd fl d e => by
  obtain ⟨h1, h2⟩ := h j a sd fl d e
  refine ⟨fun q => ?_, h2⟩
  by_cases z : i = j
  · subst z
    rw [List.getElem?_set] at q
    simp only [if_true] at q
    split at q <;> cases q
  · rw [List.getElem?_set_ne z] at q ⊢
    exact h1 q
theorem R.set0 (r : R K G env ms σ H Z) {d : D} {v : V} (i : Nat) (q : Rep K Z.f d v) : R K G (env.set i (some (0, d))) ms (σ.set i (some v)) H Z where
  aft := r.aft
  fb := r.fb
  bh := r.bh
  bm := r.bm
  mr := r.mr
  tb := r.tb
  own := r.own
  len := by rw [List.length_set, List.length_set, r.len]
  lb := by rw [List.length_set]; exact r.lb
  xf := r.xf.set i _ v
  sl := fun j k d' h => by
    by_cases z : i = j
    · subst z
      have hi : i < env.length := by
        rcases Nat.lt_or_ge i env.length with z | z
        · exact z
        · rw [List.getElem?_eq_none (by rw [List.length_set]; exact z)] at h
          cases h
      rw [List.getElem?_set_self hi] at h
      cases h
      exact ⟨v, List.getElem?_set_self (by rw [r.len]; exact hi), q⟩
    · rw [List.getElem?_set_ne z] at h
      obtain ⟨u, e, q⟩ := r.sl j k d' h
      exact ⟨u, (List.getElem?_set_ne z).trans e, q⟩
/-- what is in hand goes to a slot -/
def toSlot (i : Nat) : Nat × Nat → Nat × Nat := fun q => if q.1 = 0 then (i + 1, q.2) else q
theorem R.setO (r : R K G env ms σ H Z) {k : Nat} {d : D} {v : V} (i : Nat) (q : Own K Z 0 k d v) : R K G (env.set i (some (k, d))) ms (σ.set i (some v)) H (Z.ren (toSlot i)) where
  aft := r.aft
  fb := r.fb
  bh := r.bh
  bm := r.bm
  mr := r.mr
  tb := r.tb
  own := (r.ren (ρ := toSlot i) fun j _ _ => if_neg (Nat.succ_ne_zero j)).own
  len := by rw [List.length_set, List.length_set, r.len]
  lb := by rw [List.length_set]; exact r.lb
  xf := r.xf.set i _ v
  sl := fun j k' d' h => by
    by_cases z : i = j
    · subst z
      have hi : i < env.length := by
        rcases Nat.lt_or_ge i env.length with z | z
        · exact z
        · rw [List.getElem?_eq_none (by rw [List.length_set]; exact z)] at h
          cases h
      rw [List.getElem?_set_self hi] at h
      cases h
      refine ⟨v, List.getElem?_set_self (by rw [r.len]; exact hi), ?_⟩
      have mv : ∀ a j, Z.o a = some (0, j) → (Z.ren (toSlot i)).o a = some (i + 1, j) := fun a j e => by
        show (Z.o a).map (toSlot i) = _
        rw [e]
        rfl
      have one : ∀ {j : Nat} {d : D} {v : V}, Own1 K Z (0, j) d v → Own1 K (Z.ren (toSlot i)) (i + 1, j) d v := fun {j d v} h => by
        obtain ⟨a, e, hO, h⟩ := h
        exact ⟨a, e, mv a j hO, h⟩
      match k, q with
      | 0, q => exact q
      | 1, q => exact one q
      | 2, q =>
        obtain ⟨a, e, hO, ds, vs, rfl, hB, hl, hr⟩ := q
        exact ⟨a, e, mv a 0 hO, ds, vs, rfl, hB, hl, fun j d u e1 e2 => one (hr j d u e1 e2)⟩
    · rw [List.getElem?_set_ne z] at h
      obtain ⟨u, e, q'⟩ := (r.ren (ρ := toSlot i) fun j _ _ => if_neg (Nat.succ_ne_zero j)).sl j k' d' h
      exact ⟨u, (List.getElem?_set_ne z).trans e, q'⟩
/-- a list that was made turn by turn is taken in hand -/
theorem R.adopt (r : R K G env ms σ H Z) {p : Addr} {o : HO} (h : H p = some o) (hb : Z.b p = none) (hf : Z.f p = none) (h0 : G.H0 p = none) (hm : ¬ mfp ms p) (ho : Z.o p = none) : R K G env ms σ H (Z.newO p o) where
  aft := r.aft
  fb := r.fb.trans (same_new hb)
  bh := fun a u e => by
    rcases upd_some e with ⟨rfl, rfl⟩ | ⟨q, e⟩
    · exact h
    · exact r.bh a u e
  bm := fun a m => (upd_ne (mfp_ne hm m)).trans (r.bm a m)
  mr := r.mr
  tb := r.tb
  own := fun a i e => by
    by_cases q : a = p
    · subst q
      refine ⟨hf, h0, ?_⟩
      show upd Z.b a o a ≠ none
      rw [upd_same]
      exact Option.some_ne_none _
    · have e' : Z.o a = some i := by
        have e2 : (if a = p then some (0, 0) else Z.o a) = some i := e
        rwa [if_neg q] at e2
      refine ⟨(r.own a i e').1, (r.own a i e').2.1, ?_⟩
      show upd Z.b p o a ≠ none
      rw [upd_ne q]
      exact (r.own a i e').2.2
  len := r.len
  lb := r.lb
  xf := r.xf
  sl := fun i k d e => by
    obtain ⟨v, e1, q⟩ := r.sl i k d e
    refine ⟨v, e1, Own.ids (Z := Z) (Z' := Z.newO p o) (Same.refl _) (same_new hb) (fun a j e => ?_) q⟩
    have q : a ≠ p := fun z => by
      rw [z, ho] at e
      cases e
    show (if a = p then some (0, 0) else Z.o a) = _
    rw [if_neg q]
    exact e
/-- something untracked by the ghosts comes or changes -/
theorem R.beside (r : R K G env ms σ H Z) {p : Addr} {o : HO} (hb : Z.b p = none) (h0 : G.H0 p = none) (hm : ¬ mfp ms p) : R K G env ms σ (upd H p o) Z where
  aft := ⟨r.aft.ff, fun a u e n => (upd_ne fun z => by
    rw [z, h0] at e
    cases e).trans (r.aft.keep a u e n), r.aft.new, r.aft.mf⟩
  fb := r.fb
  bh := fun a u e => (upd_ne fun z => by
    rw [z, hb] at e
    cases e).trans (r.bh a u e)
  bm := r.bm
  mr := by
    cases ms with
    | none => trivial
    | some m => exact ⟨(upd_ne (mfp_ne hm (.inl rfl))).trans r.mr.1, r.mr.2.1, (upd_ne (mfp_ne hm (.inr (.inl rfl)))).trans r.mr.2.2.1, r.mr.2.2.2.1, r.mr.2.2.2.2.hh fun p hp => upd_ne (mfp_ne hm (.inr (.inr ⟨p.2, hp⟩)))⟩
  tb := r.tb
  own := r.own
  len := r.len
  lb := r.lb
  xf := r.xf
  sl := r.sl
end

/-! ### targets -/
abbrev GP := D → Env → Option Env
def SG (X : Cx) (G : Gh) (vs : List Nat) (tg : Expr) (gp : GP) : Prop :=
  ∃ g, PG X tg g ∧ ∀ (v : V) (d : D) (σ : Sl) (H : Hp) (env : Env) (ms : MS) (Z : Zs) (Q : Sl → Hp → Prop), R X.K G env ms σ H Z → Rep X.K Z.f d v →
    (match gp d env with
      | none => False
      | some env' => ∀ σ', wipe σ' vs = wipe σ vs → R X.K G env' ms σ' H Z → Q σ' H) → g v σ H Q
abbrev GPs := List D → Env → Option Env
def SGs (X : Cx) (G : Gh) (vs : List Nat) (tgs : List Expr) (gp : GPs) : Prop :=
  ∃ g, PGs X tgs g ∧ ∀ (us : List V) (ds : List D) (σ : Sl) (H : Hp) (env : Env) (ms : MS) (Z : Zs) (Q : Sl → Hp → Prop), R X.K G env ms σ H Z → RepL X.K Z.f ds us →
    (match gp ds env with
      | none => False
      | some env' => ∀ σ', wipe σ' vs = wipe σ vs → R X.K G env' ms σ' H Z → Q σ' H) → g us σ H Q
def tG (K : PySem.W.Frag) (G : Gh) (vs : List Nat) (gp : GP) : TG := fun v σ H Q => ∃ d env ms Z, R K G env ms σ H Z ∧ Rep K Z.f d v ∧ (match gp d env with
      | none => False
      | some env' => ∀ σ', wipe σ' vs = wipe σ vs → R K G env' ms σ' H Z → Q σ' H)
theorem SG.can {X : Cx} {G : Gh} {vs : List Nat} {tg : Expr} {gp : GP} (h : SG X G vs tg gp) : PG X tg (tG X.K G vs gp) := by
  obtain ⟨g, pg, h⟩ := h
  exact ⟨fun pins s σ H v u Q I r ⟨d, env, ms, Z, rr, q, p⟩ => pg.run pins s σ H v u Q I r (h v d σ H env ms Z Q rr q p)⟩
def gpN (i : Nat) : GP := fun d env => some (env.set i (some (0, d)))
def gpNil : GPs := fun ds env => match ds with
  | [] => some env
  | _ => none
def gpCons (g : GP) (gs : GPs) : GPs := fun ds env => match ds with
  | [] => none
  | d :: r => (match g d env with
    | none => none
    | some env1 => gs r env1)
def gpTup (n : Nat) (gs : GPs) : GP := fun d env => match d with
  | .tup ds => if ds.length = n then gs ds env else none
  | _ => none
section
variable {X : Cx} {G : Gh} {vs : List Nat} {pos : Pos}
theorem sg_name (i : Nat) {x : Str} (hN : X.N.Nodup) (hv : i ∈ vs := by decide) (hi : X.N[i]? = some x := by rfl) (hx : Loc X.env.scope x := by first | exact .inl rfl | exact .inr rfl)
    (hf : X.fn x = true ∨ X.env.scope.names.lookup x = some .local := by first | exact .inl rfl | exact .inr rfl | assumption) : SG X G vs (.Name x pos) (gpN i) :=
  ⟨_, pg_name hN hi hx hf, fun v d σ H env ms Z Q r q p => p _ (wipe_set hv) (r.set0 i q)⟩
theorem sgs_nil : SGs X G vs [] gpNil := ⟨_, pgs_nil, fun us ds σ H env ms Z Q r q p => by
  cases ds with
  | nil => exact ⟨q, p σ rfl r⟩
  | cons d ds => exact p.elim⟩
theorem sgs_cons {e : Expr} {es : List Expr} {g : GP} {gs : GPs} (h : SG X G vs e g) (h' : SGs X G vs es gs) (hs : (assignEach (e :: es) X.env).map (·.2) = assign e X.env :: (assignEach es X.env).map (·.2) := by rfl) : SGs X G vs (e :: es) (gpCons g gs) := by
  obtain ⟨t, pt, h⟩ := h
  obtain ⟨u, pu, h'⟩ := h'
  refine ⟨_, pgs_cons pt pu hs, fun us ds σ H env ms Z Q r q p => ?_⟩
  cases ds with
  | nil => exact p.elim
  | cons d ds =>
    obtain ⟨v, vs', rfl, q1, q2⟩ := q
    refine ⟨v, vs', rfl, h v d σ H env ms Z _ r q1 ?_⟩
    cases e1 : g d env with
    | none =>
      simp only [gpCons, e1] at p
    | some env1 =>
      simp only [gpCons, e1] at p
      intro σ1 w1 r1
      refine h' vs' ds σ1 H env1 ms Z _ r1 q2 ?_
      cases e2 : gs ds env1 with
      | none =>
        rw [e2] at p
        exact p
      | some env2 =>
        rw [e2] at p
        exact fun σ2 w2 r2 => p σ2 (w2.trans w1) r2
theorem sg_tup {es : List Expr} {k n : Nat} {gs : GPs} (hc : X.calm = true) (h : SGs X G vs es gs) (hn : (assignEach es X.env).length = n := by rfl) (hst : (assignEach es X.env).findIdx? (·.1) = none := by rfl) : SG X G vs (.Tuple es k pos) (gpTup n gs) := by
  obtain ⟨t, pt, h⟩ := h
  refine ⟨_, pg_tup hc pt hn hst, fun v d σ H env ms Z Q r q p => ?_⟩
  cases d with
  | tup ds =>
    obtain ⟨a, us, e, s, l⟩ := q
    by_cases z : ds.length = n
    · simp only [gpTup, if_pos z] at p
      exact ⟨a, us, e, sqT_mono (r.fb.trans r.bh) s, l.len.trans z, h us ds σ H env ms Z Q r l p⟩
    · simp only [gpTup, if_neg z] at p
  | _ => exact p.elim
end
end DL
namespace DL
open PySem PySem.Spec PyProof.Rows L2

/-! ### what is walked -/
structure WalkD (K : PySem.W.Frag) (J : It) (items : List D) (B f : Hp) : Prop where
  go : ∀ i H, i < items.length → Same B H → J.go i H
  stop : ∀ H, Same B H → J.stop items.length H
  yld : ∀ i H x H', i < items.length → Same B H → J.yld i H x H' → (H' = H ∧ ∃ d, items[i]? = some d ∧ Rep K f d x) ∨
    (∃ T u v du dv, x = .ref T ∧ H T = none ∧ H' = upd H T (.tup [u, v]) ∧ items[i]? = some (.tup [du, dv]) ∧ Rep K f du u ∧ Rep K f dv v)
inductive OutI where
  | ok (fz : Bool) (ds : List D) (ms : MS) | exc (c : String) (d : D) (ms : MS) | bad
def bsel (fz : Bool) (Z : Zs) : Hp := if fz = true then Z.f else Z.b
section
variable (K : PySem.W.Frag) (G : Gh) (W : WX) (env : Env) (σ : Sl)
def PostI (ms : MS) (Z : Zs) (H : Hp) (Q : It → Hp → Prop) : OutI → Prop
  | .ok fz ds ms' => ∀ J H' Z', Ext ms Z H Z' H' → R K G env ms' σ H' Z' → WalkD K J ds (bsel fz Z') Z'.f → Q J H'
  | .exc c d ms' => ∀ dx H' Z', Ext ms Z H Z' H' → R K G env ms' σ H' Z' → Rep K Z'.f (.exc (fldOf c) d) (.ref dx) → W (.ref (G.cls c)) (some dx) σ H'
  | .bad => False
end
abbrev EI := Env → MS → OutI
def SI (X : Cx) (G : Gh) (W : WX) (tg e : Expr) (f : EI) : Prop :=
  ∃ t, PI X tg e t ∧ ∀ (σ : Sl) (H : Hp) (env : Env) (ms : MS) (Z : Zs) (Q : It → Hp → Prop), R X.K G env ms σ H Z → PostI X.K G W env σ ms Z H Q (f env ms) → t σ H Q
section
variable {K : PySem.W.Frag} {G : Gh} {W : WX} {env : Env} {σ : Sl} {ms ms' : MS} {Z Z' : Zs} {H H' : Hp} {o : Out}
theorem PostI.ext {Q : It → Hp → Prop} (hm : ∀ a, mfp ms' a ↔ mfp ms a) (x : Ext ms Z H Z' H') : ∀ {o : OutI}, PostI K G W env σ ms Z H Q o → PostI K G W env σ ms' Z' H' Q o
  | .ok z d m, p => fun v H2 Z2 y r t => p v H2 Z2 (x.trans hm y) r t
  | .exc c d m, p => fun dx H2 Z2 y r t => p dx H2 Z2 (x.trans hm y) r t
  | .bad, p => p
def Out.bindI (o : Out) (k : Fl → D → MS → OutI) : OutI :=
  match o with
  | .ok fl d ms => k fl d ms
  | .exc c d ms => .exc c d ms
  | .bad => .bad
theorem PostI.bind {k : Fl → D → MS → OutI} {Q : It → Hp → Prop} {Q' : VK} (r : R K G env ms σ H Z) (p : PostI K G W env σ ms Z H Q (o.bindI k))
    (h : ∀ fl d ms' v H' Z', Ext ms Z H Z' H' → R K G env ms' σ H' Z' → Top K Z' fl d v → PostI K G W env σ ms' Z' H' Q (k fl d ms') → Q' v H') : PostE K G W env σ ms Z H Q' o := by
  cases o with
  | ok fl d m => exact fun v H2 Z2 y r2 t => h fl d m v H2 Z2 y r2 t (PostI.ext (r.aft.mm r2.aft) y p)
  | exc c d m => exact p
  | bad => exact p
def OutL.bindI (o : OutL) (k : List D → MS → OutI) : OutI :=
  match o with
  | .ok ds ms => k ds ms
  | .exc c d ms => .exc c d ms
  | .bad => .bad
theorem PostI.args {k : List D → MS → OutI} {o : OutL} {Q : It → Hp → Prop} {Q' : List V → Hp → Prop} (r : R K G env ms σ H Z) (p : PostI K G W env σ ms Z H Q (o.bindI k))
    (h : ∀ ds ms' vs H' Z', Ext ms Z H Z' H' → R K G env ms' σ H' Z' → RepL K Z'.f ds vs → PostI K G W env σ ms' Z' H' Q (k ds ms') → Q' vs H') : PostL K G W env σ ms Z H Q' o := by
  cases o with
  | ok d m => exact fun v H2 Z2 y r2 t => h d m v H2 Z2 y r2 t (PostI.ext (r.aft.mm r2.aft) y p)
  | exc c d m => exact p
  | bad => exact p
theorem rep_get {f : Hp} {ds : List D} {vs : List V} {i : Nat} {x : V} (h : RepL K f ds vs) (e : vs[i]? = some x) : ∃ d, ds[i]? = some d ∧ Rep K f d x := by
  have hi : i < ds.length := by
    rw [← h.len]
    rcases Nat.lt_or_ge i vs.length with z | z
    · exact z
    · rw [List.getElem?_eq_none z] at e
      cases e
  obtain ⟨v, e1, q⟩ := h.at (List.getElem?_eq_getElem hi)
  rw [e] at e1
  cases e1
  exact ⟨_, List.getElem?_eq_getElem hi, q⟩
theorem get_rep {f : Hp} {ds : List D} {vs : List V} {i : Nat} (h : RepL K f ds vs) (hi : i < ds.length) : ∃ v, vs[i]? = some v := by
  rw [← h.len] at hi
  exact ⟨_, List.getElem?_eq_getElem hi⟩
theorem walkd_list {B f : Hp} {a : Addr} {ds : List D} {vs : List V} (h : B a = some (.lst vs)) (r : RepL K f ds vs) : WalkD K (Itl K a) ds B f where
  go := fun i H hi s => by
    obtain ⟨v, e⟩ := get_rep r hi
    exact ⟨vs, v, SqL.of (s _ _ h), e⟩
  stop := fun H s => ⟨vs, SqL.of (s _ _ h), Nat.le_of_eq r.len⟩
  yld := fun i H x H' hi s y => by
    obtain ⟨e, g⟩ := y
    obtain ⟨d, e1, q⟩ := rep_get r (g vs (SqL.of (s _ _ h)))
    exact .inl ⟨e, d, e1, q⟩
theorem walkd_scr {B f : Hp} {a : Addr} {ns : List Int} (h : SqL K B a (ns.map V.int)) : WalkD K (Itl K a) (ns.map D.int) B f where
  go := fun i H hi s => by
    obtain ⟨v, e⟩ := get_rep (K := K) (f := f) (RepL.ints (ns := ns)) hi
    exact ⟨_, v, s.seq h, e⟩
  stop := fun H s => ⟨_, s.seq h, Nat.le_of_eq (by rw [List.length_map, List.length_map])⟩
  yld := fun i H x H' hi s y => by
    obtain ⟨e, g⟩ := y
    obtain ⟨d, e1, q⟩ := rep_get (K := K) (f := f) (RepL.ints (ns := ns)) (g _ (s.seq h))
    exact .inl ⟨e, d, e1, q⟩
theorem walkd_tup {B f : Hp} {a : Addr} {ds : List D} {vs : List V} (h : SqT K B a vs) (r : RepL K f ds vs) : WalkD K (Itt K a) ds B f where
  go := fun i H hi s => by
    obtain ⟨v, e⟩ := get_rep r hi
    exact ⟨vs, v, sqT_mono s h, e⟩
  stop := fun H s => ⟨vs, sqT_mono s h, Nat.le_of_eq r.len⟩
  yld := fun i H x H' hi s y => by
    obtain ⟨e, g⟩ := y
    obtain ⟨d, e1, q⟩ := rep_get r (g vs (sqT_mono s h))
    exact .inl ⟨e, d, e1, q⟩
def rangeD (lo : Int) (n : Nat) : List D := (List.range n).map fun (i : Nat) => D.int (lo + i)
theorem walkd_range {B f : Hp} {lo : Int} {n : Nat} : WalkD K (Itr lo n) (rangeD lo n) B f where
  go := fun i H hi s => by
    have hi' : i < n := by simpa [rangeD] using hi
    exact hi'
  stop := fun H s => by
    show n ≤ _
    simp [rangeD]
  yld := fun i H x H' hi s y => by
    obtain ⟨e, g⟩ := y
    have hi' : i < n := by simpa [rangeD] using hi
    refine .inl ⟨e, .int (lo + i), ?_, g⟩
    rw [rangeD, List.getElem?_map, List.getElem?_range hi']
    rfl
def enumD : Nat → List D → List D
  | _, [] => []
  | n, d :: ds => .tup [.int (n : Nat), d] :: enumD (n + 1) ds
theorem enumD_len : ∀ (n : Nat) (ds : List D), (enumD n ds).length = ds.length
  | _, [] => rfl
  | n, d :: ds => congrArg (· + 1) (enumD_len (n + 1) ds)
theorem enumD_at : ∀ (n : Nat) (ds : List D) (i : Nat) (d : D), ds[i]? = some d → (enumD n ds)[i]? = some (.tup [.int ((n + i : Nat) : Int), d])
  | n, [], i, d, h => by simp at h
  | n, x :: ds, 0, d, h => by
    cases h
    rfl
  | n, x :: ds, i + 1, d, h => by
    have := enumD_at (n + 1) ds i d h
    show (enumD (n + 1) ds)[i]? = _
    rw [this, show n + 1 + i = n + (i + 1) by omega]
theorem walkd_enumL {B f : Hp} {a : Addr} {ds : List D} {vs : List V} (h : SqL K B a vs) (r : RepL K f ds vs) : WalkD K (Ite K a) (enumD 0 ds) B f where
  go := fun i H hi s => by
    rw [enumD_len] at hi
    obtain ⟨v, e⟩ := get_rep r hi
    exact ⟨vs, v, s.seq h, e⟩
  stop := fun H s => ⟨vs, s.seq h, Nat.le_of_eq (by rw [enumD_len]; exact r.len)⟩
  yld := fun i H x H' hi s y => by
    obtain ⟨T, u, e, n, e2, g⟩ := y
    obtain ⟨d, e1, q⟩ := rep_get r (g vs (s.seq h))
    refine .inr ⟨T, _, u, .int (i : Nat), d, e, n, e2, ?_, rfl, q⟩
    rw [enumD_at 0 ds i d e1, Nat.zero_add]
theorem walkd_enumT {B f : Hp} {a : Addr} {ds : List D} {vs : List V} (h : SqT K B a vs) (r : RepL K f ds vs) : WalkD K (IteT K a vs.length) (enumD 0 ds) B f where
  go := fun i H hi s => by
    rw [enumD_len] at hi
    obtain ⟨v, e⟩ := get_rep r hi
    exact ⟨vs, v, sqT_mono s h, rfl, e⟩
  stop := fun H s => ⟨vs, sqT_mono s h, rfl, Nat.le_of_eq (by rw [enumD_len]; exact r.len)⟩
  yld := fun i H x H' hi s y => by
    obtain ⟨T, u, e, n, e2, g⟩ := y
    obtain ⟨d, e1, q⟩ := rep_get r (g vs (sqT_mono s h))
    refine .inr ⟨T, _, u, .int (i : Nat), d, e, n, e2, ?_, rfl, q⟩
    rw [enumD_at 0 ds i d e1, Nat.zero_add]
def zipD : List D → List D → List D := List.zipWith fun a b => .tup [a, b]
theorem zipD_at {ds es : List D} {i : Nat} {d e : D} (h : ds[i]? = some d) (h' : es[i]? = some e) : (zipD ds es)[i]? = some (.tup [d, e]) := by
  rw [zipD, List.getElem?_zipWith, h, h']
theorem zipD_len (ds es : List D) : (zipD ds es).length = min ds.length es.length := List.length_zipWith
theorem walkd_zipL {B f : Hp} {a b : Addr} {ds es : List D} {vs us : List V} (h : SqL K B a vs) (h' : SqL K B b us) (r : RepL K f ds vs) (r' : RepL K f es us) : WalkD K (Itz K a b) (zipD ds es) B f where
  go := fun i H hi s => by
    rw [zipD_len] at hi
    obtain ⟨v, e⟩ := get_rep r (Nat.lt_of_lt_of_le hi (Nat.min_le_left _ _))
    obtain ⟨u, e'⟩ := get_rep r' (Nat.lt_of_lt_of_le hi (Nat.min_le_right _ _))
    exact ⟨vs, us, v, u, s.seq h, s.seq h', e, e'⟩
  stop := fun H s => ⟨vs, us, s.seq h, s.seq h', by rw [zipD_len, r.len, r'.len]; omega⟩
  yld := fun i H x H' hi s y => by
    obtain ⟨T, v, u, e, n, e2, g, g'⟩ := y
    obtain ⟨d, e1, q⟩ := rep_get r (g vs (s.seq h))
    obtain ⟨d', e1', q'⟩ := rep_get r' (g' us (s.seq h'))
    exact .inr ⟨T, v, u, d, d', e, n, e2, zipD_at e1 e1', q, q'⟩
theorem walkd_zipT {B f : Hp} {a b : Addr} {ds es : List D} {vs us : List V} (h : SqT K B a vs) (h' : SqT K B b us) (r : RepL K f ds vs) (r' : RepL K f es us) : WalkD K (RZ.ItzT K a b) (zipD ds es) B f where
  go := fun i H hi s => by
    rw [zipD_len] at hi
    obtain ⟨v, e⟩ := get_rep r (Nat.lt_of_lt_of_le hi (Nat.min_le_left _ _))
    obtain ⟨u, e'⟩ := get_rep r' (Nat.lt_of_lt_of_le hi (Nat.min_le_right _ _))
    exact ⟨vs, us, v, u, sqT_mono s h, sqT_mono s h', e, e'⟩
  stop := fun H s => ⟨vs, us, sqT_mono s h, sqT_mono s h', by rw [zipD_len, r.len, r'.len]; omega⟩
  yld := fun i H x H' hi s y => by
    obtain ⟨T, v, u, e, n, e2, g, g'⟩ := y
    obtain ⟨d, e1, q⟩ := rep_get r (g vs (sqT_mono s h))
    obtain ⟨d', e1', q'⟩ := rep_get r' (g' us (sqT_mono s h'))
    exact .inr ⟨T, v, u, d, d', e, n, e2, zipD_at e1 e1', q, q'⟩
end
section
variable {X : Cx} {G : Gh} {W : WX} {a b e tg : Expr} {es : List Expr} {f fa fb : EF} {fl : EL} {pos p : Pos}
def iSq : Fl → D → MS → OutI := fun l d ms => match d with
  | .tup ds => (match l with
    | .o _ => .ok true ds ms
    | _ => .bad)
  | .scr ns => (match l with
    | .o _ => .ok true (ns.map D.int) ms
    | _ => .bad)
  | .lst ds => (match l with
    | .o _ => .ok true ds ms
    | .b 1 => .ok false ds ms
    | _ => .bad)
  | _ => .bad
theorem si_seq (ha : SE X G W e f) : SI X G W tg e (fun env ms => (f env ms).bindI iSq) := by
  obtain ⟨t, pt, h⟩ := ha
  refine ⟨_, pi_seq pt, fun σ H env ms Z Q hr p => h σ H env ms Z _ hr (PostI.bind hr p fun l d ms' v H' Z' x r' q p' => ?_)⟩
  have sh : Same (Z'.freeze 0).f H' := r'.freeze0.fb.trans r'.freeze0.bh
  cases d with
  | tup ds =>
    cases l with
    | o k =>
      obtain ⟨c, vs, e, s, l⟩ := Own.frozen r'.ownf q
      exact ⟨c, e, .inr ⟨vs, sqT_mono sh s, p' _ _ _ r'.ext0 r'.freeze0 (walkd_tup s l)⟩⟩
    | b k => exact p'.elim
  | scr ns =>
    cases l with
    | o k =>
      obtain ⟨c, e, s⟩ := Own.frozen r'.ownf q
      exact ⟨c, e, .inl ⟨_, sh.seq s, p' _ _ _ r'.ext0 r'.freeze0 (walkd_scr s)⟩⟩
    | b k => exact p'.elim
  | lst ds =>
    cases l with
    | o k =>
      obtain ⟨c, vs, e, s, l⟩ := Own.frozen r'.ownf q
      exact ⟨c, e, .inl ⟨vs, SqL.of (sh _ _ s), p' _ _ _ r'.ext0 r'.freeze0 (walkd_list s l)⟩⟩
    | b k =>
      match k, q, p' with
      | 1, q, p' =>
        obtain ⟨c, e, vs, s, l⟩ := q
        exact ⟨c, e, .inl ⟨vs, SqL.of (r'.bh _ _ s), p' _ _ _ r'.refl r' (walkd_list (B := Z'.b) s l)⟩⟩
      | 0, q, p' => exact p'.elim
      | (n + 2), q, p' => exact p'.elim
  | _ => exact p'.elim
def okR (i : Int) : Bool := decide (-(2 ^ 62) ≤ i ∧ i < 2 ^ 62)
def iR1 : List D → MS → OutI := fun ds ms => match ds with
  | [.int j] => if okR j = true then .ok true (rangeD 0 j.toNat) ms else .bad
  | _ => .bad
def iR2 : List D → MS → OutI := fun ds ms => match ds with
  | [.int i, .int j] => if (okR i && okR j) = true then .ok true (rangeD i (j - i).toNat) ms else .bad
  | _ => .bad
theorem si_range1 (hm : X.mg "range" = none) (ha : SA X G W [a] fl) (hg : Gl X "range" := by rfl) (hs : starEach [a] X.env = [(false, eval a X.env)] := by rfl) : SI X G W tg (.Call (.Name "range" p) [a] [] pos) (fun env ms => (fl env ms).bindI iR1) := by
  obtain ⟨t, pt, h⟩ := ha
  refine ⟨_, pi_range1 hg hm pt hs, fun σ H env ms Z Q hr p => h σ H env ms Z _ hr (PostI.args hr p fun ds ms' vs H' Z' x r' q p' => ?_)⟩
  unfold iR1 at p'
  split at p'
  · rename_i j
    split at p'
    · rename_i hj
      have hj' := of_decide_eq_true hj
      exact ⟨j, RepL.ofInts (ns := [j]) q, hj'.1, hj'.2, p' _ _ _ r'.refl r' walkd_range⟩
    · exact p'.elim
  · exact p'.elim
theorem si_range2 (hm : X.mg "range" = none) (ha : SA X G W [a, b] fl) (hg : Gl X "range" := by rfl) (hs : starEach [a, b] X.env = [(false, eval a X.env), (false, eval b X.env)] := by rfl) (hs2 : starEach [b] X.env = [(false, eval b X.env)] := by rfl) :
    SI X G W tg (.Call (.Name "range" p) [a, b] [] pos) (fun env ms => (fl env ms).bindI iR2) := by
  obtain ⟨t, pt, h⟩ := ha
  refine ⟨_, pi_range2 hg hm pt hs hs2, fun σ H env ms Z Q hr p => h σ H env ms Z _ hr (PostI.args hr p fun ds ms' vs H' Z' x r' q p' => ?_)⟩
  unfold iR2 at p'
  split at p'
  · rename_i i j
    split at p'
    · rename_i hj
      rw [Bool.and_eq_true] at hj
      have hi' := of_decide_eq_true hj.1
      have hj' := of_decide_eq_true hj.2
      exact ⟨i, j, RepL.ofInts (ns := [i, j]) q, ⟨hi'.1, hi'.2, hj'.1, hj'.2⟩, p' _ _ _ r'.refl r' walkd_range⟩
    · exact p'.elim
  · exact p'.elim
def iEn : List D → MS → OutI := fun ds ms => match ds with
  | [.lst es] => .ok true (enumD 0 es) ms
  | [.tup es] => .ok true (enumD 0 es) ms
  | [.scr ns] => .ok true (enumD 0 (ns.map D.int)) ms
  | _ => .bad
theorem si_enum {elts : List Expr} {kk : Nat} {tpos : Pos} (hm : X.mg "enumerate" = none) (ha : SA X G W [e] fl) (hg : Gl X "enumerate" := by rfl) (hs : starEach [e] X.env = [(false, eval e X.env)] := by rfl) :
    SI X G W (.Tuple elts kk tpos) (.Call (.Name "enumerate" p) [e] [] pos) (fun env ms => (fl env ms).bindI iEn) := by
  obtain ⟨t, pt, h⟩ := ha
  refine ⟨_, pi_enumA hg hm pt hs, fun σ H env ms Z Q hr p => h σ H env ms Z _ hr (PostI.args hr p fun ds ms' vs H' Z' x r' q p' => ?_)⟩
  have sh : Same Z'.f H' := r'.fb.trans r'.bh
  unfold iEn at p'
  split at p'
  · rename_i es
    obtain ⟨v, vs', rfl, ⟨c, us, rfl, s, l⟩, e2⟩ := q
    have e2' : vs' = [] := e2
    subst e2'
    exact ⟨c, rfl, .inl ⟨us, SqL.of (sh _ _ s), p' _ _ _ r'.refl r' (walkd_enumL (SqL.of s) l)⟩⟩
  · rename_i es
    obtain ⟨v, vs', rfl, ⟨c, us, rfl, s, l⟩, e2⟩ := q
    have e2' : vs' = [] := e2
    subst e2'
    exact ⟨c, rfl, .inr ⟨us, sqT_mono sh s, p' _ _ _ r'.refl r' (walkd_enumT s l)⟩⟩
  · rename_i ns
    obtain ⟨v, vs', rfl, ⟨c, rfl, s⟩, e2⟩ := q
    have e2' : vs' = [] := e2
    subst e2'
    exact ⟨c, rfl, .inl ⟨_, sh.seq s, p' _ _ _ r'.refl r' (walkd_enumL s RepL.ints)⟩⟩
  · exact p'.elim
def iZp : List D → MS → OutI := fun ds ms => match ds with
  | [.lst xs, .lst ys] => .ok true (zipD xs ys) ms
  | [.tup xs, .tup ys] => .ok true (zipD xs ys) ms
  | _ => .bad
theorem si_zip {elts : List Expr} {kk : Nat} {tpos : Pos} (hm : X.mg "zip" = none) (ha : SA X G W [a, b] fl) (hg : Gl X "zip" := by rfl) (hs : starEach [a, b] X.env = (false, eval a X.env) :: starEach [b] X.env := by rfl)
    (hpl : (backTo pos (starEach [b] X.env)).any (·.1) = false := by rfl) : SI X G W (.Tuple elts kk tpos) (.Call (.Name "zip" p) [a, b] [] pos) (fun env ms => (fl env ms).bindI iZp) := by
  obtain ⟨t, pt, h⟩ := ha
  refine ⟨_, RZ.pi_zipA hg hm pt hs hpl, fun σ H env ms Z Q hr p => h σ H env ms Z _ hr (PostI.args hr p fun ds ms' vs H' Z' x r' q p' => ?_)⟩
  have sh : Same Z'.f H' := r'.fb.trans r'.bh
  unfold iZp at p'
  split at p'
  · rename_i xs ys
    obtain ⟨v, vs', rfl, ⟨c, us, rfl, s, l⟩, v2, vs2, rfl, ⟨c2, us2, rfl, s2, l2⟩, e2⟩ := q
    have e2' : vs2 = [] := e2
    subst e2'
    exact ⟨c, c2, us, us2, rfl, .inl ⟨SqL.of (sh _ _ s), SqL.of (sh _ _ s2), p' _ _ _ r'.refl r' (walkd_zipL (SqL.of s) (SqL.of s2) l l2)⟩⟩
  · rename_i xs ys
    obtain ⟨v, vs', rfl, ⟨c, us, rfl, s, l⟩, v2, vs2, rfl, ⟨c2, us2, rfl, s2, l2⟩, e2⟩ := q
    have e2' : vs2 = [] := e2
    subst e2'
    exact ⟨c, c2, us, us2, rfl, .inr ⟨sqT_mono sh s, sqT_mono sh s2, p' _ _ _ r'.refl r' (walkd_zipT s s2 l l2)⟩⟩
  · exact p'.elim
end

/-! ### list comprehensions -/
def lcF (gp : GP) (ft fe : EF) (vs : List Nat) : List D → List D → Env → MS → Out
  | [], acc, _, ms => .ok (.o 1) (.lst acc) ms
  | d :: ds, acc, env, ms => match gp d (wipeE env vs) with
    | none => .bad
    | some env1 => match ft env1 ms with
      | .ok _ (.bl true) ms1 => (match fe env1 ms1 with
        | .ok (.o _) y ms2 => if acc.length < sizeLine then lcF gp ft fe vs ds (acc ++ [y]) env ms2 else .bad
        | _ => .bad)
      | .ok _ (.bl false) ms1 => lcF gp ft fe vs ds acc env ms1
      | _ => .bad
def W0 : WX := fun _ _ _ _ => False
/-- the reading of a comprehension's turns -/
theorem lc_sem {K : PySem.W.Frag} {G : Gh} {W : WX} {gp : GP} {ft fe : EF} {vs : List Nat} {J : It} {items : List D} {B0 : Bool} {σ : Sl} {H1 : Hp} {env : Env} {ms : MS} {Z : Zs} {Q : VK}
    (nx : G.xf = none) (r : R K G env ms σ H1 Z) (w : WalkD K J items (bsel B0 Z) Z.f) (p : PostE K G W env σ ms Z H1 Q (lcF gp ft fe vs items [] env ms)) (E : Addr) (nE : H1 E = none) :
    ∃ Wf : Nat → Nat → Hp → Prop, (∃ m, Wf 0 m (upd H1 E (.lst []))) ∧ ∀ i m H, Wf i m H →
      (J.stop i H ∧ Q (.ref E) H) ∨ (J.go i H ∧ ∃ Nx : Hp → Prop, (∀ H', Nx H' → ∃ m', m' < m ∧ Wf (i + 1) m' H') ∧ ∀ x H', J.yld i H x H' → tG K G vs gp x (wipe σ vs) H' fun σ2 H2 => wipe σ2 vs = wipe σ vs ∧
        tT K G W0 ft σ2 H2 fun b H3 => if b = true then tE K G W0 fe σ2 H3 fun y H4 => ∃ acc, H4 E = some (.lst acc) ∧ acc.length < sizeLine ∧ Nx (upd H4 E (.lst (acc ++ [y]))) else Nx H3) := by
  have nbE := r.nb nE
  have nfE := r.nf nE
  have nmE := r.nm nE
  have n0E := r.n0 nE
  have noE := r.no nE
  refine ⟨fun i m H => i + m = items.length ∧ ∃ ms2 Z2 acc av, Ext ms Z H1 Z2 H ∧ R K G env ms2 σ H Z2 ∧ H E = some (.lst av) ∧ RepL K Z2.f acc av ∧ Z2.b E = none ∧ Z2.o E = none ∧
    PostE K G W env σ ms Z H1 Q (lcF gp ft fe vs (items.drop i) acc env ms2), ⟨items.length, Nat.zero_add _, ms, Z, [], [], ?_, r.beside nbE n0E nmE, upd_same, rfl, nbE, noE, ?_⟩, fun i m H hW => ?_⟩
  · exact ⟨Same.refl _, Same.refl _, fun a o e _ => same_new nE _ _ e, (fun a o e n => by
      rw [e] at n
      cases n), r.bm, fun _ _ h _ _ => h⟩
  · rw [List.drop_zero]
    exact p
  · obtain ⟨em, ms2, Z2, acc, av, x2, r2, hE, ra, bE, oE, p2⟩ := hW
    have sB : Same (bsel B0 Z) H := by
      unfold bsel
      split
      · exact (x2.ff.trans r2.fb).trans r2.bh
      · exact x2.bb.trans r2.bh
    have hmm := r.aft.mm r2.aft
    have nm2 : ¬ mfp ms2 E := fun q => nmE ((hmm E).mp q)
    by_cases hi : i < items.length
    · refine .inr ⟨w.go i H hi sB, fun H' => ∃ m', m' < m ∧ (i + 1) + m' = items.length ∧ ∃ ms2 Z2 acc av, Ext ms Z H1 Z2 H' ∧ R K G env ms2 σ H' Z2 ∧ H' E = some (.lst av) ∧ RepL K Z2.f acc av ∧ Z2.b E = none ∧ Z2.o E = none ∧
        PostE K G W env σ ms Z H1 Q (lcF gp ft fe vs (items.drop (i + 1)) acc env ms2), fun H' h => h, fun x H' hy => ?_⟩
      have key : ∀ (Z3 : Zs) (d : D), Ext ms2 Z2 H Z3 H' → R K G env ms2 σ H' Z3 → Rep K Z3.f d x → items[i]? = some d → H' E = some (.lst av) → Z3.b E = none → Z3.o E = none → tG K G vs gp x (wipe σ vs) H' fun σ2 H2 => wipe σ2 vs = wipe σ vs ∧
          tT K G W0 ft σ2 H2 fun b H3 => if b = true then tE K G W0 fe σ2 H3 fun y H4 => ∃ acc, H4 E = some (.lst acc) ∧ acc.length < sizeLine ∧ (∃ m', m' < m ∧ (i + 1) + m' = items.length ∧ ∃ ms2 Z2 acc2 av, Ext ms Z H1 Z2 (upd H4 E (.lst (acc ++ [y]))) ∧ R K G env ms2 σ (upd H4 E (.lst (acc ++ [y]))) Z2 ∧ (upd H4 E (.lst (acc ++ [y]))) E = some (.lst av) ∧ RepL K Z2.f acc2 av ∧ Z2.b E = none ∧ Z2.o E = none ∧
            PostE K G W env σ ms Z H1 Q (lcF gp ft fe vs (items.drop (i + 1)) acc2 env ms2)) else (∃ m', m' < m ∧ (i + 1) + m' = items.length ∧ ∃ ms2 Z2 acc av, Ext ms Z H1 Z2 H3 ∧ R K G env ms2 σ H3 Z2 ∧ H3 E = some (.lst av) ∧ RepL K Z2.f acc av ∧ Z2.b E = none ∧ Z2.o E = none ∧
            PostE K G W env σ ms Z H1 Q (lcF gp ft fe vs (items.drop (i + 1)) acc env ms2)) := by
        intro Z3 d x3 r3 q3 hd hE3 bE3 oE3
        have ed : items.drop i = d :: items.drop (i + 1) := by
          rw [List.drop_eq_getElem_cons hi]
          congr 1
          rw [List.getElem?_eq_getElem hi] at hd
          exact Option.some.inj hd
        rw [ed] at p2
        refine ⟨d, wipeE env vs, ms2, Z3, r3.wiped nx vs, q3, ?_⟩
        cases e1 : gp d (wipeE env vs) with
        | none =>
          simp only [lcF, e1] at p2
          exact p2.elim
        | some env1 =>
          simp only [lcF, e1] at p2
          intro σ2 w2 r4
          refine ⟨w2.trans (wipe_wipe σ vs), env1, ms2, Z3, r4, ?_⟩
          cases e2 : ft env1 ms2 with
          | bad =>
            simp only [e2] at p2
            exact p2.elim
          | exc c dd m3 =>
            simp only [e2] at p2
            exact p2.elim
          | ok fl b m3 =>
            cases b with
            | bl b =>
              intro H5 Z5 x5 r5
              have x35 : Ext ms2 Z2 H Z5 H5 := x3.trans (fun _ => Iff.rfl) x5
              have hE5 : H5 E = some (.lst av) := x5.keep E _ hE3 nm2
              have bE5 : Z5.b E = none := by
                cases z : Z5.b E with
                | none => rfl
                | some u =>
                  have := x5.newb E u z bE3
                  rw [hE3] at this
                  cases this
              have oE5 : Z5.o E = none := by
                cases z : Z5.o E with
                | none => rfl
                | some u => exact absurd bE5 (r5.own E u z).2.2
              have r5o : R K G env m3 σ H5 Z5 := r2.unwiped x35 r5
              cases b with
              | true =>
                rw [if_pos rfl]
                simp only [e2] at p2
                refine ⟨env1, m3, Z5, r5, ?_⟩
                cases e3 : fe env1 m3 with
                | bad =>
                  simp only [e3] at p2
                  exact p2.elim
                | exc c dd m4 =>
                  simp only [e3] at p2
                  exact p2.elim
                | ok fl2 y m4 =>
                  cases fl2 with
                  | b k =>
                    simp only [e3] at p2
                    exact p2.elim
                  | o k =>
                    simp only [e3] at p2
                    intro v H6 Z6 x6 r6 t6
                    by_cases hz : acc.length < sizeLine
                    · rw [if_pos hz] at p2
                      have hm25 := r2.aft.mm r5.aft
                      have x26 : Ext ms2 Z2 H Z6 H6 := x35.trans hm25 x6
                      have nm5 : ¬ mfp m3 E := fun q => nm2 ((hm25 E).mp q)
                      have hE6 : H6 E = some (.lst av) := x6.keep E _ hE5 nm5
                      have bE6 : Z6.b E = none := by
                        cases z : Z6.b E with
                        | none => rfl
                        | some u =>
                          have := x6.newb E u z bE5
                          rw [hE5] at this
                          cases this
                      have oE6 : Z6.o E = none := by
                        cases z : Z6.o E with
                        | none => rfl
                        | some u => exact absurd bE6 (r6.own E u z).2.2
                      have r6o : R K G env m4 σ H6 Z6 := r2.unwiped x26 r6
                      have f6 := r6o.freeze0
                      have nm6 : ¬ mfp m4 E := fun q => nm2 ((r2.aft.mm r6.aft E).mp q)
                      have bE7 : (Z6.freeze 0).b E = none := bE6
                      have oE7 : (Z6.freeze 0).o E = none := by
                        show (match Z6.o E with
                          | some i => if i.1 = 0 then none else some i
                          | none => none) = none
                        rw [oE6]
                      have r7 : R K G env m4 σ (upd H6 E (.lst (av ++ [v]))) (Z6.freeze 0) := f6.beside bE7 n0E nm6
                      have x67 : Ext m4 Z6 H6 (Z6.freeze 0) H6 := r6o.ext0
                      have x27 : Ext ms2 Z2 H (Z6.freeze 0) H6 := x26.trans (r2.aft.mm r6.aft) x67
                      have x17 : Ext ms Z H1 (Z6.freeze 0) (upd H6 E (.lst (av ++ [v]))) := by
                        have x := x2.trans hmm x27
                        exact ⟨x.ff, x.bb, fun a o e n => (upd_ne fun z => by
                          rw [z, nE] at e
                          cases e).trans (x.keep a o e n), x.newb, x.nm, x.oo⟩
                      exact ⟨av, hE6, by rw [ra.len]; exact hz, m - 1, by omega, by omega, m4, Z6.freeze 0, acc ++ [y], av ++ [v], x17, r7, upd_same, (RepL.mono x27.ff _ _ ra).app (RepL.one (Own.frozen r6.ownf t6)), bE7, oE7, p2⟩
                    · rw [if_neg hz] at p2
                      exact p2.elim
              | false =>
                rw [if_neg Bool.false_ne_true]
                simp only [e2] at p2
                have hm25 := r2.aft.mm r5.aft
                exact ⟨m - 1, by omega, by omega, m3, Z5, acc, av, x2.trans hmm x35, r5o, hE5, RepL.mono x35.ff _ _ ra, bE5, oE5, p2⟩
            | _ =>
              simp only [e2] at p2
              exact p2.elim
      rcases w.yld i H x H' hi sB hy with ⟨rfl, d, hd, q⟩ | ⟨T, u, v, du, dv, rfl, nT, rfl, hd, q1, q2⟩
      · exact key Z2 d r2.refl r2 (Rep.mono x2.ff _ _ q) hd hE bE oE
      · have neT : E ≠ T := fun z => by
          rw [← z, hE] at nT
          cases nT
        refine key (Z2.newF T (.tup [u, v])) _ (r2.extF nT) (r2.newF nT) ?_ hd ?_ ?_ oE
        · exact r2.topT nT ⟨u, _, rfl, Rep.mono x2.ff _ _ q1, v, _, rfl, Rep.mono x2.ff _ _ q2, rfl⟩
        · rw [upd_ne neT]
          exact hE
        · exact (upd_ne neT).trans bE
    · have ei : i = items.length := by omega
      subst ei
      refine .inl ⟨w.stop H sB, ?_⟩
      rw [List.drop_length] at p2
      have fE : Z2.f E = none := by
        cases z : Z2.f E with
        | none => rfl
        | some u =>
          rw [r2.fb E u z] at bE
          cases bE
      refine p2 _ H (Z2.newO E (.lst av)) ⟨x2.ff, x2.bb.trans (same_new bE), x2.keep, fun a o e n => ?_, fun a q => ?_, fun a j e n n' => ?_⟩ (r2.adopt hE bE fE n0E nm2 oE) ⟨E, rfl, if_pos rfl, av, upd_same, ra⟩
      · rcases upd_some e with ⟨rfl, _⟩ | ⟨_, e⟩
        · exact nE
        · exact x2.newb a o e n
      · exact (upd_ne (mfp_ne nmE q)).trans (x2.nm a q)
      · have q : a ≠ E := fun z => by
          rw [z, noE] at e
          cases e
        show (if a = E then some (0, 0) else Z2.o a) = some j
        rw [if_neg q]
        exact x2.oo a j e n n'
section
variable {X : Cx} {G : Gh} {W : WX} {elt tg iter c : Expr} {gp : GP} {fi : EI} {ft fe : EF} {scope : Scope} {pos : Pos} {vs : List Nat} {own : List (Str × Nat)}
/-- the contexts of a comprehension's block -/
abbrev Blk (X : Cx) (scope : Scope) (P : Cx → Prop) : Prop := ∀ (s : Shared) (H : Hp) (C : Addr) (cl : List (Str × Addr)) (fp : List Addr), P (X.blk s H scope (compEnvC scope cl C X.env) fp)
def eLc (gp : GP) (fi : EI) (ft fe : EF) (vs : List Nat) : EF := fun env ms => match fi env ms with
  | .ok _ ds ms1 => lcF gp ft fe vs ds [] env ms1
  | .exc c d ms1 => .exc c d ms1
  | .bad => .bad
theorem lc_go {wi : TI} (nx : G.xf = none) (hwi : ∀ (σ : Sl) (H : Hp) (env : Env) (ms : MS) (Z : Zs) (Q : It → Hp → Prop), R X.K G env ms σ H Z → PostI X.K G W env σ ms Z H Q (fi env ms) → wi σ H Q)
    {σ : Sl} {H : Hp} {env : Env} {ms : MS} {Z : Zs} {Q : VK} (hr : R X.K G env ms σ H Z) (p : PostE X.K G W env σ ms Z H Q (eLc gp fi ft fe vs env ms)) :
    tLc wi (tG X.K G vs gp) (tT X.K G W0 ft) (tE X.K G W0 fe) vs σ H Q := by
  refine hwi σ H env ms Z _ hr ?_
  unfold eLc at p
  cases e : fi env ms with
  | ok fz ds ms1 =>
    rw [e] at p
    intro J H1 Z1 x1 r1 w D nD
    exact lc_sem nx r1 w (PostE.ext (hr.aft.mm r1.aft) x1 p) D nD
  | exc c d ms1 =>
    rw [e] at p
    exact p
  | bad =>
    rw [e] at p
    exact p
theorem se_lc {ifs : List Expr} (nx : G.xf = none) (hc : X.calm = true) (hN : X.N.Nodup) (ev : own.map (·.2) = vs) (hi : SI X G W tg iter fi) (ok : BlkOk X.N X.env.scope scope own) (hg : Blk X scope fun X => SG X G vs tg gp)
    (ht : Blk X scope fun X => PTs X ifs (tT X.K G W0 ft)) (he : Blk X scope fun X => SE X G W0 elt fe) (hs : ∀ x, foldedSetIterable iter X.env x = pure x := by intro _; rfl) :
    SE X G W (.ListComp elt [⟨tg, iter, ifs, 0⟩] scope pos) (eLc gp fi ft fe vs) := by
  obtain ⟨wi, pw, hwi⟩ := hi
  subst ev
  exact ⟨_, pe_lc hc hN pw ok (fun s H C cl fp => (hg s H C cl fp).can) ht (fun s H C cl fp => (he s H C cl fp).can) hs, fun σ H env ms Z Q hr p => lc_go nx hwi hr p⟩
def eYes : EF := fun _ ms => .ok (.o 0) (.bl true) ms
theorem pts_yes {X : Cx} : PTs X [] (tT X.K G W0 eYes) := ⟨fun pins s σ H Q I ⟨env, ms, Z, r, p⟩ => pts_nil.run pins s σ H Q I (p.fin r)⟩
theorem pts_if {X : Cx} {c : Expr} {ft : EF} (h : ST X G W0 c ft) : PTs X [c] (tT X.K G W0 ft) := pts_one h.can
end
end DL
namespace DL
open PySem PySem.Spec PyProof.Rows L2

inductive Fw where
  | nx (env : Env) (ms : MS) | rt (d : D) (ms : MS) | bk (env : Env) (ms : MS) | ct (env : Env) (ms : MS) | ex (c : String) (d : D) (env : Env) (ms : MS) | bad
abbrev FS := Env → MS → Fw
section
variable (K : PySem.W.Frag) (G : Gh) (W : WX)
def PostS (Z : Zs) (N : Ends) : Fw → Prop
  | .nx env ms => ∀ σ H Z', Same Z.f Z'.f → R K G env ms σ H Z' → N.nx σ H
  | .bk env ms => ∀ σ H Z', Same Z.f Z'.f → R K G env ms σ H Z' → N.bk σ H
  | .ct env ms => ∀ σ H Z', Same Z.f Z'.f → R K G env ms σ H Z' → N.ct σ H
  | .rt d ms => ∀ v σ H Z' env, Same Z.f Z'.f → R K G env ms σ H Z' → Rep K Z'.f d v → N.rt v H
  | .ex c d env ms => ∀ dx σ H Z', Same Z.f Z'.f → R K G env ms σ H Z' → Rep K Z'.f (.exc (fldOf c) d) (.ref dx) → W (.ref (G.cls c)) (some dx) σ H
  | .bad => False
end
theorem PostS.mono {K : PySem.W.Frag} {G : Gh} {W : WX} {Z Z' : Zs} {N : Ends} (s : Same Z.f Z'.f) : ∀ {f : Fw}, PostS K G W Z N f → PostS K G W Z' N f
  | .nx env ms, p => fun σ H Z2 s2 r => p σ H Z2 (s.trans s2) r
  | .bk env ms, p => fun σ H Z2 s2 r => p σ H Z2 (s.trans s2) r
  | .ct env ms, p => fun σ H Z2 s2 r => p σ H Z2 (s.trans s2) r
  | .rt d ms, p => fun v σ H Z2 env s2 r q => p v σ H Z2 env (s.trans s2) r q
  | .ex c d env ms, p => fun dx σ H Z2 s2 r q => p dx σ H Z2 (s.trans s2) r q
  | .bad, p => p
def tS (K : PySem.W.Frag) (G : Gh) (W : WX) (F : FS) : TS := fun N σ H => ∃ env ms Z, R K G env ms σ H Z ∧ PostS K G W Z N (F env ms)
def SS (X : Cx) (G : Gh) (W : WX) (st : Stmt) (F : FS) : Prop := PS X st (tS X.K G W F)
def SB (X : Cx) (G : Gh) (W : WX) (st : List Stmt) (F : FS) : Prop := PSs X st (tS X.K G W F)
theorem PS.weak {X : Cx} {st : Stmt} {t u : TS} (h : PS X st t) (w : ∀ N σ H, u N σ H → t N σ H) : PS X st u := ⟨fun pins s σ H N I q => h.run pins s σ H N I (w N σ H q)⟩
theorem PSs.weak {X : Cx} {st : List Stmt} {t u : TS} (h : PSs X st t) (w : ∀ N σ H, u N σ H → t N σ H) : PSs X st u := ⟨fun pins s σ H N I q => h.run pins s σ H N I (w N σ H q)⟩
theorem SS.mk {X : Cx} {G : Gh} {W : WX} {st : Stmt} {F : FS} {t : TS} (h : PS X st t) (w : ∀ (N : Ends) (σ : Sl) (H : Hp) (env : Env) (ms : MS) (Z : Zs), R X.K G env ms σ H Z → PostS X.K G W Z N (F env ms) → t N σ H) : SS X G W st F :=
  PS.weak h fun N σ H ⟨env, ms, Z, r, p⟩ => w N σ H env ms Z r p
/-- what follows an expression -/
def Out.st (o : Out) (env : Env) (k : Fl → D → MS → Fw) : Fw :=
  match o with
  | .ok fl d ms => k fl d ms
  | .exc c d ms => .ex c d env ms
  | .bad => .bad
theorem PostS.expr {K : PySem.W.Frag} {G : Gh} {W : WX} {env : Env} {σ : Sl} {ms : MS} {Z : Zs} {H : Hp} {N : Ends} {o : Out} {k : Fl → D → MS → Fw} {Q : VK} (r : R K G env ms σ H Z) (p : PostS K G W Z N (o.st env k))
    (h : ∀ fl d ms' v H' Z', Ext ms Z H Z' H' → R K G env ms' σ H' Z' → Top K Z' fl d v → PostS K G W Z' N (k fl d ms') → Q v H') : PostE K G W env σ ms Z H Q o := by
  cases o with
  | ok fl d m => exact fun v H2 Z2 x r2 t => h fl d m v H2 Z2 x r2 t (PostS.mono x.ff p)
  | exc c d m => exact fun dx H2 Z2 x r2 t => p dx σ H2 Z2 x.ff r2 t
  | bad => exact p
theorem PostS.test {K : PySem.W.Frag} {G : Gh} {W : WX} {env : Env} {σ : Sl} {ms : MS} {Z : Zs} {H : Hp} {N : Ends} {o : Out} {k : D → MS → Fw} {Q : Bool → Hp → Prop} (r : R K G env ms σ H Z) (p : PostS K G W Z N (o.st env fun _ d m => k d m))
    (hn : ∀ d ms, (∀ c, d ≠ .bl c) → k d ms = .bad)
    (h : ∀ c ms' H' Z', Ext ms Z H Z' H' → R K G env ms' σ H' Z' → PostS K G W Z' N (k (.bl c) ms') → Q c H') : PostB K G W env σ ms Z H Q o := by
  cases o with
  | ok fl d m =>
    cases d with
    | bl c => exact fun H2 Z2 x r2 => h c m H2 Z2 x r2 (PostS.mono x.ff p)
    | _ =>
      have p' : PostS K G W Z N (k _ m) := p
      rw [hn _ m (fun c z => by cases z)] at p'
      exact p'.elim
  | exc c d m => exact fun dx H2 Z2 x r2 t => p dx σ H2 Z2 x.ff r2 t
  | bad => exact p
section
variable {X : Cx} {G : Gh} {W : WX} {a b e c : Expr} {f fa fb fc : EF} {F F1 F2 : FS} {st : Stmt} {sts : List Stmt} {pos p : Pos}
/-! ### blocks -/
def sSeq (F1 F2 : FS) : FS := fun env ms => match F1 env ms with
  | .nx e m => F2 e m
  | x => x
def sNil : FS := fun env ms => .nx env ms
theorem sb_nil : SB X G W [] sNil := PSs.weak pss_nil fun N σ H ⟨env, ms, Z, r, p⟩ => p σ H Z (Same.refl _) r
theorem sb_one (h : SS X G W st F) : SB X G W [st] F := pss_one h
theorem sb_cons (h : SS X G W st F1) (h' : SB X G W sts F2) : SB X G W (st :: sts) (sSeq F1 F2) :=
  PSs.weak (pss_cons h h') fun N σ H ⟨env, ms, Z, r, p⟩ => ⟨env, ms, Z, r, by
    unfold sSeq at p
    cases e : F1 env ms with
    | nx e1 m1 =>
      rw [e] at p
      exact fun σ' H' Z' s' r' => ⟨e1, m1, Z', r', PostS.mono s' p⟩
    | bk _ _ =>
      rw [e] at p
      exact p
    | ct _ _ =>
      rw [e] at p
      exact p
    | rt _ _ =>
      rw [e] at p
      exact p
    | ex _ _ _ _ =>
      rw [e] at p
      exact p
    | bad =>
      rw [e] at p
      exact p⟩
/-- a slot's own list is frozen ahead of a statement -/
def sFrz (i : Nat) (F : FS) : FS := fun env ms => F (frzEnv env i) ms
theorem ss_frz (i : Nat) (h : SS X G W st F) : SS X G W st (sFrz i F) :=
  PS.weak h fun N σ H ⟨env, ms, Z, r, p⟩ => ⟨frzEnv env i, ms, Z.freeze (i + 1), r.freeze i, PostS.mono (freeze_ff r.ownf) p⟩
theorem ss_pass : SS X G W (.Pass pos) sNil := SS.mk ps_pass fun N σ H env ms Z r p => p σ H Z (Same.refl _) r
def sBreak : FS := fun env ms => .bk env ms
def sCont : FS := fun env ms => .ct env ms
theorem ss_break : SS X G W (.Break pos) sBreak := SS.mk ps_break fun N σ H env ms Z r p => p σ H Z (Same.refl _) r
theorem ss_continue : SS X G W (.Continue pos) sCont := SS.mk ps_continue fun N σ H env ms Z r p => p σ H Z (Same.refl _) r
def sIf (fc : EF) (F1 F2 : FS) : FS := fun env ms => (fc env ms).st env fun _ d m => match d with
  | .bl true => F1 env m
  | .bl false => F2 env m
  | _ => .bad
theorem ss_if {s1 s2 : List Stmt} (hc : ST X G W c fc) (h1 : SB X G W s1 F1) (h2 : SB X G W s2 F2) : SS X G W (.If c s1 s2 pos) (sIf fc F1 F2) := by
  obtain ⟨t, pt, hc⟩ := hc
  refine SS.mk (ps_if pt h1 h2) fun N σ H env ms Z r p => hc σ H env ms Z _ r (PostS.test (k := fun d m => match d with
    | .bl true => F1 env m
    | .bl false => F2 env m
    | _ => .bad) r p (fun d m n => ?_) fun k m H' Z' x r' p' => ?_)
  · cases d with
    | bl k => exact absurd rfl (n k)
    | _ => rfl
  · cases k with
    | true =>
      rw [if_pos rfl]
      exact ⟨env, m, Z', r', p'⟩
    | false =>
      rw [if_neg Bool.false_ne_true]
      exact ⟨env, m, Z', r', p'⟩
/-! ### return, stores -/
def sRet (f : EF) : FS := fun env ms => (f env ms).st env fun fl d m => match fl with
  | .o _ => .rt d m
  | .b _ => .bad
theorem ss_ret (h : SE X G W e f) : SS X G W (.Return (some e) pos) (sRet f) := by
  obtain ⟨t, pt, h⟩ := h
  refine SS.mk (ps_ret pt) fun N σ H env ms Z r p => h σ H env ms Z _ r (PostS.expr r p fun fl d m v H' Z' x r' t' p' => ?_)
  cases fl with
  | o k => exact p' v σ H' (Z'.freeze 0) env (freeze_ff r'.ownf) r'.freeze0 (Own.frozen r'.ownf t')
  | b k => exact p'.elim
def sRetN : FS := fun _ ms => .rt .non ms
theorem ss_retN : SS X G W (.Return none pos) sRetN := SS.mk ps_retN fun N σ H env ms Z r p => p .non σ H Z env (Same.refl _) r rfl
/-- x = e -/
def sSet (i : Nat) (f : EF) : FS := fun env ms => (f env ms).st env fun fl d m => match fl with
  | .o k => .nx (env.set i (some (k, d))) m
  | .b _ => .bad
theorem set_sem {K : PySem.W.Frag} {G : Gh} {W : WX} {env : Env} {σ : Sl} {ms : MS} {Z : Zs} {H : Hp} {N : Ends} {f : EF} {t : TE} (i : Nat)
    (h : ∀ (σ : Sl) (H : Hp) (env : Env) (ms : MS) (Z : Zs) (Q : VK), R K G env ms σ H Z → PostE K G W env σ ms Z H Q (f env ms) → t σ H Q)
    (r : R K G env ms σ H Z) (p : PostS K G W Z N (sSet i f env ms)) : tAsg t (gName i) N σ H :=
  h σ H env ms Z _ r (PostS.expr r p fun fl d m v H' Z' x r' t' p' => by
    cases fl with
    | o k => exact p' _ H' (Z'.ren (toSlot i)) (Same.refl _) (r'.setO i t')
    | b k => exact p'.elim)
theorem ss_set (i : Nat) {x : Str} {pos' : Pos} (hN : X.N.Nodup) (h : SE X G W e f) (hi : X.N[i]? = some x := by rfl) (hx : Loc X.env.scope x := by first | exact .inl rfl | exact .inr rfl) (hs : swapsWith e (some (.Name x pos')) pos.line X.env = pure false := by rfl)
    (hf : X.fn x = true ∨ X.env.scope.names.lookup x = some .local := by first | exact .inl rfl | exact .inr rfl | assumption) : SS X G W (.Assign [.Name x pos'] e pos) (sSet i f) := by
  obtain ⟨t, pt, h⟩ := h
  exact SS.mk (ps_set hN hi hx pt hs hf) fun N σ H env ms Z r p => set_sem i h r p
/-- x = [.. for ..] -/
theorem ss_setLc (i : Nat) {y : Str} {py : Pos} {elt tg iter : Expr} {ifs : List Expr} {scope : Scope} {own : List (Str × Nat)} {vs : List Nat} {spos : Pos} {gp : GP} {fi : EI} {ft fe : EF} (nx : G.xf = none) (hc : X.calm = true) (hN : X.N.Nodup) (ev : own.map (·.2) = vs)
    (hsw : swapsWith (.ListComp elt [⟨tg, iter, ifs, 0⟩] scope pos) (some (.Name y py)) spos.line X.env = pure true) (hi : SI X G W tg iter fi) (ok : BlkOk X.N X.env.scope scope own) (hg : Blk X scope fun X => SG X G vs tg gp)
    (ht : Blk X scope fun X => PTs X ifs (tT X.K G W0 ft)) (he : Blk X scope fun X => SE X G W0 elt fe) (hy : X.N[i]? = some y := by rfl) (hyl : X.env.scope.names.lookup y = some .local := by rfl) (hs : ∀ x, foldedSetIterable iter X.env x = pure x := by intro _; rfl) :
    SS X G W (.Assign [.Name y py] (.ListComp elt [⟨tg, iter, ifs, 0⟩] scope pos) spos) (sSet i (eLc gp fi ft fe vs)) := by
  obtain ⟨wi, pw, hwi⟩ := hi
  subst ev
  exact SS.mk (ps_setLc hc hN hy hyl hsw pw ok (fun s H C cl fp => (hg s H C cl fp).can) ht (fun s H C cl fp => (he s H C cl fp).can) hs) fun N σ H env ms Z r p =>
    set_sem (t := tLc wi (tG X.K G (own.map (·.2)) gp) (tT X.K G W0 ft) (tE X.K G W0 fe) (own.map (·.2))) i (fun σ H env ms Z Q r p => lc_go nx hwi r p) r p
/-- pattern = e -/
def sAsg (gp : GP) (f : EF) : FS := fun env ms => (f env ms).st env fun fl d m => match fl with
  | .o _ => (match gp d env with
    | some env' => .nx env' m
    | none => .bad)
  | .b _ => .bad
theorem ss_asg {tg : Expr} {gp : GP} {vs : List Nat} (hg : SG X G vs tg gp) (h : SE X G W e f) (hs : swapsWithSole [tg] e pos.line X.env = pure false := by rfl) (hw : swappedStores [tg] e X.env = pure none := by rfl)
    (h1 : (assignEach [tg] X.env).map (·.2) = [assign tg X.env] := by rfl) : SS X G W (.Assign [tg] e pos) (sAsg gp f) := by
  obtain ⟨t, pt, h⟩ := h
  obtain ⟨g, pg, hg⟩ := hg
  refine SS.mk (ps_asg pt pg hs hw h1) fun N σ H env ms Z r p => h σ H env ms Z _ r (PostS.expr r p fun fl d m v H' Z' x r' t' p' => ?_)
  cases fl with
  | o k =>
    refine hg v d σ H' env m (Z'.freeze 0) _ r'.freeze0 (Own.frozen r'.ownf t') ?_
    cases e1 : gp d env with
    | none =>
      simp only [e1] at p'
      exact p'
    | some env' =>
      simp only [e1] at p'
      exact fun σ' w r2 => p' σ' H' (Z'.freeze 0) (freeze_ff r'.ownf) r2
  | b k => exact p'.elim
/-- e, its value dropped -/
def sDrop (f : EF) : FS := fun env ms => (f env ms).st env fun _ _ m => .nx env m
theorem ss_expr (h : SE X G W e f) (hs : swapsWith e none pos.line X.env = pure false := by rfl) : SS X G W (.Expr e pos) (sDrop f) := by
  obtain ⟨t, pt, h⟩ := h
  exact SS.mk (ps_expr pt hs) fun N σ H env ms Z r p => h σ H env ms Z _ r (PostS.expr r p fun fl d m v H' Z' x r' t' p' => p' σ H' Z' (Same.refl _) r')
/-- a, b = x, y -/
def sPar (i j : Nat) (fl : EL) : FS := fun env ms => match fl env ms with
  | .ok [d, d'] m => .nx ((env.set i (some (0, d))).set j (some (0, d'))) m
  | .ok _ _ => .bad
  | .exc c d m => .ex c d env m
  | .bad => .bad
theorem ss_par (i j : Nat) {x y : Str} {px py pt : Pos} {kt k2 : Nat} {pt2 : Pos} {fl : EL} (hc : X.calm = true) (hN : X.N.Nodup) (ha : SA X G W [a, b] fl) (hij : i ≠ j := by decide) (hi : X.N[i]? = some x := by rfl) (hj : X.N[j]? = some y := by rfl)
    (hx : X.env.scope.names.lookup x = some .local := by rfl) (hy : X.env.scope.names.lookup y = some .local := by rfl)
    (hw : swappedStores [.Tuple [.Name x px, .Name y py] kt pt] (.Tuple [a, b] k2 pt2) X.env = pure (some [x, y]) := by rfl)
    (hs : swapsWithSole [.Tuple [.Name x px, .Name y py] kt pt] (.Tuple [a, b] k2 pt2) pos.line X.env = pure false := by rfl) :
    SS X G W (.Assign [.Tuple [.Name x px, .Name y py] kt pt] (.Tuple [a, b] k2 pt2) pos) (sPar i j fl) := by
  obtain ⟨t, pa, h⟩ := ha
  refine SS.mk (ps_par hc hN hi hj hij hx hy pa hw hs) fun N σ H env ms Z r p => h σ H env ms Z _ r ?_
  unfold sPar at p
  cases e : fl env ms with
  | ok ds m =>
    rw [e] at p
    intro vs H' Z' x' r' q
    match ds, q, p with
    | [d, d'], q, p =>
      obtain ⟨v, r1, rfl, q1, v', r2, rfl, q2, q3⟩ := q
      have q3' : r2 = [] := q3
      subst q3'
      exact ⟨v, v', rfl, p _ H' Z' x'.ff ((r'.set0 i q1).set0 j q2)⟩
    | [], _, p => exact p.elim
    | [_], _, p => exact p.elim
    | _ :: _ :: _ :: _, _, p => exact p.elim
  | exc c d m =>
    rw [e] at p
    exact fun dx H2 Z2 x r2 t => p dx σ H2 Z2 x.ff r2 t
  | bad =>
    rw [e] at p
    exact p
/-! ### loops -/
def forF (gp : GP) (body : FS) : List D → FS
  | [], env, ms => .nx env ms
  | d :: ds, env, ms => match gp d env with
    | none => .bad
    | some env1 => match body env1 ms with
      | .nx e m => forF gp body ds e m
      | .ct e m => forF gp body ds e m
      | .bk e m => .nx e m
      | .rt d m => .rt d m
      | .ex c d e m => .ex c d e m
      | .bad => .bad
def sFor (gp : GP) (fi : EI) (body : FS) : FS := fun env ms => match fi env ms with
  | .ok true ds m => forF gp body ds env m
  | .ok false _ _ => .bad
  | .exc c d m => .ex c d env m
  | .bad => .bad
theorem ss_for {tg iter : Expr} {body : List Stmt} {vs : List Nat} {gp : GP} {fi : EI} (hp : PassesOwn (model X.prog X.w) X.A X.env X.xe) (hc : X.calm = true) (hi : SI X G W tg iter fi) (hg : SG X G vs tg gp) (hb : SB X G W body F)
    (hs : ∀ x, foldedSetIterable iter X.env x = pure x := by intro _; rfl) : SS X G W (.For tg iter body [] pos) (sFor gp fi F) := by
  obtain ⟨wi, pw, hwi⟩ := hi
  refine SS.mk (ps_for hp hc pw hg.can hb hs) fun N σ H env ms Z r p => hwi σ H env ms Z _ r ?_
  unfold sFor at p
  cases e : fi env ms with
  | bad =>
    rw [e] at p
    exact p
  | exc c d m =>
    rw [e] at p
    exact fun dx H2 Z2 x r2 t => p dx σ H2 Z2 x.ff r2 t
  | ok fz ds m =>
    rw [e] at p
    cases fz with
    | false => exact p.elim
    | true =>
      intro J H1 Z1 x1 r1 w
      refine ⟨fun i m' σ H => i + m' = ds.length ∧ ∃ env ms Z', Same Z1.f Z'.f ∧ R X.K G env ms σ H Z' ∧ PostS X.K G W Z' N (forF gp F (ds.drop i) env ms),
        ⟨ds.length, Nat.zero_add _, env, m, Z1, Same.refl _, r1, PostS.mono x1.ff (by rw [List.drop_zero]; exact p)⟩, fun i m' σ2 H2 hW => ?_⟩
      obtain ⟨em, env2, ms2, Z2, s2, r2, p2⟩ := hW
      have sB : Same (bsel true Z1) H2 := (s2.trans r2.fb).trans r2.bh
      by_cases hi : i < ds.length
      · refine .inr ⟨w.go i H2 hi sB, fun σ' H' => ∃ m2, m2 < m' ∧ (i + 1) + m2 = ds.length ∧ ∃ env ms Z', Same Z1.f Z'.f ∧ R X.K G env ms σ' H' Z' ∧ PostS X.K G W Z' N (forF gp F (ds.drop (i + 1)) env ms), fun σ' H' h => h, fun x H' hy => ?_⟩
        have key : ∀ (Z3 : Zs) (d : D), Same Z2.f Z3.f → R X.K G env2 ms2 σ2 H' Z3 → Rep X.K Z3.f d x → ds[i]? = some d → tG X.K G vs gp x σ2 H' fun σ3 H3 => tS X.K G W F { N with
            nx := fun σ' H' => ∃ m2, m2 < m' ∧ (i + 1) + m2 = ds.length ∧ ∃ env ms Z', Same Z1.f Z'.f ∧ R X.K G env ms σ' H' Z' ∧ PostS X.K G W Z' N (forF gp F (ds.drop (i + 1)) env ms),
            ct := fun σ' H' => ∃ m2, m2 < m' ∧ (i + 1) + m2 = ds.length ∧ ∃ env ms Z', Same Z1.f Z'.f ∧ R X.K G env ms σ' H' Z' ∧ PostS X.K G W Z' N (forF gp F (ds.drop (i + 1)) env ms),
            bk := N.nx } σ3 H3 := by
          intro Z3 d s3 r3 q3 hd
          have ed : ds.drop i = d :: ds.drop (i + 1) := by
            rw [List.drop_eq_getElem_cons hi]
            congr 1
            rw [List.getElem?_eq_getElem hi] at hd
            exact Option.some.inj hd
          rw [ed] at p2
          refine ⟨d, env2, ms2, Z3, r3, q3, ?_⟩
          cases e1 : gp d env2 with
          | none =>
            simp only [forF, e1] at p2
            exact p2
          | some env3 =>
            simp only [forF, e1] at p2
            intro σ3 w3 r4
            refine ⟨env3, ms2, Z3, r4, ?_⟩
            cases e2 : F env3 ms2 with
            | nx e4 m4 =>
              simp only [e2] at p2
              exact fun σ5 H5 Z5 s5 r5 => ⟨m' - 1, by omega, by omega, e4, m4, Z5, (s2.trans s3).trans s5, r5, PostS.mono (s3.trans s5) p2⟩
            | ct e4 m4 =>
              simp only [e2] at p2
              exact fun σ5 H5 Z5 s5 r5 => ⟨m' - 1, by omega, by omega, e4, m4, Z5, (s2.trans s3).trans s5, r5, PostS.mono (s3.trans s5) p2⟩
            | bk e4 m4 =>
              simp only [e2] at p2
              exact fun σ5 H5 Z5 s5 r5 => p2 σ5 H5 Z5 (s3.trans s5) r5
            | rt d4 m4 =>
              simp only [e2] at p2
              exact fun v σ5 H5 Z5 env5 s5 r5 q5 => p2 v σ5 H5 Z5 env5 (s3.trans s5) r5 q5
            | ex c4 d4 e4 m4 =>
              simp only [e2] at p2
              exact fun dx σ5 H5 Z5 s5 r5 q5 => p2 dx σ5 H5 Z5 (s3.trans s5) r5 q5
            | bad =>
              simp only [e2] at p2
              exact p2
        rcases w.yld i H2 x H' hi sB hy with ⟨rfl, d, hd, q⟩ | ⟨T, u, v, du, dv, rfl, nT, rfl, hd, q1, q2⟩
        · exact key Z2 d (Same.refl _) r2 (Rep.mono s2 _ _ q) hd
        · exact key (Z2.newF T (.tup [u, v])) _ (r2.extF nT).ff (r2.newF nT) (r2.topT (ds := [du, dv]) nT ⟨u, _, rfl, Rep.mono s2 _ _ q1, v, _, rfl, Rep.mono s2 _ _ q2, rfl⟩) hd
      · have ei : i = ds.length := by omega
        subst ei
        rw [List.drop_length] at p2
        exact .inl ⟨w.stop H2 sB, p2 σ2 H2 Z2 (Same.refl _) r2⟩
def whileF (fc : EF) (body : FS) : Nat → FS
  | 0, _, _ => .bad
  | n + 1, env, ms => (fc env ms).st env fun _ d m => match d with
    | .bl true => (match body env m with
      | .nx e m => whileF fc body n e m
      | .ct e m => whileF fc body n e m
      | .bk e m => .nx e m
      | .rt d m => .rt d m
      | .ex c d e m => .ex c d e m
      | .bad => .bad)
    | .bl false => .nx env m
    | _ => .bad
def sWhile (n : Nat) (fc : EF) (body : FS) : FS := fun env ms => whileF fc body n env ms
theorem ss_while (n : Nat) {body : List Stmt} (hp : PassesOwn (model X.prog X.w) X.A X.env X.xe) (hc : ST X G W c fc) (hb : SB X G W body F) : SS X G W (.While c body [] pos) (sWhile n fc F) := by
  obtain ⟨t, pt, hc⟩ := hc
  refine SS.mk (ps_while hp pt hb) fun N σ H env ms Z r p => ⟨fun k σ H => ∃ env ms Z', R X.K G env ms σ H Z' ∧ PostS X.K G W Z' N (whileF fc F k env ms), ⟨n, env, ms, Z, r, p⟩, fun k σ2 H2 hW => ?_⟩
  obtain ⟨env2, ms2, Z2, r2, p2⟩ := hW
  cases k with
  | zero => exact p2.elim
  | succ k =>
    refine hc σ2 H2 env2 ms2 Z2 _ r2 (PostS.test (k := fun d m => match d with
      | .bl true => (match F env2 m with
        | .nx e m => whileF fc F k e m
        | .ct e m => whileF fc F k e m
        | .bk e m => .nx e m
        | .rt d m => .rt d m
        | .ex c d e m => .ex c d e m
        | .bad => .bad)
      | .bl false => .nx env2 m
      | _ => .bad) r2 p2 (fun d m z => ?_) fun b m H3 Z3 x r3 p3 => ?_)
    · cases d with
      | bl b => exact absurd rfl (z b)
      | _ => rfl
    · cases b with
      | true =>
        rw [if_pos rfl]
        refine ⟨fun σ' H' => ∃ m', m' < k + 1 ∧ ∃ env ms Z', R X.K G env ms σ' H' Z' ∧ PostS X.K G W Z' N (whileF fc F m' env ms), fun σ' H' h => h, env2, m, Z3, r3, ?_⟩
        cases e2 : F env2 m with
        | nx e4 m4 =>
          simp only [e2] at p3
          exact fun σ5 H5 Z5 s5 r5 => ⟨k, by omega, e4, m4, Z5, r5, PostS.mono s5 p3⟩
        | ct e4 m4 =>
          simp only [e2] at p3
          exact fun σ5 H5 Z5 s5 r5 => ⟨k, by omega, e4, m4, Z5, r5, PostS.mono s5 p3⟩
        | bk e4 m4 =>
          simp only [e2] at p3
          exact p3
        | rt d4 m4 =>
          simp only [e2] at p3
          exact p3
        | ex c4 d4 e4 m4 =>
          simp only [e2] at p3
          exact p3
        | bad =>
          simp only [e2] at p3
          exact p3
      | false =>
        rw [if_neg Bool.false_ne_true]
        exact p3 σ2 H3 Z3 (Same.refl _) r3
end
end DL
namespace DL
open PySem PySem.Spec PyProof.Rows L2

inductive FOut where
  | ok (d : D) (ms : MS) | exc (c : String) (d : D) (ms : MS) | bad
abbrev Fn := List D → MS → FOut
/-- what stands behind a call -/
structure Behind (H f : Hp) (ms : MS) (H' f' : Hp) (ms' : MS) : Prop where
  aft : Aft ⟨H, f, ms, ⟨fun _ => 0, []⟩, none⟩ H' f' ms'
  tb : tbm ms' = tbm ms
  fh : Same f' H'
  mr : MRep f' H' ms'
  fm : ∀ a, mfp ms' a → f' a = none
section
variable (K : PySem.W.Frag) (cls : ClT)
def PostF (H f : Hp) (ms : MS) (Q : VK) (E : XK) : FOut → Prop
  | .ok d ms' => ∀ v H' f', Behind H f ms H' f' ms' → Rep K f' d v → Q v H'
  | .exc c d ms' => ∀ dx H' f', Behind H f ms H' f' ms' → Rep K f' (.exc (fldOf c) d) (.ref dx) → E (.ref (cls c)) (some dx) H'
  | .bad => False
/-- a def's promise: it computes g -/
def spF (n : Nat) (g : Fn) : Sp := fun vs H Q E => ∃ (f : Hp) (ds : List D) (ms : MS), ds.length = n ∧ RepL K f ds vs ∧ Same f H ∧ MRep f H ms ∧ (∀ a, mfp ms a → f a = none) ∧ (∀ T, tbm ms = some T → T = cls.tb) ∧ PostF K cls H f ms Q E (g ds ms)
end
theorem spF_len {K : PySem.W.Frag} {cls : ClT} {n : Nat} {g : Fn} (vs : List V) (H : Hp) (Q : VK) (E : XK) (h : spF K cls n g vs H Q E) : vs.length = n := by
  obtain ⟨f, ds, ms, hl, r, _⟩ := h
  rw [r.len, hl]
/-! ### the call -/
def Zs.called (Z : Zs) (f' : Hp) : Zs := ⟨f', fun a => match f' a with
  | some o => some o
  | none => Z.b a, Z.o⟩
section
variable {K : PySem.W.Frag} {G : Gh} {W : WX} {env : Env} {σ : Sl} {ms ms' : MS} {Z : Zs} {H H' f' : Hp}
theorem called_b {o : HO} {a : Addr} (h : (Z.called f').b a = some o) : f' a = some o ∨ (f' a = none ∧ Z.b a = some o) := by
  have h' : (match f' a with
    | some o => some o
    | none => Z.b a) = some o := h
  cases e : f' a with
  | some u =>
    rw [e] at h'
    exact .inl h'
  | none =>
    rw [e] at h'
    exact .inr ⟨rfl, h'⟩
theorem R.called_bb (r : R K G env ms σ H Z) (x : Behind H Z.f ms H' f' ms') : Same Z.b (Z.called f').b := fun a o h => by
  show (match f' a with
    | some o => some o
    | none => Z.b a) = some o
  cases e : f' a with
  | none => exact h
  | some u =>
    have h1 := x.fh a u e
    have h2 := x.aft.keep a o (r.bh a o h) fun m => by
      rw [r.bm a m] at h
      cases h
    rw [h1] at h2
    exact h2
theorem R.called (r : R K G env ms σ H Z) (x : Behind H Z.f ms H' f' ms') : R K G env ms' σ H' (Z.called f') where
  aft := ⟨r.aft.ff.trans x.aft.ff, fun a o e n => x.aft.keep a o (r.aft.keep a o e n) fun m => n ((r.aft.mf a).mp m), fun a o e n => by
    cases z : Z.f a with
    | some u => exact r.aft.new a u z n
    | none => exact r.n0 (x.aft.new a o e z), fun a => (x.aft.mf a).trans (r.aft.mf a)⟩
  fb := fun a o h => by
    show (match f' a with
      | some o => some o
      | none => Z.b a) = some o
    have h' : f' a = some o := h
    rw [h']
  bh := fun a o h => by
    rcases called_b h with h | ⟨_, h⟩
    · exact x.fh a o h
    · exact x.aft.keep a o (r.bh a o h) fun m => by
        rw [r.bm a m] at h
        cases h
  bm := fun a m => by
    show (match f' a with
      | some o => some o
      | none => Z.b a) = none
    rw [x.fm a m]
    exact r.bm a ((x.aft.mf a).mp m)
  mr := x.mr
  tb := fun T h => r.tb T (x.tb ▸ h)
  own := fun a i e => by
    obtain ⟨h1, h2, h3⟩ := r.own a i e
    refine ⟨?_, h2, ?_⟩
    · cases z : f' a with
      | none => exact z
      | some u =>
        have n := x.aft.new a u z h1
        cases q : Z.b a with
        | none => exact absurd q h3
        | some w =>
          have n' : H a = none := n
          rw [r.bh a w q] at n'
          cases n'
    · intro z
      cases q : Z.b a with
      | none => exact h3 q
      | some w =>
        rw [r.called_bb x a w q] at z
        cases z
  len := r.len
  lb := r.lb
  xf := r.xf.mono x.aft.ff
  sl := fun i k d h => by
    obtain ⟨v, e, q⟩ := r.sl i k d h
    exact ⟨v, e, Own.ids (Z := Z) (Z' := Z.called f') x.aft.ff (r.called_bb x) (fun _ _ h => h) q⟩
theorem R.called_ext (r : R K G env ms σ H Z) (x : Behind H Z.f ms H' f' ms') : Ext ms Z H (Z.called f') H' where
  ff := x.aft.ff
  bb := r.called_bb x
  keep := fun a o h n => x.aft.keep a o h n
  newb := fun a o h n => by
    rcases called_b h with h | ⟨_, h⟩
    · have zf : Z.f a = none := by
        cases z : Z.f a with
        | none => rfl
        | some u =>
          rw [r.fb a u z] at n
          cases n
      exact x.aft.new a o h zf
    · rw [h] at n
      cases n
  nm := fun a m => (r.called x).bm a ((x.aft.mf a).mpr m)
  oo := fun _ _ h _ _ => h
end
def FOut.e (o : FOut) : Out := match o with
  | .ok d ms => .ok (.o 0) d ms
  | .exc c d ms => .exc c d ms
  | .bad => .bad
theorem PostF.of {K : PySem.W.Frag} {G : Gh} {W : WX} {env : Env} {σ : Sl} {ms : MS} {Z : Zs} {H : Hp} {Q : VK} {o : FOut} (r : R K G env ms σ H Z) (p : PostE K G W env σ ms Z H Q o.e) : PostF K G.cls H Z.f ms Q (fun c d H => W c d σ H) o := by
  cases o with
  | ok d m => exact fun v H' f' x q => p v H' (Z.called f') (r.called_ext x) (r.called x) q
  | exc c d m => exact fun dx H' f' x q => p dx H' (Z.called f') (r.called_ext x) (r.called x) q
  | bad => exact p
theorem spF.of {K : PySem.W.Frag} {G : Gh} {W : WX} {env : Env} {σ : Sl} {ms : MS} {Z : Zs} {H : Hp} {Q : VK} {n : Nat} {g : Fn} {ds : List D} {vs : List V} (r : R K G env ms σ H Z) (hn : ds.length = n) (q : RepL K Z.f ds vs) (p : PostE K G W env σ ms Z H Q (g ds ms).e) :
    spF K G.cls n g vs H Q (fun c d H => W c d σ H) :=
  ⟨Z.f, ds, ms, hn, q, r.fb.trans r.bh, r.mr, (fun a m => by
    cases z : Z.f a with
    | none => rfl
    | some u =>
      have := r.fb a u z
      rw [r.bm a m] at this
      cases this), r.tb, PostF.of r p⟩
/-- a def of the module that computes g, as a caller has it -/
structure Cal (P : Program) (w : World) (K : PySem.W.Frag) (mg : Str → Option Value) (base : Heap) (cls : ClT) (x : Str) (n k : Nat) (g : Fn) : Prop where
  ex : ∃ (f : Addr) (fd : FuncData) (ps : List Str), FnOk P w K mg base (L2.CX P w) k f fd ps (spF K cls n g) ∧ ps.length = n ∧ mg x = some (.ref f) ∧ PySem.W.keepIn K (.ref f) = true
section
variable {X : Cx} {G : Gh} {W : WX} {a b e c : Expr} {es : List Expr} {fl : EL} {pos p : Pos}
def eCall (n : Nat) (g : Fn) (dds : List D) (fl : EL) : EF := fun env ms => (fl env ms).bind fun ds m => if (ds ++ dds).length = n then (g (ds ++ dds) m).e else .bad
theorem RepL.appD {K : PySem.W.Frag} {H : Hp} {ds es : List D} {vs us : List V} (h : RepL K H ds vs) (h' : RepL K H es us) : RepL K H (ds ++ es) (vs ++ us) := h.app h'
theorem se_call {n k : Nat} {g : Fn} {x : Str} {f : Addr} {fd : FuncData} {ps : List Str} {dds : List D} {dvs : List V} {dus : List Value} (tk : Takes X W) (F : FnOk X.prog X.w X.K X.mg X.base (L2.CX X.prog X.w) k f fd ps (spF X.K G.cls n g)) (hr : Room k X.A)
    (hm : X.mg x = some (.ref f)) (hk : PySem.W.keepIn X.K (.ref f) = true) (hb : Binds X.K fd ps dus) (hd : Vals dvs dus) (hdd : ∀ H, RepL X.K H dds dvs) (ha : SA X G W (e :: es) fl) (hg : Gl X x := by rfl)
    (hdb : (x == ("__debug__" : Str)) = false := by decide) (he : starEach (e :: es) X.env = (false, eval e X.env) :: starEach es X.env := by rfl) (hpl : (backTo pos (starEach es X.env)).any (·.1) = false := by rfl) :
    SE X G W (.Call (.Name x p) (e :: es) [] pos) (eCall n g dds fl) := by
  obtain ⟨t, pt, h⟩ := ha
  refine ⟨_, pe_callSD (E := fun σ c d H => W c d σ H) F hr hg hm hk hb hd (fun σ => passAt tk σ) pt hdb he hpl, fun σ H env ms Z Q r q => h σ H env ms Z _ r (PostE.args r q fun ds m vs H' Z' x' r' t' q' => ?_)⟩
  by_cases z : (ds ++ dds).length = n
  · rw [if_pos z] at q'
    exact spF.of r' z (t'.app (hdd _)) q'
  · rw [if_neg z] at q'
    exact q'.elim
theorem se_call0 {k : Nat} {g : Fn} {x : Str} {f : Addr} {fd : FuncData} (tk : Takes X W) (F : FnOk X.prog X.w X.K X.mg X.base (L2.CX X.prog X.w) k f fd [] (spF X.K G.cls 0 g)) (hr : Room k X.A)
    (hm : X.mg x = some (.ref f)) (hk : PySem.W.keepIn X.K (.ref f) = true) (hb : Binds X.K fd [] []) (hg : Gl X x := by rfl) (hdb : (x == ("__debug__" : Str)) = false := by decide) : SE X G W (.Call (.Name x p) [] [] pos) (fun _ ms => (g [] ms).e) := by
  have run : ∀ (σ : Sl), PE X (.Call (.Name x p) [] [] pos) (fun σ' H Q => σ' = σ ∧ spF X.K G.cls 0 g [] H Q (fun c d H => W c d σ H)) := fun σ => ⟨fun pins s σ' H Q I ⟨e, h⟩ => by
    subst e
    refine wpAny_Call_Name_kw (ld_glob I hg hm ?_ hdb)
    exact PySem.W.callWith_K0 I.kIn hk (run_fnSD F hr hb .nil (passAt tk σ') I .nil h)⟩
  refine ⟨fun σ H Q => spF X.K G.cls 0 g [] H Q (fun c d H => W c d σ H), ⟨fun pins s σ H Q I h => (run σ).run pins s σ H Q I ⟨rfl, h⟩⟩, fun σ H env ms Z Q r q => spF.of (ds := []) r rfl rfl q⟩
/-! ### keywords -/
/-- positional values us, the keywords' values ws in the order in which they are written; gp puts them in the parameters' order -/
structure KwB (K : PySem.W.Frag) (fd : FuncData) (ps : List Str) (n : Nat) (ks : List Str) (gp : {α : Type} → List α → List α → List α) : Prop where
  to : ∀ (s : Shared) (us ws : List Value), K.In s.heap → us.length = n → ws.length = ks.length → BindsTo s fd ⟨us, ks.zip ws⟩ (ps.zip (gp us ws))
  nat : ∀ {α β : Type} {Rr : α → β → Prop} {as : List α} {bs : List β} {cs : List α} {ds : List β}, Paired Rr as bs → Paired Rr cs ds → as.length = n → cs.length = ks.length → Paired Rr (gp as cs) (gp bs ds)
theorem RepL.paired {K : PySem.W.Frag} {H : Hp} : ∀ {ds : List D} {vs : List V}, RepL K H ds vs ↔ Paired (fun d v => Rep K H d v) ds vs
  | [], vs => ⟨fun h => by
      have h' : vs = [] := h
      subst h'
      exact .nil, fun h => by
      cases h
      exact rfl⟩
  | d :: ds, vs => ⟨fun h => by
      obtain ⟨v, r, rfl, q, t⟩ := h
      exact .cons q (RepL.paired.mp t), fun h => by
      cases h with
      | cons q t => exact ⟨_, _, rfl, q, RepL.paired.mpr t⟩⟩
/-- keyword values -/
def SK (X : Cx) (G : Gh) (W : WX) (kws : List Keyword) (f : EL) : Prop :=
  ∃ t, PK X kws t ∧ ∀ (σ : Sl) (H : Hp) (env : Env) (ms : MS) (Z : Zs) (Q : List V → Hp → Prop), R X.K G env ms σ H Z → PostL X.K G W env σ ms Z H Q (f env ms) → t σ H Q
theorem sk_nil : SK X G W [] lNil := ⟨_, pk_nil, fun σ H env ms Z Q r p => p [] H Z r.refl r rfl⟩
theorem lcons_sem {K : PySem.W.Frag} {f : EF} {fl : EL} {t : TE} {u : TA} {σ : Sl} {H : Hp} {env : Env} {ms : MS} {Z : Zs} {Q : List V → Hp → Prop}
    (h : ∀ (σ : Sl) (H : Hp) (env : Env) (ms : MS) (Z : Zs) (Q : VK), R K G env ms σ H Z → PostE K G W env σ ms Z H Q (f env ms) → t σ H Q)
    (h' : ∀ (σ : Sl) (H : Hp) (env : Env) (ms : MS) (Z : Zs) (Q : List V → Hp → Prop), R K G env ms σ H Z → PostL K G W env σ ms Z H Q (fl env ms) → u σ H Q)
    (hr : R K G env ms σ H Z) (p : PostL K G W env σ ms Z H Q (lCons f fl env ms)) : tCons t u σ H Q := by
  refine h σ H env ms Z _ hr ?_
  unfold lCons at p
  match e : f env ms, p with
  | .ok (.o k) d ms1, p =>
    intro v H1 Z1 x1 r1 t1
    dsimp only at p
    have x1' := x1.trans (hr.aft.mm r1.aft) r1.ext0
    have t1' := Own.frozen r1.ownf t1
    refine h' σ H1 env ms1 (Z1.freeze 0) _ r1.freeze0 ?_
    cases e2 : fl env ms1 with
    | ok ds ms2 =>
      rw [e2] at p
      intro vs H2 Z2 x2 r2 t2
      exact p (v :: vs) H2 Z2 (x1'.trans (hr.aft.mm r1.aft) x2) r2 ⟨v, vs, rfl, Rep.mono x2.ff _ _ t1', t2⟩
    | exc c d ms2 =>
      rw [e2] at p
      exact PostL.ext (o := .exc c d ms2) (hr.aft.mm r1.aft) x1' p
    | bad =>
      rw [e2] at p
      exact p.elim
  | .ok (.b k) d ms1, p => exact p.elim
  | .exc c d ms1, p => exact p
  | .bad, p => exact p.elim
theorem sk_cons {nm : Option Str} {kpos : Pos} {kws : List Keyword} {f : EF} (h : SE X G W e f) (h' : SK X G W kws fl) : SK X G W (⟨nm, e, kpos⟩ :: kws) (lCons f fl) := by
  obtain ⟨t, pt, h⟩ := h
  obtain ⟨u, pu, h'⟩ := h'
  exact ⟨_, pk_cons pt pu, fun σ H env ms Z Q hr p => lcons_sem h h' hr p⟩
def eCallK (n : Nat) (g : Fn) (np nk : Nat) (gp : {α : Type} → List α → List α → List α) (fl fk : EL) : EF := fun env ms => (fl env ms).bind fun ds m => (fk env m).bind fun es m' =>
  if ds.length = np ∧ es.length = nk ∧ (gp ds es).length = n then (g (gp ds es) m').e else .bad
theorem se_callK0 {n k : Nat} {g : Fn} {x : Str} {f : Addr} {fd : FuncData} {ps ks : List Str} {kws : List Keyword} {fk : EL} {gp : {α : Type} → List α → List α → List α} (tk : Takes X W) (F : FnOk X.prog X.w X.K X.mg X.base (L2.CX X.prog X.w) k f fd ps (spF X.K G.cls n g)) (hr : Room k X.A)
    (hm : X.mg x = some (.ref f)) (hk : PySem.W.keepIn X.K (.ref f) = true) (hb : KwB X.K fd ps 0 ks gp) (ha : SK X G W kws fk) (hg : Gl X x := by rfl) (hall : (backToKw pos (keywordEach kws X.env)).all (·.1.isSome) = true := by rfl)
    (hks : (backToKw pos (keywordEach kws X.env)).filterMap (·.1) = ks := by rfl) (hdb : (x == ("__debug__" : Str)) = false := by decide)
    (hpl : ((backTo pos (starEach [] X.env)).any (·.1) || (backToKw pos (keywordEach kws X.env)).any (·.1.isNone)) = false := by rfl) :
    SE X G W (.Call (.Name x p) [] kws pos) (eCallK n g 0 ks.length gp lNil fk) := by
  obtain ⟨t, pt, h⟩ := ha
  refine ⟨fun σ H Q => t σ H fun zs H1 => zs.length = ks.length ∧ (gp [] zs).length = ps.length ∧ spF X.K G.cls n g (gp [] zs) H1 Q (fun c d H => W c d σ H), ⟨fun pins s σ H Q I hq => ?_⟩, fun σ H env ms Z Q r q => ?_⟩
  · refine wpAny_Call_Name_kw (ld_glob I hg hm ?_ hdb)
    refine PySem.W.callWith_KW0 (h₀ := X.base) I.ok.mod.kin hk hall (thn (pt.run pos pins s σ H _ I hq) fun ws s2 ⟨zs, H2, I2, rz, l1, l2, q2⟩ => ⟨I2.kIn, ?_⟩) hpl
    rw [hks]
    have rr : Vals (gp [] zs) (gp [] ws) := hb.nat (as := []) (bs := []) .nil rz rfl l1
    refine wpAny_call (codeAny_mono (F.run X.A X.stack s2 H2 ⟨[] ++ [], ks.zip ws⟩ (gp [] ws) (gp [] zs) Q (fun c d H => W c d σ H) hr I2.env0 (hb.to s2 [] ws I2.kIn rfl (by rw [← rz.length]; exact l1)) rr q2) fun rs s' hq => ?_)
    cases rs with
    | error e => exact passAt tk σ pins H2 s2 e s' I2 hq
    | ok fl =>
      cases fl with
      | ret u => exact I2.after hq
      | next => exact False.elim hq
      | brk => exact False.elim hq
      | cont => exact False.elim hq
  · refine h σ H env ms Z _ r ?_
    have q' : PostE X.K G W env σ ms Z H Q ((fk env ms).bind fun es m' => if (0 : Nat) = 0 ∧ es.length = ks.length ∧ (gp [] es).length = n then (g (gp [] es) m').e else .bad) := q
    refine PostE.args r q' fun es m vs H' Z' x' r' t' p' => ?_
    by_cases z : (0 : Nat) = 0 ∧ es.length = ks.length ∧ (gp [] es).length = n
    · rw [if_pos z] at p'
      have l1 : vs.length = ks.length := t'.len.trans z.2.1
      have pr : RepL X.K Z'.f (gp [] es) (gp [] vs) := RepL.paired.mpr (hb.nat (as := []) (bs := []) .nil (RepL.paired.mp t') rfl z.2.1)
      have sp := spF.of (W := W) r' z.2.2 pr p'
      exact ⟨l1, F.len _ _ _ _ sp, sp⟩
    · rw [if_neg z] at p'
      exact p'.elim
end

/-! ### a def by its body -/
def startE (n : Nat) (ds : List D) : Env := ds.map (fun d => some (0, d)) ++ List.replicate (n - ds.length) none
def Fw.fin : Fw → FOut
  | .nx _ m => .ok .non m
  | .rt d m => .ok d m
  | .ex c d _ m => .exc c d m
  | _ => .bad
/-- what a def computes, by its body -/
def runD (n : Nat) (F : FS) : Fn := fun ds ms => (F (startE n ds) ms).fin
theorem start_R {K : PySem.W.Frag} {cls : ClT} {N : List Str} {f H : Hp} {ms : MS} {ds : List D} {vs : List V} (hN : N.length < 1000) (hle : ds.length ≤ N.length) (r : RepL K f ds vs) (fh : Same f H) (mr : MRep f H ms) (fm : ∀ a, mfp ms a → f a = none) (tb : ∀ T, tbm ms = some T → T = cls.tb) :
    R K ⟨H, f, ms, cls, none⟩ (startE N.length ds) ms (L2.start N vs) H ⟨f, f, fun _ => none⟩ where
  aft := ⟨Same.refl _, fun a o h _ => h, (fun a o h n => by
    have h' : f a = some o := h
    have n' : f a = none := n
    rw [h'] at n'
    cases n'), fun _ => Iff.rfl⟩
  fb := Same.refl _
  bh := fh
  bm := fm
  mr := mr
  tb := tb
  own := fun a i h => by cases h
  len := by
    unfold L2.start startE
    rw [List.length_append, List.length_append, List.length_map, List.length_map, List.length_replicate, List.length_replicate, r.len]
  lb := by
    unfold startE
    rw [List.length_append, List.length_map, List.length_replicate]
    omega
  xf := fun i a sd fl d e => by cases e
  sl := fun i k d h => by
    unfold startE at h
    by_cases z : i < ds.length
    · rw [List.getElem?_append_left (by rw [List.length_map]; exact z), List.getElem?_map, List.getElem?_eq_getElem z] at h
      cases h
      obtain ⟨v, e, q⟩ := r.at (List.getElem?_eq_getElem z)
      refine ⟨v, ?_, q⟩
      unfold L2.start
      rw [List.getElem?_append_left (by rw [List.length_map, r.len]; exact z), List.getElem?_map, e]
      rfl
    · rw [List.getElem?_append_right (by rw [List.length_map]; omega), List.length_map, List.getElem?_replicate] at h
      split at h <;> cases h
theorem fn_ok {P : Program} {w : World} {K : PySem.W.Frag} {mg : Str → Option Value} {base : Heap} {x qual : Str} {params : Arguments} {body : List Stmt} {scope : Scope} {dvs : List V} {kws : List (Str × V)} {fa : Addr} {fd : FuncData} {N ps : List Str} {k n : Nat} {F : FS} {cls : ClT}
    (Fd : FunD K x qual params body scope dvs kws fa fd) (S : FnScope N ps scope) (hn : ps.length = n) (hN : N.length < 1000) (hle : n ≤ N.length)
    (hb : ∀ (cdv : Value) (A : Around) (outer : List PySem.Env) (s : Shared) (H : Hp) (E : XK) (G : Gh), G.cls = cls → G.xf = none → Room k (A.deeper (envOfC qual scope s.heap.objs.size fa cdv)) →
      SB (cxOf (L2.CX P w) P w K mg base N qual scope fa cdv A outer s H E) G (fun c d _ H => E c d H) body F) : FnOk P w K mg base (L2.CX P w) (k + 1) fa fd ps (spF K cls n (runD N.length F)) := by
  subst hn
  refine Fd.ok S (fun vs H Q E h => spF_len vs H Q E h) fun cdv A outer s H vs Q E hr h => ?_
  obtain ⟨f, ds, ms, hl, r, fh, mr, fm, tb, p⟩ := h
  refine ⟨_, hb cdv A outer s H E ⟨H, f, ms, cls, none⟩ rfl rfl hr, startE N.length ds, ms, ⟨f, f, fun _ => none⟩, start_R hN (by omega) r fh mr fm tb, ?_⟩
  have key : ∀ {σ : Sl} {H' : Hp} {Z' : Zs} {env : Env} {m : MS}, Same f Z'.f → R K ⟨H, f, ms, cls, none⟩ env m σ H' Z' → Behind H f ms H' Z'.f m := fun {σ H' Z' env m} s r => ⟨⟨r.aft.ff, r.aft.keep, r.aft.new, r.aft.mf⟩, tbm_eq r.aft.mf tb r.tb, r.fb.trans r.bh, r.mr, fun a q => by
    cases z : Z'.f a with
    | none => rfl
    | some u =>
      have := r.fb a u z
      rw [r.bm a q] at this
      cases this⟩
  unfold runD at p
  cases e : F (startE N.length ds) ms with
  | nx env m =>
    rw [e] at p
    exact fun σ H' Z' s r => p .non H' Z'.f (key s r) rfl
  | rt d m =>
    rw [e] at p
    exact fun v σ H' Z' env s r q => p v H' Z'.f (key s r) q
  | ex c d env m =>
    rw [e] at p
    exact fun dx σ H' Z' s r q => p dx H' Z'.f (key s r) q
  | bk _ _ =>
    rw [e] at p
    exact p.elim
  | ct _ _ =>
    rw [e] at p
    exact p.elim
  | bad =>
    rw [e] at p
    exact p.elim
end DL
namespace DL
open PySem PySem.Spec PyProof.Rows L2

/-! ### an own exception whose __init__ says super().__init__(text), then self.field = its argument -/
/-- what the written part says of such a class -/
structure SupC (P : Program) (K : PySem.W.Frag) (C : Addr) (fld : Str) (B newId initId : String) (bmB : List Value) (par : Str) : Prop where
  fb : ExcBaseFacts B newId initId bmB
  kf : PySem.W.KxsFacts B initId
  sf : StoreFacts B bmB "object.__setattr__" "object"
  ini : PySem.W.excInitIn K C bmB newId = true
  ov : PySem.W.excOver K C bmB = true
  tk : PySem.W.takerIn K C fld = some none
  hd : PySem.W.hasDictIn K C = true
  sa : PySem.W.findIn K (.ref C) "__setattr__" = some (some (.builtin "object.__setattr__"))
  sub : PySem.W.mroIn K C (.ref C) = some true
  su : PySem.W.ks_superIn K C C "__init__" = some (some (.builtin initId))
  sB : PySem.W.subIn K (.ref C) (.type B) = some true
  third : PySem.W.nsIn K cStatics "thirdparty.any" = some none
  exC : PySem.W.subIn K (.ref C) (.type "BaseException") = some true
  tyC : PySem.W.typeIn K (.ref C) = some (.type "type")
  kC : PySem.W.keepIn K (.ref C) = true
  cls : ∃ cd, PySem.W.clsIn K C = some cd
  fn : ∃ (fI cc cda : Addr) (qual : Str) (scope : Scope) (params : Arguments) (msg : Str) (j : Nat) (p0 p1 p2 p3 p4 p5 p6 p7 p8 p9 : Pos) (dV kV doc pm ct : Value) (an od : Option Addr) (osl : Array (Option Value)) (vs : Array Value) (file : Str) (tf : Tok)
      (oc1 oc2 : Value) (od1 od2 : Option Addr) (sl1 sl2 : Array (Option Value)) (rest : List Arg) (as : Arg),
    PySem.W.findIn K (.ref C) "__init__" = some (some (.ref fI)) ∧
    K.lookup fI = some ⟨.type "function", od, .func (PySem.W.ksFn "__init__" qual params [.Expr (.Call (.Attribute (.Call (.Name "super" p0) [] [] p1) "__init__" p2) [.Constant (.str msg) j p3] [] p4) p5, .Assign [.Attribute (.Name "self" p6) fld p7] (.Name par p8) p9]
      scope dV kV doc pm an (.ref cda) ct cc), osl⟩ ∧
    PySem.W.codeIn K (.ref cda) qual = true ∧ K.lookup cda = some ⟨oc1, od1, .fields vs, sl1⟩ ∧ vs[2]? = some (.str file tf) ∧ ((P.main.file : Str) == file) = true ∧
    K.lookup cc = some ⟨oc2, od2, .cell (some (.ref C)), sl2⟩ ∧
    params.posonlyargs ++ params.args = as :: rest ∧ as.arg = "self" ∧ par ≠ "self" ∧
    (∀ (a b : Value), bindArgs (PySem.W.ksFn "__init__" qual params [.Expr (.Call (.Attribute (.Call (.Name "super" p0) [] [] p1) "__init__" p2) [.Constant (.str msg) j p3] [] p4) p5, .Assign [.Attribute (.Name "self" p6) fld p7] (.Name par p8) p9]
      scope dV kV doc pm an (.ref cda) ct cc) ⟨[a, b], []⟩ = pure [(("self" : Str), a), (par, b)]) ∧
    scope.names.lookup ("super" : Str) = some .globalImplicit ∧ scope.names.lookup ("__class__" : Str) = some .free ∧ scope.names.lookup ("self" : Str) = some .local ∧ scope.names.lookup par = some .local ∧
    scope.kind = .function ∧ scope.isCoroutine = false ∧ scope.isGenerator = false ∧ (∀ x ∈ scope.names, x.2 ≠ .cell) ∧ (par == ("__debug__" : Str)) = false ∧ (P.main.scope.names.lookup ("super" : Str)).isSome = false ∧
    (∀ env : PySem.Env, ∃ pl : Sem Bool, eval (.Call (.Attribute (.Call (.Name "super" p0) [] [] p1) "__init__" p2) [.Constant (.str msg) j p3] [] p4) env = (do
      let ov ← attributeBase (.Call (.Name "super" p0) [] [] p1) "__init__" env (eval (.Call (.Name "super" p0) [] [] p1) env)
      standAt p2.atName
      let (f, first) ← holding [ov] (getMethod ov "__init__" pl)
      callWith p4 f first (backTo p4 (starEach [.Constant (.str msg) j p3] env)) []))
  super_ : bootBuiltins "super" = some (.type "super")

section
variable {P : Program} {w : World} {K : PySem.W.Frag} {A : Around} {E : Value → Shared → Prop} {C : Addr} {fld par : Str} {B newId initId : String} {bmB : List Value} {mg mb : Str → Option Value}
theorem sup_call (T : SupC P K C fld B newId initId bmB par) {hp : Heap} {g : Array GenState} {d : Drawn} {tk : Nat} {os : OsState} {v : Value} {Q : Value → Shared → Prop} (X : K.In hp) (lim : hp.NoLimit) (gn : hp.Ns mainGlobals mg) (gb : hp.Ns builtinsNs mb)
    (hmg : mg "super" = none) (hmb : mb "super" = some (.type "super")) (room : A.depth + 10 < recursionLimit)
    (fin : ∀ h' tk' dx t1, (∀ b o, hp.get? b = some o → h'.get? b = some o) → hp.objs.size ≤ dx → dx ≠ hp.objs.size + 1 → h'.get? (hp.objs.size + 1) = some ({ cls := .ref C, dict := some dx, data := .fields #[.ref t1, .none, .none, .none, .bool false, .none] } : Obj) →
      h'.Ns1 dx (fun y => if y = fld then some v else none) → Q (.ref (hp.objs.size + 1)) ⟨h', g, d, tk', os⟩) :
    wpAny (model P w) A (call (.ref C) [v]) Q E ⟨hp, g, d, tk, os⟩ := by
  obtain ⟨nm, N, qn, bs, bm, hdct, sn, sub, ab, col, dd, k0, k1, k2, k3, k5', hC, hT⟩ := PySem.W.excInit_of X T.ini
  obtain ⟨fI, cc, cda, qual, scope, params, msg, j, p0, p1, p2, p3, p4, p5, p6, p7, p8, p9, dV, kV, doc, pm, ct, an, od, osl, vs, file, tf, oc1, oc2, od1, od2, sl1, sl2, rest, as, hi, lf, hcd, lcode, hvs, hfile, lcell, hpar, has, hne, hbind, hs1, hs2, hs3, hs4, hk, hco, hgen, hcell, hdbg, htop, hev⟩ := T.fn
  obtain ⟨cd, hcd0⟩ := T.cls
  have hi' : PySem.W.Looks (model P w) hp (typeLookup (.ref C) "__init__") (some (.ref fI)) := PySem.W.looks_findIn X hi
  have hb' : ∀ self, PySem.W.Looks (model P w) hp (bindSpecial (.ref fI) self) (.ref fI, [self]) := fun self => PySem.W.exc_bind (X _ _ lf) rfl self
  refine wpAny_call (PySem.HandSPX.call_own T.fb hT hC hi' hb' (by show 1 ≤ sizeLine; decide) ?_)
  have k2' : ∀ b o, hp.get? b = some o → ((hp.push (PySem.W.kdv_tup [v])).push (PySem.HandSPX.excO C hp.objs.size)).get? b = some o := fun b o e => Heap.get?_push_of_some _ (Heap.get?_push_of_some _ e)
  have he : ((hp.push (PySem.W.kdv_tup [v])).push (PySem.HandSPX.excO C hp.objs.size)).get? (hp.objs.size + 1) = some (PySem.HandSPX.excO C hp.objs.size) := by heap_get
  generalize ((hp.push (PySem.W.kdv_tup [v])).push (PySem.HandSPX.excO C hp.objs.size)) = h2 at k2' he
  have X2 : K.In h2 := X.keeps k2'
  refine PySem.ks_codeAny_call_defAt (fd := PySem.W.ksFn "__init__" qual params _ scope dV kV doc pm an (.ref cda) ct cc) (binds := [(("self" : Str), .ref (hp.objs.size + 1)), (par, v)]) ?_ (X2 _ _ lf) rfl (lim.keeps k2') (PySem.W.codeRec_of X2 hcd) rfl (BindsTo.of_eq (hbind _ _)) hcell ?_ (fun h3 hns k3' => ?_) hco hgen hk
  · show A.depth + 1 < recursionLimit
    omega
  · intro x hx
    rcases List.mem_cons.mp hx with rfl | hx
    · exact hs3
    · rcases List.mem_cons.mp hx with rfl | hx
      · exact hs4
      · cases hx
  · have kk3 : ∀ b o, hp.get? b = some o → h3.get? b = some o := fun b o e => k3' b o (k2' b o e)
    have X3 : K.In h3 := X.keeps kk3
    have he3 := k3' _ _ he
    obtain ⟨oD, hD1, hD2⟩ : ∃ oD, h3.get? C = some oD ∧ oD.data = .cls cd := by
      unfold PySem.W.clsIn at hcd0
      split at hcd0
      · rename_i c dq cd' sl ho
        cases hcd0
        exact ⟨_, X3 _ _ ho, rfl⟩
      · cases hcd0
    obtain ⟨pl, hev⟩ := hev (PySem.W.ksEnv qual scope h2.objs.size fI (.ref cda) cc)
    refine PySem.ks_wpAt_execs_cons (PySem.ks_wpAt_Expr_any (PySem.ks_wpAt_MethodCall (pl := pl) ?_ hev) ?_ ?_)
    refine PySem.ks_wpAt_super_base hs1 hs2 rfl rfl (X3 _ _ lf) rfl (by rw [show (PySem.W.ksFn "__init__" qual params _ scope dV kV doc pm an (.ref cda) ct cc).params = params from rfl, hpar]; rfl) rfl (X3 _ _ lcode) rfl hvs hfile htop ?_
    refine PySem.W.ks_loadName_global hk hs1 (PySem.Calls.loadGlobal_builtin (env := PySem.W.ksEnv qual scope h2.objs.size fI (.ref cda) cc) (gn.keeps kk3) hmg (gb.keeps kk3) hmb ⟨rfl, ?_⟩)
    refine wpAny_loadName_free hk hs2 rfl ⟨_, X3 _ _ lcell, rfl⟩ ?_
    rw [has]
    have lself : List.lookup ("self" : Str) [(("self" : Str), Value.ref (hp.objs.size + 1)), (par, v)].reverse = some (Value.ref (hp.objs.size + 1)) := by
      show List.lookup ("self" : Str) [(par, v), (("self" : Str), Value.ref (hp.objs.size + 1))] = _
      have n1 : (("self" : Str) == par) = false := by
        rw [beq_eq_false_iff_ne]
        exact Ne.symm hne
      simp [List.lookup, n1]
    have lpar : List.lookup par [(("self" : Str), Value.ref (hp.objs.size + 1)), (par, v)].reverse = some v := by
      show List.lookup par [(par, v), (("self" : Str), Value.ref (hp.objs.size + 1))] = _
      simp [List.lookup]
    refine wpAny_loadName_local hk hs3 hns (v := .ref (hp.objs.size + 1)) lself ?_
    refine ks_wpAny_isType_cls hD1 hD2 ⟨rfl, ?_⟩
    refine ks_wpAny_call_super hD1 hD2 he3 rfl (fun c e => by cases e) (PySem.W.looks_mroIn X3 T.sub) (fun h4 es k4 => ?_)
    have X4 : K.In h4 := X3.keeps k4
    have he4 := k4 _ _ he3
    have I4 : PySem.W.InstAt h4 (hp.objs.size + 1) (PySem.HandSPX.excO C hp.objs.size) C none := ⟨he4, rfl, rfl, trivial⟩
    have hxC : hp.objs.size + 1 ≠ C := fun z => by
      have q : C < hp.objs.size := Heap.lt_size hC
      have q2 : hp.objs.size + 1 < hp.objs.size := by
        rw [z]
        exact q
      exact absurd q2 (Nat.not_lt_of_le (Nat.le_succ _))
    have hsu := T.su
    unfold PySem.W.ks_superIn at hsu
    rw [hcd0] at hsu
    refine PySem.W.kxs_getMethod T.kf es (PySem.W.looks_opaque X4 T.third) (l₀ := cd.mro) (fun A Q E s k q => wpAny_bind ((PySem.W.looks_clsIn X4 hcd0) A _ E s k (wpAny_pure q))) rfl X4 hsu (I4.type.andThen (PySem.W.looks_subIn X4 T.sB)) hxC rfl ?_
    have k5 : ∀ b o, h4.get? b = some o → (h4.push (PySem.W.kxs_mw initId (hp.objs.size + 1))).get? b = some o := fun b o e => Heap.get?_push_of_some _ e
    have eu : (h4.push (PySem.W.kxs_mw initId (hp.objs.size + 1))).get? h4.objs.size = some (PySem.W.kxs_mw initId (hp.objs.size + 1)) := Heap.get?_push_at rfl rfl
    generalize h4.push (PySem.W.kxs_mw initId (hp.objs.size + 1)) = h5 at k5 eu
    have he5 := k5 _ _ he4
    have X5 : K.In h5 := X4.keeps k5
    have hC5 : h5.get? C = some (excClassObj nm qn C N bs bm hdct sn sub ab col dd k0 k1 k2 k3 k5' newId) := k5 _ _ (k4 _ _ (kk3 _ _ hC))
    refine PySem.W.kxs_callWith (i := initId) (x := hp.objs.size + 1) rfl (Calls.evalArgs_plain (Calls.spliced_cons (Calls.Constant_str (x := msg) (k := j) (pos := p3) (Calls.spliced_nil ⟨eu, ?_⟩))))
    refine wpAny_call (codeAny_of_tree ?_)
    show wpAny _ _ (callAny (.ref h4.objs.size) _) _ _ _
    simp only [callAny]
    refine wpAny_bind (wpAny_load eu ?_)
    simp only [PySem.W.kxs_mw, show (Value.type "method-wrapper" == Value.type "method" || Value.type "method-wrapper" == Value.type "builtin_function_or_method" || Value.type "method-wrapper" == Value.type "method-wrapper") = true by decide, if_true]
    refine PySem.W.KFB.if_so (by decide) ?_
    refine wpAny_bind (PySem.W.check_bound_init T.fb.toExcCallFacts hC5 he5 rfl ?_)
    refine wpAny_bind (wpAny_pure (wpAny_pure ?_))
    refine ⟨plainId_quiet T.fb.init.plain _, codeAny_builtin T.fb.initEntry ?_⟩
    refine PySem.W.exc_init_tree (cls := .ref C) (t0 := hp.objs.size) (dv := none) (c2 := .none) (c3 := .none) (b4 := .bool false) he5 (by show 1 ≤ sizeLine; decide) fun h6 k6 he6 _ => ?_
    have k36 : ∀ b o, b ≠ hp.objs.size + 1 → h3.get? b = some o → h6.get? b = some o := fun b o n e => k6 b o n (k5 b o (k4 b o e))
    have kk6 : ∀ b o, hp.get? b = some o → h6.get? b = some o := fun b o e => k36 b o (Nat.ne_of_lt (Nat.lt_succ_of_lt (Heap.lt_size e))) (kk3 b o e)
    have X6 : K.In h6 := X.keeps kk6
    have hns6 : h6.Ns h2.objs.size (fun x => List.lookup x [(("self" : Str), Value.ref (hp.objs.size + 1)), (par, v)].reverse) := by
      obtain ⟨oL, esL, epL, hL, rL⟩ := hns
      exact ⟨oL, esL, epL, k36 _ _ (fun z => by
        have q : hp.objs.size + 1 < h2.objs.size := Heap.lt_size he
        have z' : h2.objs.size = hp.objs.size + 1 := z
        rw [z'] at q
        exact Nat.lt_irrefl _ q) hL, rL⟩
    refine PySem.ks_wpAt_execs_cons (PySem.ks_wpAt_Assign_Attr (PySem.wpAt_of_wpAny (wpAny_Name (wpAny_loadName_local hk hs4 hns6 lpar (wpAny_Name (wpAny_loadName_local hk hs3 hns6 lself ?_)))  hdbg)) ?_)
    · refine PySem.W.set_plain X6 (ox := { cls := .ref C, dict := none, data := .fields #[.ref h5.objs.size, .none, .none, .none, .bool false, .none] }) (od := none) ⟨he6, rfl, rfl, trivial⟩ T.sa ?_
      refine PySem.W.osa_openX (od := none) T.sf X6 ⟨he6, rfl, rfl, trivial⟩ T.ov T.tk fun bb => ?_
      have hdd : cd.hasDict = true := by
        have q := T.hd
        unfold PySem.W.hasDictIn at q
        rw [hcd0] at q
        exact q
      refine wpAny_bind (wpAny_pure (wpAny_bind (PySem.W.instanceDict_exc he6 (PySem.W.looks_clsIn X6 hcd0) hdd ?_)))
      have lt6 : hp.objs.size + 1 < h6.objs.size := Heap.lt_size he6
      refine PySem.HandSPX.store_in_new ⟨_, #[], 0, (Heap.get?_update_ne _ _ _ _ (Nat.ne_of_gt lt6)).trans (Heap.get?_push_at rfl rfl), rfl, fun e he => absurd he (by simp), fun _ => rfl⟩ fun h7 tk7 hn7 hs7 => ?_
      refine PySem.wpAt_of_wpAny (wpAny_execs_nil ⟨rfl, ?_⟩)
      have nb : ∀ {b : Addr} {o : Obj}, h6.get? b = some o → b ≠ h6.objs.size := fun {b o} e => Nat.ne_of_lt (Heap.lt_size e)
      have k67 : ∀ b o, b ≠ hp.objs.size + 1 → h6.get? b = some o → h7.get? b = some o := fun b o n e => (hs7.2 b (nb e)).trans ((Heap.get?_update_ne _ _ _ _ n).trans (Heap.get?_push_of_some _ e))
      refine fin h7 tk7 h6.objs.size h5.objs.size (fun b o e => k67 b o (Nat.ne_of_lt (Nat.lt_succ_of_lt (Heap.lt_size e))) (kk6 b o e)) (Nat.le_of_lt (Nat.lt_of_succ_lt lt6)) (Nat.ne_of_gt lt6) ?_ hn7
      exact (hs7.2 _ (Nat.ne_of_lt lt6)).trans (Heap.get?_update_self _ (Heap.get?_push_of_some _ he6) rfl)
    · rfl
    · show (scope.kind == ScopeKind.module && _) = false
      rw [hk]
      rfl
    · rfl
end
theorem relO_putX {f : Str} {y : V} {u : Value} (r : RelV y u) (g : Str) : RelO (([(f, y)] : List (Str × V)).lookup g) (if g = f then some u else none) := by
  by_cases h : g = f
  · subst h
    simp [List.lookup, RelO, r]
  · have h' : (g == f) = false := beq_eq_false_iff_ne.mpr h
    simp [List.lookup, h, h', RelO]
section
variable {X : Cx} {G : Gh} {W : WX} {e : Expr} {f : EF} {pos p : Pos} {C : Addr} {fld par : Str} {B newId initId : String} {bmB : List Value}
theorem pmk_sup {x : Str} {te : TE} (T : SupC X.prog X.K C fld B newId initId bmB par) (he : PE X e te) (hm : X.mg x = some (.ref C)) (hs : X.mg "super" = none) (room : X.A.depth + 10 < recursionLimit) (hg : Gl X x := by rfl)
    (hdb : (x == ("__debug__" : Str)) = false := by decide) (hst : starEach [e] X.env = (false, eval e X.env) :: starEach [] X.env := by rfl) :
    PMk X (.Call (.Name x p) [e] [] pos) (fun σ H Q => te σ H fun y H1 => ∃ z, [y] = [z] ∧ ∀ d, H1 d = none → Q (.ref C) (some d) (upd H1 d (.xd [(fld, z)]))) := by
  intro pins s σ H Q I h
  refine wpAny_Call_Name_kw (ld_glob I hg hm ?_ hdb)
  refine PySem.W.callWith_K (h₀ := X.base) I.ok.mod.kin T.kC (thn ((pa_cons he pa_nil hst).run pos pins s σ H (fun vs H1 => ∃ y, vs = [y] ∧ ∀ d, H1 d = none → Q (.ref C) (some d) (upd H1 d (.xd [(fld, y)]))) I h) fun us s1 ⟨vs, H1, I1, r1, y, ey, q1⟩ => ⟨I1.kIn, ?_⟩) hst rfl
  · subst ey
    obtain ⟨u, rfl, ru⟩ := vals1 r1
    show wpAny _ _ (call (.ref C) [u]) _ _ _
    obtain ⟨hp, g, dr, tk, os⟩ := s1
    obtain ⟨mb, hb1, hb2⟩ := I1.ok.mod.blt
    refine sup_call T I1.kIn I1.nolimit (I1.ok.mod.glob.keeps I1.bk) (hb1.keeps I1.bk) hs ((hb2 _ (by decide)).trans T.super_) room fun h' tk' dx t1 k hdx hne hex hns => ?_
    have hd1 : H1 dx = none := I1.hok.fresh hdx
    have hn1 : H1 (hp.objs.size + 1) = none := I1.hok.fresh (Nat.le_succ _)
    obtain ⟨Gp, g1, g2⟩ := restrict h' fun b => decide (b ≠ hp.objs.size + 1)
    have gk : ∀ b, b ≠ hp.objs.size + 1 → Gp.get? b = h'.get? b := fun b n => g1 b (decide_eq_true n)
    have ge : Gp.get? (hp.objs.size + 1) = none := g2 _ (by simp)
    have J : Inv X pins σ (upd H1 dx (.xd [(fld, y)])) ⟨Gp, g, dr, tk', os⟩ := I1.laid (t' := tk') (a := dx) (o := .xd [(fld, y)]) (h' := Gp) (fun b o e => (gk b (Nat.ne_of_lt (Nat.lt_succ_of_lt (Heap.lt_size e)))).trans (k b o e)) hdx
      ⟨_, hns.at fun o z => (gk dx hne).trans z, relO_putX ru⟩
    refine ⟨hp.objs.size + 1, _, _, ⟨Gp, g, dr, tk', os⟩, _, .ref C, some dx, rfl, J, fun b o z => ?_, ge, hex, ⟨rfl, rfl⟩, rfl, rfl, (upd_ne (Ne.symm hne)).trans hn1, rfl, I1.bare, raises_own T.exC T.tyC, q1 dx hd1⟩
    by_cases n : b = hp.objs.size + 1
    · rw [n, ge] at z
      cases z
    · exact (gk b n).symm.trans z
end
end DL
namespace DL
open PySem PySem.Spec PyProof.Rows L2

/-! ### several clauses, with and without a name (machine level) -/
structure Cl where
  c : Value
  o : Option Nat
  ts : Addr → Value → Option Addr → TS
def goneEnds (i : Nat) (D : Ends) : Ends := { nx := fun σ' H' => D.nx (σ'.set i none) H', rt := D.rt, bk := fun σ' H' => D.bk (σ'.set i none) H', ct := fun σ' H' => D.ct (σ'.set i none) H' }
def wManyAs (K : PySem.W.Frag) (Wout : WX) (D : Ends) : List Cl → WX
  | [] => Wout
  | k :: r => fun cls d σ H => ∃ b, PySem.W.exmOne K cls k.c = some b ∧ (b = true → ∀ a, H a = none → (match k.o with
      | none => k.ts a cls d D σ H
      | some i => k.ts a cls d (goneEnds i D) (σ.set i (some (.ref a))) H)) ∧ (b = false → wManyAs K Wout D r cls d σ H)
inductive HdsAs (X : Cx) : List ExceptHandler → List Cl → Prop
  | nil : HdsAs X [] []
  | cons {x : Str} {c : Value} {ts : Addr → Value → Option Addr → TS} {b₀ : Stmt} {suite : List Stmt} {np pos' : Pos} {hds : List ExceptHandler} {l : List Cl} (hc : Names X x c)
      (hsu : ∀ (a : Addr) (oe : Obj) (cls : Value) (d : Option Addr) (pn : List (Addr × Obj)), Zc cls d oe → (∃ vs, oe.data = .fields vs) → PSs (X.suite a ((a, oe) :: pn)) (b₀ :: suite) (ts a cls d)) (r : HdsAs X hds l) :
      HdsAs X (.ExceptHandler (some (.Name x np)) none (b₀ :: suite) pos' :: hds) (⟨c, none, ts⟩ :: l)
  | consA {x n : Str} {i : Nat} {c : Value} {ts : Addr → Value → Option Addr → TS} {b₀ : Stmt} {suite : List Stmt} {np pos' : Pos} {hds : List ExceptHandler} {l : List Cl} (hc : Names X x c) (hi : X.N[i]? = some n) (hln : X.env.kindOf n = some .local)
      (hsu : ∀ (a : Addr) (oe : Obj) (cls : Value) (d : Option Addr) (pn : List (Addr × Obj)), Zc cls d oe → (∃ vs, oe.data = .fields vs) → PSs (X.suite a ((a, oe) :: pn)) (b₀ :: suite) (ts a cls d)) (r : HdsAs X hds l) :
      HdsAs X (.ExceptHandler (some (.Name x np)) (some n) (b₀ :: suite) pos' :: hds) (⟨c, some i, ts⟩ :: l)
section
variable {X : Cx} {body : List Stmt} {h₀ : ExceptHandler} {hds : List ExceptHandler} {l : List Cl} {pos : Pos} {tb : WX → TS} {Wout : WX}
theorem ps_try_manyAs (hs : X.stack = X.env :: X.outer) (hf : X.env.frame = some X.env.locals) (hN : X.N.Nodup) (tk : Takes X Wout)
    (hb : ∀ (W : WX) (pn : List (Addr × Obj)) (xe : Value → Shared → Prop), Takes (X.tr pn xe) W → PassesOwn (model X.prog X.w) X.A X.env xe → PSs (X.tr pn xe) body (tb W))
    (hh : HdsAs X (h₀ :: hds) l) : PS X (.Try body (h₀ :: hds) [] [] pos) (fun D σ H => tb (wManyAs X.K Wout D l) D σ H) := by
  refine ⟨fun pins s σ H D I h => ?_⟩
  have ok := I.ok
  have hfr : X.A.frames = some (X.env :: X.outer) := by rw [ok.frames, hs]
  refine wpAny_Try_except ?_
  refine wpAny_mono ((hb (wManyAs X.K Wout D l) (X.pn ++ pins) (fun e s₁ => wpAny (model X.prog X.w) X.A (noteFrame e X.env) (fun _ s₂ => wpAny (model X.prog X.w) X.A (setFlight e none) (fun _ s₃ =>
    wpAny (model X.prog X.w) X.A (handleBy e X.env (h₀ :: hds)) (SP X pins D) X.xe s₃) X.xe s₂) X.xe s₁) (fun u s' xx => ?_) PassesOwn.looking).run [] s σ H D (I.toTry _) h) (fun f s1 hsp => ?_) (fun e s1 he => he)
  · obtain ⟨a, B, sI, pins', σ', H', cls, d, rfl, J', nb, up, sky, na, os, ag, w⟩ := xx
    have J : Inv X pins σ' H' sI := J'.ofTry ok
    have sky' : Sky B (X.env :: X.outer) a (Zc cls d) X.env.locals s'.heap := by rw [← hs]; exact sky
    show wpAny (model X.prog X.w) X.A (noteFrame (.ref a) X.env) _ _ _
    refine Sky.land Zc.steady hfr hf sky' fun h3 fl3 up3 => ?_
    have J3 : Inv X pins σ' H' { s' with heap := h3 } := J.landed nb fl3.1 (up.trans up3) os ag
    obtain ⟨oe3, vs3, he3, hz3, hd3⟩ := fl3.there
    have notFr : ∀ {h : Heap} {o : Obj} {vs : Array Value}, h.FunFrames B (X.env :: X.outer) → h.get? a = some o → o.data = .fields vs → a ∉ frs (X.env :: X.outer) := fun {h o vs} ff e dd hm => by
      obtain ⟨_, o', e', hnf⟩ := ff.mem hm
      rw [e] at e'; cases e'
      exact hnf _ dd
    have nfr := notFr fl3.2.2.1 he3 hd3
    have nL : a ≠ X.env.locals := fun z => nfr (List.mem_filterMap.mpr ⟨X.env, List.mem_cons_self, by rw [hf, z]⟩)
    have nF : a ∉ X.fs := fun hm => by
      obtain ⟨e, he, q⟩ := List.mem_filterMap.mp hm
      exact nfr (List.mem_filterMap.mpr ⟨e, List.mem_cons_of_mem _ he, q⟩)
    have S3 := J3.suite he3 hd3 na nL nF
    have LT : PySem.W.Looks (model X.prog X.w) h3 (typeOf (.ref a)) cls := fun A Q E s k q => wpAny_typeOf_ref (k _ _ he3) (by rw [hz3.1]; exact q)
    have test : ∀ {x : Str} {c : Value} {np : Pos} {Q : Value → Shared → Prop} {E : Value → Shared → Prop}, Names X x c → Q c { s' with heap := h3 } → wpAny (model X.prog X.w) (X.A.mark (some (.ref a))) (eval (.Name x np) X.env) Q E { s' with heap := h3 } := fun {x c np Q E} hc q => by
      obtain ⟨hg, hdbg, hm | ⟨hm, hv, hnn⟩⟩ := hc
      · exact ld_glob (X := X.suite a ((a, oe3) :: (X.pn ++ pins))) S3 hg hm q hdbg
      · exact ld_blt (X := X.suite a ((a, oe3) :: (X.pn ++ pins))) S3 hg hm hv q hnn hdbg
    have go : ∀ {hds' : List ExceptHandler} {l' : List Cl}, HdsAs X hds' l' → wManyAs X.K Wout D l' cls d σ' H' →
        wpAny (model X.prog X.w) X.A (handleBy (.ref a) X.env hds') (SP X pins D) X.xe { s' with heap := h3 } := by
      intro hds' l' hk
      induction hk with
      | nil =>
        intro w
        refine wpAny_handleBy_nil ?_
        obtain ⟨k1, k2, k3, oe, vs, T, oT, ts', he, hz, hd, h1, hr⟩ := id fl3
        unfold PySem.passOn
        refine wpAny_bind (wpAny_field he hd h1 ?_)
        rw [if_neg (show ¬ ((Value.ref T == Value.none) = true) from by simp)]
        have fin : wpAny (model X.prog X.w) X.A (setFlight (.ref a) X.env.frame) (fun _ s4 => wpAny (model X.prog X.w) X.A (throw (.ref a) : Sem Flow) (SP X pins D) X.xe s4) X.xe { s' with heap := h3 } := by
          rw [hf]
          refine HandSPX.setFlight_upZ fl3 fun h4 hh4 up4 => wpAny_throw (tk _ _ ?_)
          exact ⟨a, B, sI, pins, σ', H', cls, d, rfl, J, nb, (up.trans up3).trans up4, .inr (.inr (by rw [hs]; exact hh4)), na, os, ag, w⟩
        first
          | exact wpAny_bind (wpAny_pure (wpAny_bind fin))
          | exact wpAny_bind fin
      | @cons x c ts b₀ suite np pos' hds2 l2 hc hsu r ih =>
        intro w
        obtain ⟨b, hb1, hyes, hno⟩ := w
        refine wpAny_handleBy_cons (codeAny_handlers_test ?_) (by intro q; cases q)
        have LM := PySem.W.exm_one (M := model X.prog X.w) (J3.kIn) LT hb1
        refine test hc (LM.here ?_)
        cases b with
        | true =>
          refine codeAny_handlers_suite ?_
          refine HandSPX.lands_againZ fl3 fun h4 fl4 up4 => ?_
          have J4 : Inv X pins σ' H' { s' with heap := h4 } := J.landed nb fl4.1 ((up.trans up3).trans up4) os ag
          obtain ⟨oe4, vs4, he4, hz4, hd4⟩ := fl4.there
          have S4 := J4.suite he4 hd4 na nL nF
          refine wpAny_mono ((hsu a oe4 cls d (X.pn ++ pins) hz4 ⟨_, hd4⟩).run [] _ _ H' _ S4 (hyes rfl a na)) (fun f s6 hsp => ?_) (fun _ _ z => False.elim z)
          cases f with
          | next =>
            obtain ⟨σ6, H6, S6, q6⟩ := hsp
            exact ⟨_, _, S6.unsuite ok, q6⟩
          | brk =>
            obtain ⟨σ6, H6, S6, q6⟩ := hsp
            exact ⟨_, _, S6.unsuite ok, q6⟩
          | cont =>
            obtain ⟨σ6, H6, S6, q6⟩ := hsp
            exact ⟨_, _, S6.unsuite ok, q6⟩
          | ret u =>
            obtain ⟨v6, σ6, H6, S6, r6, q6⟩ := hsp
            exact ⟨_, _, _, S6.unsuite ok, r6, q6⟩
        | false =>
          show wpAny _ X.A (handleBy (.ref a) X.env hds2) _ _ _
          exact ih (hno rfl)
      | @consA x n i c ts b₀ suite np pos' hds2 l2 hc hi hln hsu r ih =>
        intro w
        obtain ⟨b, hb1, hyes, hno⟩ := w
        have hloc : Loc X.env.scope n := .inl hln
        refine wpAny_handleBy_cons (codeAny_handlers_test ?_) (by intro q; cases q)
        have LM := PySem.W.exm_one (M := model X.prog X.w) (J3.kIn) LT hb1
        refine test hc (LM.here ?_)
        cases b with
        | true =>
          refine codeAny_handlers_suite_as ?_
          refine HandSPX.lands_againZ fl3 fun h4 fl4 up4 => ?_
          have J4 : Inv X pins σ' H' { s' with heap := h4 } := J.landed nb fl4.1 ((up.trans up3).trans up4) os ag
          obtain ⟨oe4, vs4, he4, hz4, hd4⟩ := fl4.there
          have S4 := J4.suite he4 hd4 na nL nF
          refine store_ok (X := X.suite a ((a, oe4) :: (X.pn ++ pins))) (v := .ref a) S4 hN hi hloc rfl (fun s5 S5 => ?_) (.inr hln)
          refine wpAny_mono ((hsu a oe4 cls d (X.pn ++ pins) hz4 ⟨_, hd4⟩).run [] s5 _ H' _ S5 (hyes rfl a na)) (fun f s6 hsp => ?_) (fun _ _ z => False.elim z)
          have end_ : ∀ {σ6 : L2.St} {H6 : Hp} {Q : Shared → Prop}, Inv (X.suite a ((a, oe4) :: (X.pn ++ pins))) [] σ6 H6 s6 → (∀ s7, Inv X pins (σ6.set i none) H6 s7 → Q s7) →
              wpAny (model X.prog X.w) X.A (do bindName X.env n .none; unbindBehindTheSuite X.env n pos') (fun _ s7 => Q s7) X.xe s6 := fun {σ6 H6 Q} S6 hq => gone_ok (S6.unsuite ok) hN hi hln hq
          cases f with
          | next =>
            obtain ⟨σ6, H6, S6, q6⟩ := hsp
            exact end_ S6 fun s7 J7 => ⟨_, _, J7, q6⟩
          | brk =>
            obtain ⟨σ6, H6, S6, q6⟩ := hsp
            exact end_ S6 fun s7 J7 => ⟨_, _, J7, q6⟩
          | cont =>
            obtain ⟨σ6, H6, S6, q6⟩ := hsp
            exact end_ S6 fun s7 J7 => ⟨_, _, J7, q6⟩
          | ret u =>
            obtain ⟨v6, σ6, H6, S6, r6, q6⟩ := hsp
            exact end_ S6 fun s7 J7 => ⟨_, _, _, J7, r6, q6⟩
        | false =>
          show wpAny _ X.A (handleBy (.ref a) X.env hds2) _ _ _
          exact ih (hno rfl)
    exact go hh w
  · cases f with
    | next =>
      obtain ⟨σ', H', J', q⟩ := hsp
      exact wpAny_execs_nil ⟨σ', H', J'.ofTry ok, q⟩
    | brk =>
      obtain ⟨σ', H', J', q⟩ := hsp
      exact ⟨σ', H', J'.ofTry ok, q⟩
    | cont =>
      obtain ⟨σ', H', J', q⟩ := hsp
      exact ⟨σ', H', J'.ofTry ok, q⟩
    | ret u =>
      obtain ⟨v, σ', H', J', r, q⟩ := hsp
      exact ⟨v, σ', H', J'.ofTry ok, r, q⟩
end

/-! ### raise -/
def sRaise (c : String) (f : EF) : FS := fun env ms => (f env ms).st env fun fl d m => match fl with
  | .o _ => .ex c d env m
  | .b _ => .bad
theorem ss_raise {X : Cx} {G : Gh} {W : WX} {e : Expr} {f : EF} {pos pos' p : Pos} {fld par : Str} {B newId initId : String} {bmB : List Value} {x : Str} (c : String) (hc : X.calm = true) (tk : Takes X W) (T : SupC X.prog X.K (G.cls c) fld B newId initId bmB par) (he : SE X G W e f)
    (hm : X.mg x = some (.ref (G.cls c))) (hs : X.mg "super" = none) (room : X.A.depth + 10 < recursionLimit) (hfl : fldOf c = fld := by rfl) (hg : Gl X x := by rfl) (hdb : (x == ("__debug__" : Str)) = false := by decide) (hst : starEach [e] X.env = (false, eval e X.env) :: starEach [] X.env := by rfl) :
    SS X G W (.Raise (some (.Call (.Name x p) [e] [] pos)) none pos') (sRaise c f) := by
  obtain ⟨t, pt, h⟩ := he
  refine SS.mk (ps_raise hc tk (pmk_sup T pt hm hs room hg hdb hst)) fun N σ H env ms Z r p => h σ H env ms Z _ r (PostS.expr r p fun fl d m v H' Z' x' r' t' p' => ?_)
  cases fl with
  | o k =>
    have q := Own.frozen r'.ownf t'
    have r0 := r'.freeze0
    refine ⟨v, rfl, fun dx hd => p' dx σ _ ((Z'.freeze 0).newF dx (.xd [(fld, v)])) ((freeze_ff r'.ownf).trans (r0.extF hd).ff) (r0.newF hd) ⟨dx, v, rfl, ?_, Rep.mono (r0.extF hd).ff _ _ q⟩⟩
    rw [hfl]
    exact upd_same
  | b k => exact p'.elim

/-! ### try -/
structure DC where
  m : String → Bool
  o : Option Nat
  F : String → D → FS
def Fw.caught : Fw → Fw
  | .ex _ _ _ _ => .bad
  | x => x
def Fw.gone (i : Nat) : Fw → Fw
  | .nx e m => .nx (e.set i none) m
  | .bk e m => .bk (e.set i none) m
  | .ct e m => .ct (e.set i none) m
  | .ex _ _ _ _ => .bad
  | x => x
def catchF : List DC → String → D → FS
  | [], c, d, env, ms => .ex c d env ms
  | k :: r, c, d, env, ms => bif k.m c then (match k.o with
      | none => (k.F c d env ms).caught
      | some i => (k.F c d (env.set i none) ms).gone i) else catchF r c d env ms
def sTry (kn : List String) (Fb : FS) (cs : List DC) : FS := fun env ms => match Fb env ms with
  | .ex c d env' ms' => if c ∈ kn then catchF cs c d env' ms' else .bad
  | x => x
def Gh.in (G : Gh) (x : Option (Nat × Addr × Addr × Str × D)) : Gh := { G with xf := x }
section
variable {K : PySem.W.Frag} {G : Gh} {env : Env} {σ : Sl} {ms : MS} {Z : Zs} {H : Hp}
theorem R.inX (r : R K G env ms σ H Z) {x : Option (Nat × Addr × Addr × Str × D)} (h : XF K (G.in x) env σ Z.f) : R K (G.in x) env ms σ H Z :=
  ⟨⟨r.aft.ff, r.aft.keep, r.aft.new, r.aft.mf⟩, r.fb, r.bh, r.bm, r.mr, r.tb, r.own, r.len, r.lb, h, r.sl⟩
theorem R.outX {x : Option (Nat × Addr × Addr × Str × D)} (nx : G.xf = none) (r : R K (G.in x) env ms σ H Z) : R K G env ms σ H Z :=
  ⟨⟨r.aft.ff, r.aft.keep, r.aft.new, r.aft.mf⟩, r.fb, r.bh, r.bm, r.mr, r.tb, r.own, r.len, r.lb, (fun i a sd fl d e => by
    rw [nx] at e
    cases e), r.sl⟩
theorem R.unset (nx : G.xf = none) (r : R K G env ms σ H Z) (i : Nat) (x : Option V) : R K G (env.set i none) ms (σ.set i x) H Z :=
  ⟨r.aft, r.fb, r.bh, r.bm, r.mr, r.tb, r.own, by rw [List.length_set, List.length_set, r.len], by rw [List.length_set]; exact r.lb, (fun i a sd fl d e => by
    rw [nx] at e
    cases e), fun j k d e => by
    by_cases z : i = j
    · subst z
      rw [List.getElem?_set] at e
      simp only [if_true] at e
      split at e <;> cases e
    · rw [List.getElem?_set_ne z] at e ⊢
      exact r.sl j k d e⟩
end
/-- the clauses, and what they compute -/
inductive HD (X : Cx) (G : Gh) (kn : List String) : List ExceptHandler → List DC → Prop
  | nil : HD X G kn [] []
  | cons {x : Str} {c : Value} {m : String → Bool} {F : String → D → FS} {b₀ : Stmt} {suite : List Stmt} {np pos' : Pos} {hds : List ExceptHandler} {l : List DC} (hc : Names X x c) (hm : ∀ n ∈ kn, PySem.W.exmOne X.K (.ref (G.cls n)) c = some (m n))
      (hsu : ∀ (a : Addr) (oe : Obj) (pn : List (Addr × Obj)) (n : String) (d : D), SB (X.suite a ((a, oe) :: pn)) G W0 (b₀ :: suite) (F n d)) (r : HD X G kn hds l) :
      HD X G kn (.ExceptHandler (some (.Name x np)) none (b₀ :: suite) pos' :: hds) (⟨m, none, F⟩ :: l)
  | consA {x n : Str} {i : Nat} {c : Value} {m : String → Bool} {F : String → D → FS} {b₀ : Stmt} {suite : List Stmt} {np pos' : Pos} {hds : List ExceptHandler} {l : List DC} (hc : Names X x c) (hm : ∀ n ∈ kn, PySem.W.exmOne X.K (.ref (G.cls n)) c = some (m n))
      (hsu : ∀ (a : Addr) (oe : Obj) (pn : List (Addr × Obj)) (n : String) (d : D) (dx : Addr), Zc (.ref (G.cls n)) (some dx) oe → (∃ vs, oe.data = .fields vs) → n ∈ kn → m n = true → SB (X.suite a ((a, oe) :: pn)) (G.in (some (i, a, dx, fldOf n, d))) W0 (b₀ :: suite) (F n d)) (r : HD X G kn hds l)
      (hi : X.N[i]? = some n := by rfl) (hln : X.env.kindOf n = some .local := by rfl) :
      HD X G kn (.ExceptHandler (some (.Name x np)) (some n) (b₀ :: suite) pos' :: hds) (⟨m, some i, F⟩ :: l)
/-- a clause's wish -/
def clTS (K : PySem.W.Frag) (G : Gh) (kn : List String) (k : DC) : Addr → Value → Option Addr → TS := fun a cls d N σ H => ∃ c dd dx env ms Z, c ∈ kn ∧ cls = .ref (G.cls c) ∧ d = some dx ∧ k.m c = true ∧
  (match k.o with
    | none => R K G env ms σ H Z ∧ PostS K G W0 Z N (k.F c dd env ms)
    | some i => R K (G.in (some (i, a, dx, fldOf c, dd))) env ms σ H Z ∧ PostS K (G.in (some (i, a, dx, fldOf c, dd))) W0 Z N (k.F c dd env ms))
section
variable {X : Cx} {G : Gh} {W : WX} {kn : List String} {body : List Stmt} {h₀ : ExceptHandler} {hds : List ExceptHandler} {cs : List DC} {Fb : FS} {pos : Pos}
theorem hd_as {tv : DC → Value} : ∀ {hds : List ExceptHandler} {cs : List DC}, HD X G kn hds cs → ∃ l, HdsAs X hds l ∧ l.length = cs.length ∧ ∀ (j : Nat) (k : DC) (q : Cl), cs[j]? = some k → l[j]? = some q → q.o = k.o ∧ q.ts = clTS X.K G kn k ∧ ∀ n ∈ kn, PySem.W.exmOne X.K (.ref (G.cls n)) q.c = some (k.m n)
  | _, _, .nil => ⟨[], .nil, rfl, fun j k q e => by simp at e⟩
  | _, _, @HD.cons _ _ _ x c m F b₀ suite np pos' hds l hc hm hsu r => by
    obtain ⟨l', h1, h2, h3⟩ := hd_as (tv := tv) r
    refine ⟨_, HdsAs.cons (ts := clTS X.K G kn ⟨m, none, F⟩) hc (fun a oe cls d pn hz hd => ⟨fun pins s σ H N I h => ?_⟩) h1, congrArg (· + 1) h2, fun j k q e1 e2 => ?_⟩
    · obtain ⟨c1, dd, dx, env, ms, Z, k1, rfl, rfl, k2, r1, p1⟩ := h
      exact (hsu a oe pn c1 dd).run pins s σ H N I ⟨env, ms, Z, r1, p1⟩
    · cases j with
      | zero =>
        cases e1
        cases e2
        exact ⟨rfl, rfl, hm⟩
      | succ j => exact h3 j k q e1 e2
  | _, _, @HD.consA _ _ _ x n i c m F b₀ suite np pos' hds l hc hm hsu r hi hln => by
    obtain ⟨l', h1, h2, h3⟩ := hd_as (tv := tv) r
    refine ⟨_, HdsAs.consA (ts := clTS X.K G kn ⟨m, some i, F⟩) hc hi hln (fun a oe cls d pn hz hd => ⟨fun pins s σ H N I h => ?_⟩) h1, congrArg (· + 1) h2, fun j k q e1 e2 => ?_⟩
    · obtain ⟨c1, dd, dx, env, ms, Z, k1, rfl, rfl, k2, r1, p1⟩ := h
      exact (hsu a oe pn c1 dd dx hz hd k1 k2).run pins s σ H N I ⟨env, ms, Z, r1, p1⟩
    · cases j with
      | zero =>
        cases e1
        cases e2
        exact ⟨rfl, rfl, hm⟩
      | succ j => exact h3 j k q e1 e2
theorem catch_sem {K : PySem.W.Frag} {W : WX} {N : Ends} {c : String} {d : D} {dx : Addr} {σ : Sl} {H : Hp} {env : Env} {ms : MS} {Z : Zs} (nx : G.xf = none) (hk : c ∈ kn) (r : R K G env ms σ H Z) (hq : Rep K Z.f (.exc (fldOf c) d) (.ref dx)) :
    ∀ (cs : List DC) (l : List Cl), l.length = cs.length → (∀ (j : Nat) (k : DC) (q : Cl), cs[j]? = some k → l[j]? = some q → q.o = k.o ∧ q.ts = clTS K G kn k ∧ ∀ n ∈ kn, PySem.W.exmOne K (.ref (G.cls n)) q.c = some (k.m n)) →
      PostS K G W Z N (catchF cs c d env ms) → wManyAs K W N l (.ref (G.cls c)) (some dx) σ H
  | [], [], _, _, p => p dx σ H Z (Same.refl _) r hq
  | [], _ :: _, e, _, _ => by cases e
  | _ :: _, [], e, _, _ => by cases e
  | k :: cs, q :: l, e, hh, p => by
    obtain ⟨h1, h2, h3⟩ := hh 0 k q rfl rfl
    refine ⟨k.m c, h3 c hk, fun hm a na => ?_, fun hm => ?_⟩
    · rw [h1]
      have p' : PostS K G W Z N (match k.o with
        | none => (k.F c d env ms).caught
        | some i => (k.F c d (env.set i none) ms).gone i) := by
        have := p
        simp only [catchF, hm, cond_true] at this
        exact this
      have hts := h2
      cases ho : k.o with
      | none =>
        rw [ho] at p'
        dsimp only at p' ⊢
        rw [hts]
        refine ⟨c, d, dx, env, ms, Z, hk, rfl, rfl, hm, ?_⟩
        rw [ho]
        refine ⟨r, ?_⟩
        cases e2 : k.F c d env ms with
        | ex _ _ _ _ =>
          rw [e2] at p'
          exact p'.elim
        | nx _ _ =>
          rw [e2] at p'
          exact p'
        | bk _ _ =>
          rw [e2] at p'
          exact p'
        | ct _ _ =>
          rw [e2] at p'
          exact p'
        | rt _ _ =>
          rw [e2] at p'
          exact p'
        | bad =>
          rw [e2] at p'
          exact p'
      | some i =>
        rw [ho] at p'
        dsimp only at p' ⊢
        rw [hts]
        obtain ⟨a', u, ea, hx, hu⟩ := hq
        obtain rfl : dx = a' := by
          cases ea
          rfl
        refine ⟨c, d, dx, env.set i none, ms, Z, hk, rfl, rfl, hm, ?_⟩
        rw [ho]
        refine ⟨(r.unset nx i (some (.ref a))).inX fun i' a2 sd fl d' e => ?_, ?_⟩
        · have e' : some (i, a, dx, (fldOf c : Str), d) = some (i', a2, sd, fl, d') := e
          cases e'
          refine ⟨fun q => ?_, u, hx, hu⟩
          have hl : i < σ.length := by
            rcases Nat.lt_or_ge i env.length with z | z
            · rw [r.len]
              exact z
            · rw [List.getElem?_eq_none (by rw [List.length_set]; exact z)] at q
              cases q
          exact List.getElem?_set_self hl
        · cases e2 : k.F c d (env.set i none) ms with
          | ex _ _ _ _ =>
            rw [e2] at p'
            exact p'.elim
          | nx e3 m3 =>
            rw [e2] at p'
            exact fun σ' H' Z' s' r' => p' (σ'.set i none) H' Z' s' ((r'.outX nx).unset nx i none)
          | bk _ _ =>
            rw [e2] at p'
            exact fun σ' H' Z' s' r' => p' (σ'.set i none) H' Z' s' ((r'.outX nx).unset nx i none)
          | ct _ _ =>
            rw [e2] at p'
            exact fun σ' H' Z' s' r' => p' (σ'.set i none) H' Z' s' ((r'.outX nx).unset nx i none)
          | rt _ _ =>
            rw [e2] at p'
            exact fun v σ' H' Z' env' s' r' q' => p' v σ' H' Z' env' s' (r'.outX nx) q'
          | bad =>
            rw [e2] at p'
            exact p'
    · refine catch_sem nx hk r hq cs l (Nat.succ.inj e) (fun j k q e1 e2 => hh (j + 1) k q e1 e2) ?_
      have := p
      simp only [catchF, hm, cond_false] at this
      exact this
theorem ss_try (kn : List String) (nx : G.xf = none) (hs : X.stack = X.env :: X.outer) (hf : X.env.frame = some X.env.locals) (hN : X.N.Nodup) (tk : Takes X W)
    (hb : ∀ (W : WX) (pn : List (Addr × Obj)) (xe : Value → Shared → Prop), Takes (X.tr pn xe) W → PassesOwn (model X.prog X.w) X.A X.env xe → SB (X.tr pn xe) G W body Fb)
    (hh : HD X G kn (h₀ :: hds) cs) : SS X G W (.Try body (h₀ :: hds) [] [] pos) (sTry kn Fb cs) := by
  obtain ⟨l, h1, h2, h3⟩ := hd_as (tv := fun _ => .none) hh
  refine SS.mk (ps_try_manyAs (tb := fun W => tS X.K G W Fb) hs hf hN tk hb h1) fun N σ H env ms Z r p => ⟨env, ms, Z, r, ?_⟩
  unfold sTry at p
  cases e : Fb env ms with
  | ex c d env' ms' =>
    rw [e] at p
    dsimp only at p
    by_cases hk : c ∈ kn
    · rw [if_pos hk] at p
      exact fun dx σ' H' Z' s' r' q' => catch_sem nx hk r' q' cs l h2 h3 (PostS.mono s' p)
    · rw [if_neg hk] at p
      exact p.elim
  | nx _ _ =>
    rw [e] at p
    exact p
  | bk _ _ =>
    rw [e] at p
    exact p
  | ct _ _ =>
    rw [e] at p
    exact p
  | rt _ _ =>
    rw [e] at p
    exact p
  | bad =>
    rw [e] at p
    exact p
/-- e.field in a suite -/
def eXf (i : Nat) (d : D) : EF := fun env ms => match env[i]? with
  | some none => .ok (.o 0) d ms
  | _ => .bad
theorem se_xf {a : Addr} {oe : Obj} {pn : List (Addr × Obj)} {n : String} {x fld : Str} {i : Nat} {d : D} {dx : Addr} {p : Pos} (T : XfC X.K (G.cls n)) (hno : PySem.W.findIn X.K (.ref (G.cls n)) fld = some none) (hz : Zc (.ref (G.cls n)) (some dx) oe) (hd : ∃ vs, oe.data = .fields vs)
    (hN : X.N[i]? = some x := by rfl) (hfl : fldOf n = fld := by rfl) (hv : Vis X.env.scope x := by first | exact Or.inl rfl | exact Or.inr (Or.inl rfl) | exact Or.inr (Or.inr rfl)) (hdb : (x == ("__debug__" : Str)) = false := by decide)
    (hcd : (x == ("__classdict__" : Str)) = false := by decide) (hb : attributeBase (.Name x p) fld X.env (eval (.Name x p) X.env) = eval (.Name x p) X.env := by rfl) :
    SE (X.suite a ((a, oe) :: pn)) (G.in (some (i, a, dx, fldOf n, d))) W (.Attribute (.Name x p) fld pos) (eXf i d) := by
  refine ⟨_, pe_xf T hno hz hd (pe_var (X := X.suite a ((a, oe) :: pn)) (i := i) hN hv hdb hcd) hb, fun σ H env ms Z Q r q => ?_⟩
  unfold eXf at q
  obtain ⟨h1, u, h2, h3⟩ := r.xf i a dx (fldOf n) d rfl
  match e : env[i]?, q with
  | some none, q =>
    refine ⟨.ref a, h1 e, rfl, rfl, dx, _, u, rfl, r.bh _ _ (r.fb _ _ h2), ?_, q u H Z r.refl r h3⟩
    rw [hfl]
    exact List.lookup_cons_self
  | none, q => exact q.elim
  | some (some _), q => exact q.elim
end
end DL
namespace DL
open PySem PySem.Spec PyProof.Rows L2

/-! ### sorted pairs, however they stand -/
abbrev lexL (p q : Int × Int) : Bool := !SrtO.lexB q p
def sortP (ps : List (Int × Int)) : List (Int × Int) := ps.mergeSort lexL
def sortI (ns : List Int) : List Int := ns.mergeSort fun a b => decide (a ≤ b)
theorem lexL_iff {p q : Int × Int} : lexL p q = true ↔ p.1 < q.1 ∨ (p.1 = q.1 ∧ p.2 ≤ q.2) := by
  have : lexL p q = true ↔ SrtO.lexB q p = false := by
    show (!SrtO.lexB q p) = true ↔ _
    cases SrtO.lexB q p <;> simp
  rw [this, SrtO.lexB_no]
  omega
theorem sortP_perm (ps : List (Int × Int)) : (sortP ps).Perm ps := List.mergeSort_perm _ _
theorem sortP_pw (ps : List (Int × Int)) : (sortP ps).Pairwise fun p q => lexL p q = true :=
  List.pairwise_mergeSort (fun a b c h1 h2 => by
    rw [lexL_iff] at *
    omega) (fun a b => by
    rw [Bool.or_eq_true, lexL_iff, lexL_iff]
    omega) ps
theorem sortP_uniq {ps qs : List (Int × Int)} (h : qs.Pairwise fun p q => lexL p q = true) (hp : qs.Perm ps) : qs = sortP ps :=
  List.Perm.eq_of_pairwise (le := fun p q => lexL p q = true) (fun a b _ _ h1 h2 => by
    rw [lexL_iff] at h1 h2
    exact Prod.ext (by omega) (by omega)) h (sortP_pw ps) (hp.trans (sortP_perm ps).symm)
theorem sortI_perm (ps : List Int) : (sortI ps).Perm ps := List.mergeSort_perm _ _
theorem sortI_pw (ps : List Int) : (sortI ps).Pairwise fun p q => p ≤ q := by
  have := List.pairwise_mergeSort (le := fun (a b : Int) => decide (a ≤ b)) (fun a b c h1 h2 => by simp at *; omega) (fun a b => by simp; omega) ps
  exact this.imp fun h => of_decide_eq_true h
theorem sortI_uniq {ps qs : List Int} (h : qs.Pairwise (· ≤ ·)) (hp : qs.Perm ps) : qs = sortI ps :=
  List.Perm.eq_of_pairwise (le := fun p q => p ≤ q) (fun a b _ _ h1 h2 => by omega) h (sortI_pw ps) (hp.trans (sortI_perm ps).symm)

def IsPr (K : PySem.W.Frag) (H : Hp) (x : V) (p : Int × Int) : Prop := ∃ t, x = V.ref t ∧ SqT K H t [.int p.1, .int p.2]
def rSortedQ (K : PySem.W.Frag) : List V → Hp → VK → Prop := fun vs H Q => ∃ (a : Addr) (xs : List V) (ps : List (Int × Int)), vs = [V.ref a] ∧ SqL K H a xs ∧ Paired (IsPr K H) xs ps ∧
  ∀ ys p, Paired (IsPr K H) ys (sortP ps) → (∀ y ∈ ys, y ∈ xs) → H p = none → Q (.ref p) (upd H p (.lst ys))
open Classical in
noncomputable def prOf (K : PySem.W.Frag) (H : Hp) (v : V) : Int × Int := if h : ∃ p, IsPr K H v p then choose h else (0, 0)
theorem prOf_eq {X : Cx} {pins : List (Addr × Obj)} {σ : L2.St} {H : Hp} {s : Shared} (I : Inv X pins σ H s) {v : V} {p : Int × Int} (h : IsPr X.K H v p) : prOf X.K H v = p := by
  have ex : ∃ p, IsPr X.K H v p := ⟨p, h⟩
  unfold prOf
  rw [dif_pos ex]
  obtain ⟨t, e, q⟩ := Classical.choose_spec ex
  obtain ⟨t', e', q'⟩ := h
  rw [e] at e'
  cases e'
  have := I.tuple_inj q q'
  injection this with h1 h2
  injection h2 with h3 _
  injection h1 with h1
  injection h3 with h3
  exact Prod.ext h1 h3
theorem Paired.mem_left {α β : Type} {Rr : α → β → Prop} : ∀ {as : List α} {bs : List β}, Paired Rr as bs → ∀ a ∈ as, ∃ b ∈ bs, Rr a b
  | _, _, .nil, a, h => by cases h
  | _, _, .cons r t, a, h => by
    rcases List.mem_cons.mp h with rfl | h
    · exact ⟨_, List.mem_cons_self, r⟩
    · obtain ⟨b, hb, q⟩ := Paired.mem_left t a h
      exact ⟨b, List.mem_cons_of_mem _ hb, q⟩
theorem Paired.map_eq {α β : Type} {Rr : α → β → Prop} {g : α → β} : ∀ {as : List α} {bs : List β}, Paired Rr as bs → (∀ a b, Rr a b → g a = b) → as.map g = bs
  | _, _, .nil, _ => rfl
  | _, _, .cons r t, h => by
    rw [List.map_cons, h _ _ r, Paired.map_eq t h]
theorem Paired.of_map {α β : Type} {Rr : α → β → Prop} {g : α → β} : ∀ {as : List α}, (∀ a ∈ as, Rr a (g a)) → Paired Rr as (as.map g)
  | [], _ => .nil
  | a :: as, h => .cons (h a List.mem_cons_self) (Paired.of_map fun b hb => h b (List.mem_cons_of_mem _ hb))
theorem cr_sortedQ {X : Cx} : CallR X (.builtin "sorted") (rSortedQ X.K) := by
  intro pins s σ H vs us Q I r h
  obtain ⟨a, xs, ps, rfl, hs, hx, q⟩ := h
  obtain ⟨its, rv, hl, hz⟩ := I.list hs
  obtain ⟨u, rfl, ru⟩ := vals1 r
  obtain rfl : u = Value.ref a := ru
  have hx1 : ∀ x ∈ xs, ∃ p, IsPr X.K H x p := fun x m => by
    obtain ⟨p, _, h⟩ := Paired.mem_left hx x m
    exact ⟨p, h⟩
  obtain ⟨e1, e2⟩ := refs_back rv fun x m => by
    obtain ⟨p, t, e, _⟩ := hx1 x m
    exact ⟨t, e⟩
  refine SrtO.sorted_pairsO (k := fun u => prOf X.K H (backV u)) hl.isList (by rw [← rv.length]; exact hz) (fun v hv => ?_) fun h' d out h1 h2 kp hd hn => ?_
  · obtain ⟨t, rfl⟩ := e2 v hv
    have hm : V.ref t ∈ xs := by rw [e1]; exact List.mem_map.mpr ⟨_, hv, rfl⟩
    obtain ⟨p, hp⟩ := hx1 _ hm
    have ep : prOf X.K H (backV (Value.ref t)) = p := prOf_eq I hp
    rw [ep]
    obtain ⟨t', e, ht⟩ := hp
    cases e
    obtain ⟨its2, r2, ⟨o, ho, hc, n, hd⟩, _⟩ := I.tuple ht
    obtain ⟨u1, u2, rfl, ri, rj⟩ := vals2 r2
    obtain ⟨t1, rfl⟩ := ri
    obtain ⟨t2, rfl⟩ := rj
    exact ⟨t, o, t1, t2, n, rfl, ho, hc, hd⟩
  · have h3 : ∀ u ∈ out, ∃ a, u = Value.ref a := fun u hu => e2 u (h2.perm.mem_iff.mp hu)
    obtain ⟨n, hn⟩ := hn
    have hb : SrtO.Stb (ltP (prOf X.K H)) (out.map backV) xs := by
      rw [e1]
      exact SrtO.Stb.map (ltP_swo (prOf X.K H)) backV h2
    have sub : ∀ y ∈ out.map backV, y ∈ xs := fun y hy => hb.perm.mem_iff.mp hy
    have e3 : xs.map (prOf X.K H) = ps := Paired.map_eq hx fun a b h => prOf_eq I h
    have e4 : (out.map backV).map (prOf X.K H) = sortP ps := by
      refine sortP_uniq ?_ ?_
      · refine List.pairwise_map.mpr ((SrtO.srtd_map (f := backV) (lt := ltP (prOf X.K H)) h1).imp fun {a b} h => ?_)
        show (!SrtO.lexB _ _) = true
        have h' : SrtO.lexB (prOf X.K H b) (prOf X.K H a) = false := h
        rw [h']
        rfl
      · rw [← e3]
        exact hb.perm.map _
    refine ⟨.ref d, upd H d (.lst (out.map backV)), I.laid (t' := s.toks) kp hd ⟨?_, out, n, vals_back h3, hn⟩, rfl, q _ d ?_ sub (I.hok.fresh hd)⟩
    · rw [hb.len]
      exact hz
    · rw [← e4]
      exact Paired.of_map fun y hy => by
        obtain ⟨p, hp⟩ := hx1 y (sub y hy)
        rw [prOf_eq I hp]
        exact hp

/-! ### calls of built-in functions, one argument, two -/
section
variable {X : Cx} {G : Gh} {W : WX} {a b : Expr} {fa fb : EF} {pos p : Pos}
def eC1 (g : Fl → D → MS → Out) (f : EF) : EF := fun env ms => (f env ms).bind g
def OkC1 (X : Cx) (G : Gh) (W : WX) (r : List V → Hp → VK → Prop) (g : Fl → D → MS → Out) : Prop := ∀ (env : Env) (ms : MS) (σ : Sl) (H : Hp) (Z : Zs) (Q : VK) (l : Fl) (d : D) (x : V),
  R X.K G env ms σ H Z → Seen X.K Z l d x → PostE X.K G W env σ ms Z H Q (g l d ms) → r [x] H Q
theorem run_c1 {r : List V → Hp → VK → Prop} {g : Fl → D → MS → Out} {ta : TE} (hk : OkC1 X G W r g)
    (ha : ∀ (σ : Sl) (H : Hp) (env : Env) (ms : MS) (Z : Zs) (Q : VK), R X.K G env ms σ H Z → PostE X.K G W env σ ms Z H Q (fa env ms) → ta σ H Q) (σ : Sl) (H : Hp) (env : Env) (ms : MS) (Z : Zs) (Q : VK)
    (hr : R X.K G env ms σ H Z) (q : PostE X.K G W env σ ms Z H Q (eC1 g fa env ms)) : tCB r (tCons ta tNil) σ H Q :=
  ha σ H env ms Z _ hr (PostE.bind hr q fun l d m v H' Z' x r' t' q' => hk env m σ H' Z' Q l d v r' (t'.seen r'.fb) q')
theorem se_b1 {x : Str} {id : String} {r : List V → Hp → VK → Prop} {g : Fl → D → MS → Out} (hc : CallR X (.builtin id) r) (hk : OkC1 X G W r g) (hm : X.mg x = none) (hv : bootBuiltins x = some (.builtin id)) (ha : SE X G W a fa) (hg : Gl X x := by rfl)
    (hn : x ≠ "__name__" := by decide) (hdb : (x == ("__debug__" : Str)) = false := by decide) (hs : starEach [a] X.env = (false, eval a X.env) :: starEach [] X.env := by rfl) (hpl : (backTo pos (starEach [] X.env)).any (·.1) = false := by rfl) :
    SE X G W (.Call (.Name x p) [a] [] pos) (eC1 g fa) := by
  obtain ⟨ta, pa, ha⟩ := ha
  exact ⟨_, pe_callB hc hg hm hv (pa_cons pa pa_nil hs) hn hdb hs hpl, run_c1 hk ha⟩
theorem se_t1 {x : Str} {T : String} {r : List V → Hp → VK → Prop} {g : Fl → D → MS → Out} (hc : CallR X (.type T) r) (hk : OkC1 X G W r g) (hm : X.mg x = none) (hv : bootBuiltins x = some (.type T)) (ha : SE X G W a fa) (hg : Gl X x := by rfl)
    (hn : x ≠ "__name__" := by decide) (hdb : (x == ("__debug__" : Str)) = false := by decide) (hs : starEach [a] X.env = (false, eval a X.env) :: starEach [] X.env := by rfl) (hpl : (backTo pos (starEach [] X.env)).any (·.1) = false := by rfl) :
    SE X G W (.Call (.Name x p) [a] [] pos) (eC1 g fa) := by
  obtain ⟨ta, pa, ha⟩ := ha
  exact ⟨_, pe_callTy hc hg hm hv (pa_cons pa pa_nil hs) hn hdb hs hpl, run_c1 hk ha⟩
def OkC2 (X : Cx) (G : Gh) (W : WX) (r : List V → Hp → VK → Prop) (g : D → D → MS → Out) : Prop := ∀ (env : Env) (ms : MS) (σ : Sl) (H : Hp) (Z : Zs) (Q : VK) (d1 d2 : D) (x y : V),
  R X.K G env ms σ H Z → Rep X.K Z.b d1 x → Rep X.K Z.b d2 y → PostE X.K G W env σ ms Z H Q (g d1 d2 ms) → r [x, y] H Q
theorem se_b2 {x : Str} {id : String} {r : List V → Hp → VK → Prop} {g : D → D → MS → Out} (hc : CallR X (.builtin id) r) (hk : OkC2 X G W r g) (hm : X.mg x = none) (hv : bootBuiltins x = some (.builtin id)) (ha : SE X G W a fa) (hb : SE X G W b fb) (hg : Gl X x := by rfl)
    (hn : x ≠ "__name__" := by decide) (hdb : (x == ("__debug__" : Str)) = false := by decide) (hs : starEach [a, b] X.env = (false, eval a X.env) :: starEach [b] X.env := by rfl) (hs2 : starEach [b] X.env = (false, eval b X.env) :: starEach [] X.env := by rfl)
    (hpl : (backTo pos (starEach [b] X.env)).any (·.1) = false := by rfl) :
    SE X G W (.Call (.Name x p) [a, b] [] pos) (eBin g fa fb) := by
  obtain ⟨ta, pa, ha⟩ := ha
  obtain ⟨tb, pb, hb⟩ := hb
  exact ⟨_, pe_callB hc hg hm hv (pa_cons pa (pa_cons pb pa_nil hs2) hs) hn hdb hs hpl, fun σ H env ms Z Q hr q =>
    ha σ H env ms Z _ hr (PostE.bindR hr q fun d1 ms1 x H1 Z1 x1 r1 q1 p1 =>
      hb σ H1 env ms1 Z1 _ r1 (PostE.bindR r1 p1 fun d2 ms2 y H2 Z2 x2 r2 q2 p2 =>
        hk env ms2 σ H2 Z2 Q d1 d2 x y r2 (Rep.mono x2.bb _ _ q1) q2 p2))⟩
theorem sqL_of {K : PySem.W.Frag} {H : Hp} {a : Addr} {xs : List V} (h : H a = some (.lst xs)) : SqL K H a xs := .inl (.inl h)
/-! len -/
def gLen : Fl → D → MS → Out := fun _ d ms => match d with
  | .str s => if s.length ≤ sizeLine then .ok (.o 0) (.int s.length) ms else .bad
  | .tup ds => .ok (.o 0) (.int ds.length) ms
  | .lst ds => .ok (.o 0) (.int ds.length) ms
  | .scr ns => .ok (.o 0) (.int ns.length) ms
  | .dct kvs => .ok (.o 0) (.int kvs.length) ms
  | .dtt kvs => .ok (.o 0) (.int kvs.length) ms
  | _ => .bad
theorem RepK.len {K : PySem.W.Frag} {H : Hp} : ∀ {ds : List (Key × D)} {vs : List (Key × V)}, RepK K H ds vs → vs.length = ds.length
  | [], vs, h => by
    have h' : vs = [] := h
    subst h'
    rfl
  | d :: ds, vs, h => by
    obtain ⟨v, r, rfl, _, t⟩ := h
    show r.length + 1 = ds.length + 1
    rw [RepK.len t]
theorem RepT.len {K : PySem.W.Frag} {H : Hp} : ∀ {ds : List (List Key × D)} {vs : List (List Key × V)}, RepT K H ds vs → vs.length = ds.length
  | [], vs, h => by
    have h' : vs = [] := h
    subst h'
    rfl
  | d :: ds, vs, h => by
    obtain ⟨v, r, rfl, _, t⟩ := h
    show r.length + 1 = ds.length + 1
    rw [RepT.len t]
theorem ok_len : OkC1 X G W (fun xs H Q => (∃ x n, xs = [x] ∧ LenV X.K x H n ∧ Q (.int n) H) ∨ (∃ a kvs, xs = [V.ref a] ∧ H a = some (.dK kvs) ∧ Q (.int kvs.length) H) ∨ rLenT xs H Q) gLen := by
  intro env ms σ H Z Q l d x r q p
  have q0 := Rep.mono r.bh _ _ (q.rep r.fb)
  cases d with
  | str s =>
    have e : x = .str s := q0
    subst e
    simp only [gLen] at p
    by_cases h : s.length ≤ sizeLine
    · rw [if_pos h] at p
      exact .inl ⟨_, _, rfl, ⟨h, rfl⟩, p.fin r rfl⟩
    · rw [if_neg h] at p
      exact p.elim
  | tup ds =>
    obtain ⟨a, vs, rfl, h1, h2⟩ := q0
    refine .inl ⟨_, _, rfl, .inr ⟨vs, h1, rfl⟩, ?_⟩
    rw [h2.len]
    exact PostE.fin r p rfl
  | lst ds =>
    obtain ⟨a, vs, rfl, h1, h2⟩ := q0
    refine .inl ⟨_, _, rfl, .inl ⟨vs, sqL_of h1, rfl⟩, ?_⟩
    rw [h2.len]
    exact PostE.fin r p rfl
  | scr ns =>
    obtain ⟨a, rfl, h1⟩ := q0
    refine .inl ⟨_, _, rfl, .inl ⟨_, h1, rfl⟩, ?_⟩
    rw [List.length_map]
    exact PostE.fin r p rfl
  | dct kvs =>
    obtain ⟨a, vs, rfl, h1, h2⟩ := q0
    refine .inr (.inl ⟨_, _, rfl, h1, ?_⟩)
    rw [h2.len]
    exact PostE.fin r p rfl
  | dtt kvs =>
    obtain ⟨a, vs, rfl, h1, h2⟩ := q0
    refine .inr (.inr ⟨_, _, rfl, h1, ?_⟩)
    rw [h2.len]
    exact PostE.fin r p rfl
  | _ => exact p.elim
theorem se_len (hm : X.mg "len" = none) (ha : SE X G W a fa) (hg : Gl X "len" := by rfl) (hs : starEach [a] X.env = (false, eval a X.env) :: starEach [] X.env := by rfl) : SE X G W (.Call (.Name "len" p) [a] [] pos) (eC1 gLen fa) :=
  se_b1 (call_len.or (call_lenD.or call_len_dT)) ok_len hm rfl ha hg (hs := hs)
/-! int -/
def gInt : Fl → D → MS → Out := fun _ d ms => match d with
  | .int i => .ok (.o 0) (.int i) ms
  | .bl k => .ok (.o 0) (.int (if k then 1 else 0)) ms
  | _ => .bad
theorem ok_intc : OkC1 X G W (fun xs H Q => (∃ i, xs = [.int i] ∧ Q (.int i) H) ∨ ∃ k, xs = [.bl k] ∧ Q (.int (if k then 1 else 0)) H) gInt := by
  intro env ms σ H Z Q l d x r q p
  have q0 := q.rep r.fb
  cases d with
  | int i =>
    have e : x = .int i := q0
    subst e
    exact .inl ⟨i, rfl, PostE.fin r p rfl⟩
  | bl i =>
    have e : x = .bl i := q0
    subst e
    exact .inr ⟨i, rfl, PostE.fin r p rfl⟩
  | _ => exact p.elim
theorem se_intc (hm : X.mg "int" = none) (ha : SE X G W a fa) (hg : Gl X "int" := by rfl) (hs : starEach [a] X.env = (false, eval a X.env) :: starEach [] X.env := by rfl) : SE X G W (.Call (.Name "int" p) [a] [] pos) (eC1 gInt fa) :=
  se_t1 call_int1 ok_intc hm rfl ha hg (hs := hs)
/-! tuple, list -/
def gTuple : Fl → D → MS → Out := fun l d ms => match d with
  | .lst ds => if fzI l then .ok (.o 0) (.tup ds) ms else .bad
  | .tup ds => if isFz l then .ok (.o 0) (.tup ds) ms else .bad
  | .scr ns => .ok (.o 0) (.tup (ns.map D.int)) ms
  | _ => .bad
theorem ok_tuple : OkC1 X G W (fun xs H Q => ∃ p ys, xs = [.ref p] ∧ ((SqL X.K H p ys ∧ ∀ l, H l = none → Q (.ref l) (upd H l (.tup ys))) ∨ (SqT X.K H p ys ∧ Q (.ref p) H))) gTuple := by
  intro env ms σ H Z Q l d x r q p
  cases d with
  | lst ds =>
    simp only [gTuple] at p
    by_cases h : fzI l = true
    · rw [if_pos h] at p
      obtain ⟨a, vs, rfl, h1, h2⟩ := q.items r.fb h
      exact ⟨a, vs, rfl, .inl ⟨sqL_of (r.bh _ _ h1), fun b hb => p _ _ _ (r.extF hb) (r.newF hb) (r.topT hb h2)⟩⟩
    · rw [if_neg h] at p
      exact p.elim
  | tup ds =>
    simp only [gTuple] at p
    by_cases h : isFz l = true
    · rw [if_pos h] at p
      have q1 := q.fz h
      obtain ⟨a, vs, rfl, h1, h2⟩ := id q1
      exact ⟨a, vs, rfl, .inr ⟨sqT_mono (r.fb.trans r.bh) h1, PostE.fin r p q1⟩⟩
    · rw [if_neg h] at p
      exact p.elim
  | scr ns =>
    obtain ⟨a, rfl, h1⟩ := q.rep r.fb
    exact ⟨a, _, rfl, .inl ⟨r.bh.seq h1, fun b hb => p _ _ _ (r.extF hb) (r.newF hb) (r.topT hb RepL.ints)⟩⟩
  | _ => exact p.elim
theorem se_tuple (hm : X.mg "tuple" = none) (ha : SE X G W a fa) (hg : Gl X "tuple" := by rfl) (hs : starEach [a] X.env = (false, eval a X.env) :: starEach [] X.env := by rfl) : SE X G W (.Call (.Name "tuple" p) [a] [] pos) (eC1 gTuple fa) :=
  se_t1 call_tuple_of ok_tuple hm rfl ha hg (hs := hs)
def gList : Fl → D → MS → Out := fun l d ms => match d with
  | .lst ds => if fzI l then .ok (.o 1) (.lst ds) ms else .bad
  | .tup ds => if isFz l then .ok (.o 1) (.lst ds) ms else .bad
  | .scr ns => .ok (.o 1) (.lst (ns.map D.int)) ms
  | _ => .bad
theorem ok_list : OkC1 X G W (fun xs H Q => ∃ p ys, xs = [.ref p] ∧ (SqL X.K H p ys ∨ SqT X.K H p ys) ∧ ∀ l, H l = none → Q (.ref l) (upd H l (.lst ys))) gList := by
  intro env ms σ H Z Q l d x r q p
  cases d with
  | lst ds =>
    simp only [gList] at p
    by_cases h : fzI l = true
    · rw [if_pos h] at p
      obtain ⟨a, vs, rfl, h1, h2⟩ := q.items r.fb h
      exact ⟨a, vs, rfl, .inl (sqL_of (r.bh _ _ h1)), fun b hb => p _ _ _ (r.extO hb) (r.newO hb) (r.topL hb h2)⟩
    · rw [if_neg h] at p
      exact p.elim
  | tup ds =>
    simp only [gList] at p
    by_cases h : isFz l = true
    · rw [if_pos h] at p
      obtain ⟨a, vs, rfl, h1, h2⟩ := q.fz h
      exact ⟨a, vs, rfl, .inr (sqT_mono (r.fb.trans r.bh) h1), fun b hb => p _ _ _ (r.extO hb) (r.newO hb) (r.topL hb h2)⟩
    · rw [if_neg h] at p
      exact p.elim
  | scr ns =>
    obtain ⟨a, rfl, h1⟩ := q.rep r.fb
    exact ⟨a, _, rfl, .inl (r.bh.seq h1), fun b hb => p _ _ _ (r.extO hb) (r.newO hb) (r.topL hb RepL.ints)⟩
  | _ => exact p.elim
theorem se_list (hm : X.mg "list" = none) (ha : SE X G W a fa) (hg : Gl X "list" := by rfl) (hs : starEach [a] X.env = (false, eval a X.env) :: starEach [] X.env := by rfl) : SE X G W (.Call (.Name "list" p) [a] [] pos) (eC1 gList fa) :=
  se_t1 call_list_of ok_list hm rfl ha hg (hs := hs)
/-! all, any, sum, max, min of a list -/
def blsD : List D → Option (List Bool)
  | [] => some []
  | .bl b :: ds => (blsD ds).map (b :: ·)
  | _ => none
theorem blsD_some : ∀ {ds : List D} {bs : List Bool}, blsD ds = some bs → ds = bs.map D.bl
  | [], bs, h => by
    cases h
    rfl
  | .bl b :: ds, bs, h => by
    have h' : (blsD ds).map (b :: ·) = some bs := h
    cases e : blsD ds with
    | none =>
      rw [e] at h'
      cases h'
    | some cs =>
      rw [e] at h'
      cases h'
      rw [blsD_some e]
      rfl
  | .non :: _, _, h => by cases h
  | .int _ :: _, _, h => by cases h
  | .str _ :: _, _, h => by cases h
  | .tup _ :: _, _, h => by cases h
  | .lst _ :: _, _, h => by cases h
  | .dct _ :: _, _, h => by cases h
  | .dtt _ :: _, _, h => by cases h
  | .raw _ :: _, _, h => by cases h
  | .exc _ _ :: _, _, h => by cases h
  | .xob _ _ :: _, _, h => by cases h
  | .scr _ :: _, _, h => by cases h
theorem seen_lst {l : Fl} {K : PySem.W.Frag} {Z : Zs} {H : Hp} {ds : List D} {x : V} (fb : Same Z.f Z.b) (bh : Same Z.b H) (q : Seen K Z l (.lst ds) x) : ∃ a vs, x = .ref a ∧ SqL K H a vs ∧ RepL K Z.b ds vs := by
  obtain ⟨a, vs, rfl, h1, h2⟩ := q.rep fb
  exact ⟨a, vs, rfl, sqL_of (bh _ _ h1), h2⟩
def gBs (g : List Bool → Bool) : Fl → D → MS → Out := fun _ d ms => match d with
  | .lst ds => (match blsD ds with
    | some bs => .ok (.o 0) (.bl (g bs)) ms
    | none => .bad)
  | _ => .bad
theorem ok_bs {g : List Bool → Bool} : OkC1 X G W (fun vs H Q => ∃ (a : Addr) (bs : List Bool), vs = [V.ref a] ∧ SqL X.K H a (bs.map V.bl) ∧ Q (.bl (g bs)) H) (gBs g) := by
  intro env ms σ H Z Q l d x r q p
  cases d with
  | lst ds =>
    simp only [gBs] at p
    cases e : blsD ds with
    | none =>
      rw [e] at p
      exact p.elim
    | some bs =>
      rw [e] at p
      obtain ⟨a, vs, rfl, h1, h2⟩ := seen_lst r.fb r.bh q
      rw [blsD_some e] at h2
      rw [h2.ofBls] at h1
      exact ⟨a, bs, rfl, h1, PostE.fin r p rfl⟩
  | _ => exact p.elim
theorem se_all (hc : X.calm = true) (hm : X.mg "all" = none) (ha : SE X G W a fa) (hg : Gl X "all" := by rfl) (hs : starEach [a] X.env = (false, eval a X.env) :: starEach [] X.env := by rfl) : SE X G W (.Call (.Name "all" p) [a] [] pos) (eC1 (gBs fun bs => bs.all id) fa) :=
  se_b1 (cr_all hc) ok_bs hm rfl ha hg (hs := hs)
theorem se_any (hc : X.calm = true) (hm : X.mg "any" = none) (ha : SE X G W a fa) (hg : Gl X "any" := by rfl) (hs : starEach [a] X.env = (false, eval a X.env) :: starEach [] X.env := by rfl) : SE X G W (.Call (.Name "any" p) [a] [] pos) (eC1 (gBs fun bs => bs.any id) fa) :=
  se_b1 (cr_any hc) ok_bs hm rfl ha hg (hs := hs)
def gIs (g : List Int → Option Int) : Fl → D → MS → Out := fun _ d ms => match d with
  | .lst ds => (match (intsD ds).bind g with
    | some i => .ok (.o 0) (.int i) ms
    | none => .bad)
  | .scr ns => (match g ns with
    | some i => .ok (.o 0) (.int i) ms
    | none => .bad)
  | _ => .bad
theorem ok_is {g : List Int → Option Int} {rr : List V → Hp → VK → Prop} (hr : ∀ (a : Addr) (ns : List Int) (i : Int) (H : Hp) (Q : VK), SqL X.K H a (ns.map V.int) → g ns = some i → Q (.int i) H → rr [V.ref a] H Q) : OkC1 X G W rr (gIs g) := by
  intro env ms σ H Z Q l d x r q p
  cases d with
  | lst ds =>
    simp only [gIs] at p
    cases e : intsD ds with
    | none =>
      rw [e] at p
      exact p.elim
    | some ns =>
      rw [e] at p
      obtain ⟨a, vs, rfl, h1, h2⟩ := seen_lst r.fb r.bh q
      rw [intsD_some e] at h2
      rw [h2.ofInts] at h1
      have p2 : PostE X.K G W env σ ms Z H Q (match g ns with
        | some i => .ok (.o 0) (.int i) ms
        | none => .bad) := p
      cases e2 : g ns with
      | none =>
        rw [e2] at p2
        exact p2.elim
      | some i =>
        rw [e2] at p2
        exact hr a ns i H Q h1 e2 (PostE.fin r p2 rfl)
  | scr ns =>
    obtain ⟨a, rfl, h1⟩ := q.rep r.fb
    simp only [gIs] at p
    cases e2 : g ns with
    | none =>
      rw [e2] at p
      exact p.elim
    | some i =>
      rw [e2] at p
      exact hr a ns i H Q (r.bh.seq h1) e2 (PostE.fin r p rfl)
  | _ => exact p.elim
theorem se_sum (hc : X.calm = true) (hm : X.mg "sum" = none) (ha : SE X G W a fa) (hg : Gl X "sum" := by rfl) (hs : starEach [a] X.env = (false, eval a X.env) :: starEach [] X.env := by rfl) : SE X G W (.Call (.Name "sum" p) [a] [] pos) (eC1 (gIs fun ns => some ns.sum) fa) :=
  se_b1 (cr_sum hc) (ok_is fun a ns i H Q h1 e q => ⟨a, ns, rfl, h1, by
    cases e
    exact q⟩) hm rfl ha hg (hs := hs)
def mostI : List Int → Option Int
  | [] => none
  | n :: ns => some (ns.foldl max n)
def leastI : List Int → Option Int
  | [] => none
  | n :: ns => some (ns.foldl min n)
theorem foldl_max : ∀ (ns : List Int) (n : Int), (ns.foldl max n = n ∨ ns.foldl max n ∈ ns) ∧ n ≤ ns.foldl max n ∧ ∀ y ∈ ns, y ≤ ns.foldl max n
  | [], n => ⟨.inl rfl, Int.le_refl _, fun y h => by cases h⟩
  | m :: ns, n => by
    obtain ⟨h1, h2, h3⟩ := foldl_max ns (max n m)
    show ((ns.foldl max (max n m)) = n ∨ _) ∧ n ≤ ns.foldl max (max n m) ∧ ∀ y ∈ m :: ns, y ≤ ns.foldl max (max n m)
    refine ⟨?_, by omega, fun y hy => ?_⟩
    · rcases h1 with h1 | h1
      · rw [h1]
        rcases Int.le_total n m with z | z
        · exact .inr (by show List.foldl max (max n m) ns ∈ _; rw [h1, Int.max_eq_right z]; exact List.mem_cons_self)
        · exact .inl (Int.max_eq_left z)
      · exact .inr (List.mem_cons_of_mem _ h1)
    · rcases List.mem_cons.mp hy with rfl | hy
      · omega
      · exact h3 y hy
theorem foldl_min : ∀ (ns : List Int) (n : Int), (ns.foldl min n = n ∨ ns.foldl min n ∈ ns) ∧ ns.foldl min n ≤ n ∧ ∀ y ∈ ns, ns.foldl min n ≤ y
  | [], n => ⟨.inl rfl, Int.le_refl _, fun y h => by cases h⟩
  | m :: ns, n => by
    obtain ⟨h1, h2, h3⟩ := foldl_min ns (min n m)
    show ((ns.foldl min (min n m)) = n ∨ _) ∧ ns.foldl min (min n m) ≤ n ∧ ∀ y ∈ m :: ns, ns.foldl min (min n m) ≤ y
    refine ⟨?_, by omega, fun y hy => ?_⟩
    · rcases h1 with h1 | h1
      · rw [h1]
        rcases Int.le_total n m with z | z
        · exact .inl (Int.min_eq_left z)
        · exact .inr (by show List.foldl min (min n m) ns ∈ _; rw [h1, Int.min_eq_right z]; exact List.mem_cons_self)
      · exact .inr (List.mem_cons_of_mem _ h1)
    · rcases List.mem_cons.mp hy with rfl | hy
      · omega
      · exact h3 y hy
theorem se_max1 (hc : X.calm = true) (hm : X.mg "max" = none) (ha : SE X G W a fa) (hg : Gl X "max" := by rfl) (hs : starEach [a] X.env = (false, eval a X.env) :: starEach [] X.env := by rfl) : SE X G W (.Call (.Name "max" p) [a] [] pos) (eC1 (gIs mostI) fa) :=
  se_b1 (cr_max hc) (ok_is fun a ns i H Q h1 e q => by
    cases ns with
    | nil => cases e
    | cons n ns =>
      refine ⟨a, _, rfl, h1, Nat.succ_pos _, fun m hm hle => ?_⟩
      have e' : ns.foldl max n = i := Option.some.inj e
      obtain ⟨k1, k2, k3⟩ := foldl_max ns n
      have a1 : m ≤ i := by
        rcases List.mem_cons.mp hm with rfl | z
        · rw [← e']
          exact k2
        · rw [← e']
          exact k3 m z
      have a2 : i ≤ m := by
        rw [← e']
        rcases k1 with z | z
        · rw [z]
          exact hle n List.mem_cons_self
        · exact hle _ (List.mem_cons_of_mem _ z)
      rw [Int.le_antisymm a1 a2]
      exact q) hm rfl ha hg (hs := hs)
theorem se_min1 (hc : X.calm = true) (hm : X.mg "min" = none) (ha : SE X G W a fa) (hg : Gl X "min" := by rfl) (hs : starEach [a] X.env = (false, eval a X.env) :: starEach [] X.env := by rfl) : SE X G W (.Call (.Name "min" p) [a] [] pos) (eC1 (gIs leastI) fa) :=
  se_b1 (cr_min hc) (ok_is fun a ns i H Q h1 e q => by
    cases ns with
    | nil => cases e
    | cons n ns =>
      refine ⟨a, _, rfl, h1, Nat.succ_pos _, fun m hm hle => ?_⟩
      have e' : ns.foldl min n = i := Option.some.inj e
      obtain ⟨k1, k2, k3⟩ := foldl_min ns n
      have a1 : i ≤ m := by
        rcases List.mem_cons.mp hm with rfl | z
        · rw [← e']
          exact k2
        · rw [← e']
          exact k3 m z
      have a2 : m ≤ i := by
        rw [← e']
        rcases k1 with z | z
        · rw [z]
          exact hle n List.mem_cons_self
        · exact hle _ (List.mem_cons_of_mem _ z)
      rw [Int.le_antisymm a2 a1]
      exact q) hm rfl ha hg (hs := hs)
/-! sorted -/
def pairsD : List D → Option (List (Int × Int))
  | [] => some []
  | .tup [.int i, .int j] :: ds => (pairsD ds).map ((i, j) :: ·)
  | _ => none
def dP (p : Int × Int) : D := .tup [.int p.1, .int p.2]
theorem pairsD_some : ∀ {ds : List D} {ps : List (Int × Int)}, pairsD ds = some ps → ds = ps.map dP
  | [], ps, h => by
    cases h
    rfl
  | d :: ds, ps, h => by
    unfold pairsD at h
    split at h
    · cases ‹_ = []›
    · rename_i i j ds' e
      cases e
      cases e : pairsD ds with
      | none =>
        rw [e] at h
        cases h
      | some qs =>
        rw [e] at h
        cases h
        rw [pairsD_some e]
        rfl
    · cases h
theorem pairsD_map (ps : List (Int × Int)) : pairsD (ps.map dP) = some ps := by
  induction ps with
  | nil => rfl
  | cons p ps ih =>
    show (pairsD (ps.map dP)).map _ = _
    rw [ih]
    rfl
theorem RepL.prs {K : PySem.W.Frag} {f : Hp} : ∀ {ps : List (Int × Int)} {vs : List V}, RepL K f (ps.map dP) vs ↔ Paired (IsPr K f) vs ps
  | [], vs => ⟨fun h => by
      have h' : vs = [] := h
      subst h'
      exact .nil, fun h => by
      cases h
      exact rfl⟩
  | p :: ps, vs => ⟨fun h => by
      obtain ⟨v, r, rfl, ⟨a, us, rfl, q1, u1, r1, rfl, e1, u2, r2, rfl, e2, e3⟩, t⟩ := h
      have e1' : u1 = .int p.1 := e1
      have e2' : u2 = .int p.2 := e2
      have e3' : r2 = [] := e3
      subst e1' e2' e3'
      exact .cons ⟨a, rfl, q1⟩ (RepL.prs.mp t), fun h => by
      cases h with
      | cons q t =>
        obtain ⟨a, rfl, q⟩ := q
        exact ⟨_, _, rfl, ⟨a, _, rfl, q, _, _, rfl, rfl, _, _, rfl, rfl, rfl⟩, RepL.prs.mpr t⟩⟩
theorem Paired.imp_mem {α β : Type} {R1 R2 : α → β → Prop} : ∀ {as : List α} {bs : List β}, Paired R1 as bs → (∀ a ∈ as, ∀ b, R1 a b → R2 a b) → Paired R2 as bs
  | _, _, .nil, _ => .nil
  | _, _, .cons r t, h => .cons (h _ List.mem_cons_self _ r) (Paired.imp_mem t fun a ha b q => h a (List.mem_cons_of_mem _ ha) b q)
def gSorted : Fl → D → MS → Out := fun l d ms => match d with
  | .lst ds => (match intsD ds with
    | some ns => .ok (.o 1) (.lst ((sortI ns).map D.int)) ms
    | none => (match pairsD ds with
      | some ps => if fzI l then .ok (.o 1) (.lst ((sortP ps).map dP)) ms else .bad
      | none => .bad))
  | .scr ns => .ok (.o 1) (.lst ((sortI ns).map D.int)) ms
  | _ => .bad
/-- pairs that are frozen somewhere stay those pairs -/
def rSortedR (K : PySem.W.Frag) : List V → Hp → VK → Prop := fun vs H Q => ∃ (f : Hp) (a : Addr) (xs : List V) (ps : List (Int × Int)), Same f H ∧ vs = [V.ref a] ∧ SqL K H a xs ∧ Paired (IsPr K f) xs ps ∧
  ∀ ys p, Paired (IsPr K f) ys (sortP ps) → H p = none → Q (.ref p) (upd H p (.lst ys))
theorem cr_sortedR : CallR X (.builtin "sorted") (rSortedR X.K) := by
  intro pins s σ H vs us Q I r h
  obtain ⟨f, a, xs, ps, sf, rfl, hs, hx, q⟩ := h
  have up : ∀ {v : V} {p : Int × Int}, IsPr X.K f v p → IsPr X.K H v p := fun ⟨t, e, z⟩ => ⟨t, e, sqT_mono sf z⟩
  refine cr_sortedQ pins s σ H [V.ref a] us Q I r ⟨a, xs, ps, rfl, hs, Paired.imp_mem hx fun _ _ _ z => up z, fun ys p hy sub hp => q ys p (Paired.imp_mem hy fun y m b z => ?_) hp⟩
  obtain ⟨c, _, hc⟩ := Paired.mem_left hx y (sub y m)
  have e1 := prOf_eq I z
  have e2 := prOf_eq I (up hc)
  rw [e1] at e2
  rw [e2]
  exact hc
theorem ok_sorted : OkC1 X G W (fun xs H Q => rSortedI X.K xs H Q ∨ rSortedR X.K xs H Q) gSorted := by
  intro env ms σ H Z Q l d x r q p
  have isx : ∀ {ns : List Int} {a : Addr}, x = V.ref a → SqL X.K H a (ns.map V.int) → PostE X.K G W env σ ms Z H Q (.ok (.o 1) (.lst ((sortI ns).map D.int)) ms) → rSortedI X.K [x] H Q := fun {ns a} ex hs p => by
    subst ex
    refine ⟨a, ns, rfl, hs, fun ns' b h1 h2 hb => ?_⟩
    have e := sortI_uniq h2 h1
    subst e
    exact p _ _ _ (r.extO hb) (r.newO hb) (r.topL hb RepL.ints)
  cases d with
  | lst ds =>
    simp only [gSorted] at p
    cases e : intsD ds with
    | some ns =>
      rw [e] at p
      obtain ⟨a, vs, rfl, h1, h2⟩ := seen_lst r.fb r.bh q
      rw [intsD_some e] at h2
      rw [h2.ofInts] at h1
      exact .inl (isx rfl h1 p)
    | none =>
      rw [e] at p
      dsimp only at p
      cases e2 : pairsD ds with
      | none =>
        rw [e2] at p
        exact p.elim
      | some ps =>
        rw [e2] at p
        dsimp only at p
        by_cases h : fzI l = true
        · rw [if_pos h] at p
          obtain ⟨a, vs, rfl, h1, h2⟩ := q.items r.fb h
          rw [pairsD_some e2] at h2
          exact .inr ⟨Z.f, a, vs, ps, r.fb.trans r.bh, rfl, sqL_of (r.bh _ _ h1), RepL.prs.mp h2, fun ys b hy hb => p _ _ _ (r.extO hb) (r.newO hb) (r.topL hb (RepL.prs.mpr hy))⟩
        · rw [if_neg h] at p
          exact p.elim
  | scr ns =>
    obtain ⟨a, rfl, h1⟩ := q.rep r.fb
    exact .inl (isx rfl (r.bh.seq h1) p)
  | _ => exact p.elim
theorem se_sorted (hm : X.mg "sorted" = none) (ha : SE X G W a fa) (hg : Gl X "sorted" := by rfl) (hs : starEach [a] X.env = (false, eval a X.env) :: starEach [] X.env := by rfl) : SE X G W (.Call (.Name "sorted" p) [a] [] pos) (eC1 gSorted fa) :=
  se_b1 (cr_sortedI.or cr_sortedR) ok_sorted hm rfl ha hg (hs := hs)
/-! abs, max, min -/
def gAbs : Fl → D → MS → Out := fun _ d ms => match d with
  | .int i => .ok (.o 0) (.int (if i < 0 then -i else i)) ms
  | _ => .bad
theorem se_abs (hm : X.mg "abs" = none) (ha : SE X G W a fa) (hg : Gl X "abs" := by rfl) (hs : starEach [a] X.env = (false, eval a X.env) :: starEach [] X.env := by rfl) : SE X G W (.Call (.Name "abs" p) [a] [] pos) (eC1 gAbs fa) :=
  se_b1 call_abs (fun env ms σ H Z Q l d x r q p => by
    have q0 := q.rep r.fb
    cases d with
    | int i =>
      have e : x = .int i := q0
      subst e
      exact ⟨i, rfl, PostE.fin r p rfl⟩
    | _ => exact p.elim) hm rfl ha hg (hs := hs)
def gMax2 : D → D → MS → Out := gI (fun _ _ => true) fun i j => .int (if j > i then j else i)
def gMin2 : D → D → MS → Out := gI (fun _ _ => true) fun i j => .int (if j < i then j else i)
theorem ok_two {g : Int → Int → Int} : OkC2 X G W (fun xs H Q => ∃ i j, xs = [.int i, .int j] ∧ Q (.int (g i j)) H) (gI (fun _ _ => true) fun i j => .int (g i j)) := by
  intro env ms σ H Z Q d1 d2 x y r q1 q2 p
  have h := ok_int0 (X := X) (G := G) (W := W) (g := fun i j => .int (g i j)) (gv := fun i j => .int (g i j)) (fun _ _ _ _ => rfl) env ms σ H Z Q d1 d2 x y r q1 q2 p
  obtain ⟨i, j, rfl, rfl, q⟩ := h
  exact ⟨i, j, rfl, q⟩
theorem se_max2 (hc : X.calm = true) (hm : X.mg "max" = none) (ha : SE X G W a fa) (hb : SE X G W b fb) (hg : Gl X "max" := by rfl) (hs : starEach [a, b] X.env = (false, eval a X.env) :: starEach [b] X.env := by rfl) (hs2 : starEach [b] X.env = (false, eval b X.env) :: starEach [] X.env := by rfl)
    (hpl : (backTo pos (starEach [b] X.env)).any (·.1) = false := by rfl) : SE X G W (.Call (.Name "max" p) [a, b] [] pos) (eBin gMax2 fa fb) := se_b2 (call_max2 hc) ok_two hm rfl ha hb hg (hs := hs) (hs2 := hs2) (hpl := hpl)
theorem se_min2 (hc : X.calm = true) (hm : X.mg "min" = none) (ha : SE X G W a fa) (hb : SE X G W b fb) (hg : Gl X "min" := by rfl) (hs : starEach [a, b] X.env = (false, eval a X.env) :: starEach [b] X.env := by rfl) (hs2 : starEach [b] X.env = (false, eval b X.env) :: starEach [] X.env := by rfl)
    (hpl : (backTo pos (starEach [b] X.env)).any (·.1) = false := by rfl) : SE X G W (.Call (.Name "min" p) [a, b] [] pos) (eBin gMin2 fa fb) := se_b2 (call_min2 hc) ok_two hm rfl ha hb hg (hs := hs) (hs2 := hs2) (hpl := hpl)
/-! list(range(..)) -/
def okRg (a b : Int) : Bool := decide (-(2 ^ 62) ≤ a ∧ a < 2 ^ 62 ∧ -(2 ^ 62) ≤ b ∧ b < 2 ^ 62 ∧ (b - a).toNat ≤ 2 ^ 24)
def gRgL : D → MS → Out := fun d ms => match d with
  | .int n => if okRg 0 n then .ok (.o 1) (.lst (rangeD 0 n.toNat)) ms else .bad
  | _ => .bad
theorem rgV_rep {K : PySem.W.Frag} {f : Hp} (a b : Int) : RepL K f (rangeD a (b - a).toNat) (rgV a b) := by
  have e1 : rangeD a (b - a).toNat = ((List.range (b - a).toNat).map fun (i : Nat) => a + (i : Int)).map D.int := by
    unfold rangeD
    rw [List.map_map]
    rfl
  have e2 : rgV a b = ((List.range (b - a).toNat).map fun (i : Nat) => a + (i : Int)).map V.int := by
    unfold rgV
    rw [List.map_map]
    rfl
  rw [e1, e2]
  exact RepL.ints
theorem se_listRg1 {p2 pos2 : Pos} (hc : X.calm = true) (hm : X.mg "list" = none) (hm2 : X.mg "range" = none) (ha : SE X G W a fa) (hg : Gl X "list" := by rfl) (hg2 : Gl X "range" := by rfl)
    (hs : starEach [.Call (.Name "range" p2) [a] [] pos2] X.env = (false, eval (.Call (.Name "range" p2) [a] [] pos2) X.env) :: starEach [] X.env := by rfl) (hs2 : starEach [a] X.env = (false, eval a X.env) :: starEach [] X.env := by rfl) :
    SE X G W (.Call (.Name "list" p) [.Call (.Name "range" p2) [a] [] pos2] [] pos) (fun env ms => (fa env ms).bindR gRgL) := by
  obtain ⟨t, pt, h⟩ := ha
  refine ⟨_, pe_listRg hc hg hm (prg_1 hg2 hm2 pt hs2) hs, fun σ H env ms Z Q r q => h σ H env ms Z _ r (PostE.bindR r q fun d m v H' Z' x r' q1 p' => ?_)⟩
  cases d with
  | int n =>
    have e : v = .int n := q1
    subst e
    simp only [gRgL] at p'
    by_cases hk : okRg 0 n = true
    · rw [if_pos hk] at p'
      refine ⟨n, rfl, (by simp only [okRg, decide_eq_true_eq] at hk; exact hk), fun b hb => p' _ _ _ (r'.extO hb) (r'.newO hb) (r'.topL hb ?_)⟩
      have := rgV_rep (K := X.K) (f := Z'.f) 0 n
      rwa [Int.sub_zero] at this
    · rw [if_neg hk] at p'
      exact p'.elim
  | _ => exact p'.elim
/-! isinstance -/
def tyD : D → Option String
  | .non => some "NoneType" | .bl _ => some "bool" | .int _ => some "int" | .str _ => some "str" | .tup _ => some "tuple" | .lst _ => some "list" | .scr _ => some "list" | .dct _ => some "dict" | .dtt _ => some "dict"
  | _ => none
def isiB (t T : String) : Bool := t == T || (t == "bool" && T == "int")
theorem isiB_ok {t T : String} (ht : t ∈ ["NoneType", "bool", "int", "str", "tuple", "list", "dict"]) (hT : T ∈ ["bool", "int", "str", "tuple", "list", "dict"]) : kitB t T = some (isiB t T) := by
  have h : (["NoneType", "bool", "int", "str", "tuple", "list", "dict"].all fun t => ["bool", "int", "str", "tuple", "list", "dict"].all fun T => kitB t T == some (isiB t T)) = true := by decide +kernel
  exact eq_of_beq (List.all_eq_true.mp (List.all_eq_true.mp h t ht) T hT)
theorem tyD_mem {d : D} {t : String} (h : tyD d = some t) : t ∈ ["NoneType", "bool", "int", "str", "tuple", "list", "dict"] := by
  cases d <;> cases h <;> decide
theorem tyX_of {K : PySem.W.Frag} {H : Hp} {d : D} {x : V} {t : String} (q : Rep K H d x) (h : tyD d = some t) : TyX K H x (.type t) := by
  cases d with
  | non =>
    cases h
    have e : x = .non := q
    subst e
    exact .base .non
  | bl b =>
    cases h
    have e : x = .bl b := q
    subst e
    exact .base (.bl b)
  | int b =>
    cases h
    have e : x = .int b := q
    subst e
    exact .base (.int b)
  | str b =>
    cases h
    have e : x = .str b := q
    subst e
    exact .base (.str b)
  | tup ds =>
    cases h
    obtain ⟨a, vs, rfl, h1, _⟩ := q
    rcases h1 with (h1 | ⟨o, h1⟩) | ⟨o, its, n, h1, h2, _⟩
    · exact .base (.tup h1)
    · exact .fTuple h1
    · exact .kTuple h1 h2
  | lst ds =>
    cases h
    obtain ⟨a, vs, rfl, h1, _⟩ := q
    exact .base (.lst h1)
  | scr ds =>
    cases h
    obtain ⟨a, rfl, h1⟩ := q
    rcases h1 with (h1 | ⟨o, h1⟩) | ⟨o, its, n, h1, h2, _⟩
    · exact .base (.lst h1)
    · exact .base (.frz h1)
    · exact .kList h1 h2
  | dct ds =>
    cases h
    obtain ⟨a, vs, rfl, h1, _⟩ := q
    exact .base (.dK h1)
  | dtt ds =>
    cases h
    obtain ⟨a, vs, rfl, h1, _⟩ := q
    exact .base (.dT h1)
  | _ => cases h
def gIsi (T : String) : Fl → D → MS → Out := fun _ d ms => match tyD d with
  | some t => .ok (.o 0) (.bl (isiB t T)) ms
  | none => .bad
theorem se_isi {T : String} {x : Str} {p2 : Pos} (hm : X.mg "isinstance" = none) (hm2 : X.mg x = none) (ha : SE X G W a fa) (hT : T ∈ ["bool", "int", "str", "tuple", "list", "dict"] := by decide) (hv : bootBuiltins x = some (.type T) := by rfl) (hg : Gl X "isinstance" := by rfl) (hg2 : Gl X x := by rfl)
    (hn : x ≠ "__name__" := by decide) (hdb : (x == ("__debug__" : Str)) = false := by decide)
    (hs : starEach [a, .Name x p2] X.env = (false, eval a X.env) :: starEach [.Name x p2] X.env := by rfl) (hs2 : starEach [.Name x p2] X.env = (false, eval (.Name x p2) X.env) :: starEach [] X.env := by rfl)
    (hpl : (backTo pos (starEach [.Name x p2] X.env)).any (·.1) = false := by rfl) :
    SE X G W (.Call (.Name "isinstance" p) [a, .Name x p2] [] pos) (eC1 (gIsi T) fa) := by
  obtain ⟨ta, pa, ha⟩ := ha
  refine ⟨_, pe_callB call_isi hg hm rfl (pa_cons pa (pa_cons (pe_bltn hg2 hm2 hv (v := .ty T) rfl hn hdb) pa_nil hs2) hs) (by decide) (by decide) hs hpl, fun σ H env ms Z Q hr q =>
    ha σ H env ms Z _ hr (PostE.bind hr q fun l d m v H' Z' x r' t' q' => ?_)⟩
  unfold gIsi at q'
  cases e : tyD d with
  | none =>
    rw [e] at q'
    exact q'.elim
  | some t =>
    rw [e] at q'
    exact ⟨v, .ty T, .type t, .type T, _, rfl, .ty T, tyX_of (Rep.mono r'.bh _ _ (t'.rep r'.fb)) e, kit_ty (isiB_ok (tyD_mem e) hT), PostE.fin r' q' rfl⟩
/-! slices -/
def partV : Option Int → V
  | none => .non
  | some i => .int i
def SPo (X : Cx) (G : Gh) (W : WX) (e : Option Expr) (f : EF) : Prop :=
  ∃ t, PO X e t ∧ ∀ (σ : Sl) (H : Hp) (env : Env) (ms : MS) (Z : Zs) (Q : Option Int → Hp → Prop), R X.K G env ms σ H Z → PostE X.K G W env σ ms Z H (fun v H' => ∃ o, v = partV o ∧ Q o H') (f env ms) → t σ H Q
def eIntO (f : EF) : EF := fun env ms => (f env ms).bindR fun d ms => match d with
  | .int i => .ok (.o 0) (.int i) ms
  | _ => .bad
theorem spo_none : SPo X G W none (eC .non) := ⟨_, po_none, fun σ H env ms Z Q r p => by
  obtain ⟨o, e, q⟩ := PostE.fin r p rfl
  cases o with
  | none => exact q
  | some i => cases e⟩
theorem spo_some (h : SE X G W a fa) : SPo X G W (some a) (eIntO fa) := by
  obtain ⟨t, pt, h⟩ := h
  refine ⟨_, po_some pt, fun σ H env ms Z Q r p => h σ H env ms Z _ r (PostE.bindR r p fun d m v H' Z' x r' q' p' => ?_)⟩
  cases d with
  | int i =>
    have e : v = .int i := q'
    subst e
    obtain ⟨o, e, q⟩ := PostE.fin r' p' rfl
    cases o with
    | none => cases e
    | some j =>
      cases e
      exact ⟨i, rfl, q⟩
  | _ => exact p'.elim
def cutD {α : Type} (xs : List α) (lo hi : Option Int) : List α := (xs.drop (HT.sIx xs.length 0 lo)).take (HT.sIx xs.length xs.length hi - HT.sIx xs.length 0 lo)
def prtD : D → Option (Option Int)
  | .non => some none
  | .int i => some (some i)
  | _ => none
def gSl : Fl → D → Option Int → Option Int → MS → Out := fun l d lo hi ms => match d with
  | .tup ds => if isFz l then .ok (.o 0) (.tup (cutD ds lo hi)) ms else .bad
  | .lst ds => if fzI l then .ok (.o 1) (.lst (cutD ds lo hi)) ms else .bad
  | .scr ns => .ok (.o 1) (.lst (cutD (ns.map D.int) lo hi)) ms
  | .str s => if s.length ≤ sizeLine then .ok (.o 0) (.str (cutS s lo hi)) ms else .bad
  | _ => .bad
def eSl (f fl fh : EF) : EF := fun env ms => (f env ms).bind fun l d ms1 => (fl env ms1).bindR fun d1 ms2 => match prtD d1 with
  | none => .bad
  | some lo => (fh env ms2).bindR fun d2 ms3 => match prtD d2 with
    | none => .bad
    | some hi => gSl l d lo hi ms3
theorem RepL.cut {K : PySem.W.Frag} {f : Hp} {ds : List D} {vs : List V} (h : RepL K f ds vs) (lo hi : Option Int) : RepL K f (cutD ds lo hi) (cutV vs lo hi) := by
  unfold cutD cutV
  rw [h.len]
  exact RepL.take _ (RepL.drop _ h)
theorem cutD_whole {α : Type} {xs : List α} {lo hi : Option Int} (h : HT.sIx xs.length 0 lo = 0 ∧ HT.sIx xs.length xs.length hi = xs.length) : cutD xs lo hi = xs := by
  unfold cutD
  rw [h.1, h.2, List.drop_zero, Nat.sub_zero, List.take_length]
theorem ok_sl {env : Env} {ms : MS} {σ : Sl} {H : Hp} {Z : Zs} {Q : VK} {l : Fl} {d : D} {x : V} {lo hi : Option Int} (r : R X.K G env ms σ H Z) (q : Seen X.K Z l d x) (p : PostE X.K G W env σ ms Z H Q (gSl l d lo hi ms)) :
    rSlL X.K x lo hi H Q ∨ rSlA X.K x lo hi H Q ∨ rSlS x lo hi H Q := by
  cases d with
  | tup ds =>
    simp only [gSl] at p
    by_cases h : isFz l = true
    · rw [if_pos h] at p
      have q0 := q.fz h
      obtain ⟨a, vs, rfl, h1, h2⟩ := id q0
      refine .inr (.inl ⟨a, vs, rfl, sqT_mono (r.fb.trans r.bh) h1, fun hw => ?_, fun _ b hb => ?_⟩)
      · rw [h2.len] at hw
        rw [cutD_whole hw] at p
        exact PostE.fin r p q0
      · exact p _ _ _ (r.extF hb) (r.newF hb) (r.topT hb (h2.cut lo hi))
    · rw [if_neg h] at p
      exact p.elim
  | lst ds =>
    simp only [gSl] at p
    by_cases h : fzI l = true
    · rw [if_pos h] at p
      obtain ⟨a, vs, rfl, h1, h2⟩ := q.items r.fb h
      exact .inl ⟨a, vs, rfl, sqL_of (r.bh _ _ h1), fun b hb => p _ _ _ (r.extO hb) (r.newO hb) (r.topL hb (h2.cut lo hi))⟩
    · rw [if_neg h] at p
      exact p.elim
  | scr ns =>
    obtain ⟨a, rfl, h1⟩ := q.rep r.fb
    exact .inl ⟨a, _, rfl, r.bh.seq h1, fun b hb => p _ _ _ (r.extO hb) (r.newO hb) (r.topL hb (RepL.ints.cut lo hi))⟩
  | str s =>
    have e : x = .str s := q.rep r.fb
    subst e
    simp only [gSl] at p
    by_cases h : s.length ≤ sizeLine
    · rw [if_pos h] at p
      exact .inr (.inr ⟨s, rfl, h, PostE.fin r p rfl⟩)
    · rw [if_neg h] at p
      exact p.elim
  | _ => exact p.elim
theorem prt_of {K : PySem.W.Frag} {H : Hp} {d : D} {v : V} {o : Option Int} (q : Rep K H d v) (h : prtD d = some o) : v = partV o := by
  cases d with
  | non =>
    cases h
    exact q
  | int i =>
    cases h
    exact q
  | _ => cases h
theorem se_slice {lo hi : Option Expr} {fl fh : EF} {p2 : Pos} (ha : SE X G W a fa) (hl : SPo X G W lo fl) (hh : SPo X G W hi fh) : SE X G W (.Subscript a (.Slice lo hi none p2) pos) (eSl fa fl fh) := by
  obtain ⟨ta, pa, ha⟩ := ha
  obtain ⟨tl, pl, hl⟩ := hl
  obtain ⟨th, ph, hh⟩ := hh
  refine ⟨_, pe_slice (sl_list.or (sl_tupA.or sl_str)) pa pl ph, fun σ H env ms Z Q r p => ha σ H env ms Z _ r (PostE.bind r p fun l d ms1 v H1 Z1 x1 r1 t1 p1 => hl σ H1 env ms1 Z1 _ r1 (PostE.bindR r1 p1 fun d1 ms2 v1 H2 Z2 x2 r2 q2 p2 => ?_))⟩
  cases e1 : prtD d1 with
  | none =>
    rw [e1] at p2
    exact p2.elim
  | some lo =>
    rw [e1] at p2
    refine ⟨lo, prt_of q2 e1, hh σ H2 env ms2 Z2 _ r2 (PostE.bindR r2 p2 fun d2 ms3 v2 H3 Z3 x3 r3 q3 p3 => ?_)⟩
    cases e2 : prtD d2 with
    | none =>
      rw [e2] at p3
      exact p3.elim
    | some hi =>
      rw [e2] at p3
      have x23 := x2.trans (r1.aft.mm r2.aft) x3
      exact ⟨hi, prt_of q3 e2, ok_sl r3 ((t1.seen r1.fb).mono x23.ff x23.bb) p3⟩
end
end DL
namespace DL
open PySem PySem.Spec PyProof.Rows L2

/-! ### a slot's own list gets new contents -/
def Zs.put (Z : Zs) (a : Addr) (o : HO) : Zs := ⟨Z.f, upd Z.b a o, Z.o⟩
section
variable {K : PySem.W.Frag} {G : Gh} {env : Env} {σ : Sl} {ms : MS} {Z : Zs} {H : Hp}
theorem Own1.off {a : Addr} {o : HO} {id : Nat × Nat} {d : D} {v : V} (h : ∀ b, Z.o b = some id → b ≠ a) (q : Own1 K Z id d v) : Own1 K (Z.put a o) id d v := by
  obtain ⟨b, e, hb, q⟩ := q
  refine ⟨b, e, hb, ?_⟩
  have hn : (Z.put a o).b b = Z.b b := upd_ne (h b hb)
  cases d with
  | lst ds =>
    obtain ⟨vs, h1, h2⟩ := q
    exact ⟨vs, hn.trans h1, h2⟩
  | dct ds =>
    obtain ⟨vs, h1, h2⟩ := q
    exact ⟨vs, hn.trans h1, h2⟩
  | dtt ds =>
    obtain ⟨vs, h1, h2⟩ := q
    exact ⟨vs, hn.trans h1, h2⟩
  | _ => exact q.elim
theorem Own.off {a : Addr} {o : HO} {id k : Nat} {d : D} {v : V} (h : ∀ b m, Z.o b = some (id, m) → b ≠ a) (q : Own K Z id k d v) : Own K (Z.put a o) id k d v := by
  match k, q with
  | 0, q => exact q
  | 1, q => exact Own1.off (h · 0) q
  | 2, q =>
    obtain ⟨b, e, hb, ds, vs, rfl, h1, h2, h3⟩ := q
    exact ⟨b, e, hb, ds, vs, rfl, (upd_ne (h b 0 hb)).trans h1, h2, fun j d u e1 e2 => Own1.off (h · (j + 1)) (h3 j d u e1 e2)⟩
theorem R.put (r : R K G env ms σ H Z) {i j k : Nat} {d' : D} {a : Addr} {o : HO} {v : V} (ho : Z.o a = some (i + 1, j)) (hv : σ[i]? = some (some v)) (hi : Own K (Z.put a o) (i + 1) k d' v) :
    R K G (env.set i (some (k, d'))) ms σ (upd H a o) (Z.put a o) where
  aft := ⟨r.aft.ff, fun b u e n => by
    have q : b ≠ a := fun z => by
      rw [z, (r.own a _ ho).2.1] at e
      cases e
    exact (upd_ne q).trans (r.aft.keep b u e n), r.aft.new, r.aft.mf⟩
  fb := fun b u e => by
    have e' : Z.f b = some u := e
    have q : b ≠ a := fun z => by
      rw [z, (r.own a _ ho).1] at e'
      cases e'
    exact (upd_ne q).trans (r.fb b u e)
  bh := fun b u e => by
    rcases upd_some e with ⟨rfl, rfl⟩ | ⟨q, e⟩
    · exact upd_same
    · exact (upd_ne q).trans (r.bh b u e)
  bm := fun b m => by
    have q : b ≠ a := fun z => (r.own a _ ho).2.2 (z ▸ r.bm b m)
    exact (upd_ne q).trans (r.bm b m)
  mr := by
    have nm : ¬ mfp ms a := fun m => (r.own a _ ho).2.2 (r.bm a m)
    cases ms with
    | none => trivial
    | some m => exact ⟨(upd_ne (mfp_ne nm (.inl rfl))).trans r.mr.1, r.mr.2.1, (upd_ne (mfp_ne nm (.inr (.inl rfl)))).trans r.mr.2.2.1, r.mr.2.2.2.1, r.mr.2.2.2.2.hh fun p hp => upd_ne (mfp_ne nm (.inr (.inr ⟨p.2, hp⟩)))⟩
  tb := r.tb
  own := fun b n e => by
    refine ⟨(r.own b n e).1, (r.own b n e).2.1, ?_⟩
    by_cases q : b = a
    · rw [q]
      show upd Z.b a o a ≠ none
      rw [upd_same]
      exact Option.some_ne_none _
    · show upd Z.b a o b ≠ none
      rw [upd_ne q]
      exact (r.own b n e).2.2
  len := by rw [List.length_set, r.len]
  lb := by rw [List.length_set]; exact r.lb
  xf := fun n b sd fl d e => by
    obtain ⟨h1, h2⟩ := r.xf n b sd fl d e
    refine ⟨fun q => h1 ?_, h2⟩
    by_cases z : i = n
    · subst z
      rw [List.getElem?_set] at q
      simp only [if_true] at q
      split at q <;> cases q
    · rw [List.getElem?_set_ne z] at q
      exact q
  sl := fun n k' d h => by
    by_cases z : i = n
    · subst z
      rw [List.getElem?_set] at h
      simp only [if_true] at h
      split at h
      · cases h
        exact ⟨v, hv, hi⟩
      · cases h
    · rw [List.getElem?_set_ne z] at h
      obtain ⟨u, e, q⟩ := r.sl n k' d h
      refine ⟨u, e, Own.off (fun b m hb => ?_) q⟩
      intro z2
      rw [z2, ho] at hb
      injection hb with hb
      injection hb with hb _
      exact z (Nat.succ.inj hb)
theorem put_ff {a : Addr} {o : HO} : Same Z.f (Z.put a o).f := Same.refl _
/-- .. of the list itself -/
theorem own1_put {i : Nat} {a : Addr} {ds : List D} {vs : List V} (ho : Z.o a = some (i, 0)) (h : RepL K Z.f ds vs) : Own K (Z.put a (.lst vs)) i 1 (.lst ds) (.ref a) := ⟨a, rfl, ho, vs, upd_same, h⟩
/-- .. of a row -/
theorem own2_put {i j : Nat} {a b : Addr} {ds es : List D} {vs us : List V} (ho : Z.o b = some (i, 0)) (hb : Z.b b = some (.lst us)) (hl : us.length = ds.length)
    (hr : ∀ (m : Nat) (d : D) (u : V), ds[m]? = some d → us[m]? = some u → Own1 K Z (i, m + 1) d u) (hj : us[j]? = some (.ref a)) (ha : Z.o a = some (i, j + 1)) (h : RepL K Z.f es vs) :
    Own K (Z.put a (.lst vs)) i 2 (.lst (ds.set j (.lst es))) (.ref b) := by
  have nb : b ≠ a := fun z => by
    rw [z, ha] at ho
    injection ho with ho
    injection ho with _ ho
    cases ho
  refine ⟨b, rfl, ho, _, us, rfl, (upd_ne nb).trans hb, by rw [hl, List.length_set], fun m d u e1 e2 => ?_⟩
  by_cases z : j = m
  · subst z
    rw [hj] at e2
    cases e2
    rw [List.getElem?_set] at e1
    simp only [if_true] at e1
    split at e1
    · cases e1
      exact ⟨a, rfl, ha, vs, upd_same, h⟩
    · cases e1
  · rw [List.getElem?_set_ne z] at e1
    exact Own1.off (fun c hc z2 => by
      rw [z2, ha] at hc
      injection hc with hc
      injection hc with _ hc
      exact z (Nat.succ.inj hc)) (hr m d u e1 e2)
end
section
variable {X : Cx} {G : Gh} {W : WX} {e e1 e2 : Expr} {f f1 f2 f3 : EF} {pos p cpos apos : Pos}
def getL (env : Env) (i k : Nat) : Option (List D) := match env[i]? with
  | some (some (k', .lst ds)) => if k' = k then some ds else none
  | _ => none
theorem getL_some {env : Env} {i k : Nat} {ds : List D} (h : getL env i k = some ds) : env[i]? = some (some (k, .lst ds)) := by
  unfold getL at h
  split at h
  · rename_i k' ds' e
    by_cases z : k' = k
    · rw [if_pos z] at h
      cases h
      rw [e, z]
    · rw [if_neg z] at h
      cases h
  · cases h
/-- x.append(e) -/
def sApp (i : Nat) (f : EF) : FS := fun env ms => match getL env i 1 with
  | some ds => (f env ms).st env fun fl d m => match fl with
    | .o _ => if ds.length < sizeLine then .nx (env.set i (some (1, .lst (ds ++ [d])))) m else .bad
    | .b _ => .bad
  | none => .bad
theorem freeze_slot {K : PySem.W.Frag} {Z : Zs} {i k : Nat} {d : D} {v : V} (own : ∀ a i, Z.o a = some i → Z.f a = none) (h : Own K Z (i + 1) k d v) : Own K (Z.freeze 0) (i + 1) k d v := Own.other own (Nat.succ_ne_zero i) h
theorem ss_append (i : Nat) {x : Str} (h : SE X G W e f) (hN : X.N[i]? = some x := by rfl) (hv : Vis X.env.scope x := by first | exact Or.inl rfl | exact Or.inr (Or.inl rfl) | exact Or.inr (Or.inr rfl)) (hd : (x == ("__debug__" : Str)) = false := by decide)
    (hcd : (x == ("__classdict__" : Str)) = false := by decide)
    (hbase : attributeBase (.Name x p) "append" X.env (eval (.Name x p) X.env) = eval (.Name x p) X.env := by rfl)
    (hfew : ((backTo cpos (starEach [e] X.env)).all (fun x => !x.1) && (backToKw cpos (keywordEach [] X.env)).all (fun x => x.1.isSome)
      && decide ([e].length + ([] : List Keyword).length + (if ([] : List Keyword).isEmpty then 0 else 1) < 30)) = true := by rfl)
    (hline : (apos.endLine == cpos.line) = true := by rfl) (hs : starEach [e] X.env = (false, eval e X.env) :: starEach [] X.env := by rfl) (hplain : (backTo cpos (starEach [] X.env)).any (·.1) = false := by rfl)
    (hsw : swapsWith (.Call (.Attribute (.Name x p) "append" apos) [e] [] cpos) none pos.line X.env = pure false := by rfl) :
    SS X G W (.Expr (.Call (.Attribute (.Name x p) "append" apos) [e] [] cpos) pos) (sApp i f) := by
  obtain ⟨t, pt, h⟩ := h
  refine SS.mk (ps_expr (pe_bm PySem.F.plainAttrs_list PySem.F.slot_list_append PySem.F.type_list_append mt_append (pe_var hN hv hd hcd) (pa_cons pt pa_nil hs) hbase hfew hline hs hplain) hsw) fun N σ H env ms Z r p => ?_
  unfold sApp at p
  cases e1 : getL env i 1 with
  | none =>
    rw [e1] at p
    exact p.elim
  | some ds =>
    rw [e1] at p
    have e2 := getL_some e1
    obtain ⟨v, hv1, a, rfl, ho, vs, hb, hr⟩ := r.sl i 1 _ e2
    refine ⟨.ref a, hv1, .inl ⟨rfl, vs, sqL_of (r.bh _ _ hb)⟩, h σ H env ms Z _ r (PostS.expr r p fun fl d m v H' Z' x' r' t' p' => ?_)⟩
    obtain ⟨v2, hv2, q2⟩ := r'.sl i 1 _ e2
    rw [hv1] at hv2
    obtain rfl := Option.some.inj (Option.some.inj hv2)
    cases fl with
    | o k =>
      have q := Own.frozen r'.ownf t'
      have r0 := r'.freeze0
      obtain ⟨a', ea, ho', vs', hb', hr'⟩ := freeze_slot r'.ownf q2
      cases ea
      dsimp only at p'
      by_cases hl : ds.length < sizeLine
      · rw [if_pos hl] at p'
        exact ⟨a, vs', v, rfl, rfl, r0.bh _ _ hb', by rw [hr'.len]; exact hl, p' σ _ ((Z'.freeze 0).put _ _) (freeze_ff r'.ownf) (r0.put ho' hv1 (own1_put ho' (hr'.app (RepL.one q))))⟩
      · rw [if_neg hl] at p'
        exact p'.elim
    | b k => exact p'.elim
/-- x.extend(e) -/
def sExt (i : Nat) (f : EF) : FS := fun env ms => match getL env i 1 with
  | some ds => (f env ms).st env fun fl d m => match d with
    | .lst es => if fzI fl = true ∧ ds.length + es.length ≤ sizeLine then .nx (env.set i (some (1, .lst (ds ++ es)))) m else .bad
    | _ => .bad
  | none => .bad
theorem ss_extend (i : Nat) {x : Str} (h : SE X G W e f) (hN : X.N[i]? = some x := by rfl) (hv : Vis X.env.scope x := by first | exact Or.inl rfl | exact Or.inr (Or.inl rfl) | exact Or.inr (Or.inr rfl)) (hd : (x == ("__debug__" : Str)) = false := by decide)
    (hcd : (x == ("__classdict__" : Str)) = false := by decide)
    (hbase : attributeBase (.Name x p) "extend" X.env (eval (.Name x p) X.env) = eval (.Name x p) X.env := by rfl)
    (hfew : ((backTo cpos (starEach [e] X.env)).all (fun x => !x.1) && (backToKw cpos (keywordEach [] X.env)).all (fun x => x.1.isSome)
      && decide ([e].length + ([] : List Keyword).length + (if ([] : List Keyword).isEmpty then 0 else 1) < 30)) = true := by rfl)
    (hline : (apos.endLine == cpos.line) = true := by rfl) (hs : starEach [e] X.env = (false, eval e X.env) :: starEach [] X.env := by rfl) (hplain : (backTo cpos (starEach [] X.env)).any (·.1) = false := by rfl)
    (hsw : swapsWith (.Call (.Attribute (.Name x p) "extend" apos) [e] [] cpos) none pos.line X.env = pure false := by rfl) :
    SS X G W (.Expr (.Call (.Attribute (.Name x p) "extend" apos) [e] [] cpos) pos) (sExt i f) := by
  obtain ⟨t, pt, h⟩ := h
  refine SS.mk (ps_expr (pe_bm PySem.F.plainAttrs_list PySem.F.slot_list_extend PySem.F.type_list_extend mt_extend (pe_var hN hv hd hcd) (pa_cons pt pa_nil hs) hbase hfew hline hs hplain) hsw) fun N σ H env ms Z r p => ?_
  unfold sExt at p
  cases e1 : getL env i 1 with
  | none =>
    rw [e1] at p
    exact p.elim
  | some ds =>
    rw [e1] at p
    have e2 := getL_some e1
    obtain ⟨v, hv1, a, rfl, ho, vs, hb, hr⟩ := r.sl i 1 _ e2
    refine ⟨.ref a, hv1, .inl ⟨rfl, vs, sqL_of (r.bh _ _ hb)⟩, h σ H env ms Z _ r (PostS.expr r p fun fl d m v H' Z' x' r' t' p' => ?_)⟩
    obtain ⟨v2, hv2, q2⟩ := r'.sl i 1 _ e2
    rw [hv1] at hv2
    obtain rfl := Option.some.inj (Option.some.inj hv2)
    cases d with
    | lst es =>
      dsimp only at p'
      by_cases hl : fzI fl = true ∧ ds.length + es.length ≤ sizeLine
      · rw [if_pos hl] at p'
        obtain ⟨b, us, rfl, hb2, hu⟩ := (t'.seen r'.fb).items r'.fb hl.1
        obtain ⟨a', ea, ho', vs', hb', hr'⟩ := q2
        cases ea
        exact ⟨a, b, vs', us, rfl, rfl, r'.bh _ _ hb', r'.bh _ _ hb2, by rw [hr'.len, hu.len]; exact hl.2, p' σ _ (Z'.put _ _) (Same.refl _) (r'.put ho' hv1 (own1_put ho' (hr'.app hu)))⟩
      · rw [if_neg hl] at p'
        exact p'.elim
    | _ => exact p'.elim
/-- x[e1].append(e2), x a list of own lists -/
def rowL (ds : List D) (n : Int) : Option (Nat × List D) := match ixN ds.length n with
  | some j => (match ds[j]? with
    | some (.lst es) => some (j, es)
    | _ => none)
  | none => none
theorem rowL_some {ds : List D} {n : Int} {j : Nat} {es : List D} (h : rowL ds n = some (j, es)) : ixN ds.length n = some j ∧ ds[j]? = some (.lst es) := by
  unfold rowL at h
  cases e : ixN ds.length n with
  | none =>
    rw [e] at h
    cases h
  | some j' =>
    rw [e] at h
    dsimp only at h
    split at h
    · rename_i es' e2
      cases h
      exact ⟨rfl, e2⟩
    · cases h
def sAppAt (i : Nat) (f1 f2 : EF) : FS := fun env ms => match getL env i 2 with
  | some ds => (f1 env ms).st env fun _ d1 m1 => (match d1 with
    | .int n => (match rowL ds n with
      | some (j, es) => (f2 env m1).st env fun fl d m => (match fl with
        | .o _ => if es.length < sizeLine then .nx (env.set i (some (2, .lst (ds.set j (.lst (es ++ [d])))))) m else .bad
        | .b _ => .bad)
      | none => .bad)
    | _ => .bad)
  | none => .bad
theorem ss_appAt (i : Nat) {x : Str} {p2 : Pos} (h1 : SE X G W e1 f1) (h : SE X G W e f) (hN : X.N[i]? = some x := by rfl) (hv : Vis X.env.scope x := by first | exact Or.inl rfl | exact Or.inr (Or.inl rfl) | exact Or.inr (Or.inr rfl)) (hd : (x == ("__debug__" : Str)) = false := by decide)
    (hcd : (x == ("__classdict__" : Str)) = false := by decide) (hpx : PlainIx e1 := by exact fun _ _ => rfl)
    (hbase : attributeBase (.Subscript (.Name x p) e1 p2) "append" X.env (eval (.Subscript (.Name x p) e1 p2) X.env) = eval (.Subscript (.Name x p) e1 p2) X.env := by rfl)
    (hfew : ((backTo cpos (starEach [e] X.env)).all (fun x => !x.1) && (backToKw cpos (keywordEach [] X.env)).all (fun x => x.1.isSome)
      && decide ([e].length + ([] : List Keyword).length + (if ([] : List Keyword).isEmpty then 0 else 1) < 30)) = true := by rfl)
    (hline : (apos.endLine == cpos.line) = true := by rfl) (hs : starEach [e] X.env = (false, eval e X.env) :: starEach [] X.env := by rfl) (hplain : (backTo cpos (starEach [] X.env)).any (·.1) = false := by rfl)
    (hsw : swapsWith (.Call (.Attribute (.Subscript (.Name x p) e1 p2) "append" apos) [e] [] cpos) none pos.line X.env = pure false := by rfl) :
    SS X G W (.Expr (.Call (.Attribute (.Subscript (.Name x p) e1 p2) "append" apos) [e] [] cpos) pos) (sAppAt i f1 f) := by
  obtain ⟨t, pt, h⟩ := h
  obtain ⟨t1, pt1, h1⟩ := h1
  refine SS.mk (ps_expr (pe_bm PySem.F.plainAttrs_list PySem.F.slot_list_append PySem.F.type_list_append mt_append (pe_ix (ix_list (X := X)) (pe_var hN hv hd hcd) pt1 hpx) (pa_cons pt pa_nil hs) hbase hfew hline hs hplain) hsw) fun N σ H env ms Z r p => ?_
  unfold sAppAt at p
  cases e1 : getL env i 2 with
  | none =>
    rw [e1] at p
    exact p.elim
  | some ds =>
    rw [e1] at p
    have e2 := getL_some e1
    obtain ⟨v, hv1, a, rfl, ho, ds', us, ed, hb, hl, hr⟩ := r.sl i 2 _ e2
    refine ⟨.ref a, hv1, h1 σ H env ms Z _ r (PostS.expr r p fun fl d1 m1 v1 H1 Z1 x1 r1 t1 p1 => ?_)⟩
    obtain ⟨v2, hv2, q2⟩ := r1.sl i 2 _ e2
    rw [hv1] at hv2
    obtain rfl := Option.some.inj (Option.some.inj hv2)
    cases d1 with
    | int n =>
      have en : v1 = .int n := t1.rep r1.fb
      subst en
      dsimp only at p1
      cases e3 : rowL ds n with
      | none =>
        rw [e3] at p1
        exact p1.elim
      | some je =>
        obtain ⟨j, es⟩ := je
        rw [e3] at p1
        obtain ⟨e4, e5⟩ := rowL_some e3
        obtain ⟨a1, ea1, ho1, ds1, us1, ed1, hb1, hl1, hr1⟩ := q2
        cases ea1
        cases ed1
        have hj : j < us1.length := by
          rw [hl1]
          rcases Nat.lt_or_ge j ds.length with z | z
          · exact z
          · rw [List.getElem?_eq_none z] at e5
            cases e5
        obtain ⟨b, eb, hob, ws, hbb, hrb⟩ := hr1 j _ _ e5 (List.getElem?_eq_getElem hj)
        refine ⟨a, us1, n, .ref b, rfl, rfl, sqL_of (r1.bh _ _ hb1), ?_, .inl ⟨rfl, ws, sqL_of (r1.bh _ _ hbb)⟩, h σ H1 env m1 Z1 _ r1 (PostS.expr r1 p1 fun fl d m v H' Z' x' r' t' p' => ?_)⟩
        · unfold atI
          rw [hl1, e4]
          show us1[j]? = _
          rw [List.getElem?_eq_getElem hj, eb]
        · have hob' := x'.oo b _ hob (by simp) (by
            have hlt : i < env.length := by
              rcases Nat.lt_or_ge i env.length with z | z
              · exact z
              · rw [List.getElem?_eq_none z] at e2
                cases e2
            have := r1.lb
            show i + 1 ≠ 1000000
            omega)
          obtain ⟨v3, hv3, q3⟩ := r'.sl i 2 _ e2
          rw [hv1] at hv3
          obtain rfl := Option.some.inj (Option.some.inj hv3)
          cases fl with
          | o k =>
            have q := Own.frozen r'.ownf t'
            have r0 := r'.freeze0
            obtain ⟨a2, ea2, ho2, ds2, us2, ed2, hb2, hl2, hr2⟩ := freeze_slot r'.ownf q3
            cases ea2
            cases ed2
            have hus : us2 = us1 := by
              have z1 : Z'.b a = some (.lst us2) := hb2
              rw [x'.bb a _ hb1] at z1
              cases z1
              rfl
            subst hus
            have hej : us2[j]? = some (.ref b) := by rw [List.getElem?_eq_getElem hj, eb]
            obtain ⟨b', eb', hob2, ws', hbb', hrb'⟩ := hr2 j _ _ e5 hej
            cases eb'
            dsimp only at p'
            by_cases hsz : es.length < sizeLine
            · rw [if_pos hsz] at p'
              exact ⟨b, ws', v, rfl, rfl, r0.bh _ _ hbb', by rw [hrb'.len]; exact hsz, p' σ _ ((Z'.freeze 0).put _ _) (freeze_ff r'.ownf) (r0.put hob2 hv1 (own2_put ho2 hb2 hl2 hr2 hej hob2 (hrb'.app (RepL.one q))))⟩
            · rw [if_neg hsz] at p'
              exact p'.elim
          | b k => exact p'.elim
    | _ => exact p1.elim
/-- x[e1] = e2 -/
def sPut (i : Nat) (f1 f2 : EF) : FS := fun env ms => (f2 env ms).st env fun fl d m => match fl with
  | .o _ => (match getL env i 1 with
    | some ds => (f1 env m).st env fun _ d1 m1 => (match d1 with
      | .int n => (match ixN ds.length n with
        | some j => .nx (env.set i (some (1, .lst (ds.set j d)))) m1
        | none => .bad)
      | _ => .bad)
    | none => .bad)
  | .b _ => .bad
theorem ss_put (i : Nat) {x : Str} {p2 : Pos} (h1 : SE X G W e1 f1) (h : SE X G W e f) (hN : X.N[i]? = some x := by rfl) (hv : Vis X.env.scope x := by first | exact Or.inl rfl | exact Or.inr (Or.inl rfl) | exact Or.inr (Or.inr rfl)) (hd : (x == ("__debug__" : Str)) = false := by decide)
    (hcd : (x == ("__classdict__" : Str)) = false := by decide)
    (ha : ∀ v, assign (.Subscript (.Name x p) e1 p2) X.env v = (do
      let ov ← holding [v] (eval (.Name x p) X.env)
      let iv ← holding [v, ov] (eval e1 X.env)
      standAt p2
      holding [v, ov, iv] (setItem ov iv v)
      release [v, ov, iv] []) := by intro _; rfl)
    (hs : swapsWithSole [.Subscript (.Name x p) e1 p2] e pos.line X.env = pure false := by rfl) (hw : swappedStores [.Subscript (.Name x p) e1 p2] e X.env = pure none := by rfl)
    (h1' : (assignEach [.Subscript (.Name x p) e1 p2] X.env).map (·.2) = [assign (.Subscript (.Name x p) e1 p2) X.env] := by rfl) :
    SS X G W (.Assign [.Subscript (.Name x p) e1 p2] e pos) (sPut i f1 f) := by
  obtain ⟨t, pt, h⟩ := h
  obtain ⟨t1, pt1, h1⟩ := h1
  refine SS.mk (ps_asg pt (pg_sub (pe_var hN hv hd hcd) pt1 set_list ha) hs hw h1') fun N σ H env ms Z r p => h σ H env ms Z _ r (PostS.expr r p fun fl d m v H' Z' x' r' t' p' => ?_)
  cases fl with
  | b k => exact p'.elim
  | o k =>
    have q := Own.frozen r'.ownf t'
    have r0 := r'.freeze0
    dsimp only at p'
    cases e1 : getL env i 1 with
    | none =>
      rw [e1] at p'
      exact p'.elim
    | some ds =>
      rw [e1] at p'
      have e2 := getL_some e1
      obtain ⟨v0, hv1, a, rfl, ho, vs, hb, hr⟩ := r0.sl i 1 _ e2
      refine ⟨.ref a, hv1, h1 σ H' env m (Z'.freeze 0) _ r0 (PostS.expr r0 (PostS.mono (freeze_ff r'.ownf) p') fun fl1 d1 m1 v1 H1 Z1 x1 r1 t1 p1 => ?_)⟩
      cases d1 with
      | int n =>
        have en : v1 = .int n := t1.rep r1.fb
        subst en
        dsimp only at p1
        cases e3 : ixN ds.length n with
        | none =>
          rw [e3] at p1
          exact p1.elim
        | some j =>
          rw [e3] at p1
          obtain ⟨v2, hv2, q2⟩ := r1.sl i 1 _ e2
          rw [hv1] at hv2
          obtain rfl := Option.some.inj (Option.some.inj hv2)
          obtain ⟨a', ea, ho', vs', hb', hr'⟩ := q2
          cases ea
          exact ⟨a, vs', n, j, rfl, rfl, r1.bh _ _ hb', by rw [hr'.len]; exact e3, p1 σ _ (Z1.put _ _) (Same.refl _) (r1.put ho' hv1 (own1_put ho' (hr'.set j (Rep.mono x1.ff _ _ q))))⟩
      | _ => exact p1.elim
/-- x[e1][e2] = e, x a list of own lists -/
def sPut2 (i : Nat) (f1 f2 f : EF) : FS := fun env ms => (f env ms).st env fun fl d m => match fl with
  | .o _ => (match getL env i 2 with
    | some ds => (f1 env m).st env fun _ d1 m1 => (match d1 with
      | .int n => (match rowL ds n with
        | some (j, es) => (f2 env m1).st env fun _ d2 m2 => (match d2 with
          | .int n2 => (match ixN es.length n2 with
            | some j2 => .nx (env.set i (some (2, .lst (ds.set j (.lst (es.set j2 d)))))) m2
            | none => .bad)
          | _ => .bad)
        | none => .bad)
      | _ => .bad)
    | none => .bad)
  | .b _ => .bad
theorem ss_put2 (i : Nat) {x : Str} {p2 p3 : Pos} (h1 : SE X G W e1 f1) (h2 : SE X G W e2 f2) (h : SE X G W e f) (hN : X.N[i]? = some x := by rfl) (hv : Vis X.env.scope x := by first | exact Or.inl rfl | exact Or.inr (Or.inl rfl) | exact Or.inr (Or.inr rfl)) (hd : (x == ("__debug__" : Str)) = false := by decide)
    (hcd : (x == ("__classdict__" : Str)) = false := by decide) (hpx : PlainIx e1 := by exact fun _ _ => rfl)
    (ha : ∀ v, assign (.Subscript (.Subscript (.Name x p) e1 p2) e2 p3) X.env v = (do
      let ov ← holding [v] (eval (.Subscript (.Name x p) e1 p2) X.env)
      let iv ← holding [v, ov] (eval e2 X.env)
      standAt p3
      holding [v, ov, iv] (setItem ov iv v)
      release [v, ov, iv] []) := by intro _; rfl)
    (hs : swapsWithSole [.Subscript (.Subscript (.Name x p) e1 p2) e2 p3] e pos.line X.env = pure false := by rfl) (hw : swappedStores [.Subscript (.Subscript (.Name x p) e1 p2) e2 p3] e X.env = pure none := by rfl)
    (h1' : (assignEach [.Subscript (.Subscript (.Name x p) e1 p2) e2 p3] X.env).map (·.2) = [assign (.Subscript (.Subscript (.Name x p) e1 p2) e2 p3) X.env] := by rfl) :
    SS X G W (.Assign [.Subscript (.Subscript (.Name x p) e1 p2) e2 p3] e pos) (sPut2 i f1 f2 f) := by
  obtain ⟨t, pt, h⟩ := h
  obtain ⟨t1, pt1, h1⟩ := h1
  obtain ⟨t2, pt2, h2⟩ := h2
  refine SS.mk (ps_asg pt (pg_sub (pe_ix (ix_list (X := X)) (pe_var hN hv hd hcd) pt1 hpx) pt2 set_list ha) hs hw h1') fun N σ H env ms Z r p => h σ H env ms Z _ r (PostS.expr r p fun fl d m v H' Z' x' r' t' p' => ?_)
  cases fl with
  | b k => exact p'.elim
  | o k =>
    have q := Own.frozen r'.ownf t'
    have r0 := r'.freeze0
    dsimp only at p'
    cases e1 : getL env i 2 with
    | none =>
      rw [e1] at p'
      exact p'.elim
    | some ds =>
      rw [e1] at p'
      have e2 := getL_some e1
      have hlt : i < env.length := by
        rcases Nat.lt_or_ge i env.length with z | z
        · exact z
        · rw [List.getElem?_eq_none z] at e2
          cases e2
      obtain ⟨v0, hv1, a, rfl, ho, ds', us, ed, hb, hl, hr⟩ := r0.sl i 2 _ e2
      refine ⟨.ref a, hv1, h1 σ H' env m (Z'.freeze 0) _ r0 (PostS.expr r0 (PostS.mono (freeze_ff r'.ownf) p') fun fl1 d1 m1 v1 H1 Z1 x1 r1 t1 p1 => ?_)⟩
      obtain ⟨v2, hv2, q2⟩ := r1.sl i 2 _ e2
      rw [hv1] at hv2
      obtain rfl := Option.some.inj (Option.some.inj hv2)
      cases d1 with
      | int n =>
        have en : v1 = .int n := t1.rep r1.fb
        subst en
        dsimp only at p1
        cases e3 : rowL ds n with
        | none =>
          rw [e3] at p1
          exact p1.elim
        | some je =>
          obtain ⟨j, es⟩ := je
          rw [e3] at p1
          obtain ⟨e4, e5⟩ := rowL_some e3
          obtain ⟨a1, ea1, ho1, ds1, us1, ed1, hb1, hl1, hr1⟩ := q2
          cases ea1
          cases ed1
          have hj : j < us1.length := by
            rw [hl1]
            rcases Nat.lt_or_ge j ds.length with z | z
            · exact z
            · rw [List.getElem?_eq_none z] at e5
              cases e5
          obtain ⟨b, eb, hob, ws, hbb, hrb⟩ := hr1 j _ _ e5 (List.getElem?_eq_getElem hj)
          refine ⟨a, us1, n, .ref b, rfl, rfl, sqL_of (r1.bh _ _ hb1), ?_, h2 σ H1 env m1 Z1 _ r1 (PostS.expr r1 p1 fun fl2 d2 m2 v2 H2 Z2 x2 r2 t2 p2 => ?_)⟩
          · unfold atI
            rw [hl1, e4]
            show us1[j]? = _
            rw [List.getElem?_eq_getElem hj, eb]
          · obtain ⟨v3, hv3, q3⟩ := r2.sl i 2 _ e2
            rw [hv1] at hv3
            obtain rfl := Option.some.inj (Option.some.inj hv3)
            cases d2 with
            | int n2 =>
              have en2 : v2 = .int n2 := t2.rep r2.fb
              subst en2
              dsimp only at p2
              cases e6 : ixN es.length n2 with
              | none =>
                rw [e6] at p2
                exact p2.elim
              | some j2 =>
                rw [e6] at p2
                obtain ⟨a2, ea2, ho2, ds2, us2, ed2, hb2, hl2, hr2⟩ := q3
                cases ea2
                cases ed2
                have hus : us2 = us1 := by
                  have z1 : Z2.b a = some (.lst us2) := hb2
                  rw [x2.bb a _ hb1] at z1
                  cases z1
                  rfl
                subst hus
                have hej : us2[j]? = some (.ref b) := by rw [List.getElem?_eq_getElem hj, eb]
                obtain ⟨b', eb', hob2, ws', hbb', hrb'⟩ := hr2 j _ _ e5 hej
                cases eb'
                exact ⟨b, ws', n2, j2, rfl, rfl, r2.bh _ _ hbb', by rw [hrb'.len]; exact e6, p2 σ _ (Z2.put _ _) (Same.refl _) (r2.put hob2 hv1 (own2_put ho2 hb2 hl2 hr2 hej hob2 (hrb'.set j2 (Rep.mono (x1.ff.trans x2.ff) _ _ q))))⟩
            | _ => exact p2.elim
      | _ => exact p1.elim
end
end DL
namespace DL
open PySem PySem.Spec PyProof.Rows L2

/-! ### list comprehensions that make a list of own lists -/
/-- an owner is named anew -/
def Zs.mark (Z : Zs) (b : Addr) (i : Nat × Nat) : Zs := ⟨Z.f, Z.b, fun a => if a = b then some i else Z.o a⟩
/-- the rows that were made so far: Z as it stood at the start -/
structure Rows (K : PySem.W.Frag) (Z Z2 : Zs) (acc : List D) (av : List V) : Prop where
  len : av.length = acc.length
  row : ∀ (j : Nat) (d : D) (u : V), acc[j]? = some d → av[j]? = some u → Own1 K Z2 (1000001, j + 1) d u
  out : ∀ a i, Z.o a = some i → i.1 ≠ 0 → i.1 ≠ 1000000 → .ref a ∉ av
section
variable {K : PySem.W.Frag} {G : Gh} {env : Env} {σ : Sl} {ms ms' : MS} {Z Z2 Z3 : Zs} {H H2 H3 : Hp}
theorem Rows.nil : Rows K Z Z2 [] [] := ⟨rfl, fun j d u e => by simp at e, fun a i _ _ _ h => by cases h⟩
theorem Own1.step {i : Nat × Nat} {d : D} {v : V} (hf : Same Z.f Z2.f) (hb : Same Z.b Z2.b) (ho : ∀ a, Z.o a = some i → Z2.o a = some i) (h : Own1 K Z i d v) : Own1 K Z2 i d v := by
  obtain ⟨a, e, hO, h⟩ := h
  refine ⟨a, e, ho a hO, ?_⟩
  cases d with
  | lst ds =>
    obtain ⟨vs, hB, r⟩ := h
    exact ⟨vs, hb _ _ hB, RepL.mono hf _ _ r⟩
  | dct ds =>
    obtain ⟨vs, hB, r⟩ := h
    exact ⟨vs, hb _ _ hB, RepK.mono hf _ _ r⟩
  | dtt ds =>
    obtain ⟨vs, hB, r⟩ := h
    exact ⟨vs, hb _ _ hB, RepT.mono hf _ _ r⟩
  | _ => exact h.elim
theorem Rows.ext {acc : List D} {av : List V} (h : Rows K Z Z2 acc av) (x : Ext ms Z2 H2 Z3 H3) : Rows K Z Z3 acc av :=
  ⟨h.len, fun j d u e1 e2 => Own1.step x.ff x.bb (fun a hO => x.oo a _ hO (by show (1000001 : Nat) ≠ 0; omega) (by show (1000001 : Nat) ≠ 1000000; omega)) (h.row j d u e1 e2), h.out⟩
theorem R.mark (r : R K G env ms σ H Z) {b : Addr} {i i' : Nat × Nat} (ho : Z.o b = some i') (hi : i.1 ≠ 0) (hl : i'.1 = 0 ∨ env.length < i'.1 := by first | exact .inl rfl | exact .inr ‹_›) : R K G env ms σ H (Z.mark b i) where
  aft := r.aft
  fb := r.fb
  bh := r.bh
  bm := r.bm
  mr := r.mr
  tb := r.tb
  own := fun a q e => by
    by_cases z : a = b
    · subst z
      exact r.own a i' ho
    · have e' : (if a = b then some i else Z.o a) = some q := e
      rw [if_neg z] at e'
      exact r.own a q e'
  len := r.len
  lb := r.lb
  xf := r.xf
  sl := fun n k d h => by
    obtain ⟨v, e, q⟩ := r.sl n k d h
    have hn : n < env.length := by
      rcases Nat.lt_or_ge n env.length with z | z
      · exact z
      · rw [List.getElem?_eq_none z] at h
        cases h
    refine ⟨v, e, Own.ids (Z := Z) (Z' := Z.mark b i) (Same.refl _) (Same.refl _) (fun a j hO => ?_) q⟩
    show (if a = b then some i else Z.o a) = _
    rw [if_neg (fun z => by
      rw [z, ho] at hO
      injection hO with hO
      rw [hO] at hl
      have hl' : n + 1 = 0 ∨ env.length < n + 1 := hl
      omega)]
    exact hO
theorem Rows.add {acc : List D} {av : List V} {y : D} {b : Addr} (h : Rows K Z Z2 acc av) (x : Ext ms Z H Z2 H2) (hob : Z2.o b = some (0, 0)) (hq : match y with
    | .lst ds => ∃ vs, Z2.b b = some (.lst vs) ∧ RepL K Z2.f ds vs
    | .dct kvs => ∃ xs, Z2.b b = some (.dK xs) ∧ RepK K Z2.f kvs xs
    | .dtt kvs => ∃ xs, Z2.b b = some (.dT xs) ∧ RepT K Z2.f kvs xs
    | _ => False) : Rows K Z (Z2.mark b (1000001, acc.length + 1)) (acc ++ [y]) (av ++ [.ref b]) where
  len := by rw [List.length_append, List.length_append, h.len]; rfl
  row := fun j d u e1 e2 => by
    have step : ∀ {j : Nat} {d : D} {u : V}, Own1 K Z2 (1000001, j + 1) d u → Own1 K (Z2.mark b (1000001, acc.length + 1)) (1000001, j + 1) d u := fun {j d u} q => Own1.step (Z := Z2) (Z2 := Z2.mark b (1000001, acc.length + 1)) (Same.refl _) (Same.refl _) (fun a hO => by
      show (if a = b then _ else Z2.o a) = _
      rw [if_neg (fun z => by
        rw [z, hob] at hO
        cases hO)]
      exact hO) q
    rw [List.getElem?_append] at e1 e2
    by_cases z : j < acc.length
    · rw [if_pos z] at e1
      rw [if_pos (by rw [h.len]; exact z)] at e2
      exact step (h.row j d u e1 e2)
    · rw [if_neg z] at e1
      rw [if_neg (by rw [h.len]; exact z), h.len] at e2
      have zj : j - acc.length = 0 := by
        rcases Nat.eq_zero_or_pos (j - acc.length) with w | w
        · exact w
        · rw [List.getElem?_eq_none (by show 1 ≤ _; omega)] at e1
          cases e1
      rw [zj] at e1 e2
      cases e1
      cases e2
      have ej : j = acc.length := by omega
      subst ej
      exact ⟨b, rfl, if_pos rfl, hq⟩
  out := fun a i e n1 n2 hm => by
    rcases List.mem_append.mp hm with hm | hm
    · exact h.out a i e n1 n2 hm
    · have ea : a = b := by
        rcases List.mem_singleton.mp hm with z
        injection z
      have := x.oo a i e n1 n2
      rw [ea, hob] at this
      cases this
      exact n1 rfl
open Classical in
/-- the list and its rows are in hand -/
noncomputable def Zs.hand (Z : Zs) (p : Addr) (av : List V) : Zs := ⟨Z.f, upd Z.b p (.lst av), fun a => if a = p then some (0, 0) else if V.ref a ∈ av then (Z.o a).map fun q => (0, q.2) else Z.o a⟩
theorem rows_fin {W : WX} {Q : VK} {acc : List D} {av : List V} {E : Addr} (r : R K G env ms σ H Z) (r2 : R K G env ms' σ H2 Z2) (x2 : Ext ms Z H Z2 H2) (hmm : ∀ a, mfp ms' a ↔ mfp ms a) (hE : H2 E = some (.lst av)) (bE : Z2.b E = none) (fE : Z2.f E = none)
    (n0E : G.H0 E = none) (nm2 : ¬ mfp ms' E) (oE : Z2.o E = none) (nE : H E = none) (nmE : ¬ mfp ms E) (noE : Z.o E = none) (ra : Rows K Z Z2 acc av) (p : PostE K G W env σ ms Z H Q (.ok (.o 2) (.lst acc) ms')) : Q (.ref E) H2 := by
  have ra1 : ∀ {a : Addr}, V.ref a ∈ av → ∃ j, Z2.o a = some (1000001, j) := fun {a} hm => by
    obtain ⟨j, hj, e⟩ := List.mem_iff_getElem.mp hm
    have hj' : j < acc.length := by rw [← ra.len]; exact hj
    obtain ⟨b, eb, hb, _⟩ := ra.row j _ _ (List.getElem?_eq_getElem hj') (List.getElem?_eq_getElem hj)
    rw [e] at eb
    cases eb
    exact ⟨_, hb⟩
  have oN : ∀ {a : Addr} {n m : Nat}, n < 1000 → Z2.o a = some (n + 1, m) → (Z2.hand E av).o a = some (n + 1, m) := fun {a n m} hn hO => by
    show (if a = E then some (0, 0) else if V.ref a ∈ av then (Z2.o a).map fun q => (0, q.2) else Z2.o a) = _
    rw [if_neg (fun z => by
      rw [z, oE] at hO
      cases hO), if_neg (fun z => by
      obtain ⟨j, hj⟩ := ra1 z
      rw [hj] at hO
      injection hO with hO
      injection hO with hO _
      omega)]
    exact hO
  have R2 : R K G env ms' σ H2 (Z2.hand E av) := {
    aft := r2.aft
    fb := r2.fb.trans (same_new bE)
    bh := fun a u e => by
      rcases upd_some e with ⟨rfl, rfl⟩ | ⟨q, e⟩
      · exact hE
      · exact r2.bh a u e
    bm := fun a m => (upd_ne (mfp_ne nm2 m)).trans (r2.bm a m)
    mr := r2.mr
    tb := r2.tb
    own := fun a i e => by
      by_cases q : a = E
      · subst q
        refine ⟨fE, n0E, ?_⟩
        show upd Z2.b a _ a ≠ none
        rw [upd_same]
        exact Option.some_ne_none _
      · have e2 : (if a = E then some (0, 0) else if V.ref a ∈ av then (Z2.o a).map fun q => (0, q.2) else Z2.o a) = some i := e
        rw [if_neg q] at e2
        have ex : ∃ i', Z2.o a = some i' := by
          by_cases z : V.ref a ∈ av
          · obtain ⟨j, hj⟩ := ra1 z
            exact ⟨_, hj⟩
          · rw [if_neg z] at e2
            exact ⟨_, e2⟩
        obtain ⟨i', e'⟩ := ex
        refine ⟨(r2.own a i' e').1, (r2.own a i' e').2.1, ?_⟩
        show upd Z2.b E _ a ≠ none
        rw [upd_ne q]
        exact (r2.own a i' e').2.2
    len := r2.len
    lb := r2.lb
    xf := r2.xf
    sl := fun n k d h => by
      obtain ⟨v, e, q⟩ := r2.sl n k d h
      have hn : n < env.length := by
        rcases Nat.lt_or_ge n env.length with z | z
        · exact z
        · rw [List.getElem?_eq_none z] at h
          cases h
      have := r2.lb
      exact ⟨v, e, Own.ids (Z := Z2) (Z' := Z2.hand E av) (Same.refl _) (same_new bE) (fun a j hO => oN (by omega) hO) q⟩ }
  refine p _ H2 (Z2.hand E av) ⟨x2.ff, x2.bb.trans (same_new bE), x2.keep, fun a o e n => ?_, fun a q => ?_, fun a j e n n' => ?_⟩ R2 ⟨E, rfl, if_pos rfl, acc, av, rfl, upd_same, ra.len, fun j d u e1 e2 => ?_⟩
  · rcases upd_some e with ⟨rfl, _⟩ | ⟨_, e⟩
    · exact nE
    · exact x2.newb a o e n
  · exact (upd_ne (mfp_ne nmE q)).trans (x2.nm a q)
  · have q : a ≠ E := fun z => by
      rw [z, noE] at e
      cases e
    show (if a = E then some (0, 0) else if V.ref a ∈ av then (Z2.o a).map fun q => (0, q.2) else Z2.o a) = some j
    rw [if_neg q, if_neg (ra.out a j e n n')]
    exact x2.oo a j e n n'
  · obtain ⟨b, eb, hb, hq⟩ := ra.row j d u e1 e2
    subst eb
    have nb : b ≠ E := fun z => by
      rw [z, oE] at hb
      cases hb
    refine ⟨b, rfl, ?_, ?_⟩
    · show (if b = E then some (0, 0) else if V.ref b ∈ av then (Z2.o b).map fun q => (0, q.2) else Z2.o b) = _
      rw [if_neg nb, if_pos (List.mem_iff_getElem?.mpr ⟨j, e2⟩), hb]
      rfl
    · have hn : (Z2.hand E av).b b = Z2.b b := upd_ne nb
      cases d with
      | lst ds =>
        obtain ⟨vs, h1, h2⟩ := hq
        exact ⟨vs, hn.trans h1, h2⟩
      | dct ds =>
        obtain ⟨vs, h1, h2⟩ := hq
        exact ⟨vs, hn.trans h1, h2⟩
      | dtt ds =>
        obtain ⟨vs, h1, h2⟩ := hq
        exact ⟨vs, hn.trans h1, h2⟩
      | _ => exact hq.elim
end
def lcF2 (gp : GP) (ft fe : EF) (vs : List Nat) : List D → List D → Env → MS → Out
  | [], acc, _, ms => .ok (.o 2) (.lst acc) ms
  | d :: ds, acc, env, ms => match gp d (wipeE env vs) with
    | none => .bad
    | some env1 => match ft env1 ms with
      | .ok _ (.bl true) ms1 => (match fe env1 ms1 with
        | .ok (.o 1) y ms2 => if acc.length < sizeLine then lcF2 gp ft fe vs ds (acc ++ [y]) env ms2 else .bad
        | _ => .bad)
      | .ok _ (.bl false) ms1 => lcF2 gp ft fe vs ds acc env ms1
      | _ => .bad
/-- the reading of a comprehension's turns -/
theorem lc2_sem {K : PySem.W.Frag} {G : Gh} {W : WX} {gp : GP} {ft fe : EF} {vs : List Nat} {J : It} {items : List D} {B0 : Bool} {σ : Sl} {H1 : Hp} {env : Env} {ms : MS} {Z : Zs} {Q : VK}
    (nx : G.xf = none) (r : R K G env ms σ H1 Z) (w : WalkD K J items (bsel B0 Z) Z.f) (p : PostE K G W env σ ms Z H1 Q (lcF2 gp ft fe vs items [] env ms)) (E : Addr) (nE : H1 E = none) :
    ∃ Wf : Nat → Nat → Hp → Prop, (∃ m, Wf 0 m (upd H1 E (.lst []))) ∧ ∀ i m H, Wf i m H →
      (J.stop i H ∧ Q (.ref E) H) ∨ (J.go i H ∧ ∃ Nx : Hp → Prop, (∀ H', Nx H' → ∃ m', m' < m ∧ Wf (i + 1) m' H') ∧ ∀ x H', J.yld i H x H' → tG K G vs gp x (wipe σ vs) H' fun σ2 H2 => wipe σ2 vs = wipe σ vs ∧
        tT K G W0 ft σ2 H2 fun b H3 => if b = true then tE K G W0 fe σ2 H3 fun y H4 => ∃ acc, H4 E = some (.lst acc) ∧ acc.length < sizeLine ∧ Nx (upd H4 E (.lst (acc ++ [y]))) else Nx H3) := by
  have nbE := r.nb nE
  have nfE := r.nf nE
  have nmE := r.nm nE
  have n0E := r.n0 nE
  have noE := r.no nE
  refine ⟨fun i m H => i + m = items.length ∧ ∃ ms2 Z2 acc av, Ext ms Z H1 Z2 H ∧ R K G env ms2 σ H Z2 ∧ H E = some (.lst av) ∧ Rows K Z Z2 acc av ∧ Z2.b E = none ∧ Z2.o E = none ∧
    PostE K G W env σ ms Z H1 Q (lcF2 gp ft fe vs (items.drop i) acc env ms2), ⟨items.length, Nat.zero_add _, ms, Z, [], [], ?_, r.beside nbE n0E nmE, upd_same, Rows.nil, nbE, noE, ?_⟩, fun i m H hW => ?_⟩
  · exact ⟨Same.refl _, Same.refl _, fun a o e _ => same_new nE _ _ e, (fun a o e n => by
      rw [e] at n
      cases n), r.bm, fun _ _ h _ _ => h⟩
  · rw [List.drop_zero]
    exact p
  · obtain ⟨em, ms2, Z2, acc, av, x2, r2, hE, ra, bE, oE, p2⟩ := hW
    have sB : Same (bsel B0 Z) H := by
      unfold bsel
      split
      · exact (x2.ff.trans r2.fb).trans r2.bh
      · exact x2.bb.trans r2.bh
    have hmm := r.aft.mm r2.aft
    have nm2 : ¬ mfp ms2 E := fun q => nmE ((hmm E).mp q)
    by_cases hi : i < items.length
    · refine .inr ⟨w.go i H hi sB, fun H' => ∃ m', m' < m ∧ (i + 1) + m' = items.length ∧ ∃ ms2 Z2 acc av, Ext ms Z H1 Z2 H' ∧ R K G env ms2 σ H' Z2 ∧ H' E = some (.lst av) ∧ Rows K Z Z2 acc av ∧ Z2.b E = none ∧ Z2.o E = none ∧
        PostE K G W env σ ms Z H1 Q (lcF2 gp ft fe vs (items.drop (i + 1)) acc env ms2), fun H' h => h, fun x H' hy => ?_⟩
      have key : ∀ (Z3 : Zs) (d : D), Ext ms2 Z2 H Z3 H' → R K G env ms2 σ H' Z3 → Rep K Z3.f d x → items[i]? = some d → H' E = some (.lst av) → Z3.b E = none → Z3.o E = none → tG K G vs gp x (wipe σ vs) H' fun σ2 H2 => wipe σ2 vs = wipe σ vs ∧
          tT K G W0 ft σ2 H2 fun b H3 => if b = true then tE K G W0 fe σ2 H3 fun y H4 => ∃ acc, H4 E = some (.lst acc) ∧ acc.length < sizeLine ∧ (∃ m', m' < m ∧ (i + 1) + m' = items.length ∧ ∃ ms2 Z2 acc2 av, Ext ms Z H1 Z2 (upd H4 E (.lst (acc ++ [y]))) ∧ R K G env ms2 σ (upd H4 E (.lst (acc ++ [y]))) Z2 ∧ (upd H4 E (.lst (acc ++ [y]))) E = some (.lst av) ∧ Rows K Z Z2 acc2 av ∧ Z2.b E = none ∧ Z2.o E = none ∧
            PostE K G W env σ ms Z H1 Q (lcF2 gp ft fe vs (items.drop (i + 1)) acc2 env ms2)) else (∃ m', m' < m ∧ (i + 1) + m' = items.length ∧ ∃ ms2 Z2 acc av, Ext ms Z H1 Z2 H3 ∧ R K G env ms2 σ H3 Z2 ∧ H3 E = some (.lst av) ∧ Rows K Z Z2 acc av ∧ Z2.b E = none ∧ Z2.o E = none ∧
            PostE K G W env σ ms Z H1 Q (lcF2 gp ft fe vs (items.drop (i + 1)) acc env ms2)) := by
        intro Z3 d x3 r3 q3 hd hE3 bE3 oE3
        have ed : items.drop i = d :: items.drop (i + 1) := by
          rw [List.drop_eq_getElem_cons hi]
          congr 1
          rw [List.getElem?_eq_getElem hi] at hd
          exact Option.some.inj hd
        rw [ed] at p2
        refine ⟨d, wipeE env vs, ms2, Z3, r3.wiped nx vs, q3, ?_⟩
        cases e1 : gp d (wipeE env vs) with
        | none =>
          simp only [lcF2, e1] at p2
          exact p2.elim
        | some env1 =>
          simp only [lcF2, e1] at p2
          intro σ2 w2 r4
          refine ⟨w2.trans (wipe_wipe σ vs), env1, ms2, Z3, r4, ?_⟩
          cases e2 : ft env1 ms2 with
          | bad =>
            simp only [e2] at p2
            exact p2.elim
          | exc c dd m3 =>
            simp only [e2] at p2
            exact p2.elim
          | ok fl b m3 =>
            cases b with
            | bl b =>
              intro H5 Z5 x5 r5
              have x35 : Ext ms2 Z2 H Z5 H5 := x3.trans (fun _ => Iff.rfl) x5
              have hE5 : H5 E = some (.lst av) := x5.keep E _ hE3 nm2
              have bE5 : Z5.b E = none := by
                cases z : Z5.b E with
                | none => rfl
                | some u =>
                  have := x5.newb E u z bE3
                  rw [hE3] at this
                  cases this
              have oE5 : Z5.o E = none := by
                cases z : Z5.o E with
                | none => rfl
                | some u => exact absurd bE5 (r5.own E u z).2.2
              have r5o : R K G env m3 σ H5 Z5 := r2.unwiped x35 r5
              cases b with
              | true =>
                rw [if_pos rfl]
                simp only [e2] at p2
                refine ⟨env1, m3, Z5, r5, ?_⟩
                cases e3 : fe env1 m3 with
                | bad =>
                  simp only [e3] at p2
                  exact p2.elim
                | exc c dd m4 =>
                  simp only [e3] at p2
                  exact p2.elim
                | ok fl2 y m4 =>
                  cases fl2 with
                  | b k =>
                    simp only [e3] at p2
                    exact p2.elim
                  | o k =>
                    match k, e3 with
                    | 0, e3 =>
                      simp only [e3] at p2
                      exact p2.elim
                    | k + 2, e3 =>
                      simp only [e3] at p2
                      exact p2.elim
                    | 1, e3 =>
                    simp only [e3] at p2
                    intro v H6 Z6 x6 r6 t6
                    by_cases hz : acc.length < sizeLine
                    · rw [if_pos hz] at p2
                      have hm25 := r2.aft.mm r5.aft
                      have x26 : Ext ms2 Z2 H Z6 H6 := x35.trans hm25 x6
                      have nm5 : ¬ mfp m3 E := fun q => nm2 ((hm25 E).mp q)
                      have hE6 : H6 E = some (.lst av) := x6.keep E _ hE5 nm5
                      have bE6 : Z6.b E = none := by
                        cases z : Z6.b E with
                        | none => rfl
                        | some u =>
                          have := x6.newb E u z bE5
                          rw [hE5] at this
                          cases this
                      have oE6 : Z6.o E = none := by
                        cases z : Z6.o E with
                        | none => rfl
                        | some u => exact absurd bE6 (r6.own E u z).2.2
                      have r6o : R K G env m4 σ H6 Z6 := r2.unwiped x26 r6
                      have nm6 : ¬ mfp m4 E := fun q => nm2 ((r2.aft.mm r6.aft E).mp q)
                      obtain ⟨b, rfl, hob, hq⟩ := t6
                      have r6w := r6o.mark (b := b) (i := (1000001, acc.length + 1)) hob (by show 1000001 ≠ _; have := r.lb; omega)
                      have bE7 : (Z6.mark b (1000001, acc.length + 1)).b E = none := bE6
                      have oE7 : (Z6.mark b (1000001, acc.length + 1)).o E = none := by
                        show (if E = b then _ else Z6.o E) = none
                        rw [if_neg (fun z => by rw [z, hob] at oE6; cases oE6)]
                        exact oE6
                      have r7 : R K G env m4 σ (upd H6 E (.lst (av ++ [.ref b]))) (Z6.mark b (1000001, acc.length + 1)) := r6w.beside bE7 n0E nm6
                      have x26' := x2.trans hmm x26
                      have x17 : Ext ms Z H1 (Z6.mark b (1000001, acc.length + 1)) (upd H6 E (.lst (av ++ [.ref b]))) := by
                        have x := x26'
                        exact ⟨x.ff, x.bb, fun a o e n => (upd_ne fun z => by
                          rw [z, nE] at e
                          cases e).trans (x.keep a o e n), x.newb, x.nm, fun a i e n1 n2 => by
                          have h := x.oo a i e n1 n2
                          show (if a = b then _ else Z6.o a) = some i
                          rw [if_neg (fun z => by
                            rw [z, hob] at h
                            cases h
                            exact n1 rfl)]
                          exact h⟩
                      exact ⟨av, hE6, by rw [ra.len]; exact hz, m - 1, by omega, by omega, m4, Z6.mark b (1000001, acc.length + 1), acc ++ [y], av ++ [.ref b], x17, r7, upd_same, (ra.ext x26).add x26' hob hq, bE7, oE7, p2⟩
                    · rw [if_neg hz] at p2
                      exact p2.elim
              | false =>
                rw [if_neg Bool.false_ne_true]
                simp only [e2] at p2
                have hm25 := r2.aft.mm r5.aft
                exact ⟨m - 1, by omega, by omega, m3, Z5, acc, av, x2.trans hmm x35, r5o, hE5, ra.ext x35, bE5, oE5, p2⟩
            | _ =>
              simp only [e2] at p2
              exact p2.elim
      rcases w.yld i H x H' hi sB hy with ⟨rfl, d, hd, q⟩ | ⟨T, u, v, du, dv, rfl, nT, rfl, hd, q1, q2⟩
      · exact key Z2 d r2.refl r2 (Rep.mono x2.ff _ _ q) hd hE bE oE
      · have neT : E ≠ T := fun z => by
          rw [← z, hE] at nT
          cases nT
        refine key (Z2.newF T (.tup [u, v])) _ (r2.extF nT) (r2.newF nT) ?_ hd ?_ ?_ oE
        · exact r2.topT nT ⟨u, _, rfl, Rep.mono x2.ff _ _ q1, v, _, rfl, Rep.mono x2.ff _ _ q2, rfl⟩
        · rw [upd_ne neT]
          exact hE
        · exact (upd_ne neT).trans bE
    · have ei : i = items.length := by omega
      subst ei
      refine .inl ⟨w.stop H sB, ?_⟩
      rw [List.drop_length] at p2
      have fE : Z2.f E = none := by
        cases z : Z2.f E with
        | none => rfl
        | some u =>
          rw [r2.fb E u z] at bE
          cases bE
      exact rows_fin r r2 x2 hmm hE bE fE n0E nm2 oE nE nmE noE ra p2
section
variable {X : Cx} {G : Gh} {W : WX} {elt tg iter c : Expr} {gp : GP} {fi : EI} {ft fe : EF} {scope : Scope} {pos : Pos} {vs : List Nat} {own : List (Str × Nat)}
def eLc2 (gp : GP) (fi : EI) (ft fe : EF) (vs : List Nat) : EF := fun env ms => match fi env ms with
  | .ok _ ds ms1 => lcF2 gp ft fe vs ds [] env ms1
  | .exc c d ms1 => .exc c d ms1
  | .bad => .bad
theorem lc2_go {wi : TI} (nx : G.xf = none) (hwi : ∀ (σ : Sl) (H : Hp) (env : Env) (ms : MS) (Z : Zs) (Q : It → Hp → Prop), R X.K G env ms σ H Z → PostI X.K G W env σ ms Z H Q (fi env ms) → wi σ H Q)
    {σ : Sl} {H : Hp} {env : Env} {ms : MS} {Z : Zs} {Q : VK} (hr : R X.K G env ms σ H Z) (p : PostE X.K G W env σ ms Z H Q (eLc2 gp fi ft fe vs env ms)) :
    tLc wi (tG X.K G vs gp) (tT X.K G W0 ft) (tE X.K G W0 fe) vs σ H Q := by
  refine hwi σ H env ms Z _ hr ?_
  unfold eLc2 at p
  cases e : fi env ms with
  | ok fz ds ms1 =>
    rw [e] at p
    intro J H1 Z1 x1 r1 w D nD
    exact lc2_sem nx r1 w (PostE.ext (hr.aft.mm r1.aft) x1 p) D nD
  | exc c d ms1 =>
    rw [e] at p
    exact p
  | bad =>
    rw [e] at p
    exact p
theorem se_lc2 {ifs : List Expr} (nx : G.xf = none) (hc : X.calm = true) (hN : X.N.Nodup) (ev : own.map (·.2) = vs) (hi : SI X G W tg iter fi) (ok : BlkOk X.N X.env.scope scope own) (hg : Blk X scope fun X => SG X G vs tg gp)
    (ht : Blk X scope fun X => PTs X ifs (tT X.K G W0 ft)) (he : Blk X scope fun X => SE X G W0 elt fe) (hs : ∀ x, foldedSetIterable iter X.env x = pure x := by intro _; rfl) :
    SE X G W (.ListComp elt [⟨tg, iter, ifs, 0⟩] scope pos) (eLc2 gp fi ft fe vs) := by
  obtain ⟨wi, pw, hwi⟩ := hi
  subst ev
  exact ⟨_, pe_lc hc hN pw ok (fun s H C cl fp => (hg s H C cl fp).can) ht (fun s H C cl fp => (he s H C cl fp).can) hs, fun σ H env ms Z Q hr p => lc2_go nx hwi hr p⟩
/-- x = [.. for ..] -/
theorem ss_setLc2 (i : Nat) {y : Str} {py : Pos} {ifs : List Expr} {spos : Pos} (nx : G.xf = none) (hc : X.calm = true) (hN : X.N.Nodup) (ev : own.map (·.2) = vs)
    (hsw : swapsWith (.ListComp elt [⟨tg, iter, ifs, 0⟩] scope pos) (some (.Name y py)) spos.line X.env = pure true) (hi : SI X G W tg iter fi) (ok : BlkOk X.N X.env.scope scope own) (hg : Blk X scope fun X => SG X G vs tg gp)
    (ht : Blk X scope fun X => PTs X ifs (tT X.K G W0 ft)) (he : Blk X scope fun X => SE X G W0 elt fe) (hy : X.N[i]? = some y := by rfl) (hyl : X.env.scope.names.lookup y = some .local := by rfl) (hs : ∀ x, foldedSetIterable iter X.env x = pure x := by intro _; rfl) :
    SS X G W (.Assign [.Name y py] (.ListComp elt [⟨tg, iter, ifs, 0⟩] scope pos) spos) (sSet i (eLc2 gp fi ft fe vs)) := by
  obtain ⟨wi, pw, hwi⟩ := hi
  subst ev
  exact SS.mk (ps_setLc hc hN hy hyl hsw pw ok (fun s H C cl fp => (hg s H C cl fp).can) ht (fun s H C cl fp => (he s H C cl fp).can) hs) fun N σ H env ms Z r p =>
    set_sem (t := tLc wi (tG X.K G (own.map (·.2)) gp) (tT X.K G W0 ft) (tE X.K G W0 fe) (own.map (·.2))) i (fun σ H env ms Z Q r p => lc2_go nx hwi r p) r p
end
end DL
namespace DL
open PySem PySem.Spec PyProof.Rows L2

/-! ### the dict from which the law draws -/
section
variable {K : PySem.W.Frag} {G : Gh} {env : Env} {σ : Sl} {m m' : MSt} {Z : Zs} {H : Hp}
theorem R.draw (r : R K G env (some m) σ H Z) {a : Addr} {o : HO} (ha : mfp (some m) a) (h1 : m'.am = m.am) (h2 : m'.cg = m.cg) (h3 : m'.tb = m.tb) (hm : MRep Z.f (upd H a o) (some m')) : R K G env (some m') σ (upd H a o) Z where
  aft := ⟨r.aft.ff, fun b u e n => (upd_ne fun z => n ((r.aft.mf b).mp (by rw [z]; exact ha))).trans (r.aft.keep b u e n), r.aft.new, fun b => by
    rw [← r.aft.mf b]
    show (b = m'.am ∨ b = m'.cg ∨ ∃ q, (b, q) ∈ m'.tb) ↔ (b = m.am ∨ b = m.cg ∨ ∃ q, (b, q) ∈ m.tb)
    rw [h1, h2, h3]⟩
  fb := r.fb
  bh := fun b u e => (upd_ne fun z => by
    rw [z, r.bm a ha] at e
    cases e).trans (r.bh b u e)
  bm := fun b q => r.bm b (by
    have q' : b = m'.am ∨ b = m'.cg ∨ ∃ q, (b, q) ∈ m'.tb := q
    rw [h1, h2, h3] at q'
    exact q')
  mr := hm
  tb := fun T h => r.tb T (by
    have h' : some m'.tb = some T := h
    rw [h3] at h'
    exact h')
  own := r.own
  len := r.len
  lb := r.lb
  xf := r.xf
  sl := r.sl
end
def mAt (env : Env) (i : Nat) (ms : MS) : Option MSt := match env[i]?, ms with
  | some (some (0, .raw (.ref a))), some m => if a = m.am then some m else none
  | _, _ => none
def gAt (env : Env) (i : Nat) (ms : MS) : Option MSt := match env[i]?, ms with
  | some (some (0, .raw (.ref a))), some m => if a = m.cg then some m else none
  | _, _ => none
theorem mAt_some {env : Env} {i : Nat} {ms : MS} {m : MSt} (h : mAt env i ms = some m) : ms = some m ∧ env[i]? = some (some (0, .raw (.ref m.am))) := by
  unfold mAt at h
  split at h
  · rename_i a m' e
    by_cases z : a = m'.am
    · rw [if_pos z] at h
      cases h
      rw [e, z]
      exact ⟨rfl, rfl⟩
    · rw [if_neg z] at h
      cases h
  · cases h
theorem gAt_some {env : Env} {i : Nat} {ms : MS} {m : MSt} (h : gAt env i ms = some m) : ms = some m ∧ env[i]? = some (some (0, .raw (.ref m.cg))) := by
  unfold gAt at h
  split at h
  · rename_i a m' e
    by_cases z : a = m'.cg
    · rw [if_pos z] at h
      cases h
      rw [e, z]
      exact ⟨rfl, rfl⟩
    · rw [if_neg z] at h
      cases h
  · cases h
section
variable {X : Cx} {G : Gh} {W : WX} {e e1 e2 : Expr} {f f1 f2 f3 : EF} {pos p cpos apos : Pos} {x : Str}
theorem m_slot {i : Nat} {env : Env} {σ : Sl} {ms : MS} {Z : Zs} {H : Hp} {m : MSt} (r : R X.K G env ms σ H Z) (h : mAt env i ms = some m) : σ[i]? = some (some (.ref m.am)) := by
  obtain ⟨rfl, h2⟩ := mAt_some h
  obtain ⟨v, e, q⟩ := r.sl i 0 _ h2
  have q' : v = .ref m.am := q
  rw [e, q']
theorem g_slot {i : Nat} {env : Env} {σ : Sl} {ms : MS} {Z : Zs} {H : Hp} {m : MSt} (r : R X.K G env ms σ H Z) (h : gAt env i ms = some m) : σ[i]? = some (some (.ref m.cg)) := by
  obtain ⟨rfl, h2⟩ := gAt_some h
  obtain ⟨v, e, q⟩ := r.sl i 0 _ h2
  have q' : v = .ref m.cg := q
  rw [e, q']
/-- m['cells'], m['great'], m['spot'] -/
def mGet (k : String) (m : MSt) : Out := if k = "spot" then .ok (.o 0) (.int m.spot) (some m) else if k = "cells" then .ok (.o 0) (.lst (m.cells.map D.int)) (some m) else if k = "great" then .ok (.o 0) (.raw (.ref m.cg)) (some m) else .bad
def eM (i : Nat) (k : String) : EF := fun env ms => match mAt env i ms with
  | some m => mGet k m
  | none => .bad
def mKV (m : MSt) : List (Key × V) := [(Sum.inr "cells", .ref m.cc), (Sum.inr "great", .ref m.cg), (Sum.inr "spot", .int m.spot)]
theorem m_get {env : Env} {σ : Sl} {m : MSt} {Z : Zs} {H : Hp} {Q : VK} (k : String) (r : R X.K G env (some m) σ H Z) (p : PostE X.K G W env σ (some m) Z H Q (mGet k m)) : ∃ v, valV (mKV m) (Sum.inr (k : Str)) = some v ∧ Q v H := by
  unfold mGet at p
  by_cases h1 : k = "spot"
  · rw [if_pos h1] at p
    subst h1
    exact ⟨.int m.spot, by rfl, PostE.fin r p rfl⟩
  · rw [if_neg h1] at p
    by_cases h2 : k = "cells"
    · rw [if_pos h2] at p
      subst h2
      exact ⟨.ref m.cc, by rfl, PostE.fin r p ⟨_, _, rfl, r.mr.2.1, RepL.ints⟩⟩
    · rw [if_neg h2] at p
      by_cases h3 : k = "great"
      · rw [if_pos h3] at p
        subst h3
        exact ⟨.ref m.cg, by rfl, PostE.fin r p rfl⟩
      · rw [if_neg h3] at p
        exact p.elim
theorem m_sem {i : Nat} {k : String} {env : Env} {σ : Sl} {ms : MS} {Z : Zs} {H : Hp} {Q : VK} (r : R X.K G env ms σ H Z) (q : PostE X.K G W env σ ms Z H Q (eM i k env ms)) :
    tDGet (tVar i) (tC (.str (k : Str))) σ H Q := by
  unfold eM at q
  cases h : mAt env i ms with
  | none =>
    rw [h] at q
    exact q.elim
  | some m =>
    rw [h] at q
    have e1 := (mAt_some h).1
    subst e1
    obtain ⟨v, hv, hq⟩ := m_get k r q
    exact ⟨.ref m.am, m_slot r h, m.am, v, rfl, .inl ⟨mKV m, Sum.inr (k : Str), .inl r.mr.1, rfl, hv.symm⟩, hq⟩
theorem se_m (i : Nat) {j : Nat} {p2 : Pos} (k : String) {ks : Str} (hu : X.A.units + 1 < cLine) (hk : (k : Str) = ks := by rfl) (hN : X.N[i]? = some x := by rfl) (hv : Vis X.env.scope x := by first | exact Or.inl rfl | exact Or.inr (Or.inl rfl) | exact Or.inr (Or.inr rfl))
    (hd : (x == ("__debug__" : Str)) = false := by decide) (hcd : (x == ("__classdict__" : Str)) = false := by decide) (hs : NoSl (.Constant (.str ks) j p2) := by exact fun _ _ => rfl) :
    SE X G W (.Subscript (.Name x p) (.Constant (.str ks) j p2) pos) (eM i k) := by
  subst hk
  exact ⟨_, pe_dget hu (pe_var hN hv hd hcd) pe_str hs, fun σ H env ms Z Q r q => m_sem r q⟩
/-- m['great'] != [] -/
def eGreat (i : Nat) : EF := fun env ms => match mAt env i ms with
  | some m => .ok (.o 0) (.bl (!m.great.isEmpty)) ms
  | none => .bad
theorem dpAll_ints {K : PySem.W.Frag} {H : Hp} : ∀ {ns : List Int}, DpAll K H (ns.map V.int) (ns.map PyData.int)
  | [] => .nil
  | n :: ns => .cons (.int n) dpAll_ints
theorem eqv_empty (ns : List Int) : PyData.eqv (.list (ns.map PyData.int)) (.list []) = ns.isEmpty := by
  cases ns <;> simp [PyData.eqv, PyData.eqvAll]
theorem canLay_ints : ∀ ns : List Int, PyData.canLayAll0 (ns.map PyData.int) = true
  | [] => by simp [PyData.canLayAll0]
  | n :: ns => by simp [PyData.canLayAll0, PyData.canLay0, canLay_ints ns]
theorem depth_ints : ∀ ns : List Int, PyData.depthAll (ns.map PyData.int) = 0
  | [] => by simp [PyData.depthAll]
  | n :: ns => by simp [PyData.depthAll, PyData.depth, depth_ints ns]
theorem shaped_ints (ns : List Int) : SeqAt.shaped (.list (ns.map PyData.int)) = true := by
  simp [SeqAt.shaped, PyData.canLay0, PyData.depth, canLay_ints, depth_ints]
theorem st_great (i : Nat) {j : Nat} {p2 p3 : Pos} {ks : Str} (hu : X.A.units + 64 < cLine) (hk : ("great" : Str) = ks := by rfl) (hN : X.N[i]? = some x := by rfl) (hv : Vis X.env.scope x := by first | exact Or.inl rfl | exact Or.inr (Or.inl rfl) | exact Or.inr (Or.inr rfl))
    (hd : (x == ("__debug__" : Str)) = false := by decide) (hcd : (x == ("__classdict__" : Str)) = false := by decide) (hs : NoSl (.Constant (.str ks) j p2) := by exact fun _ _ => rfl) (hm : behindInMarks .NotEq (.List [] p3) = false := by rfl) :
    ST X G W (.Compare (.Subscript (.Name x p) (.Constant (.str ks) j p2) pos) [.NotEq] [.List [] p3] cpos) (eGreat i) := by
  subst hk
  refine ⟨_, pt_cmpR (op_neD hu) (pe_dget (by omega) (pe_var hN hv hd hcd) pe_str hs) (pe_lst pa_nil) hm, fun σ H env ms Z Q r q => ?_⟩
  unfold eGreat at q
  cases h : mAt env i ms with
  | none =>
    rw [h] at q
    exact q.elim
  | some m =>
    rw [h] at q
    have e1 := (mAt_some h).1
    subst e1
    refine ⟨.ref m.am, m_slot r h, m.am, .ref m.cg, rfl, .inl ⟨mKV m, Sum.inr ("great" : Str), .inl r.mr.1, rfl, by rfl⟩, by decide, fun b hb => ⟨_, _, .lst (sqL_of (same_new hb _ _ r.mr.2.2.1)) dpAll_ints, .lst (sqL_of upd_same) .nil, ?_, ?_, _, rfl, ?_⟩⟩
    · exact shaped_ints _
    · exact shaped_ints []
    · rw [eqv_empty]
      exact q _ _ (r.extO hb) (r.newO hb)
/-- len(lot), lot[..], of m's list -/
def eLenG (i : Nat) : EF := fun env ms => match gAt env i ms with
  | some m => .ok (.o 0) (.int m.great.length) ms
  | none => .bad
theorem se_lenG (i : Nat) (hm : X.mg "len" = none) (hg : Gl X "len" := by rfl) {p2 : Pos} (hN : X.N[i]? = some x := by rfl) (hv : Vis X.env.scope x := by first | exact Or.inl rfl | exact Or.inr (Or.inl rfl) | exact Or.inr (Or.inr rfl))
    (hd : (x == ("__debug__" : Str)) = false := by decide) (hcd : (x == ("__classdict__" : Str)) = false := by decide) (hs : starEach [.Name x p2] X.env = (false, eval (.Name x p2) X.env) :: starEach [] X.env := by rfl)
    (hpl : (backTo pos (starEach [] X.env)).any (·.1) = false := by rfl) :
    SE X G W (.Call (.Name "len" p) [.Name x p2] [] pos) (eLenG i) := by
  refine ⟨_, pe_callB call_len hg hm rfl (pa_cons (pe_var hN hv hd hcd) pa_nil hs) (by decide) (by decide) hs hpl, fun σ H env ms Z Q r q => ?_⟩
  unfold eLenG at q
  cases h : gAt env i ms with
  | none =>
    rw [h] at q
    exact q.elim
  | some m =>
    rw [h] at q
    have e1 := (gAt_some h).1
    subst e1
    refine ⟨.ref m.cg, g_slot r h, .ref m.cg, _, rfl, .inl ⟨_, sqL_of r.mr.2.2.1, rfl⟩, ?_⟩
    rw [List.length_map]
    exact PostE.fin r q rfl
def eIxG (i : Nat) (f : EF) : EF := fun env ms => match gAt env i ms with
  | some _ => (f env ms).bindR fun d ms1 => (match d, gAt env i ms1 with
    | .int n, some m => (match atI m.great n with
      | some c => .ok (.o 0) (.int c) ms1
      | none => .bad)
    | _, _ => .bad)
  | none => .bad
theorem atI_map {α β : Type} (g : α → β) (xs : List α) (i : Int) : atI (xs.map g) i = (atI xs i).map g := by
  unfold atI
  rw [List.length_map]
  cases ixN xs.length i with
  | none => rfl
  | some j => exact List.getElem?_map
theorem se_ixG (i : Nat) (h : SE X G W e f) (hN : X.N[i]? = some x := by rfl) (hv : Vis X.env.scope x := by first | exact Or.inl rfl | exact Or.inr (Or.inl rfl) | exact Or.inr (Or.inr rfl))
    (hd : (x == ("__debug__" : Str)) = false := by decide) (hcd : (x == ("__classdict__" : Str)) = false := by decide) (hpx : PlainIx e := by exact fun _ _ => rfl) : SE X G W (.Subscript (.Name x p) e pos) (eIxG i f) := by
  obtain ⟨t, pt, h⟩ := h
  refine ⟨_, pe_ix ix_list (pe_var hN hv hd hcd) pt hpx, fun σ H env ms Z Q r q => ?_⟩
  unfold eIxG at q
  cases h1 : gAt env i ms with
  | none =>
    rw [h1] at q
    exact q.elim
  | some m =>
    rw [h1] at q
    refine ⟨.ref m.cg, g_slot r h1, h σ H env ms Z _ r (PostE.bindR r q fun d ms1 v H1 Z1 x1 r1 q1 p1 => ?_)⟩
    cases d with
    | int n =>
      have en : v = .int n := q1
      subst en
      cases h2 : gAt env i ms1 with
      | none =>
        rw [h2] at p1
        exact p1.elim
      | some m1 =>
        rw [h2] at p1
        dsimp only at p1
        have e2 := (gAt_some h1).2
        obtain ⟨rfl, e3⟩ := gAt_some h2
        have ec : m1.cg = m.cg := by
          rw [e2] at e3
          injection e3 with e3
          injection e3 with e3
          injection e3 with _ e3
          injection e3 with e3
          injection e3 with e3
          exact e3.symm
        cases e4 : atI m1.great n with
        | none =>
          rw [e4] at p1
          exact p1.elim
        | some c =>
          rw [e4] at p1
          have hh := r1.mr.2.2.1
          rw [ec] at hh
          exact ⟨m.cg, _, n, .int c, rfl, rfl, sqL_of hh, by rw [atI_map, e4]; rfl, PostE.fin r1 p1 rfl⟩
    | _ => exact p1.elim
/-- m['spot'] = e -/
def sSpot (i : Nat) (f : EF) : FS := fun env ms => (f env ms).st env fun _ d ms1 => match d, mAt env i ms1 with
  | .int n, some m => .nx env (some { m with spot := n })
  | _, _ => .bad
theorem ss_spot (i : Nat) {j : Nat} {p2 p3 : Pos} {ks : Str} (hu : X.A.units + 1 < cLine) (h : SE X G W e f) (hk : ("spot" : Str) = ks := by rfl) (hN : X.N[i]? = some x := by rfl) (hv : Vis X.env.scope x := by first | exact Or.inl rfl | exact Or.inr (Or.inl rfl) | exact Or.inr (Or.inr rfl))
    (hd : (x == ("__debug__" : Str)) = false := by decide) (hcd : (x == ("__classdict__" : Str)) = false := by decide) (hs : swapsWith e (some (.Subscript (.Name x p) (.Constant (.str ks) j p2) p3)) pos.line X.env = pure false := by rfl) :
    SS X G W (.Assign [.Subscript (.Name x p) (.Constant (.str ks) j p2) p3] e pos) (sSpot i f) := by
  subst hk
  obtain ⟨t, pt, h⟩ := h
  refine SS.mk (ps_dput hu (pe_var hN hv hd hcd) pe_str pt hs) fun N σ H env ms Z r p => h σ H env ms Z _ r (PostS.expr r p fun fl d ms1 v H1 Z1 x1 r1 t1 p1 => ?_)
  cases d with
  | int n =>
    have en : v = .int n := t1.rep r1.fb
    subst en
    cases h2 : mAt env i ms1 with
    | none =>
      rw [h2] at p1
      exact p1.elim
    | some m =>
      rw [h2] at p1
      have e1 := (mAt_some h2).1
      subst e1
      refine ⟨.ref m.am, m_slot r1 h2, m.am, _, rfl, .inl ⟨mKV m, Sum.inr ("spot" : Str), r1.mr.1, rfl, by show 3 < sizeLine; rw [sizeLine_eq]; omega, rfl⟩, p1 σ _ Z1 (Same.refl _) (r1.draw (.inl rfl) rfl rfl rfl ⟨upd_same, r1.mr.2.1, (upd_ne (Ne.symm r1.mr.2.2.2.1)).trans r1.mr.2.2.1, r1.mr.2.2.2.1, r1.mr.2.2.2.2.upd fun ps z => by rw [r1.mr.1] at z; cases z⟩)⟩
  | _ => exact p1.elim
/-- lot[e1] = e, lot m's list -/
def sPutG (i : Nat) (f1 f : EF) : FS := fun env ms => (f env ms).st env fun _ d ms1 => match d, gAt env i ms1 with
  | .int c, some m => (f1 env ms1).st env fun _ d2 ms2 => (match d2, gAt env i ms2 with
    | .int n, some m2 => (match ixN m2.great.length n with
      | some j => .nx env (some { m2 with great := m2.great.set j c })
      | none => .bad)
    | _, _ => .bad)
  | _, _ => .bad
theorem ss_putG (i : Nat) {p2 : Pos} (h1 : SE X G W e1 f1) (h : SE X G W e f) (hN : X.N[i]? = some x := by rfl) (hv : Vis X.env.scope x := by first | exact Or.inl rfl | exact Or.inr (Or.inl rfl) | exact Or.inr (Or.inr rfl)) (hd : (x == ("__debug__" : Str)) = false := by decide)
    (hcd : (x == ("__classdict__" : Str)) = false := by decide)
    (ha : ∀ v, assign (.Subscript (.Name x p) e1 p2) X.env v = (do
      let ov ← holding [v] (eval (.Name x p) X.env)
      let iv ← holding [v, ov] (eval e1 X.env)
      standAt p2
      holding [v, ov, iv] (setItem ov iv v)
      release [v, ov, iv] []) := by intro _; rfl)
    (hs : swapsWithSole [.Subscript (.Name x p) e1 p2] e pos.line X.env = pure false := by rfl) (hw : swappedStores [.Subscript (.Name x p) e1 p2] e X.env = pure none := by rfl)
    (h1' : (assignEach [.Subscript (.Name x p) e1 p2] X.env).map (·.2) = [assign (.Subscript (.Name x p) e1 p2) X.env] := by rfl) :
    SS X G W (.Assign [.Subscript (.Name x p) e1 p2] e pos) (sPutG i f1 f) := by
  obtain ⟨t, pt, h⟩ := h
  obtain ⟨t1, pt1, h1⟩ := h1
  refine SS.mk (ps_asg pt (pg_sub (pe_var hN hv hd hcd) pt1 set_list ha) hs hw h1') fun N σ H env ms Z r p => h σ H env ms Z _ r (PostS.expr r p fun fl d ms1 v H' Z' x' r' t' p' => ?_)
  cases d with
  | int c =>
    have ec : v = .int c := t'.rep r'.fb
    subst ec
    cases h2 : gAt env i ms1 with
    | none =>
      rw [h2] at p'
      exact p'.elim
    | some m =>
      rw [h2] at p'
      refine ⟨.ref m.cg, g_slot r' h2, h1 σ H' env ms1 Z' _ r' (PostS.expr r' p' fun fl1 d1 ms2 v1 H1 Z1 x1 r1 t1 p1 => ?_)⟩
      cases d1 with
      | int n =>
        have en : v1 = .int n := t1.rep r1.fb
        subst en
        cases h3 : gAt env i ms2 with
        | none =>
          rw [h3] at p1
          exact p1.elim
        | some m2 =>
          rw [h3] at p1
          dsimp only at p1
          have e2 := (gAt_some h2).2
          obtain ⟨rfl, e3⟩ := gAt_some h3
          have ec : m2.cg = m.cg := by
            rw [e2] at e3
            injection e3 with e3
            injection e3 with e3
            injection e3 with _ e3
            injection e3 with e3
            injection e3 with e3
            exact e3.symm
          cases e4 : ixN m2.great.length n with
          | none =>
            rw [e4] at p1
            exact p1.elim
          | some j =>
            rw [e4] at p1
            rw [← ec]
            refine ⟨m2.cg, _, n, j, rfl, rfl, r1.mr.2.2.1, by rw [List.length_map]; exact e4, p1 σ _ Z1 (Same.refl _) (r1.draw (.inr (.inl rfl)) rfl rfl rfl ⟨(upd_ne r1.mr.2.2.2.1).trans r1.mr.1, r1.mr.2.1, ?_, r1.mr.2.2.2.1, r1.mr.2.2.2.2.upd fun ps z => by rw [r1.mr.2.2.1] at z; cases z⟩)⟩
            rw [← List.map_set]
            exact upd_same
      | _ => exact p1.elim
  | _ => exact p'.elim
end
end DL
namespace DL
open PySem PySem.Spec PyProof.Rows L2

/-! ### the law's beginning: m = {'cells': .., 'great': [], 'spot': 0}; m['great'] = [..]; return m -/
/-- what the def _law_begun promises: cs the cells, gs the great ones, of the script -/
def spBeg (K : PySem.W.Frag) (P : List Int → Prop) (cs gs : List Int → List Int) : Sp := fun vs H Q _ => ∃ (a : Addr) (ns : List Int), vs = [.ref a] ∧ P ns ∧ SqL K H a (ns.map V.int) ∧
  ∀ (am cc cg : Addr) (H' : Hp), H am = none → H cg = none → am ≠ cg → Same H H' → H' am = some (.dK [(Sum.inr ("cells" : Str), .ref cc), (Sum.inr ("great" : Str), .ref cg), (Sum.inr ("spot" : Str), .int 0)]) → cc ≠ am → cc ≠ cg →
    H' cc = some (.lst ((cs ns).map V.int)) → H' cg = some (.lst ((gs ns).map V.int)) → Q (.ref am) H'
theorem R.env_raw {K : PySem.W.Frag} {G : Gh} {env : Env} {σ : Sl} {ms : MS} {Z : Zs} {H : Hp} (r : R K G env ms σ H Z) (i : Nat) (v : V) : R K G (env.set i (some (0, .raw v))) ms (σ.set i (some v)) H Z := r.set0 i rfl
section
variable {P : Program} {w : World} {K : PySem.W.Frag} {mg : Str → Option Value} {base : Heap} {cls : ClT}
theorem begun_ok {x qual : Str} {params : Arguments} {body : List Stmt} {scope : Scope} {kws : List (Str × V)} {fa : Addr} {fd : FuncData} {N : List Str} {nm sc : Str} {k : Nat} {e1 e2 : Expr} {ef el : EF} {PP : List Int → Prop} {cs gs : List Int → List Int}
    {p1 p2 p3 p4 p5 p6 p7 p8 p9 p10 p11 p12 p13 p14 : Pos} {j1 j2 j3 j4 j5 : Nat} {kc kg ks : Str}
    (Fd : FunD K x qual params body scope [] kws fa fd) (S : FnScope N [sc] scope) (hN : N.length < 1000) (h2 : 2 ≤ N.length) (hn : N[1]? = some nm) (hl : scope.names.lookup nm = some .local) (hdb : (nm == ("__debug__" : Str)) = false) (hcd : (nm == ("__classdict__" : Str)) = false)
    (hbody : body = [.Assign [.Name nm p1] (.Dict [some (.Constant (.str kc) j1 p2), some (.Constant (.str kg) j2 p3), some (.Constant (.str ks) j3 p4)] [e1, .List [] p5, .Constant (.int 0) j4 p6] p7) p8,
      .Assign [.Subscript (.Name nm p9) (.Constant (.str kg) j5 p10) p11] e2 p12, .Return (some (.Name nm p13)) p14])
    (hk1 : kc = ("cells" : Str)) (hk2 : kg = ("great" : Str)) (hk3 : ks = ("spot" : Str))
    (hsw : ∀ X : Cx, X.env.scope = scope → swapsWith (.Dict [some (.Constant (.str kc) j1 p2), some (.Constant (.str kg) j2 p3), some (.Constant (.str ks) j3 p4)] [e1, .List [] p5, .Constant (.int 0) j4 p6] p7) (some (.Name nm p1)) p8.line X.env = pure false)
    (hsw2 : ∀ X : Cx, X.env.scope = scope → swapsWith e2 (some (.Subscript (.Name nm p9) (.Constant (.str kg) j5 p10) p11)) p12.line X.env = pure false)
    (h1 : ∀ (cdv : Value) (A : Around) (outer : List PySem.Env) (s : Shared) (H : Hp) (E : XK) (G : Gh), G.cls = cls → G.xf = none → Room k (A.deeper (envOfC qual scope s.heap.objs.size fa cdv)) →
      SE (cxOf (L2.CX P w) P w K mg base N qual scope fa cdv A outer s H E) G W0 e1 ef ∧ SE (cxOf (L2.CX P w) P w K mg base N qual scope fa cdv A outer s H E) G W0 e2 el)
    (g1 : ∀ ns, PP ns → ef (startE N.length [.scr ns]) none = .ok (.o 0) (.lst ((cs ns).map D.int)) none)
    (g2 : ∀ ns p, PP ns → el ((startE N.length [.scr ns]).set 1 (some (0, .raw p))) none = .ok (.o 1) (.lst ((gs ns).map D.int)) none) :
    FnOk P w K mg base (L2.CX P w) (k + 1) fa fd [sc] (spBeg K PP cs gs) := by
  subst hk1 hk2 hk3 hbody
  refine Fd.ok S (fun vs H Q E h => ?_) fun cdv A outer s H vs Q E hr h => ?_
  · obtain ⟨a, ns, rfl, _⟩ := h
    rfl
  obtain ⟨a, ns, rfl, hP, hS, q⟩ := h
  obtain ⟨⟨t1, pe1, hh1⟩, ⟨t2, pe2, hh2⟩⟩ := h1 cdv A outer s H E ⟨H, H, none, cls, none⟩ rfl rfl hr
  have hu : (A.deeper (envOfC qual scope s.heap.objs.size fa cdv)).units + 1 < cLine := by
    have := hr.units
    omega
  have hX : (cxOf (L2.CX P w) P w K mg base N qual scope fa cdv A outer s H E).env.scope = scope := rfl
  have hv : Vis (cxOf (L2.CX P w) P w K mg base N qual scope fa cdv A outer s H E).env.scope nm := Or.inl hl
  refine ⟨_, pss_cons (ps_set (i := 1) S.nd hn (.inl hl) (pe_disp (pps_cons pe_str pe1 (pps_cons pe_str (pe_lst pa_nil) (pps_cons pe_str pe_int pps_nil))) rfl rfl (by simp) (by show 3 ≤ 15; omega)) (hsw _ hX) (.inr hl))
    (pss_cons (ps_dput hu (pe_var hn hv hdb hcd) pe_str pe2 (hsw2 _ hX)) (pss_one (ps_ret (pe_var hn hv hdb hcd)))), ?_⟩
  intro p np
  have r0 : R K ⟨H, H, none, cls, none⟩ (startE N.length [.scr ns]) none (L2.start N [V.ref a]) H ⟨H, H, fun _ => none⟩ := start_R (ds := [.scr ns]) hN (by show 1 ≤ N.length; omega) ⟨_, _, rfl, ⟨a, rfl, hS⟩, rfl⟩ (Same.refl _) trivial (fun _ m => m.elim) (fun T h => by cases h)
  have r1 := r0.beside (p := p) (o := .dK []) np np (fun m => m)
  refine hh1 _ _ _ none _ _ r1 ?_
  rw [g1 ns hP]
  intro vc H2 Z2 x2 r2 tc
  obtain ⟨cc, us, rfl, hcc, hus⟩ := tc
  rw [hus.ofInts] at hcc
  have hp2 : H2 p = some (.dK []) := x2.keep p _ upd_same (fun m => m)
  refine ⟨Nat.zero_le _, fun o no => ⟨?_, [(Sum.inr ("cells" : Str), .ref cc), (Sum.inr ("great" : Str), .ref o), (Sum.inr ("spot" : Str), .int 0)], rfl, by show 3 ≤ 15; omega, ?_⟩⟩
  · rw [upd_ne (fun z => by
      rw [z] at hp2
      rw [no] at hp2
      cases hp2)]
    exact hp2
  have em : mergeK [] [(Sum.inr ("cells" : Str), V.ref cc), (Sum.inr ("great" : Str), V.ref o), (Sum.inr ("spot" : Str), V.int 0)] = [(Sum.inr ("cells" : Str), V.ref cc), (Sum.inr ("great" : Str), V.ref o), (Sum.inr ("spot" : Str), V.int 0)] := by rfl
  rw [em]
  have nbp : Z2.b p = none := by
    cases z : Z2.b p with
    | none => rfl
    | some u =>
      have := x2.newb p u z np
      rw [upd_same] at this
      cases this
  have r3 := (r2.beside (p := o) (o := .lst []) (r2.nb no) (r2.n0 no) (fun m => m)).beside (p := p) (o := .dK [(Sum.inr ("cells" : Str), V.ref cc), (Sum.inr ("great" : Str), V.ref o), (Sum.inr ("spot" : Str), V.int 0)]) nbp np (fun m => m)
  have r4 := r3.env_raw 1 (.ref p)
  refine hh2 _ _ _ none Z2 _ r4 ?_
  rw [g2 ns _ hP]
  intro vg H5 Z5 x5 r5 tg
  obtain ⟨cg, rfl, hog, us2, hbg, hus2⟩ := tg
  rw [hus2.ofInts] at hbg
  have hp5 : H5 p = some (.dK [(Sum.inr ("cells" : Str), V.ref cc), (Sum.inr ("great" : Str), V.ref o), (Sum.inr ("spot" : Str), V.int 0)]) := x5.keep p _ upd_same (fun m => m)
  have hcc5 : H5 cc = some (.lst ((cs ns).map V.int)) := r5.bh _ _ (r5.fb _ _ (x5.ff _ _ hcc))
  have hcg5 : H5 cg = some (.lst ((gs ns).map V.int)) := r5.bh _ _ hbg
  have ncp : cc ≠ p := fun z => by
    rw [z, hp5] at hcc5
    cases hcc5
  have ngp : cg ≠ p := fun z => by
    rw [z, hp5] at hcg5
    cases hcg5
  have ncg : cc ≠ cg := fun z => by
    have h1 := (r5.own cg _ hog).1
    rw [← z, x5.ff _ _ hcc] at h1
    cases h1
  have hsl : ((L2.start N [V.ref a]).set 1 (some (V.ref p)))[1]? = some (some (V.ref p)) := List.getElem?_set_self (by
    rw [r0.len]
    show 1 < (startE N.length [D.scr ns]).length
    unfold startE
    rw [List.length_append, List.length_map, List.length_replicate]
    show 1 < 1 + (N.length - 1)
    omega)
  have ep : putK ([(Sum.inr ("cells" : Str), V.ref cc), (Sum.inr ("great" : Str), V.ref o), (Sum.inr ("spot" : Str), V.int 0)] : List (Key × V)) (Sum.inr ("great" : Str)) (V.ref cg) = [(Sum.inr ("cells" : Str), V.ref cc), (Sum.inr ("great" : Str), V.ref cg), (Sum.inr ("spot" : Str), V.int 0)] := by rfl
  refine ⟨.ref p, hsl, p, _, rfl, .inl ⟨_, Sum.inr ("great" : Str), hp5, rfl, by show 3 < sizeLine; rw [sizeLine_eq]; omega, rfl⟩, .ref p, hsl, ?_⟩
  rw [ep]
  refine q p cc cg _ np (r5.own cg _ hog).2.1 (Ne.symm ngp) (fun b u e => ?_) upd_same ncp ncg ((upd_ne ncp).trans hcc5) ((upd_ne ngp).trans hcg5)
  have nb : b ≠ p := fun z => by
    rw [z, np] at e
    cases e
  exact (upd_ne nb).trans (r5.aft.keep b u e (fun m => m))
/-! ### the law -/
/-- what is asked of the law's def -/
def spTop (K : PySem.W.Frag) (P : List Int → Prop) (T : List (Addr × Str)) : Sp := fun vs H Q _ => ∃ (a : Addr) (ns : List Int), vs = [.ref a] ∧ P ns ∧ SqL K H a (ns.map V.int) ∧ (∀ p ∈ T, H p.1 = some (.tbl #[])) ∧ ∀ H', Q (.bl true) H'
theorem top_ok {x qual y : Str} {params : Arguments} {body rest : List Stmt} {scope : Scope} {kws : List (Str × V)} {fa fb : Addr} {fd fdb : FuncData} {N : List Str} {nm sc : Str} {k : Nat} {F : FS} {PP : List Int → Prop} {cs gs : List Int → List Int}
    {p1 p2 p3 p4 p5 : Pos}
    (Fd : FunD K x qual params body scope [] kws fa fd) (S : FnScope N [sc] scope) (hN : N.length < 1000) (h2 : 2 ≤ N.length) (hn0 : N[0]? = some sc) (hn : N[1]? = some nm) (hl : scope.names.lookup nm = some .local) (hl0 : scope.names.lookup sc = some .local)
    (hdb : (sc == ("__debug__" : Str)) = false) (hcd : (sc == ("__classdict__" : Str)) = false) (hdy : (y == ("__debug__" : Str)) = false)
    (hbody : body = .Assign [.Name nm p1] (.Call (.Name y p2) [.Name sc p3] [] p4) p5 :: rest)
    (Fb : FnOk P w K mg base (L2.CX P w) k fb fdb [sc] (spBeg K PP cs gs)) (hy : mg y = some (.ref fb)) (kb : PySem.W.keepIn K (.ref fb) = true) (bb : Binds K fdb [sc] []) (hgl : scope.names.lookup y = some .globalImplicit)
    (hsw : ∀ X : Cx, X.env.scope = scope → swapsWith (.Call (.Name y p2) [.Name sc p3] [] p4) (some (.Name nm p1)) p5.line X.env = pure false)
    (hst : ∀ X : Cx, starEach [.Name sc p3] X.env = (false, eval (.Name sc p3) X.env) :: starEach [] X.env) (hpl : ∀ X : Cx, (backTo p4 (starEach [] X.env)).any (·.1) = false)
    (hb : ∀ (cdv : Value) (A : Around) (outer : List PySem.Env) (s : Shared) (H : Hp) (E : XK) (G : Gh), G.cls = cls → G.xf = none → Room k (A.deeper (envOfC qual scope s.heap.objs.size fa cdv)) →
      SB (cxOf (L2.CX P w) P w K mg base N qual scope fa cdv A outer s H E) G (fun c d _ H => E c d H) rest F)
    (math : ∀ (ns : List Int) (m : MSt), PP ns → m.cells = cs ns → m.great = gs ns → m.spot = 0 → m.tb = cls.tb → ∃ ms', F ((startE N.length [.scr ns]).set 1 (some (0, .raw (.ref m.am)))) (some m) = .rt (.bl true) ms') :
    FnOk P w K mg base (L2.CX P w) (k + 1) fa fd [sc] (spTop K PP cls.tb) := by
  subst hbody
  refine Fd.ok S (fun vs H Q E h => ?_) fun cdv A outer s H vs Q E hr h => ?_
  · obtain ⟨a, ns, rfl, _⟩ := h
    rfl
  obtain ⟨a, ns, rfl, hP, hS, hTb, q⟩ := h
  have hX : (cxOf (L2.CX P w) P w K mg base N qual scope fa cdv A outer s H E).env.scope = scope := rfl
  have hv : Vis (cxOf (L2.CX P w) P w K mg base N qual scope fa cdv A outer s H E).env.scope sc := Or.inl hl0
  have pr : PSs (cxOf (L2.CX P w) P w K mg base N qual scope fa cdv A outer s H E) rest (fun D σ H' => ∃ G : Gh, (G.cls = cls ∧ G.xf = none) ∧ tS K G (fun c d _ H => E c d H) F D σ H') :=
    ⟨fun pins s' σ H' D I ⟨G, ⟨hc, hx⟩, t⟩ => (hb cdv A outer s H E G hc hx hr).run pins s' σ H' D I t⟩
  refine ⟨_, pss_cons (ps_set (i := 1) S.nd hn (.inl hl) (pe_callSD (E := fun σ c d H => E c d H) Fb hr (show Gl _ _ from hgl) hy kb bb .nil (fun σ => passAt (W := fun c d _ H => E c d H) (takes_of rfl rfl rfl rfl) σ) (pa_cons (pe_var hn0 hv hdb hcd) pa_nil (hst _)) hdy (hst _) (hpl _)) (hsw _ hX) (.inr hl)) pr, ?_⟩
  have e0 : (L2.start N [V.ref a])[0]? = some (some (V.ref a)) := rfl
  refine ⟨.ref a, e0, a, ns, rfl, hP, hS, fun am cc cg H' nam ncg nag sm ham nca ncc2 hcc hcg => ?_⟩
  let m : MSt := ⟨am, cc, cg, cs ns, gs ns, 0, cls.tb⟩
  obtain ⟨ms', hF⟩ := math ns m hP rfl rfl rfl rfl
  classical
  let f : Hp := fun b => if mfp (some m) b then none else H' b
  have fn : ∀ b, ¬ mfp (some m) b → f b = H' b := fun b n => if_neg n
  have hf : Same f H' := fun b o e => by
    by_cases z : mfp (some m) b
    · have e' : f b = none := if_pos z
      rw [e'] at e
      cases e
    · rw [fn b z] at e
      exact e
  have tb' : ∀ p ∈ cls.tb, H' p.1 = some (.tbl #[]) := fun p hp => sm _ _ (hTb p hp)
  have nsc : ∀ {z : HO}, H a = some z → (∀ ps, z ≠ .tbl ps) → ¬ mfp (some m) a := fun {z} h n q => by
    rcases q with e | e | ⟨q, hq⟩
    · have e' : a = am := e
      rw [e', nam] at h
      cases h
    · have e' : a = cg := e
      rw [e', ncg] at h
      cases h
    · have h2 := hTb _ hq
      have h3 : H a = some (.tbl #[]) := h2
      rw [h3] at h
      exact n _ (Option.some.inj h).symm
  have hsf : SqL K f a (ns.map V.int) := by
    rcases hS with (hS | ⟨o, hS⟩) | hS
    · exact .inl (.inl ((fn a (nsc hS (fun ps z => by cases z))).trans (sm _ _ hS)))
    · exact .inl (.inr ⟨o, (fn a (nsc hS (fun ps z => by cases z))).trans (sm _ _ hS)⟩)
    · exact .inr hS
  have ncc : ¬ mfp (some m) cc := fun q => by
    rcases q with e | e | ⟨q, hq⟩
    · exact nca e
    · exact ncc2 e
    · have h3 : H' cc = some (.tbl #[]) := tb' _ hq
      rw [h3] at hcc
      cases hcc
  have hm : MRep f H' (some m) := ⟨ham, (fn cc ncc).trans hcc, hcg, nag, fun p hp => ⟨#[], tb' p hp, True.intro, fun pos cv hc => by
    have z : codeAmong pos [] = some cv := hc
    simp [codeAmong] at z⟩⟩
  have r0 : R K ⟨H', f, some m, cls, none⟩ (startE N.length [.scr ns]) (some m) (L2.start N [V.ref a]) H' ⟨f, f, fun _ => none⟩ :=
    start_R (ds := [.scr ns]) hN (by show 1 ≤ N.length; omega) ⟨_, _, rfl, ⟨a, rfl, hsf⟩, rfl⟩ hf hm (fun b e => if_pos e) (fun T h => by
      cases h
      rfl)
  refine ⟨⟨H', f, some m, cls, none⟩, ⟨rfl, rfl⟩, _, some m, ⟨f, f, fun _ => none⟩, r0.env_raw 1 (.ref am), ?_⟩
  rw [hF]
  intro v σ H3 Z3 env s3 r3 qv
  have e : v = .bl true := qv
  rw [e]
  exact q H3
end
end DL
namespace DL
open PySem PySem.Spec PyProof.Rows L2

/-! ### defs as their callers have them -/
/-- a def of the module, as the head gives it -/
structure DefT (K : PySem.W.Frag) (mg : Str → Option Value) (x : Str) (st : Stmt) (dvs : List V) : Prop where
  ex : ∃ (f : Addr) (fd : FuncData), FunD K x x (defArgs st) (defBody st) (defScope st) dvs [] f fd ∧ mg x = some (.ref f)
/-- .. with what it computes: called with the last defaults dds -/
structure CalF (P : Program) (w : World) (K : PySem.W.Frag) (mg : Str → Option Value) (base : Heap) (cls : ClT) (x : Str) (n k : Nat) (dds : List D) (g : Fn) : Prop where
  ex : ∃ (f : Addr) (fd : FuncData) (ps : List Str) (dvs : List V) (dus : List Value), FnOk P w K mg base (L2.CX P w) k f fd ps (spF K cls n g) ∧ mg x = some (.ref f) ∧ PySem.W.keepIn K (.ref f) = true ∧ Binds K fd ps dus ∧ Vals dvs dus ∧ ∀ H, RepL K H dds dvs
/-- .. called by keywords alone -/
structure CalK (P : Program) (w : World) (K : PySem.W.Frag) (mg : Str → Option Value) (base : Heap) (cls : ClT) (x : Str) (n k : Nat) (ks : List Str) (gp : {α : Type} → List α → List α → List α) (g : Fn) : Prop where
  ex : ∃ (f : Addr) (fd : FuncData) (ps : List Str), FnOk P w K mg base (L2.CX P w) k f fd ps (spF K cls n g) ∧ mg x = some (.ref f) ∧ PySem.W.keepIn K (.ref f) = true ∧ KwB K fd ps 0 ks gp
/-- the promise itself -/
abbrev OkD (P : Program) (w : World) (K : PySem.W.Frag) (mg : Str → Option Value) (base : Heap) (cls : ClT) (x : Str) (st : Stmt) (dvs : List V) (ps : List Str) (n k : Nat) (g : Fn) : Prop :=
  ∀ (f : Addr) (fd : FuncData), FunD K x x (defArgs st) (defBody st) (defScope st) dvs [] f fd → FnOk P w K mg base (L2.CX P w) k f fd ps (spF K cls n g)
theorem room_dp {k : Nat} {A : Around} (h : Room (k + 2) A) : A.depth + 10 < recursionLimit := by
  have := h.dp
  omega
section
variable {X : Cx} {G : Gh} {W : WX} {e : Expr} {es : List Expr} {fl : EL} {pos p : Pos}
theorem se_f {n k j : Nat} {g : Fn} {x : Str} {dds : List D} (tk : Takes X W) (F : CalF X.prog X.w X.K X.mg X.base G.cls x n k dds g) (hr : Room j X.A) (ha : SA X G W (e :: es) fl) (hkj : k ≤ j := by decide) (hg : Gl X x := by rfl)
    (hdb : (x == ("__debug__" : Str)) = false := by decide) (he : starEach (e :: es) X.env = (false, eval e X.env) :: starEach es X.env := by rfl) (hpl : (backTo pos (starEach es X.env)).any (·.1) = false := by rfl) :
    SE X G W (.Call (.Name x p) (e :: es) [] pos) (eCall n g dds fl) := by
  obtain ⟨f, fd, ps, dvs, dus, h1, h2, h3, h4, h5, h6⟩ := F.ex
  exact se_call tk h1 (hr.mono hkj) h2 h3 h4 h5 h6 ha hg hdb he hpl
theorem se_k {n k j : Nat} {g : Fn} {x : Str} {ks : List Str} {kws : List Keyword} {fk : EL} {gp : {α : Type} → List α → List α → List α} (tk : Takes X W) (F : CalK X.prog X.w X.K X.mg X.base G.cls x n k ks gp g) (hr : Room j X.A) (ha : SK X G W kws fk)
    (hkj : k ≤ j := by decide) (hg : Gl X x := by rfl) (hall : (backToKw pos (keywordEach kws X.env)).all (·.1.isSome) = true := by rfl)
    (hks : (backToKw pos (keywordEach kws X.env)).filterMap (·.1) = ks := by rfl) (hdb : (x == ("__debug__" : Str)) = false := by decide)
    (hpl : ((backTo pos (starEach [] X.env)).any (·.1) || (backToKw pos (keywordEach kws X.env)).any (·.1.isNone)) = false := by rfl) :
    SE X G W (.Call (.Name x p) [] kws pos) (eCallK n g 0 ks.length gp lNil fk) := by
  obtain ⟨f, fd, ps, h1, h2, h3, h4⟩ := F.ex
  exact se_callK0 tk h1 (hr.mono hkj) h2 h3 h4 ha hg hall hks hdb hpl
end
section
variable {P : Program} {w : World} {K : PySem.W.Frag} {mg : Str → Option Value} {base : Heap} {cls : ClT} {x : Str} {st : Stmt} {ps : List Str} {n k : Nat} {g : Fn}
theorem CalF.mk0 (t : DefT K mg x st []) (h : OkD P w K mg base cls x st [] ps n k g)
    (hb : ∀ (kV doc pm : Value) (an : Option Addr) (cdv ct : Value) (us : List Value), us.length = ps.length → bindArgs (PySem.W.fnOf x x (defArgs st) (defBody st) (defScope st) .none kV doc pm an cdv ct) ⟨us, []⟩ = pure (ps.zip us)) : CalF P w K mg base cls x n k [] g := by
  obtain ⟨f, fd, F, hm⟩ := t.ex
  exact ⟨f, fd, ps, [], [], h f fd F, hm, F.kp, F.bindsN hb, .nil, fun _ => rfl⟩
theorem CalF.mk1 {dvs : List V} {dds : List D} (m j : Nat) (t : DefT K mg x st dvs) (h : OkD P w K mg base cls x st dvs ps n k g) (hd : dvs ≠ []) (hn : m + (dvs.length - j) = ps.length)
    (hb : ∀ (T : Addr) (kV doc pm : Value) (an : Option Addr) (cdv ct : Value) (us its : List Value), us.length = m → its.length = dvs.length →
      ∃ k, bindArgs (PySem.W.fnOf x x (defArgs st) (defBody st) (defScope st) (.ref T) kV doc pm an cdv ct) ⟨us, []⟩ = seqItems? (.ref T) >>= k ∧ k (some its.toArray) = pure (ps.zip (us ++ its.drop j))) (hdd : ∀ H, RepL K H dds (dvs.drop j)) : CalF P w K mg base cls x n k dds g := by
  obtain ⟨f, fd, F, hm⟩ := t.ex
  obtain ⟨ds, h1, h2⟩ := F.binds1 m j hd hn hb
  exact ⟨f, fd, ps, _, ds, h f fd F, hm, F.kp, h2, h1, hdd⟩
theorem CalK.mk0 {ks : List Str} {gp : {α : Type} → List α → List α → List α} (t : DefT K mg x st []) (h : OkD P w K mg base cls x st [] ps n k g)
    (hb : ∀ (kV doc pm : Value) (an : Option Addr) (cdv ct : Value) (ws : List Value), ws.length = ks.length → bindArgs (PySem.W.fnOf x x (defArgs st) (defBody st) (defScope st) .none kV doc pm an cdv ct) ⟨[], ks.zip ws⟩ = pure (ps.zip (gp [] ws)))
    (hnat : ∀ {α β : Type} {Rr : α → β → Prop} {as : List α} {bs : List β} {cs : List α} {ds : List β}, Paired Rr as bs → Paired Rr cs ds → as.length = 0 → cs.length = ks.length → Paired Rr (gp as cs) (gp bs ds)) : CalK P w K mg base cls x n k ks gp g := by
  obtain ⟨f, fd, F, hm⟩ := t.ex
  refine ⟨f, fd, ps, h f fd F, hm, F.kp, ⟨fun s us ws X hl hl2 => ?_, hnat⟩⟩
  have e : us = [] := List.length_eq_zero_iff.mp hl
  subst e
  obtain ⟨oc, od, dV, kV, doc, pm, an, cdv, ct, osl, rfl, lk, hcd, hD, hK⟩ := F.ex
  rcases hD with ⟨_, rfl⟩ | ⟨e, _⟩
  · exact .of_eq (hb kV doc pm an cdv ct ws hl2)
  · exact absurd rfl e
theorem DefT.mk0 {f : Addr} {oc : Value} {od an : Option Addr} {osl : Array (Option Value)} {kV doc pm cdv ct : Value} (X : ∃ h : Heap, K.In h ∧ h.Ns mainGlobals mg) (a : PySem.W.nsIn K mainGlobals x = some (some (.ref f)))
    (l : K.lookup f = some ⟨oc, od, .func (PySem.W.fnOf x x (defArgs st) (defBody st) (defScope st) .none kV doc pm an cdv ct), osl⟩) (c : PySem.W.codeIn K cdv x = true) (kp : PySem.W.keepIn K (.ref f) = true) : DefT K mg x st [] := by
  obtain ⟨h, h1, h2⟩ := X
  exact ⟨f, _, ⟨⟨oc, od, .none, kV, doc, pm, an, cdv, ct, osl, rfl, l, c, .inl ⟨rfl, rfl⟩, .inl rfl⟩, kp⟩, PySem.W.mg_of h1 h2 a⟩
theorem DefT.mk1 {f T : Addr} {oc : Value} {od an odt : Option Addr} {osl osl2 : Array (Option Value)} {kV doc pm cdv ct oct : Value} {its : List Value} {m : Nat} {dvs : List V} (X : ∃ h : Heap, K.In h ∧ h.Ns mainGlobals mg) (hd : dvs ≠ []) (a : PySem.W.nsIn K mainGlobals x = some (some (.ref f)))
    (l : K.lookup f = some ⟨oc, od, .func (PySem.W.fnOf x x (defArgs st) (defBody st) (defScope st) (.ref T) kV doc pm an cdv ct), osl⟩) (lT : K.lookup T = some ⟨oct, odt, .seq its.toArray m, osl2⟩) (hv : Vals dvs its) (c : PySem.W.codeIn K cdv x = true) (kp : PySem.W.keepIn K (.ref f) = true) : DefT K mg x st dvs := by
  obtain ⟨h, h1, h2⟩ := X
  exact ⟨f, _, ⟨⟨oc, od, .ref T, kV, doc, pm, an, cdv, ct, osl, rfl, l, c, .inr ⟨hd, T, _, its, m, rfl, lT, rfl, hv⟩, .inl rfl⟩, kp⟩, PySem.W.mg_of h1 h2 a⟩
/-- no def of its own below it is called: a false promise holds at every level -/
theorem okD_never (t : DefT K mg x st []) (hps : ∀ vs H Q E, spF K cls n g vs H Q E → False) : OkD P w K mg base cls x st [] ps n k g := fun f fd F =>
  ⟨fun vs H Q E h => (hps vs H Q E h).elim, fun A outer s H args us vs Q E _ _ _ _ h => (hps vs H Q E h).elim⟩
end
end DL
namespace DL
open PySem PySem.Spec PyProof.Rows L2
/-- the first def in a class -/
def clsDef (s : Stmt) : Stmt := match s with
  | .ClassDef _ _ _ body _ _ _ _ _ _ _ => body.getD 0 (.Pass ⟨0, 0, 0, 0⟩)
  | _ => .Pass ⟨0, 0, 0, 0⟩
/-- __init__ says super().__init__(text), then self.fld = par -/
structure ShapeC (P : Program) (ci : Stmt) (fld par : Str) : Prop where
  ex : ∃ (msg : Str) (j : Nat) (p0 p1 p2 p3 p4 p5 p6 p7 p8 p9 : Pos) (rest : List Arg) (as : Arg),
    defBody ci = [.Expr (.Call (.Attribute (.Call (.Name "super" p0) [] [] p1) "__init__" p2) [.Constant (.str msg) j p3] [] p4) p5, .Assign [.Attribute (.Name "self" p6) fld p7] (.Name par p8) p9] ∧
    (defArgs ci).posonlyargs ++ (defArgs ci).args = as :: rest ∧ as.arg = "self" ∧ par ≠ "self" ∧
    (∀ (qual : Str) (kV doc pm ct : Value) (an : Option Addr) (cda cc : Addr) (a b : Value), bindArgs (PySem.W.ksFn "__init__" qual (defArgs ci) (defBody ci) (defScope ci) .none kV doc pm an (.ref cda) ct cc) ⟨[a, b], []⟩ = pure [(("self" : Str), a), (par, b)]) ∧
    (defScope ci).names.lookup ("super" : Str) = some .globalImplicit ∧ (defScope ci).names.lookup ("__class__" : Str) = some .free ∧ (defScope ci).names.lookup ("self" : Str) = some .local ∧ (defScope ci).names.lookup par = some .local ∧
    (defScope ci).kind = .function ∧ (defScope ci).isCoroutine = false ∧ (defScope ci).isGenerator = false ∧ (∀ x ∈ (defScope ci).names, x.2 ≠ .cell) ∧ (par == ("__debug__" : Str)) = false ∧ (P.main.scope.names.lookup ("super" : Str)).isSome = false ∧
    (∀ env : PySem.Env, ∃ pl : Sem Bool, eval (.Call (.Attribute (.Call (.Name "super" p0) [] [] p1) "__init__" p2) [.Constant (.str msg) j p3] [] p4) env = (do
      let ov ← attributeBase (.Call (.Name "super" p0) [] [] p1) "__init__" env (eval (.Call (.Name "super" p0) [] [] p1) env)
      standAt p2.atName
      let (f, first) ← holding [ov] (getMethod ov "__init__" pl)
      callWith p4 f first (backTo p4 (starEach [.Constant (.str msg) j p3] env)) []))
theorem supc_mk {P : Program} {K : PySem.W.Frag} {C : Addr} {fld : Str} {B newId initId : String} {bmB : List Value} {par : Str} {ci : Stmt} {fI cc cda : Addr} {qual : Str} {kV doc pm ct oc1 oc2 : Value} {an od od1 od2 : Option Addr} {osl sl1 sl2 : Array (Option Value)} {vs : Array Value} {file : Str} {tf : Tok} {cd : ClassData}
    (fb : ExcBaseFacts B newId initId bmB) (kf : PySem.W.KxsFacts B initId) (sf : StoreFacts B bmB "object.__setattr__" "object") (sh : ShapeC P ci fld par)
    (ini : PySem.W.excInitIn K C bmB newId = true) (ov : PySem.W.excOver K C bmB = true) (tk : PySem.W.takerIn K C fld = some none) (hd : PySem.W.hasDictIn K C = true)
    (sa : PySem.W.findIn K (.ref C) "__setattr__" = some (some (.builtin "object.__setattr__"))) (sub : PySem.W.mroIn K C (.ref C) = some true) (su : PySem.W.ks_superIn K C C "__init__" = some (some (.builtin initId)))
    (sB : PySem.W.subIn K (.ref C) (.type B) = some true) (third : PySem.W.nsIn K cStatics "thirdparty.any" = some none) (exC : PySem.W.subIn K (.ref C) (.type "BaseException") = some true) (tyC : PySem.W.typeIn K (.ref C) = some (.type "type")) (kC : PySem.W.keepIn K (.ref C) = true)
    (cl : PySem.W.clsIn K C = some cd) (hi : PySem.W.findIn K (.ref C) "__init__" = some (some (.ref fI)))
    (l : K.lookup fI = some ⟨.type "function", od, .func (PySem.W.ksFn "__init__" qual (defArgs ci) (defBody ci) (defScope ci) .none kV doc pm an (.ref cda) ct cc), osl⟩)
    (cq : PySem.W.codeIn K (.ref cda) qual = true) (lc : K.lookup cda = some ⟨oc1, od1, .fields vs, sl1⟩) (hv : vs[2]? = some (.str file tf)) (hf : ((P.main.file : Str) == file) = true) (lcell : K.lookup cc = some ⟨oc2, od2, .cell (some (.ref C)), sl2⟩) :
    SupC P K C fld B newId initId bmB par := by
  obtain ⟨msg, j, p0, p1, p2, p3, p4, p5, p6, p7, p8, p9, rest, as, s1, s2, s3, s4, s5, s6, s7, s8, s9, s10, s11, s12, s13, s14, s15, s16⟩ := sh.ex
  have s5' := fun a b => s5 qual kV doc pm ct an cda cc a b
  rw [s1] at l s5'
  exact ⟨fb, kf, sf, ini, ov, tk, hd, sa, sub, su, sB, third, exC, tyC, kC, ⟨cd, cl⟩, ⟨fI, cc, cda, qual, defScope ci, defArgs ci, msg, j, p0, p1, p2, p3, p4, p5, p6, p7, p8, p9, .none, kV, doc, pm, ct, an, od, osl, vs, file, tf, oc1, oc2, od1, od2, sl1, sl2, rest, as,
    hi, l, cq, lc, hv, hf, lcell, s2, s3, s4, s5', s6, s7, s8, s9, s10, s11, s12, s13, s14, s15, s16⟩, rfl⟩
theorem mem_cons2 {α : Type} {p : α → Prop} {a : α} {l : List α} (h : p a) (t : ∀ n ∈ l, p n) : ∀ n ∈ a :: l, p n := fun n hn => by
  rcases List.mem_cons.mp hn with rfl | hn
  · exact h
  · exact t n hn
theorem mem_nil2 {α : Type} {p : α → Prop} : ∀ n ∈ ([] : List α), p n := fun n hn => by cases hn
end DL
namespace DL
open PySem PySem.Spec PyProof.Rows L2

/-! ## plain lemmas -/
theorem deq_int (a b : Int) : deq (.int a) (.int b) = some (decide (a = b)) := by
  show (if (SeqAt.shaped (.int a) && SeqAt.shaped (.int b)) = true then some (PyData.eqv (.int a) (.int b)) else none) = _
  have h : ∀ x : Int, SeqAt.shaped (.int x) = true := fun x => by simp [SeqAt.shaped, PyData.canLay0, PyData.depth]
  rw [h, h]
  simp [PyData.eqv]
  rfl
theorem toPyL_ints : ∀ ns : List Int, toPyL (ns.map D.int) = some (ns.map PyData.int)
  | [] => rfl
  | n :: ns => by simp [toPyL, toPy, toPyL_ints ns]
theorem shaped_tupI (ns : List Int) : SeqAt.shaped (.tuple (ns.map PyData.int)) = true := by
  simp [SeqAt.shaped, PyData.canLay0, PyData.depth, canLay_ints, depth_ints]
theorem eqvAll_ints : ∀ xs ys : List Int, PyData.eqvAll (xs.map PyData.int) (ys.map PyData.int) = decide (xs = ys)
  | [], [] => by simp [PyData.eqvAll]
  | [], y :: ys => by simp [PyData.eqvAll]
  | x :: xs, [] => by simp [PyData.eqvAll]
  | x :: xs, y :: ys => by
    simp only [List.map_cons, PyData.eqvAll, PyData.eqv, eqvAll_ints xs ys, List.cons.injEq]
    by_cases h : x = y <;> by_cases h2 : xs = ys <;> simp [h, h2]
theorem deq_tupI (xs ys : List Int) : deq (.tup (xs.map D.int)) (.tup (ys.map D.int)) = some (decide (xs = ys)) := by
  have e : ∀ ns : List Int, toPy (.tup (ns.map D.int)) = some (.tuple (ns.map PyData.int)) := fun ns => by
    show (toPyL (ns.map D.int)).map _ = _
    rw [toPyL_ints]
    rfl
  unfold deq
  rw [e, e]
  dsimp only
  rw [shaped_tupI, shaped_tupI]
  simp [PyData.eqv, eqvAll_ints]
theorem deq_tup0 (xs : List Int) : deq (.tup (xs.map D.int)) (.tup []) = some (decide (xs = [])) := deq_tupI xs []
theorem atI_pos {α : Type} (xs : List α) (n : Nat) : atI xs (n : Int) = xs[n]? := by
  unfold atI ixN
  by_cases h : n < xs.length
  · rw [if_pos (by omega), if_pos (by omega)]
    simp
  · rw [if_pos (by omega), if_neg (by omega)]
    simp
    omega
theorem atI_0 {α : Type} (x : α) (xs : List α) : atI (x :: xs) 0 = some x := by
  have := atI_pos (x :: xs) 0
  simpa using this
theorem atI_1 {α : Type} (x y : α) (xs : List α) : atI (x :: y :: xs) 1 = some y := by
  have := atI_pos (x :: y :: xs) 1
  simpa using this
theorem atI_neg1 {α : Type} (xs : List α) : atI xs (-1) = xs.getLast? := by
  unfold atI ixN
  cases xs with
  | nil => rfl
  | cons x r =>
    rw [if_neg (by omega), if_pos (by simp; omega), List.getLast?_eq_getElem?]
    show (x :: r)[(-1 + ((x :: r).length : Int)).toNat]? = _
    congr 1
    simp
    omega
theorem enumD_cons (n : Nat) (d : D) (ds : List D) : enumD n (d :: ds) = .tup [.int n, d] :: enumD (n + 1) ds := rfl
theorem forF_nil (gp : GP) (body : FS) (env : Env) (ms : MS) : forF gp body [] env ms = .nx env ms := rfl
theorem forF_nx {gp : GP} {body : FS} {d : D} {ds : List D} {env env1 env2 : Env} {ms ms2 : MS} (h1 : gp d env = some env1) (h2 : body env1 ms = .nx env2 ms2) : forF gp body (d :: ds) env ms = forF gp body ds env2 ms2 := by
  simp only [forF, h1, h2]
theorem forF_rt {gp : GP} {body : FS} {d r : D} {ds : List D} {env env1 : Env} {ms ms2 : MS} (h1 : gp d env = some env1) (h2 : body env1 ms = .rt r ms2) : forF gp body (d :: ds) env ms = .rt r ms2 := by
  simp only [forF, h1, h2]
theorem forF_ex {gp : GP} {body : FS} {d r : D} {c : String} {ds : List D} {env env1 env2 : Env} {ms ms2 : MS} (h1 : gp d env = some env1) (h2 : body env1 ms = .ex c r env2 ms2) : forF gp body (d :: ds) env ms = .ex c r env2 ms2 := by
  simp only [forF, h1, h2]
/-- a loop that runs through -/
theorem forF_inv {gp : GP} {body : FS} (I : Nat → Env → MS → Prop) : ∀ (ds : List D) (i : Nat) (env : Env) (ms : MS), I i env ms →
    (∀ (j : Nat) (d : D) (env : Env) (ms : MS), ds[j]? = some d → I (i + j) env ms → ∃ env1 env2 ms2, gp d env = some env1 ∧ body env1 ms = .nx env2 ms2 ∧ I (i + j + 1) env2 ms2) →
    ∃ env' ms', forF gp body ds env ms = .nx env' ms' ∧ I (i + ds.length) env' ms'
  | [], i, env, ms, h, _ => ⟨env, ms, rfl, h⟩
  | d :: ds, i, env, ms, h, hs => by
    obtain ⟨e1, e2, m2, h1, h2, h3⟩ := hs 0 d env ms rfl h
    rw [forF_nx h1 h2]
    obtain ⟨e', m', h4, h5⟩ := forF_inv I ds (i + 1) e2 m2 h3 fun j d' env ms hd hI => by
      have := hs (j + 1) d' env ms hd (by rw [← Nat.add_assoc]; rw [Nat.add_right_comm]; exact hI)
      rwa [show i + (j + 1) + 1 = i + 1 + j + 1 by omega] at this
    refine ⟨e', m', h4, ?_⟩
    rw [List.length_cons, show i + (ds.length + 1) = i + 1 + ds.length by omega]
    exact h5
/-! ### drawing -/
def foldedI (ns : List Int) : List Int := ns
end DL
namespace DL
open PySem PySem.Spec PyProof.Rows L2
/-! ### a lambda is made: the very heap behind -/
inductive LamH (H : Hp) (P : Addr) (q : Str) (ps : Array Value) (pos : Pos) (c1 : Addr) : Hp → Prop where
  | old : codeAmong pos ps.toList = some (.ref c1) → LamH H P q ps pos c1 H
  | new : H c1 = none → LamH H P q ps pos c1 (upd (upd H P (.tbl (ps ++ #[rawInt pos.line, rawInt pos.col, .ref c1]))) c1 (LamX.CodeO c1 q))
section
variable {X : Cx} {pins : List (Addr × Obj)} {σ : Sl} {H : Hp} {s : Shared}
abbrev lamO (X : Cx) (q : Str) (params : Arguments) (body : Expr) (scope : Scope) (pm : Value) (c1 : Addr) (ctv : Value) : Obj :=
  PySem.W.kla_obj "<lambda>" q params body scope (cloFrom X.env.cells scope.names []) pm c1 ctv
theorem lam_new {c P : Addr} {q : Str} {params : Arguments} {body : Expr} {scope : Scope} {pos : Pos} {ps : Array Value} {E Q : Value → Shared → Prop} (I : Inv X pins σ H s) (TB : LamX.TabB X.base X.mg c P) (hcode : X.env.code = .ref c)
    (eq : q = X.env.qual ++ "<lambda>") (hP : H P = some (.tbl ps)) (ht : TriplesOk ps.toList) (ha : ∀ (pos : Pos) (cv : Value), codeAmong pos ps.toList = some cv → ∃ c, cv = .ref c ∧ H c = some (LamX.CodeO c q))
    (hdef : defaultsOf params X.env = ([], [])) (hfree : ∀ y ∈ scope.names, y.2 = .free → ∃ c, X.env.cells.lookup y.1 = some c)
    (go : ∀ (f c1 : Addr) (pm ctv : Value) (H1 : Hp) (s1 : Shared), Inv X pins σ H1 s1 → LamH H P q ps pos c1 H1 → s1.heap.get? f = some (lamO X q params body scope pm c1 ctv) → H1 f = none → f ∉ frs X.stack → H1 c1 = some (LamX.CodeO c1 q) → Q (.ref f) s1) :
    wpAny (model X.prog X.w) X.A (eval (.Lambda params body scope pos) X.env) Q E s := by
  subst eq
  have atP : s.heap.get? P = some { cls := .none, data := .fields ps } := I.hok P _ hP
  have out : ∀ f, s.heap.objs.size ≤ f → f ∉ frs X.stack := fun f hf z => by
    rcases List.mem_cons.mp (I.stkSub _ z) with e | e
    · have l := I.lt
      rw [← e] at l
      exact absurd hf (Nat.not_le.mpr l)
    · exact I.nofs hf e
  apply PySem.W.kla_eval hdef
  cases hc : codeAmong pos ps.toList with
  | some cv =>
    obtain ⟨c1, rfl, hco⟩ := ha pos cv hc
    exact PySem.W.kla_makeFunctionHit (mg := X.mg) (c := c) (P := P) (ps := ps) (closure_ok hfree) I.ok.glob (I.mod.glob.keeps I.bk) hcode (TB.code.keeps I.bk) atP ht hc (TB.bm.keeps I.bk) fun ctv h1 tk kp sz =>
      go h1.objs.size c1 _ ctv H _ (I.kept fun b o e => Heap.get?_push_of_some _ (kp b o e)) (.old hc) (Heap.get?_push_size _ rfl) (I.hok.fresh sz) (out _ sz) hco
  | none =>
    refine PySem.W.kla_makeFunction (mg := X.mg) (c := c) (P := P) (ps := ps) (closure_ok hfree) I.ok.glob (I.mod.glob.keeps I.bk) hcode (TB.code.keeps I.bk) atP ht hc TB.gP (TB.bm.keeps I.bk) fun c1 ctv h1 tk kp ge lt rec tb => ?_
    obtain ⟨c2, oc, vs, t, e2, r1, r2, r3⟩ := rec
    cases e2
    have sz : s.heap.objs.size ≤ h1.objs.size := by omega
    have nc : H c1 = none := I.hok.fresh ge
    have J := LamX.inv_table (q := X.env.qual ++ "<lambda>") (t' := tk) (more := #[rawInt pos.line, rawInt pos.col, .ref c1]) (h' := h1.push (lamO X (X.env.qual ++ "<lambda>") params body scope ((X.mg "__name__").getD .none) c1 ctv)) I hP
      (fun b o hb e => Heap.get?_push_of_some _ (kp b o hb e)) (Heap.get?_push_of_some _ tb) ge ⟨oc, vs, t, Heap.get?_push_of_some _ r1, r2, r3⟩
    have lP := Heap.lt_size atP
    refine go h1.objs.size c1 _ ctv _ _ J (.new nc) (Heap.get?_push_size _ rfl) ?_ (out _ sz) upd_same
    have n1 : h1.objs.size ≠ c1 := Nat.ne_of_gt lt
    have n2 : h1.objs.size ≠ P := Nat.ne_of_gt (Nat.lt_of_lt_of_le lP sz)
    rw [upd_ne n1, upd_ne n2]
    exact I.hok.fresh sz
end
section
variable {K : PySem.W.Frag} {G : Gh} {env : Env} {σ : Sl} {m : MSt} {Z : Zs} {H H1 : Hp}
theorem R.lam {P c1 : Addr} {q : Str} {ps : Array Value} {pos : Pos} (r : R K G env (some m) σ H Z) (hp : (P, q) ∈ m.tb) (hu : ∀ p ∈ m.tb, p.1 = P → p.2 = q) (hP : H P = some (.tbl ps)) (ht : TriplesOk ps.toList)
    (hc : ∀ (pos : Pos) (cv : Value), codeAmong pos ps.toList = some cv → ∃ c, cv = .ref c ∧ Z.f c = some (LamX.CodeO c q)) (l : LamH H P q ps pos c1 H1) (h1 : H1 c1 = some (LamX.CodeO c1 q)) : ∃ Z1, R K G env (some m) σ H1 Z1 ∧ Ext (some m) Z H Z1 H1 ∧ Z1.f c1 = some (LamX.CodeO c1 q) := by
  cases l with
  | old e =>
    obtain ⟨c2, e2, q2⟩ := hc _ _ e
    cases e2
    exact ⟨Z, r, r.refl, q2⟩
  | new nc =>
    have nPc : P ≠ c1 := fun z => by
      rw [z, nc] at hP
      cases hP
    have comm : upd (upd H P (.tbl (ps ++ #[rawInt pos.line, rawInt pos.col, .ref c1]))) c1 (LamX.CodeO c1 q) = upd (upd H c1 (LamX.CodeO c1 q)) P (.tbl (ps ++ #[rawInt pos.line, rawInt pos.col, .ref c1])) := by
      funext b
      by_cases z : b = c1
      · rw [z, upd_same, upd_ne (Ne.symm nPc), upd_same]
      · by_cases z2 : b = P
        · rw [z2, upd_ne nPc, upd_same, upd_same]
        · rw [upd_ne z, upd_ne z2, upd_ne z2, upd_ne z]
    rw [comm]
    have eL : (ps ++ #[rawInt pos.line, rawInt pos.col, .ref c1]).toList = ps.toList ++ [rawInt pos.line, rawInt pos.col, .ref c1] := by simp
    have r1 := r.newF (u := LamX.CodeO c1 q) nc
    have x1 := r.extF (u := LamX.CodeO c1 q) nc
    have fP : mfp (some m) P := .inr (.inr ⟨q, hp⟩)
    have hnew : Same Z.f (upd Z.f c1 (LamX.CodeO c1 q)) := same_new (r.nf nc)
    have hm : MRep (Z.newF c1 (LamX.CodeO c1 q)).f (upd (upd H c1 (LamX.CodeO c1 q)) P (.tbl (ps ++ #[rawInt pos.line, rawInt pos.col, .ref c1]))) (some m) := by
      have hP1 : upd H c1 (LamX.CodeO c1 q) P = some (.tbl ps) := (upd_ne nPc).trans hP
      have ne : ∀ {b : Addr} {o : HO}, upd H c1 (LamX.CodeO c1 q) b = some o → (∀ ps, o ≠ .tbl ps) → b ≠ P := fun e n z => by
        rw [z, hP1] at e
        exact n ps (Option.some.inj e).symm
      refine ⟨(upd_ne (ne r1.mr.1 fun ps z => by cases z)).trans r1.mr.1, r1.mr.2.1, (upd_ne (ne r1.mr.2.2.1 fun ps z => by cases z)).trans r1.mr.2.2.1, r1.mr.2.2.2.1, fun p hpm => ?_⟩
      by_cases hb : p.1 = P
      · refine ⟨_, by rw [hb, upd_same], by rw [eL]; exact PySem.TriplesOk_snoc _ _ _ _ ht, fun pos' cv hcv => ?_⟩
        rw [hu p hpm hb]
        rw [eL] at hcv
        rcases LamX.among_app _ ht hcv with z | z
        · obtain ⟨c0, e1, e2⟩ := hc pos' cv z
          exact ⟨c0, e1, hnew _ _ e2⟩
        · exact ⟨c1, z, upd_same⟩
      · obtain ⟨ps', a1, a2, a3⟩ := r1.mr.2.2.2.2 p hpm
        exact ⟨ps', (upd_ne hb).trans a1, a2, a3⟩
    have r2 := r1.draw (m' := m) fP rfl rfl rfl hm
    have x2 : Ext (some m) (Z.newF c1 (LamX.CodeO c1 q)) (upd H c1 (LamX.CodeO c1 q)) (Z.newF c1 (LamX.CodeO c1 q)) (upd (upd H c1 (LamX.CodeO c1 q)) P (.tbl (ps ++ #[rawInt pos.line, rawInt pos.col, .ref c1]))) :=
      ⟨Same.refl _, Same.refl _, fun a o e n => (upd_ne fun z => n (by rw [z]; exact fP)).trans e, (fun a o e e2 => by
        rw [e] at e2
        cases e2), r1.bm, fun _ _ h _ _ => h⟩
    exact ⟨_, r2, x1.trans (fun _ => Iff.rfl) x2, upd_same⟩
end
/-! ### the lambda is called, in the def that got it -/
section
variable {X : Cx} {pins : List (Addr × Obj)} {σ : Sl} {H : Hp} {s : Shared}
abbrev lq (X : Cx) : Str := X.env.qual ++ "<lambda>"
theorem lam_act {CXg : CXT} {Eg : XK} {Ng : List Str} {qg : Str} {sg : Scope} {g f c1 : Addr} {cdg pm ctv : Value} {params : Arguments} {body : Expr} {scope : Scope} {k i : Nat} {a : Str} {pn : List (Addr × Obj)} {xe : Value → Shared → Prop} {W : WX} {tb : XK → TE} {p1 p2 : Pos}
    (I : Inv X pins σ H s) (L : LamX.LamS X.env.scope scope) (hf : s.heap.get? f = some (lamO X (lq X) params body scope pm c1 ctv)) (hfn : H f = none) (hfr : f ∉ frs X.stack)
    (hbind : bindArgs (PySem.W.kla_fn "<lambda>" (lq X) params body scope (cloFrom X.env.cells scope.names []) pm (.ref c1) ctv) ⟨[], []⟩ = pure [])
    (tk : Takes ((cxOf CXg X.prog X.w X.K X.mg X.base Ng qg sg g cdg X.A X.stack s H Eg).tr pn xe) W) (hr : Room (k + 1) (X.A.deeper (envOfC qg sg s.heap.objs.size g cdg)))
    (hb : ∀ (A : Around) (outer : List PySem.Env) (s : Shared) (H : Hp) (E : XK), Room k (A.deeper (LamX.lamEnv X scope s.heap.objs.size f c1)) → PE (LamX.lamCx X A outer s H E scope f c1) body (tb E))
    (hN : Ng[i]? = some a) (hv : Vis sg a) (hd : (a == ("__debug__" : Str)) = false) (hcd : (a == ("__classdict__" : Str)) = false) :
    PE ((cxOf CXg X.prog X.w X.K X.mg X.base Ng qg sg g cdg X.A X.stack s H Eg).tr pn xe) (.Call (.Name a p1) [] [] p2)
      (fun σ2 H2 Q => σ2[i]? = some (some (.ref f)) ∧ H2 c1 = some (LamX.CodeO c1 (lq X)) ∧ tb (fun c d H' => W c d σ2 H') σ H2 Q) := by
  refine ⟨fun pins2 s2 σ2 H2 Q I2 ⟨hs, hc, ht⟩ => ?_⟩
  refine wpAny_Call_Name_kw (thn ((pe_var (pos := p1) (i := i) hN hv hd hcd).run pins2 s2 σ2 H2 (fun v H3 => v = .ref f ∧ H3 = H2) I2 ⟨.ref f, hs, rfl, rfl⟩) fun u s3 ⟨v, H3, I3, r3, e1, e2⟩ => ?_)
  subst e1 e2
  obtain rfl : u = Value.ref f := r3
  have of3 : s3.heap.get? f = some (lamO X (lq X) params body scope pm c1 ctv) := I3.base.keep f _ hf hfn hfr (fun z => nomatch (show f ∈ ([] : List Addr) from z))
  refine PySem.W.callWith_F0 ⟨_, _, _, _, of3⟩ ?_
  obtain ⟨⟨oc, vs, t, hoc, hdc, hvc⟩, _, _⟩ := I3.hok c1 _ hc
  have run : codeAny (model X.prog X.w) (X.A.deeper (envOfC qg sg s.heap.objs.size g cdg)) (.call (.ref f) ⟨[], []⟩) (CR (L2.CX X.prog X.w) (envOfC qg sg s.heap.objs.size g cdg :: X.stack) X.prog X.w H3 s3 Q (fun c d H' => W c d σ2 H')) s3 := by
    refine PySem.W.kla_callFunE hr.depth of3 rfl L.co L.gen rfl ⟨c1, oc, vs, t, rfl, hoc, hdc, hvc⟩ ?_
    rw [hbind]
    refine wpAny_pure (wpAny_newFunctionEnv (fun y hy => (L.own y hy).2) (fun y hy => absurd hy (by simp)) (fun h4 hns hsb => ⟨I3.nolimit.fresh _ hsb, ?_⟩) L.kind)
    show codeAny _ _ (.expr body (LamX.lamEnv X scope s3.heap.objs.size f c1)) _ _
    have kp : ∀ b o, s3.heap.get? b = some o → h4.get? b = some o := fun b o e => hsb.extBut b o (Nat.ne_of_lt (Heap.lt_size e)) (Heap.get?_push_of_some _ e)
    have J := LamX.lam_start2 (A := X.A.deeper (envOfC qg sg s.heap.objs.size g cdg)) (outer := envOfC qg sg s.heap.objs.size g cdg :: X.stack) (E := fun c d H' => W c d σ2 H') (scope := scope) (f := f) (c' := c1) (tk := s3.toks + ([] : List (Str × Value)).length) I L I3.env0 hr.hd I3.base hns kp
    refine PySem.W.kla_codeExpr (wpAny_mono ((hb _ _ s3 H3 _ (hr.deeper _)).run [] _ _ H3 Q J ht) (fun v s' ⟨w', H', J', rv, q⟩ => ⟨w', H', J'.os, J'.bare, J'.base, J'.hok, rv, q⟩) fun e s' hq => hq)
  refine wpAny_call (codeAny_mono run fun r s' hq => ?_)
  · cases r with
    | error e => exact passAt tk σ2 pins2 H3 s3 e s' I3 hq
    | ok fl =>
      cases fl with
      | ret u => exact I3.after hq
      | next => exact False.elim hq
      | brk => exact False.elim hq
      | cont => exact False.elim hq
/-- the def that got it: its body, told the lambda's call -/
def Gives (X : Cx) (Ng : List Str) (x : Str) (sg : Scope) (g : Addr) (cdg : Value) (bg : List Stmt) (a : Str) (q : Str) (k : Nat) (TT : (XK → Hp → VK → Prop) → Hp → VK → Prop) : Prop :=
  ∀ (f c1 : Addr) (s : Shared) (H : Hp) (Q : VK) (tl : XK → Hp → VK → Prop),
    (∀ (W : WX) (pn : List (Addr × Obj)) (xe : Value → Shared → Prop) (p1 p2 : Pos), Takes ((cxOf (L2.CX X.prog X.w) X.prog X.w X.K X.mg X.base Ng x sg g cdg X.A X.stack s H fun _ _ _ => False).tr pn xe) W →
      PE ((cxOf (L2.CX X.prog X.w) X.prog X.w X.K X.mg X.base Ng x sg g cdg X.A X.stack s H fun _ _ _ => False).tr pn xe) (.Call (.Name a p1) [] [] p2) (fun σ2 H2 Q => σ2[0]? = some (some (.ref f)) ∧ H2 c1 = some (LamX.CodeO c1 q) ∧ tl (fun c d H' => W c d σ2 H') H2 Q)) →
    Room (k + 1) (X.A.deeper (envOfC x sg s.heap.objs.size g cdg)) → H c1 = some (LamX.CodeO c1 q) → TT tl H Q →
    ∃ t, PSs (cxOf (L2.CX X.prog X.w) X.prog X.w X.K X.mg X.base Ng x sg g cdg X.A X.stack s H fun _ _ _ => False) bg t ∧ t { nx := fun _ H' => Q .non H', rt := Q } (L2.start Ng [.ref f]) H
theorem pe_lamc {TT : (XK → Hp → VK → Prop) → Hp → VK → Prop} {x a q : Str} {g c P : Addr} {k : Nat} {pg : Arguments} {bg : List Stmt} {sg : Scope} {dV kV doc pm cdv ct oc : Value} {an od : Option Addr} {osl : Array (Option Value)} {Ng : List Str}
    {params : Arguments} {body : Expr} {scope : Scope} {tb : XK → TE} {p lpos pos : Pos} (hg : Gl X x) (hm : X.mg x = some (.ref g)) (hk : PySem.W.keepIn X.K (.ref g) = true)
    (lk : X.K.lookup g = some ⟨oc, od, .func (PySem.W.fnOf x x pg bg sg dV kV doc pm an cdv ct), osl⟩) (hcg : PySem.W.codeIn X.K cdv x = true) (bd : L2.Binds X.K (PySem.W.fnOf x x pg bg sg dV kV doc pm an cdv ct) [a] []) (Sg : FnScope Ng [a] sg) (hNg : Ng[0]? = some a) (hva : Vis sg a)
    (eq : q = X.env.qual ++ "<lambda>") (hG : Gives X Ng x sg g cdv bg a q k TT) (TB : LamX.TabB X.base X.mg c P) (hcode : X.env.code = .ref c) (hr : Room (k + 2) X.A) (L : LamX.LamS X.env.scope scope) (hdef : defaultsOf params X.env = ([], []))
    (hbind : ∀ (q : Str) (cl : List (Str × Addr)) (pm cv ctv : Value), bindArgs (PySem.W.kla_fn "<lambda>" q params body scope cl pm cv ctv) ⟨[], []⟩ = pure [])
    (hb : ∀ (A : Around) (outer : List PySem.Env) (s : Shared) (H : Hp) (E : XK) (f c1 : Addr), Room k (A.deeper (LamX.lamEnv X scope s.heap.objs.size f c1)) → PE (LamX.lamCx X A outer s H E scope f c1) body (tb E))
    (hdb : (x == ("__debug__" : Str)) = false) (hd : (a == ("__debug__" : Str)) = false) (hcd : (a == ("__classdict__" : Str)) = false) :
    PE X (.Call (.Name x p) [.Lambda params body scope lpos] [] pos) (fun σ H Q => ∃ ps : Array Value, H P = some (.tbl ps) ∧ TriplesOk ps.toList ∧ (∀ (pos : Pos) (cv : Value), codeAmong pos ps.toList = some cv → ∃ c, cv = .ref c ∧ H c = some (LamX.CodeO c q)) ∧
      ∀ (c1 : Addr) (H1 : Hp), LamH H P q ps lpos c1 H1 → H1 c1 = some (LamX.CodeO c1 q) → TT (fun E H' Q' => tb E σ H' Q') H1 Q) := by
  refine ⟨fun pins s σ H Q I ⟨ps, h1, h2, h3, h4⟩ => ?_⟩
  refine wpAny_Call_Name_kw (ld_glob I hg hm ?_ hdb)
  refine PySem.W.callWith_K (h₀ := X.base) I.ok.mod.kin hk ?_ (by rfl) (by rfl)
  show wpAny _ _ (spliced ((false, eval (.Lambda params body scope lpos) X.env) :: backTo pos (starEach [] X.env))) _ _ s
  refine Calls.spliced_cons (lam_new I TB hcode eq h1 h2 h3 hdef (L.has I.ok) fun f c1 pm2 ctv H1 s1 I1 lh hf hfn hfr hco => ?_)
  subst eq
  refine Calls.spliced_nil ⟨I1.kIn, ?_⟩
  have rc : codeAny (model X.prog X.w) X.A (.call (.ref g) ⟨[.ref f], []⟩) (CR (L2.CX X.prog X.w) X.stack X.prog X.w H1 s1 Q fun _ _ _ => False) s1 := by
    refine LamX.run_ofS (N := Ng) (ps := [a]) (us := [.ref f]) (vs := [.ref f]) lk hcg Sg hr I1.env0 (bd s1 [.ref f] I1.kIn rfl) (.cons rfl .nil) rfl fun hr2 => ?_
    exact hG f c1 s1 H1 Q (fun E H' Q' => tb E σ H' Q') (fun W2 pn xe p1 p2 tk2 => lam_act (i := 0) (tb := fun E => tb E) I1 L hf hfn hfr (hbind _ _ _ _ _) tk2 hr2 (fun A outer s H E r => hb A outer s H E f c1 r) hNg hva hd hcd) hr2 hco (h4 c1 H1 lh hco)
  refine wpAny_call (codeAny_mono rc fun r s2 hq => ?_)
  · cases r with
    | error e =>
      have hq' : L2.CX X.prog X.w X.stack H1 s1 (fun _ _ _ => False) e s2 := hq
      obtain ⟨_, _, _, _, _, _, _, _, _, _, _, _, z⟩ := hq'
      exact z.elim
    | ok fl =>
      cases fl with
      | ret u => exact I1.after hq
      | next => exact False.elim hq
      | brk => exact False.elim hq
      | cont => exact False.elim hq
end
/-! ### what the lambda computes, as the def that got it has it -/
abbrev Thk := MS → FOut
def Out.fo (o : Out) : FOut := match o with
  | .ok (.o _) d ms => .ok d ms
  | .ok (.b _) _ _ => .bad
  | .exc c d ms => .exc c d ms
  | .bad => .bad
/-- the slots as the lambda may see them: what is frozen -/
def hideE (env : Env) : Env := env.map fun e => match e with
  | some (0, d) => some (0, d)
  | _ => none
theorem R.behind {K : PySem.W.Frag} {H f : Hp} {ms : MS} {cls : ClT} {env env' : Env} {m : MS} {σ σ' : Sl} {H' : Hp} {Z Z' : Zs} (r0 : R K ⟨H, f, ms, cls, none⟩ env' ms σ' H Z) (r : R K ⟨H, f, ms, cls, none⟩ env m σ H' Z') : Behind H f ms H' Z'.f m :=
  ⟨⟨r.aft.ff, r.aft.keep, r.aft.new, r.aft.mf⟩, tbm_eq r.aft.mf r0.tb r.tb, r.fb.trans r.bh, r.mr, fun a q => by
    cases z : Z'.f a with
    | none => rfl
    | some u =>
      have e := r.fb a u z
      rw [r.bm a q] at e
      cases e⟩
def tThk (K : PySem.W.Frag) (cls : ClT) (fb : EF) (E : XK) : TE := fun σ H Q => ∃ (f : Hp) (env : Env) (ms : MS), R K ⟨H, f, ms, cls, none⟩ env ms σ H ⟨f, f, fun _ => none⟩ ∧ PostF K cls H f ms Q E (fb env ms).fo
theorem pe_thk {X : Cx} {cls : ClT} {fb : EF} {E : XK} {body : Expr} (h : ∀ G : Gh, G.cls = cls → G.xf = none → SE X G (fun c d _ H => E c d H) body fb) : PE X body (tThk X.K cls fb E) := by
  refine ⟨fun pins s σ H Q I ⟨f, env, ms, r, p⟩ => ?_⟩
  obtain ⟨t, pt, w⟩ := h ⟨H, f, ms, cls, none⟩ rfl rfl
  refine pt.run pins s σ H Q I (w σ H env ms _ Q r ?_)
  match e : fb env ms, p with
  | .ok (.o k) d m, p =>
    intro v H' Z' x r' t'
    exact p v H' _ (r.behind r'.freeze0) (Own.frozen r'.ownf t')
  | .ok (.b k) d m, p => exact p.elim
  | .exc c d m, p =>
    intro dx H' Z' x r' t'
    exact p dx H' _ (r.behind r') t'
  | .bad, p => exact p.elim
theorem R.hide {K : PySem.W.Frag} {G : Gh} {env : Env} {ms ms2 : MS} {σ : Sl} {H H2 f2 : Hp} {Z : Zs} (r : R K G env ms σ H Z) (x : Behind H Z.f ms H2 f2 ms2) : R K ⟨H2, f2, ms2, G.cls, none⟩ (hideE env) ms2 σ H2 ⟨f2, f2, fun _ => none⟩ where
  aft := ⟨Same.refl _, fun a o h _ => h, (fun a o h n => by
    have h' : f2 a = some o := h
    have n' : f2 a = none := n
    rw [h'] at n'
    cases n'), fun _ => Iff.rfl⟩
  fb := Same.refl _
  bh := x.fh
  bm := x.fm
  mr := x.mr
  tb := fun T h => r.tb T (x.tb ▸ h)
  own := fun a i h => by cases h
  len := by
    unfold hideE
    rw [List.length_map]
    exact r.len
  lb := by
    unfold hideE
    rw [List.length_map]
    exact r.lb
  xf := fun i a sd fl d e => by cases e
  sl := fun i k d h => by
    unfold hideE at h
    rw [List.getElem?_map] at h
    cases e : env[i]? with
    | none =>
      rw [e] at h
      cases h
    | some u =>
      rw [e] at h
      match u, e, h with
      | none, e, h => cases h
      | some (0, d'), e, h =>
        cases h
        obtain ⟨v, e1, q⟩ := r.sl i 0 d e
        exact ⟨v, e1, Rep.mono x.aft.ff _ _ q⟩
      | some (n + 1, d'), e, h => cases h
end DL
namespace DL
open PySem PySem.Spec PyProof.Rows L2
/-! ### the def that gets a lambda, as its maker has it -/
abbrev FT := Addr → Thk → FS
/-- deed(), where slot 0 has the lambda at fa -/
def eThk (fa : Addr) (th : Thk) : EF := fun env ms => match (env[0]? : Option Ent) with
  | some (some (0, D.raw (.ref a))) => if a = fa then (th ms).e else .bad
  | _ => .bad
def lamRun (n : Nat) (F : FT) (th : Thk) (fa : Addr) (ms : MS) : FOut := (F fa th (startE n [.raw (.ref fa)]) ms).fin
open Classical in
/-- wherever the lambda stands -/
noncomputable def lamV (n : Nat) (F : FT) (th : Thk) (ms : MS) : FOut := if ∀ fa, lamRun n F th fa ms = lamRun n F th 0 ms then lamRun n F th 0 ms else .bad
def FOut.ne (o : FOut) : Out := match o with
  | .ok d m => .ok (.o 0) d m
  | _ => .bad
noncomputable def eLam (n : Nat) (F : FT) (fb : EF) : EF := fun env ms => match ms with
  | none => .bad
  | some m => (lamV n F (fun m' => (fb (hideE env) m').fo) (some m)).ne
theorem lamV_all {n : Nat} {F : FT} {th : Thk} {ms : MS} {o : FOut} (h : lamV n F th ms = o) (hb : o ≠ .bad) : ∀ fa, lamRun n F th fa ms = o := by
  unfold lamV at h
  split at h
  · rename_i z
    intro fa
    rw [z fa, h]
  · exact absurd h.symm hb
theorem lamV_eq {n : Nat} {F : FT} {th : Thk} {ms : MS} {o : FOut} (h : ∀ fa, lamRun n F th fa ms = o) : lamV n F th ms = o := by
  unfold lamV
  rw [if_pos (fun fa => (h fa).trans (h 0).symm)]
  exact h 0
theorem PostS.fin {K : PySem.W.Frag} {cls : ClT} {H f : Hp} {ms : MS} {Q : VK} {E : XK} (tb : ∀ T, tbm ms = some T → T = cls.tb) {o : Fw} (p : PostF K cls H f ms Q E o.fin) :
    PostS K ⟨H, f, ms, cls, none⟩ (fun c d _ H => E c d H) ⟨f, f, fun _ => none⟩ { nx := fun _ H' => Q .non H', rt := Q } o := by
  have key : ∀ {σ : Sl} {H' : Hp} {Z' : Zs} {env : Env} {m : MS}, R K ⟨H, f, ms, cls, none⟩ env m σ H' Z' → Behind H f ms H' Z'.f m := fun {σ H' Z' env m} r => ⟨⟨r.aft.ff, r.aft.keep, r.aft.new, r.aft.mf⟩, tbm_eq r.aft.mf tb r.tb, r.fb.trans r.bh, r.mr, fun a q => by
    cases z : Z'.f a with
    | none => rfl
    | some u =>
      have z2 := r.fb a u z
      rw [r.bm a q] at z2
      cases z2⟩
  cases o with
  | nx env m => exact fun σ H' Z' s r => p .non H' Z'.f (key r) rfl
  | rt d m => exact fun v σ H' Z' env s r q => p v H' Z'.f (key r) q
  | ex c d env m => exact fun dx σ H' Z' s r q => p dx H' Z'.f (key r) q
  | bk _ _ => exact p.elim
  | ct _ _ => exact p.elim
  | bad => exact p.elim
theorem MRep.notCode {f H : Hp} {ms : MS} {c : Addr} {q : Str} (h : MRep f H ms) (e : H c = some (LamX.CodeO c q)) : ¬ mfp ms c := fun m => by
  cases ms with
  | none => exact m
  | some u =>
    rcases m with rfl | rfl | ⟨q2, hq⟩
    · rw [h.1] at e
      cases e
    · rw [h.2.2.1] at e
      cases e
    · obtain ⟨ps, h1, _⟩ := h.2.2.2.2 _ hq
      have h1' : H c = some (.tbl ps) := h1
      rw [h1'] at e
      cases e
/-- the def's body, told what the lambda's call gives -/
abbrev GvF (P : Program) (w : World) (K : PySem.W.Frag) (mg : Str → Option Value) (base : Heap) (cls : ClT) (x : Str) (st : Stmt) (N : List Str) (j : Nat) (a : Str) (F : FT) : Prop :=
  ∀ (g : Addr) (cdv : Value) (th : Thk) (fa : Addr) (A : Around) (outer : List PySem.Env) (s : Shared) (H : Hp) (G : Gh), G.cls = cls → G.xf = none → Room j (A.deeper (envOfC x (defScope st) s.heap.objs.size g cdv)) →
    (∀ (W : WX) (pn : List (Addr × Obj)) (xe : Value → Shared → Prop) (p1 p2 : Pos), Takes ((cxOf (L2.CX P w) P w K mg base N x (defScope st) g cdv A outer s H fun _ _ _ => False).tr pn xe) W →
      SE ((cxOf (L2.CX P w) P w K mg base N x (defScope st) g cdv A outer s H fun _ _ _ => False).tr pn xe) G W (.Call (.Name a p1) [] [] p2) (eThk fa th)) →
    SB (cxOf (L2.CX P w) P w K mg base N x (defScope st) g cdv A outer s H fun _ _ _ => False) G (fun _ _ _ _ => False) (defBody st) (F fa th)
def TTof (K : PySem.W.Frag) (cls : ClT) (n : Nat) (F : FT) : (XK → Hp → VK → Prop) → Hp → VK → Prop := fun tl H Q => ∃ (f : Hp) (ms : MS) (th : Thk), Same f H ∧ MRep f H ms ∧ (∀ a, mfp ms a → f a = none) ∧ (∀ T, tbm ms = some T → T = cls.tb) ∧
  (∀ (E : XK) (H' f' : Hp) (ms' : MS) (Q' : VK), Behind H f ms H' f' ms' → PostF K cls H' f' ms' Q' E (th ms') → tl E H' Q') ∧ ∀ fa, PostF K cls H f ms Q (fun _ _ _ => False) (lamRun n F th fa ms)
section
variable {X : Cx} {G : Gh} {W : WX}
theorem gives_of {x a q : Str} {st : Stmt} {N : List Str} {k : Nat} {g : Addr} {cdv : Value} {cls : ClT} {F : FT} (h : GvF X.prog X.w X.K X.mg X.base cls x st N (k + 1) a F) (hN : N.length < 1000) (hle : 1 ≤ N.length) :
    Gives X N x (defScope st) g cdv (defBody st) a q k (TTof X.K cls N.length F) := by
  intro fl c1 s H Q tl act hr hco ⟨f, ms, th, sf, mr, fm, tb, hth, hpost⟩
  have r0 : R X.K ⟨H, f, ms, cls, none⟩ (startE N.length [.raw (.ref fl)]) ms (L2.start N [.ref fl]) H ⟨f, f, fun _ => none⟩ := start_R (ds := [.raw (.ref fl)]) hN hle ⟨_, _, rfl, rfl, rfl⟩ sf mr fm tb
  refine ⟨_, h g cdv th fl X.A X.stack s H ⟨H, f, ms, cls, none⟩ rfl rfl hr (fun W pn xe p1 p2 tk => ⟨_, act W pn xe p1 p2 tk, fun σ H2 env ms2 Z Q2 r p => ?_⟩), startE N.length [.raw (.ref fl)], ms, ⟨f, f, fun _ => none⟩, r0, PostS.fin (E := fun _ _ _ => False) tb (hpost fl)⟩
  unfold eThk at p
  match e : (env[0]? : Option Ent), p with
  | some (some (0, D.raw (.ref b))), p3 =>
    have p4 : PostE X.K ⟨H, f, ms, cls, none⟩ W env σ ms2 Z H2 Q2 (if b = fl then (th ms2).e else .bad) := p3
    by_cases z : b = fl
    · rw [if_pos z] at p4
      subst z
      obtain ⟨v, e1, q1⟩ := r.sl 0 0 _ e
      have e2 : v = .ref b := q1
      subst e2
      exact ⟨e1, r.aft.keep c1 _ hco (mr.notCode hco), hth _ _ _ _ _ (R.behind r0 r) (PostF.of r p4)⟩
    · rw [if_neg z] at p4
      exact p4.elim
theorem se_lam {x a q : Str} {st : Stmt} {N : List Str} {k j : Nat} {c P : Addr} {F : FT} {fb : EF} {params : Arguments} {body : Expr} {scope : Scope} {p lpos pos : Pos}
    (t : DefT X.K X.mg x st []) (hbnd : ∀ (kV doc pm : Value) (an : Option Addr) (cdv ct : Value) (us : List Value), us.length = ([a] : List Str).length → bindArgs (PySem.W.fnOf x x (defArgs st) (defBody st) (defScope st) .none kV doc pm an cdv ct) ⟨us, []⟩ = pure (([a] : List Str).zip us))
    (hG : GvF X.prog X.w X.K X.mg X.base G.cls x st N (k + 1) a F) (Sg : FnScope N [a] (defScope st)) (hN : N.length < 1000) (hva : (defScope st).names.lookup a = some .local) (TB : LamX.TabB X.base X.mg c P) (hcode : X.env.code = .ref c) (hin : (P, q) ∈ G.cls.tb) (hu : ∀ p ∈ G.cls.tb, p.1 = P → p.2 = q)
    (hr : Room j X.A) (hkj : k + 2 ≤ j) (L : LamX.LamS X.env.scope scope)
    (hb : ∀ (A : Around) (outer : List PySem.Env) (s : Shared) (H : Hp) (E : XK) (f c1 : Addr) (H0 f0 : Hp) (m0 : MS), Room k (A.deeper (LamX.lamEnv X scope s.heap.objs.size f c1)) → SE (LamX.lamCx X A outer s H E scope f c1) ⟨H0, f0, m0, G.cls, none⟩ (fun c d _ H => E c d H) body fb)
    (eq : q = X.env.qual ++ "<lambda>" := by rfl) (hg : Gl X x := by rfl) (hdef : defaultsOf params X.env = ([], []) := by rfl)
    (hbind : ∀ (q : Str) (cl : List (Str × Addr)) (pm cv ctv : Value), bindArgs (PySem.W.kla_fn "<lambda>" q params body scope cl pm cv ctv) ⟨[], []⟩ = pure [] := by intros; rfl)
    (hdb : (x == ("__debug__" : Str)) = false := by decide) (hd : (a == ("__debug__" : Str)) = false := by decide) (hcd : (a == ("__classdict__" : Str)) = false := by decide) :
    SE X G W (.Call (.Name x p) [.Lambda params body scope lpos] [] pos) (eLam N.length F fb) := by
  obtain ⟨g, fd, Fd, hm⟩ := t.ex
  obtain ⟨oc, od, dV, kV, doc, pm, an, cdv, ct, osl, rfl, lk, hcd2, hD, hK⟩ := Fd.ex
  rcases hD with ⟨_, rfl⟩ | ⟨e, _⟩
  · have hNg : N[0]? = some a := by
      have := Sg.pre
      cases N with
      | nil => cases this
      | cons n r =>
        have e2 : n = a := by injection this
        rw [e2]
        rfl
    have hle : 1 ≤ N.length := by
      cases N with
      | nil => cases hNg
      | cons n r => exact Nat.succ_le_succ (Nat.zero_le _)
    refine ⟨_, pe_lamc (TT := TTof X.K G.cls N.length F) (tb := tThk X.K G.cls fb) hg hm Fd.kp lk hcd2 (Fd.bindsN (ps := [a]) hbnd) Sg hNg (.inl hva) eq (gives_of hG hN hle) TB hcode (hr.mono hkj) L hdef hbind (fun A outer s H E f c1 hr2 => pe_thk fun G' h1 h2 => by
      obtain ⟨g1, g2, g3, g4, g5⟩ := G'
      cases h1
      cases h2
      exact hb A outer s H E f c1 g1 g2 g3 hr2) hdb hd hcd, fun σ H env ms Z Q r q => ?_⟩
    unfold eLam at q
    cases ms with
    | none => exact q.elim
    | some m =>
      have htb : m.tb = G.cls.tb := r.tb _ rfl
      obtain ⟨ps, h1, h2, h3⟩ := r.mr.2.2.2.2 (P, _) (by rw [htb]; exact hin)
      refine ⟨ps, h1, h2, fun pos cv hc => ?_, fun c1 H1 lh hco => ?_⟩
      · obtain ⟨c0, e1, e2⟩ := h3 pos cv hc
        exact ⟨c0, e1, r.bh _ _ (r.fb _ _ e2)⟩
      · obtain ⟨Z1, r1, x1, hc1⟩ := r.lam (by rw [htb]; exact hin) (by rw [htb]; exact hu) h1 h2 h3 lh hco
        refine ⟨Z1.f, some m, _, r1.fb.trans r1.bh, r1.mr, fun a0 q0 => ?_, r1.tb, fun E H' f' ms' Q' bh pf => ⟨f', hideE env, ms', R.hide r1 bh, pf⟩, fun fa => ?_⟩
        · cases z : Z1.f a0 with
          | none => rfl
          | some u =>
            have z2 := r1.fb a0 u z
            rw [r1.bm a0 q0] at z2
            cases z2
        · cases e : lamV N.length F (fun m' => (fb (hideE env) m').fo) (some m) with
          | ok d m2 =>
            rw [lamV_all e (by intro z; cases z) fa]
            dsimp only at q
            rw [e] at q
            have q2 := PostE.ext (ms' := some m) (fun _ => Iff.rfl) x1 q
            exact fun v H' f' bh rp => PostF.of (W := W) (o := .ok d m2) r1 q2 v H' f' bh rp
          | exc c d m2 =>
            dsimp only at q
            rw [e] at q
            exact q.elim
          | bad =>
            dsimp only at q
            rw [e] at q
            exact q.elim
  · exact absurd rfl e
end
/-! ### the maker's code object -/
structure MkC (K : PySem.W.Frag) (mg : Str → Option Value) (x : Str) (c : Addr) : Prop where
  ex : ∃ (f : Addr) (o : Obj) (fd : FuncData), mg x = some (.ref f) ∧ K.lookup f = some o ∧ o.data = .func fd ∧ fd.code = .ref c
/-- the promise of a def that makes lambdas -/
abbrev OkM (P : Program) (w : World) (K : PySem.W.Frag) (mg : Str → Option Value) (base : Heap) (cls : ClT) (x : Str) (st : Stmt) (ps : List Str) (n k : Nat) (g : Fn) : Prop :=
  ∀ (f : Addr) (fd : FuncData), FunD K x x (defArgs st) (defBody st) (defScope st) [] [] f fd → mg x = some (.ref f) → FnOk P w K mg base (L2.CX P w) k f fd ps (spF K cls n g)
theorem fn_okM {P : Program} {w : World} {K : PySem.W.Frag} {mg : Str → Option Value} {base : Heap} {x qual : Str} {params : Arguments} {body : List Stmt} {scope : Scope} {dvs : List V} {kws : List (Str × V)} {fa : Addr} {fd : FuncData} {N ps : List Str} {k n : Nat} {F : FS} {cls : ClT} {c : Addr}
    (Fd : FunD K x qual params body scope dvs kws fa fd) (hm : mg x = some (.ref fa)) (mk : MkC K mg x c) (S : FnScope N ps scope) (hn : ps.length = n) (hN : N.length < 1000) (hle : n ≤ N.length)
    (hb : ∀ (A : Around) (outer : List PySem.Env) (s : Shared) (H : Hp) (E : XK) (G : Gh), G.cls = cls → G.xf = none → Room k (A.deeper (envOfC qual scope s.heap.objs.size fa (.ref c))) →
      SB (cxOf (L2.CX P w) P w K mg base N qual scope fa (.ref c) A outer s H E) G (fun c d _ H => E c d H) body F) : FnOk P w K mg base (L2.CX P w) (k + 1) fa fd ps (spF K cls n (runD N.length F)) := by
  subst hn
  obtain ⟨oc, od, dV, kV, doc, pm, an, cdv, ct, osl, rfl, lk, hcd, _, _⟩ := Fd.ex
  obtain ⟨f1, o1, fd1, e1, e2, e3, e4⟩ := mk.ex
  rw [hm] at e1
  cases e1
  rw [lk] at e2
  cases e2
  cases e3
  have e5 : cdv = .ref c := e4
  subst e5
  refine fn_of lk hcd S (fun vs H Q E h => spF_len vs H Q E h) fun A outer s H vs Q E hr h => ?_
  obtain ⟨f, ds, ms, hl, r, fh, mr, fm, tb, p⟩ := h
  exact ⟨_, hb A outer s H E ⟨H, f, ms, cls, none⟩ rfl rfl hr, startE N.length ds, ms, ⟨f, f, fun _ => none⟩, start_R hN (by omega) r fh mr fm tb, PostS.fin tb p⟩
theorem CalF.mk0M {P : Program} {w : World} {K : PySem.W.Frag} {mg : Str → Option Value} {base : Heap} {cls : ClT} {x : Str} {st : Stmt} {ps : List Str} {n k : Nat} {g : Fn} (t : DefT K mg x st []) (h : OkM P w K mg base cls x st ps n k g)
    (hb : ∀ (kV doc pm : Value) (an : Option Addr) (cdv ct : Value) (us : List Value), us.length = ps.length → bindArgs (PySem.W.fnOf x x (defArgs st) (defBody st) (defScope st) .none kV doc pm an cdv ct) ⟨us, []⟩ = pure (ps.zip us)) : CalF P w K mg base cls x n k [] g := by
  obtain ⟨f, fd, F, hm⟩ := t.ex
  exact ⟨f, fd, ps, [], [], h f fd F hm, hm, F.kp, F.bindsN hb, .nil, fun _ => rfl⟩
end DL
namespace DL
open PySem PySem.Spec PyProof.Rows L2
/-! ### a caught exception that is kept: it is tracked from its suite on -/
theorem flying_keeps {B : Heap} {l : List PySem.Env} {e : Addr} {Z : Obj → Prop} {h h' : Heap} (k : ∀ b o, h.get? b = some o → h'.get? b = some o) (x : HandSPX.FlyingZ B l e Z h) : HandSPX.FlyingZ B l e Z h' := by
  obtain ⟨k1, k2, k3, oe, vs, T, oT, ts, he, hz, hd, h1, hb, hne, hT, hTd, hfl⟩ := x
  exact ⟨fun b o hb => k _ _ (k1 b o hb), k2, k3.of_keeps fun b o hb _ => ⟨o, k _ _ hb, rfl⟩, oe, vs, T, oT, ts, k _ _ he, hz, hd, h1, hb, hne, k _ _ hT, hTd, hfl⟩
section
variable {X : Cx} {pins : List (Addr × Obj)} {σ : Sl} {H : Hp} {s : Shared} {a : Addr} {o : HO}
theorem inv_track (I : Inv X pins σ H s) (hn : H a = none) (n0 : X.s_0.heap.get? a = none) (nL : a ≠ X.env.locals) (nC : ∀ v, ¬ s.heap.IsCell a v) (nP : ∀ p ∈ X.pn ++ pins, p.1 ≠ a) (hob : ObjOk X.prog X.w (upd H a o) s.heap a o) :
    Inv X pins σ (upd H a o) s := by
  have b0 := I.base
  have nx : ∀ {b : Addr} {u : HO}, H b = some u → b ≠ a := fun e z => by
    rw [z, hn] at e
    cases e
  refine ⟨I.ok, I.os, I.bare, ⟨b0.keep, b0.slot, fun b u e n x => ?_, b0.there, fun b xs e => ?_, fun b u xs e => ?_, fun b ps e => ?_⟩, I.loc, I.cell, (upd_ne (Ne.symm nL)).trans I.free, fun x c e => ?_, fun p hp => ?_, fun b u e => ?_, I.len⟩
  · refine (upd_ne fun z => ?_).trans (b0.free b u e n x)
    rw [z, n0] at e
    cases e
  · have q := b0.tups b xs e
    exact (upd_ne (nx q)).trans q
  · have q := b0.frzs b u xs e
    exact (upd_ne (nx q)).trans q
  · obtain ⟨m, q⟩ := b0.tbls b ps e
    exact ⟨m, (upd_ne (nx q)).trans q⟩
  · obtain ⟨v, q⟩ := I.cell x c e
    exact (upd_ne fun z => nC v (by rw [z] at q; exact q)).trans (I.freeC x c e)
  · obtain ⟨e1, e2, e3⟩ := I.pin p hp
    exact ⟨e1, (upd_ne (nP p hp)).trans e2, e3⟩
  · by_cases z : b = a
    · subst z
      rw [upd_same] at e
      cases e
      exact hob
    · rw [upd_ne z] at e
      exact (I.hok b u e).stay (fun c v _ q => q) (fun c q => (upd_ne (nx q)).trans q) fun c xs q => (upd_ne (nx q)).trans q
theorem exH_ok {P : Program} {w : World} {H : Hp} {h : Heap} {a : Addr} {cls : Value} {d : Option Addr} {oe : Obj} {vs : Array Value} (e : h.get? a = some oe) (z : Zc cls d oe) (hd : oe.data = .fields vs) : ObjOk P w H h a (ExH cls d a) :=
  ⟨⟨oe, vs, e, z, hd⟩, ⟨oe, e⟩, fun h1 h2 ⟨o1, v1, q1, q2⟩ k => ⟨o1, v1, k _ q1, q2⟩⟩
end
/-! ### the clauses -/
inductive TestX (X : Cx) : Expr → List Value → Prop
  | one {x : Str} {c : Value} {p : Pos} (h : Names X x c) : TestX X (.Name x p) [c]
  | two {x1 x2 : Str} {c1 c2 : Value} {p1 p2 p : Pos} {k : Nat} (h1 : Names X x1 c1) (h2 : Names X x2 c2) : TestX X (.Tuple [.Name x1 p1, .Name x2 p2] k p) [c1, c2]
  | three {x1 x2 x3 : Str} {c1 c2 c3 : Value} {p1 p2 p3 p : Pos} {k : Nat} (h1 : Names X x1 c1) (h2 : Names X x2 c2) (h3 : Names X x3 c3) : TestX X (.Tuple [.Name x1 p1, .Name x2 p2, .Name x3 p3] k p) [c1, c2, c3]
  | four {x1 x2 x3 x4 : Str} {c1 c2 c3 c4 : Value} {p1 p2 p3 p4 p : Pos} {k : Nat} (h1 : Names X x1 c1) (h2 : Names X x2 c2) (h3 : Names X x3 c3) (h4 : Names X x4 c4) : TestX X (.Tuple [.Name x1 p1, .Name x2 p2, .Name x3 p3, .Name x4 p4] k p) [c1, c2, c3, c4]
section
variable {X : Cx} {pins pn : List (Addr × Obj)} {σ : Sl} {H : Hp} {s : Shared} {a : Addr}
theorem names_ld {x : Str} {c : Value} {p : Pos} {Q : Value → Shared → Prop} {E : Value → Shared → Prop} (S : Inv (X.suite a pn) pins σ H s) (hc : Names X x c) (q : Q c s) : wpAny (model X.prog X.w) (X.A.mark (some (.ref a))) (eval (.Name x p) X.env) Q E s := by
  obtain ⟨hg, hdbg, hm | ⟨hm, hv, hnn⟩⟩ := hc
  · exact ld_glob (X := X.suite a pn) S hg hm q hdbg
  · exact ld_blt (X := X.suite a pn) S hg hm hv q hnn hdbg
theorem test_ok {t : Expr} {cs : List Value} {b : Bool} {oe : Obj} {cls : Value} {Q : Bool → Shared → Prop} {E : Value → Shared → Prop} (ht : TestX X t cs) (S : Inv (X.suite a pn) pins σ H s) (he : s.heap.get? a = some oe) (hz : oe.cls = cls) (hx : PySem.W.exmAny X.K cls cs = some b)
    (q : ∀ h', (∀ b o, s.heap.get? b = some o → h'.get? b = some o) → Q b { s with heap := h' }) :
    wpAny (model X.prog X.w) (X.A.mark (some (.ref a))) (eval t X.env) (fun c s1 => wpAny (model X.prog X.w) (X.A.mark (some (.ref a))) (excMatches (.ref a) c) Q E s1) E s := by
  have LT : PySem.W.Looks (model X.prog X.w) s.heap (typeOf (.ref a)) cls := fun A Q E s k q => wpAny_typeOf_ref (k _ _ he) (by rw [hz]; exact q)
  have kp : ∀ vs : Array Value, ∀ b o, s.heap.get? b = some o → (s.heap.push { cls := .type "tuple", data := .seq vs }).get? b = some o := fun _ _ _ z => Heap.get?_push_of_some _ z
  cases ht with
  | one h =>
    obtain ⟨b1, d1, x1, y1, rfl⟩ := PySem.W.exmAny_cons hx
    cases y1
    refine names_ld S h ?_
    rw [Bool.or_false] at q
    exact (PySem.W.exm_one S.kIn LT x1).here (q s.heap fun _ _ z => z)
  | two h1 h2 =>
    refine wpAny_Tuple (wpAny_items_cons (names_ld S h1 (wpAny_items_cons (names_ld S h2 (wpAny_items_nil ⟨by size_fits, ?_⟩)))))
    exact (PySem.W.exm_tup2 (S.kIn.keeps (kp _)) (LT.keeps (kp _)) (Heap.get?_push_size s.heap rfl) hx).here (q _ (kp _))
  | three h1 h2 h3 =>
    refine wpAny_Tuple (wpAny_items_cons (names_ld S h1 (wpAny_items_cons (names_ld S h2 (wpAny_items_cons (names_ld S h3 (wpAny_items_nil ⟨by size_fits, ?_⟩)))))))
    exact (PySem.W.exm_tup3 (S.kIn.keeps (kp _)) (LT.keeps (kp _)) (Heap.get?_push_size s.heap rfl) hx).here (q _ (kp _))
  | four h1 h2 h3 h4 =>
    refine wpAny_Tuple (wpAny_items_cons (names_ld S h1 (wpAny_items_cons (names_ld S h2 (wpAny_items_cons (names_ld S h3 (wpAny_items_cons (names_ld S h4 (wpAny_items_nil ⟨by size_fits, ?_⟩)))))))))
    exact (PySem.W.exm_tup4 (S.kIn.keeps (kp _)) (LT.keeps (kp _)) (Heap.get?_push_size s.heap rfl) hx).here (q _ (kp _))
end
structure Cl2 where
  cs : List Value
  o : Option Nat
  ts : Addr → Value → Option Addr → TS
def wManyT (K : PySem.W.Frag) (Wout : WX) (D : Ends) : List Cl2 → WX
  | [] => Wout
  | k :: r => fun cls d σ H => ∃ b, PySem.W.exmAny K cls k.cs = some b ∧ (b = true → ∀ a, H a = none → (match k.o with
      | none => k.ts a cls d D σ H
      | some i => k.ts a cls d (goneEnds i D) (σ.set i (some (.ref a))) (upd H a (ExH cls d a)))) ∧ (b = false → wManyT K Wout D r cls d σ H)
inductive HdsT (X : Cx) : List ExceptHandler → List Cl2 → Prop
  | nil : HdsT X [] []
  | cons {t : Expr} {cs : List Value} {ts : Addr → Value → Option Addr → TS} {b₀ : Stmt} {suite : List Stmt} {pos' : Pos} {hds : List ExceptHandler} {l : List Cl2} (ht : TestX X t cs)
      (hsu : ∀ (a : Addr) (cls : Value) (d : Option Addr) (pn : List (Addr × Obj)), PSs (X.suite a pn) (b₀ :: suite) (ts a cls d)) (r : HdsT X hds l) :
      HdsT X (.ExceptHandler (some t) none (b₀ :: suite) pos' :: hds) (⟨cs, none, ts⟩ :: l)
  | consA {t : Expr} {n : Str} {i : Nat} {cs : List Value} {ts : Addr → Value → Option Addr → TS} {b₀ : Stmt} {suite : List Stmt} {pos' : Pos} {hds : List ExceptHandler} {l : List Cl2} (ht : TestX X t cs) (hi : X.N[i]? = some n) (hln : X.env.kindOf n = some .local)
      (hsu : ∀ (a : Addr) (cls : Value) (d : Option Addr) (pn : List (Addr × Obj)), PSs (X.suite a pn) (b₀ :: suite) (ts a cls d)) (r : HdsT X hds l) :
      HdsT X (.ExceptHandler (some t) (some n) (b₀ :: suite) pos' :: hds) (⟨cs, some i, ts⟩ :: l)
section
variable {X : Cx} {pins pn' : List (Addr × Obj)} {σ : Sl} {H : Hp} {s : Shared}
theorem inv_unsuite {a : Addr} (I : Inv (X.suite a (X.pn ++ pins)) pn' σ H s) (ok : X.Ok) : Inv X pins σ H s :=
  ⟨ok, I.os, I.bare, I.base, I.loc, I.cell, I.free, I.freeC, fun p hp => I.pin p (List.mem_append_left _ hp), I.hok, I.len⟩
theorem inv_tosuite {a : Addr} (I : Inv X pins σ H s) : Inv (X.suite a (X.pn ++ pins)) [] σ H s :=
  ⟨I.ok.suite _ _, I.os, I.bare, I.base, I.loc, I.cell, I.free, I.freeC, fun p hp => I.pin p (by rw [List.append_nil] at hp; exact hp), I.hok, I.len⟩
end
section
variable {X : Cx} {body : List Stmt} {h₀ : ExceptHandler} {hds : List ExceptHandler} {l : List Cl2} {pos : Pos} {tb : WX → TS} {Wout : WX}
theorem clauses_ok {B : Heap} {a : Addr} {cls : Value} {d : Option Addr} {sI s' : Shared} {pins : List (Addr × Obj)} {σ : Sl} {H : Hp} {D : Ends} (hs : X.stack = X.env :: X.outer) (hf : X.env.frame = some X.env.locals) (hN : X.N.Nodup) (hex : X.ex = []) (tk : Takes X Wout)
    (J : Inv X pins σ H sI) (nb : ∀ b o, sI.heap.get? b = some o → b ∉ frs X.stack → B.get? b = some o) (na : H a = none) (os : s'.os = sI.os) (ag : AllBare s'.gens) :
    ∀ {hds : List ExceptHandler} {l : List Cl2}, HdsT X hds l → ∀ h3 : Heap, HandSPX.FlyingZ B (X.env :: X.outer) a (Zc cls d) h3 → sI.heap.UpToSlots h3 → wManyT X.K Wout D l cls d σ H →
      wpAny (model X.prog X.w) X.A (handleBy (.ref a) X.env hds) (SP X pins D) X.xe { s' with heap := h3 } := by
  have ok := J.ok
  intro hds l hk
  induction hk with
  | nil =>
    intro h3 fl3 up w
    refine wpAny_handleBy_nil ?_
    obtain ⟨k1, k2, k3, oe, vs, T, oT, ts', he, hz, hd, h1, hr⟩ := id fl3
    unfold PySem.passOn
    refine wpAny_bind (wpAny_field he hd h1 ?_)
    rw [if_neg (by simp : ¬ ((Value.ref T == Value.none) = true))]
    have last : wpAny (model X.prog X.w) X.A (setFlight (.ref a) X.env.frame) (fun _ s4 => wpAny (model X.prog X.w) X.A (throw (.ref a) : Sem Flow) (SP X pins D) X.xe s4) X.xe { s' with heap := h3 } := by
      rw [hf]
      refine HandSPX.setFlight_upZ fl3 fun h4 hh4 up4 => wpAny_throw (tk _ _ ⟨a, B, sI, pins, σ, H, cls, d, rfl, J, nb, up.trans up4, .inr (.inr (by rw [hs]; exact hh4)), na, os, ag, w⟩)
    first
      | exact wpAny_bind (wpAny_pure (wpAny_bind last))
      | exact wpAny_bind last
  | @cons t cs ts b₀ suite pos' hds2 l2 ht hsu r ih =>
    intro h3 fl3 up w
    obtain ⟨b, hb1, hyes, hno⟩ := w
    have J3 : Inv X pins σ H { s' with heap := h3 } := J.landed nb fl3.1 up os ag
    obtain ⟨oe3, vs3, he3, hz3, hd3⟩ := fl3.there
    refine wpAny_handleBy_cons (codeAny_handlers_test ?_) (by intro q; cases q)
    refine test_ok ht (inv_tosuite J3) he3 hz3.1 hb1 fun h5 k5 => ?_
    have fl5 := flying_keeps k5 fl3
    have up5 := up.trans (Heap.UpToSlots.of_keeps k5)
    cases b with
    | true =>
      refine codeAny_handlers_suite (HandSPX.lands_againZ fl5 fun h4 fl4 up4 => ?_)
      have J4 : Inv X pins σ H { s' with heap := h4 } := J.landed nb fl4.1 (up5.trans up4) os ag
      refine wpAny_mono ((hsu a cls d (X.pn ++ pins)).run [] _ _ H _ (inv_tosuite J4) (hyes rfl a na)) (fun f s6 hsp => ?_) (fun _ _ z => False.elim z)
      cases f with
      | ret u =>
        obtain ⟨v6, σ6, H6, S6, r6, q6⟩ := hsp
        exact ⟨_, _, _, inv_unsuite S6 ok, r6, q6⟩
      | _ =>
        obtain ⟨σ6, H6, S6, q6⟩ := hsp
        exact ⟨_, _, inv_unsuite S6 ok, q6⟩
    | false => exact ih h5 fl5 up5 (hno rfl)
  | @consA t n i cs ts b₀ suite pos' hds2 l2 ht hi hln hsu r ih =>
    intro h3 fl3 up w
    obtain ⟨b, hb1, hyes, hno⟩ := w
    have J3 : Inv X pins σ H { s' with heap := h3 } := J.landed nb fl3.1 up os ag
    obtain ⟨oe3, vs3, he3, hz3, hd3⟩ := fl3.there
    refine wpAny_handleBy_cons (codeAny_handlers_test ?_) (by intro q; cases q)
    refine test_ok ht (inv_tosuite J3) he3 hz3.1 hb1 fun h5 k5 => ?_
    have fl5 := flying_keeps k5 fl3
    have up5 := up.trans (Heap.UpToSlots.of_keeps k5)
    cases b with
    | true =>
      refine codeAny_handlers_suite_as (HandSPX.lands_againZ fl5 fun h4 fl4 up4 => ?_)
      have J4 : Inv X pins σ H { s' with heap := h4 } := J.landed nb fl4.1 (up5.trans up4) os ag
      obtain ⟨oe4, vs4, he4, hz4, hd4⟩ := fl4.there
      have nfr : a ∉ frs (X.env :: X.outer) := fun hm => by
        obtain ⟨_, o', e', hnf⟩ := fl4.2.2.1.mem hm
        rw [he4] at e'
        cases e'
        exact hnf _ hd4
      have nL : a ≠ X.env.locals := fun z => nfr (List.mem_filterMap.mpr ⟨X.env, List.mem_cons_self, by rw [hf, z]⟩)
      have nI : sI.heap.get? a = none := by
        cases e : sI.heap.get? a with
        | none => rfl
        | some o =>
          have e2 := nb a o e (by rw [hs]; exact nfr)
          rw [fl4.2.1] at e2
          cases e2
      have n0 : X.s_0.heap.get? a = none := by
        cases e : X.s_0.heap.get? a with
        | none => rfl
        | some o =>
          obtain ⟨o2, e2⟩ := J.base.there a o e (by rw [hex]; exact fun z => nomatch z)
          rw [nI] at e2
          cases e2
      have J5 : Inv X pins σ (upd H a (ExH cls d a)) { s' with heap := h4 } := inv_track J4 na n0 nL (fun v ⟨o2, e2, d2⟩ => by
        rw [he4] at e2
        cases e2
        rw [hd4] at d2
        cases d2) (fun p hp z => by
        have e2 := (J.pin p hp).1
        rw [z, nI] at e2
        cases e2) (exH_ok he4 hz4 hd4)
      refine store_ok (X := X.suite a (X.pn ++ pins)) (v := .ref a) (inv_tosuite J5) hN hi (.inl hln) rfl (fun s5 S5 => ?_) (.inr hln)
      refine wpAny_mono ((hsu a cls d (X.pn ++ pins)).run [] s5 _ _ _ S5 (hyes rfl a na)) (fun f s6 hsp => ?_) (fun _ _ z => False.elim z)
      have end_ : ∀ {σ6 : L2.St} {H6 : Hp} {Q : Shared → Prop}, Inv (X.suite a (X.pn ++ pins)) [] σ6 H6 s6 → (∀ s7, Inv X pins (σ6.set i none) H6 s7 → Q s7) →
          wpAny (model X.prog X.w) X.A (do bindName X.env n .none; unbindBehindTheSuite X.env n pos') (fun _ s7 => Q s7) X.xe s6 := fun {σ6 H6 Q} S6 hq => gone_ok (inv_unsuite S6 ok) hN hi hln hq
      cases f with
      | ret u =>
        obtain ⟨v6, σ6, H6, S6, r6, q6⟩ := hsp
        exact end_ S6 fun s7 J7 => ⟨_, _, _, J7, r6, q6⟩
      | next =>
        obtain ⟨σ6, H6, S6, q6⟩ := hsp
        exact end_ S6 fun s7 J7 => ⟨_, _, J7, q6⟩
      | brk =>
        obtain ⟨σ6, H6, S6, q6⟩ := hsp
        exact end_ S6 fun s7 J7 => ⟨_, _, J7, q6⟩
      | cont =>
        obtain ⟨σ6, H6, S6, q6⟩ := hsp
        exact end_ S6 fun s7 J7 => ⟨_, _, J7, q6⟩
    | false => exact ih h5 fl5 up5 (hno rfl)
theorem ps_try_kept (hs : X.stack = X.env :: X.outer) (hf : X.env.frame = some X.env.locals) (hN : X.N.Nodup) (hex : X.ex = []) (tk : Takes X Wout)
    (hb : ∀ (W : WX) (pn : List (Addr × Obj)) (xe : Value → Shared → Prop), Takes (X.tr pn xe) W → PassesOwn (model X.prog X.w) X.A X.env xe → PSs (X.tr pn xe) body (tb W))
    (hh : HdsT X (h₀ :: hds) l) : PS X (.Try body (h₀ :: hds) [] [] pos) (fun D σ H => tb (wManyT X.K Wout D l) D σ H) := by
  refine ⟨fun pins s σ H D I h => ?_⟩
  have ok := I.ok
  have hfr : X.A.frames = some (X.env :: X.outer) := by rw [ok.frames, hs]
  refine wpAny_Try_except (wpAny_mono ((hb (wManyT X.K Wout D l) (X.pn ++ pins) (fun e s₁ => wpAny (model X.prog X.w) X.A (noteFrame e X.env) (fun _ s₂ => wpAny (model X.prog X.w) X.A (setFlight e none) (fun _ s₃ =>
    wpAny (model X.prog X.w) X.A (handleBy e X.env (h₀ :: hds)) (SP X pins D) X.xe s₃) X.xe s₂) X.xe s₁) (fun u s' xx => ?_) PassesOwn.looking).run [] s σ H D (I.toTry _) h) (fun f s1 hsp => ?_) (fun e s1 he => he))
  · obtain ⟨a, B, sI, pins', σ', H', cls, d, rfl, J', nb, up, sky, na, os, ag, w⟩ := xx
    show wpAny (model X.prog X.w) X.A (noteFrame (.ref a) X.env) _ _ _
    refine Sky.land Zc.steady hfr hf (by rw [← hs]; exact sky : Sky B (X.env :: X.outer) a (Zc cls d) X.env.locals s'.heap) fun h3 fl3 up3 => ?_
    exact clauses_ok hs hf hN hex tk (J'.ofTry ok) nb na os ag hh h3 fl3 (up.trans up3) w
  · cases f with
    | next =>
      obtain ⟨σ', H', J', q⟩ := hsp
      exact wpAny_execs_nil ⟨σ', H', J'.ofTry ok, q⟩
    | brk =>
      obtain ⟨σ', H', J', q⟩ := hsp
      exact ⟨σ', H', J'.ofTry ok, q⟩
    | cont =>
      obtain ⟨σ', H', J', q⟩ := hsp
      exact ⟨σ', H', J'.ofTry ok, q⟩
    | ret u =>
      obtain ⟨v, σ', H', J', r, q⟩ := hsp
      exact ⟨v, σ', H', J'.ofTry ok, r, q⟩
end
end DL
/-! ### isinstance of an exception with a dict -/
namespace DL
section
open PySem PySem.W PySem.Spec PySem.Calls PyProof.Rows
variable {P : Program} {w : World} {A : Around} {E : Value → Shared → Prop} {K : Frag} {x D : Addr} {ox od : Obj}
theorem exd_class {Q : Option Value → Shared → Prop} {s : Shared} (C : L2.ExcC K D) (X : K.In s.heap) (I : InstAt s.heap x ox D (some od)) (q : Q (some (.ref D)) { s with toks := s.toks + 1 }) : wpAny (model P w) A (getAttr? (.ref x) "__class__") Q E s := by
  obtain ⟨cd, hcd, _⟩ := any_some C.hd
  have fo : findObj K D (some od) "__class__" = some (.bind (.builtin "getset_descriptor.__get__") (.builtin "object.__class__")) := findObj_data (by rw [hcd] <;> rfl) C.ha C.hn C.ht
  obtain ⟨h0, g0, d0, t0, os0⟩ := s
  have T1 := I.type (M := model P w)
  have T2 := looks_findIn (M := model P w) X C.hg
  have T3 := looks_findIn (M := model P w) X C.hk
  have T4 := looks_find (M := model P w) X I fo
  have T5 : Looks (model P w) h0 (isInstance (.ref x) (.type "BaseException")) true := T1.andThen (looks_subIn X C.hs)
  have n1 : (Value.builtin "BaseException.__getattribute__" == Value.builtin "object.__getattribute__") = false := by decide +kernel
  have n2 : (onTheHeap (Value.ref D) && Value.builtin "BaseException.__getattribute__" == Value.builtin "object.__getattribute__") = false := by rw [n1] <;> rfl
  have n3 : (false && onTheHeap (Value.builtin "BaseException.__getattribute__")) = false := rfl
  unfold getAttr? getAttrBy? getAttrBy
  refine wpAny_bind (wpAny_mkText (wpAny_bind (wpAny_attempt (wpAny_holding (wpAny_bind (T1.at (wpAny_bind (T2.at ?_))))))))
  show wpAny _ _ (if (onTheHeap (Value.ref D) && Value.builtin "BaseException.__getattribute__" == Value.builtin "object.__getattribute__") = true then _ else _) _ _ _
  rw [n2, if_neg Bool.false_ne_true]
  unfold getAttrByItsOwn hookBefore
  refine wpAny_bind (by
    have n4 : onTheHeap (Value.ref D) = true := rfl
    rw [if_pos n4]
    refine T3.at (wpAny_bind (wpAny_attempt (wpAny_holding ?_)))
    unfold callGetattribute
    rw [n3, if_neg Bool.false_ne_true]
    unfold boundAndCalled
    rw [PySem.F.excAttr_ValueError.ga.bind (.ref x)]
    refine wpAny_bind (wpAny_pure ?_)
    show wpAny _ _ (call (.builtin "BaseException.__getattribute__") [.ref x, .str "__class__" t0]) _ _ _
    refine wpAny_call (codeAny_call_builtin PySem.F.excAttr_ValueError.ga.plain PySem.F.entry_bexc_ga (@check_slot (model P w) _ _ ⟨h0, g0, d0, t0 + 1, os0⟩ "BaseException.__getattribute__" "BaseException" "__getattribute__" (.ref x) [.str "__class__" t0] [] _ (by decide +kernel) (by decide +kernel) T5 (PySem.F.args_bexc_ga (.ref x) (.str "__class__" t0)) ?_))
    unfold Builtin.«object.__getattribute__»
    refine wpAny_bind (wpAny_of_eq (a := ((Value.ref x : Value), [Value.str "__class__" t0])) (by first | rfl | (simp only [slotArgs]; rfl)) (wpAny_bind (wpAny_pure (wpAny_bind (T1.at (wpAny_bind (T4.at ?_)))))))
    show wpAny _ _ (holding [Value.builtin "object.__class__"] (call (.builtin "getset_descriptor.__get__") [.builtin "object.__class__", .ref x, .ref D]) >>= ret) _ _ _
    refine wpAny_bind (wpAny_holding (wpAny_call (class_get (s := ⟨h0, g0, d0, t0 + 1, os0⟩) (ox := ox) (od := some od) X I C.hm (wpAny_pure ?_))))
    show wpAny _ _ (handedOut (.ref D)) _ _ _
    rw [handedOut_of (v := .ref D) rfl]
    first
      | exact wpAny_pure (wpAny_pure q)
      | exact wpAny_pure q
      | exact wpAny_pure (wpAny_bind (wpAny_pure (wpAny_pure q))))
theorem exd_kit (C : L2.ExcC K D) : KitX K (.ref x) (.ref D) (fun h => InstAt h x ox D (some od)) := by
  obtain ⟨cd, hcd, _⟩ := any_some C.hd
  have hob : ∃ (oc : Value) (o1 : Option Addr) (sl : Array (Option Value)), K.lookup D = some ⟨oc, o1, .cls cd, sl⟩ := by
    unfold clsIn at hcd
    split at hcd
    · rename_i c' d' cd' sl' ho
      cases hcd
      exact ⟨c', d', sl', ho⟩
    · cases hcd
  obtain ⟨oc, o1, sl, ho⟩ := hob
  exact { ty := fun _ _ _ I => I.type
          it := fun _ _ X _ A' Q' E' s' k q => by
            unfold isType loadHead
            exact wpAny_bind (wpAny_loadPart (k _ _ (X _ _ ho)) (wpAny_pure q))
          ne := fun h tp dd its n sl2 X htp => by
            cases e : (Value.ref D == Value.ref tp) with
            | false => rfl
            | true =>
              obtain rfl : D = tp := Value.ref.inj (beq_iff_eq.mp e)
              have z := (X _ _ ho).symm.trans htp
              cases z
          ca := fun X I q => exd_class C X I q }
end
open PySem PySem.Spec PyProof.Rows L2
/-! ### classes by their names -/
def uniqB (K : PySem.W.Frag) (c : Str) (C0 : Addr) : Bool := K.all fun q => match q.2.data with
  | .cls cd => !(cd.name == c) || q.1 == C0
  | _ => true
theorem lookup_in {a : Addr} {o : Obj} : ∀ {l : List (Addr × Obj)}, l.lookup a = some o → (a, o) ∈ l
  | [], h => by cases h
  | (b, u) :: r, h => by
    rw [List.lookup_cons] at h
    by_cases z : (a == b) = true
    · rw [z] at h
      cases h
      rw [beq_iff_eq.mp z]
      exact List.mem_cons_self
    · rw [Bool.not_eq_true] at z
      rw [z] at h
      exact List.mem_cons_of_mem _ (lookup_in h)
theorem uniq_of {K : PySem.W.Frag} {c : Str} {C0 C : Addr} (h : uniqB K c C0 = true) (e : nameIn K C = some c) : C = C0 := by
  unfold nameIn at e
  cases q : PySem.W.clsIn K C with
  | none =>
    rw [q] at e
    cases e
  | some cd =>
    rw [q] at e
    have e2 : cd.name = c := Option.some.inj e
    unfold PySem.W.clsIn at q
    split at q
    · rename_i oc od cd2 sl ho
      cases q
      have := List.all_eq_true.mp h _ (lookup_in ho)
      dsimp only at this
      rw [e2, beq_self_eq_true] at this
      exact beq_iff_eq.mp this
    · cases q
/-- what a kept exception of the classes kn must bear -/
structure XobC (K : PySem.W.Frag) (cls : ClT) (kn : List String) : Prop where
  nm : ∀ n ∈ kn, nameIn K (cls n) = some (n : Str)
  un : ∀ n ∈ kn, ∀ C, nameIn K C = some (n : Str) → C = cls n
  xf : ∀ n ∈ kn, XfC K (cls n)
  no : ∀ n ∈ kn, PySem.W.findIn K (.ref (cls n)) (fldOf n) = some none
  ec : ∀ n ∈ kn, ExcC K (cls n)
section
variable {X : Cx} {G : Gh} {W : WX} {e : Expr} {f : EF} {pos p : Pos} {kn : List String}
/-! ### o.field -/
def gFld (kn : List String) (fld : String) : D → MS → Out := fun d ms => match d with
  | .xob c u => if c ∈ kn ∧ fldOf c = fld then .ok (.o 0) u ms else .bad
  | _ => .bad
def eFld (kn : List String) (fld : String) (f : EF) : EF := fun env ms => (f env ms).bindF (gFld kn fld)
theorem pe_fldx {te : TE} {n : Str} (he : PE X e te) (hb : attributeBase e n X.env (eval e X.env) = eval e X.env) : PE X (.Attribute e n pos) (fun σ H Q => te σ H fun x H1 => ∃ (a C dd : Addr) (fs : List (Str × V)) (v : V), x = .ref a ∧ H1 a = some (ExH (.ref C) (some dd) a) ∧ XfC X.K C ∧ PySem.W.findIn X.K (.ref C) n = some none ∧ H1 dd = some (.xd fs) ∧ fs.lookup n = some v ∧ Q v H1) := by
  refine ⟨fun pins s σ H Q I h => attr_of hb (thn (he.run pins s σ H _ I h) fun u s1 ⟨x, H1, I1, rx, a, C, dd, fs, v, ex, ea, T, hno, ed, l, q⟩ => ?_)⟩
  subst ex
  obtain rfl : u = Value.ref a := rx
  obtain ⟨⟨oe, vs, ha, hz, hd⟩, _, _⟩ := I1.hok a _ ea
  obtain ⟨mA, hns, hr⟩ := I1.hok dd _ ed
  obtain ⟨od, ho, hl⟩ := lookIn_ns hns
  obtain ⟨u, hu, ru⟩ := RelO.some_of (v := v) (o := mA n) (by rw [← l]; exact hr n)
  have J : PySem.W.InstAt s1.heap a oe C (some od) := ⟨ha, hz.1, by unfold PySem.W.notCls; rw [hd] <;> rfl, by rw [hz.2]; exact ho⟩
  exact HandSPX.exc_get I1.kIn J T.ga T.gg T.exC (PySem.W.findObj_own T.hdC hno rfl (by rw [hl, hu])) (handed_of ru) ⟨v, H1, I1.tok _, ru, q⟩
theorem se_fldx (T : XobC X.K G.cls kn) (fld : String) (he : SE X G W e f) (hb : attributeBase e (fld : Str) X.env (eval e X.env) = eval e X.env := by rfl) : SE X G W (.Attribute e (fld : Str) pos) (eFld kn fld f) := by
  obtain ⟨t, pt, h⟩ := he
  refine ⟨_, pe_fldx pt hb, fun σ H env ms Z Q r q => h σ H env ms Z _ r (PostE.bindF r q fun d ms' v H' Z' x' r' rp p' => ?_)⟩
  cases d with
  | xob c u =>
    simp only [gFld] at p'
    by_cases z : c ∈ kn ∧ fldOf c = fld
    · rw [if_pos z] at p'
      obtain ⟨a, C, dx, uv, rfl, ha, hn, hd, ru⟩ := rp
      have eC := T.un c z.1 C hn
      subst eC
      refine ⟨a, _, dx, _, uv, rfl, r'.bh _ _ (r'.fb _ _ ha), T.xf c z.1, ?_, r'.bh _ _ (r'.fb _ _ hd), ?_, p' uv H' Z' r'.refl r' ru⟩
      · rw [← z.2]
        exact T.no c z.1
      · rw [← z.2]
        exact List.lookup_cons_self
    · rw [if_neg z] at p'
      exact p'.elim
  | _ => exact p'.elim
/-! ### isinstance(o, C) -/
def gIsX (kn : List String) (tb : String → Bool) : Fl → D → MS → Out := fun _ d ms => match d with
  | .xob c _ => if c ∈ kn then .ok (.o 0) (.bl (tb c)) ms else .bad
  | _ => .bad
def rIsX (K : PySem.W.Frag) : List V → Hp → VK → Prop := fun xs H Q => ∃ (a C D dd : Addr) (fs : List (Str × V)) (b : Bool), xs = [.ref a, .ref D] ∧ H a = some (ExH (.ref C) (some dd) a) ∧ H dd = some (.xd fs) ∧ ExcC K C ∧ PySem.W.kitOne K (.ref C) (.ref D) = some b ∧ Q (.bl b) H
theorem call_isX : CallR X (.builtin "isinstance") (rIsX X.K) := by
  intro pins s σ H xs us Q I r h
  obtain ⟨a, C, D, dd, fs, b, rfl, ea, ed, T, hk, q⟩ := h
  obtain ⟨u1, u2, rfl, r1, r2⟩ := vals2 r
  obtain rfl : u1 = Value.ref a := r1
  obtain rfl : u2 = Value.ref D := r2
  obtain ⟨⟨oe, vs, ha, hz, hd⟩, _, _⟩ := I.hok a _ ea
  obtain ⟨mA, hns, hr⟩ := I.hok dd _ ed
  obtain ⟨od, ho, hl⟩ := lookIn_ns hns
  have J : PySem.W.InstAt s.heap a oe C (some od) := ⟨ha, hz.1, by unfold PySem.W.notCls; rw [hd] <;> rfl, by rw [hz.2]; exact ho⟩
  exact PySem.W.kia_one (exd_kit T) I.kIn J hk (fun z => nomatch z) fun tk => ⟨.bl b, H, I.kept (t' := tk) fun _ _ z => z, rfl, q⟩
theorem se_isX {x : Str} {p2 : Pos} {D : Addr} (T : XobC X.K G.cls kn) (tb : String → Bool) (hk : ∀ n ∈ kn, PySem.W.kitOne X.K (.ref (G.cls n)) (.ref D) = some (tb n)) (hm : X.mg "isinstance" = none) (hm2 : X.mg x = some (.ref D)) (ha : SE X G W e f) (hg : Gl X "isinstance" := by rfl) (hg2 : Gl X x := by rfl)
    (hdb : (x == ("__debug__" : Str)) = false := by decide)
    (hs : starEach [e, .Name x p2] X.env = (false, eval e X.env) :: starEach [.Name x p2] X.env := by rfl) (hs2 : starEach [.Name x p2] X.env = (false, eval (.Name x p2) X.env) :: starEach [] X.env := by rfl)
    (hpl : (backTo pos (starEach [.Name x p2] X.env)).any (·.1) = false := by rfl) :
    SE X G W (.Call (.Name "isinstance" p) [e, .Name x p2] [] pos) (eC1 (gIsX kn tb) f) := by
  obtain ⟨ta, pa, ha⟩ := ha
  refine ⟨_, pe_callB call_isX hg hm rfl (pa_cons pa (pa_cons (pe_glob hg2 hm2 (v := .ref D) rfl hdb) pa_nil hs2) hs) (by decide) (by decide) hs hpl, fun σ H env ms Z Q hr q =>
    ha σ H env ms Z _ hr (PostE.bind hr q fun l d m v H' Z' x r' t' q' => ?_)⟩
  cases d with
  | xob c u =>
    simp only [gIsX] at q'
    by_cases z : c ∈ kn
    · rw [if_pos z] at q'
      obtain ⟨a, C, dx, uv, rfl, ha, hn, hd, ru⟩ := Rep.mono r'.bh _ _ (t'.rep r'.fb)
      have eC := T.un c z C hn
      subst eC
      exact ⟨a, _, D, dx, _, tb c, rfl, ha, hd, T.ec c z, hk c z, PostE.fin r' q' rfl⟩
    · rw [if_neg z] at q'
      exact q'.elim
  | _ => exact q'.elim
end
def whileFuel : Nat := 4096
/-! ### try, its exceptions kept -/
structure DC2 where
  m : String → Bool
  o : Option Nat
  F : FS
def catchT : List DC2 → String → D → FS
  | [], c, d, env, ms => .ex c d env ms
  | k :: r, c, d, env, ms => bif k.m c then (match k.o with
      | none => (k.F env ms).caught
      | some i => (k.F (env.set i (some (0, .xob c d))) ms).gone i) else catchT r c d env ms
def sTryT (kn : List String) (Fb : FS) (cs : List DC2) : FS := fun env ms => match Fb env ms with
  | .ex c d env' ms' => if c ∈ kn then catchT cs c d env' ms' else .bad
  | x => x
inductive HDT (X : Cx) (G : Gh) (kn : List String) : List ExceptHandler → List DC2 → Prop
  | nil : HDT X G kn [] []
  | cons {t : Expr} {cs : List Value} {m : String → Bool} {F : FS} {b₀ : Stmt} {suite : List Stmt} {pos' : Pos} {hds : List ExceptHandler} {l : List DC2} (ht : TestX X t cs) (hm : ∀ n ∈ kn, PySem.W.exmAny X.K (.ref (G.cls n)) cs = some (m n))
      (hsu : ∀ (a : Addr) (pn : List (Addr × Obj)), SB (X.suite a pn) G W0 (b₀ :: suite) F) (r : HDT X G kn hds l) :
      HDT X G kn (.ExceptHandler (some t) none (b₀ :: suite) pos' :: hds) (⟨m, none, F⟩ :: l)
  | consA {t : Expr} {n : Str} {i : Nat} {cs : List Value} {m : String → Bool} {F : FS} {b₀ : Stmt} {suite : List Stmt} {pos' : Pos} {hds : List ExceptHandler} {l : List DC2} (ht : TestX X t cs) (hm : ∀ n ∈ kn, PySem.W.exmAny X.K (.ref (G.cls n)) cs = some (m n))
      (hsu : ∀ (a : Addr) (pn : List (Addr × Obj)), SB (X.suite a pn) G W0 (b₀ :: suite) F) (r : HDT X G kn hds l) (hi : X.N[i]? = some n := by rfl) (hln : X.env.kindOf n = some .local := by rfl) :
      HDT X G kn (.ExceptHandler (some t) (some n) (b₀ :: suite) pos' :: hds) (⟨m, some i, F⟩ :: l)
section
variable {X : Cx} {G : Gh} {W : WX} {kn : List String} {body : List Stmt} {h₀ : ExceptHandler} {hds : List ExceptHandler} {cs : List DC2} {Fb : FS} {pos : Pos}
theorem hdt_of : ∀ {hds : List ExceptHandler} {cs : List DC2}, HDT X G kn hds cs → ∃ l, HdsT X hds l ∧ l.length = cs.length ∧ ∀ (j : Nat) (k : DC2) (q : Cl2), cs[j]? = some k → l[j]? = some q → q.o = k.o ∧ (∀ a c d, q.ts a c d = tS X.K G W0 k.F) ∧ ∀ n ∈ kn, PySem.W.exmAny X.K (.ref (G.cls n)) q.cs = some (k.m n)
  | _, _, .nil => ⟨[], .nil, rfl, fun j k q e => by simp at e⟩
  | _, _, .cons ht hm hsu r => by
    obtain ⟨l', h1, h2, h3⟩ := hdt_of r
    refine ⟨_, .cons (ts := fun _ _ _ => tS X.K G W0 _) ht (fun a cls d pn => hsu a pn) h1, congrArg (· + 1) h2, fun j k q e1 e2 => ?_⟩
    cases j with
    | zero =>
      cases e1
      cases e2
      exact ⟨rfl, fun _ _ _ => rfl, hm⟩
    | succ j => exact h3 j k q e1 e2
  | _, _, .consA ht hm hsu r hi hln => by
    obtain ⟨l', h1, h2, h3⟩ := hdt_of r
    refine ⟨_, .consA (ts := fun _ _ _ => tS X.K G W0 _) ht hi hln (fun a cls d pn => hsu a pn) h1, congrArg (· + 1) h2, fun j k q e1 e2 => ?_⟩
    cases j with
    | zero =>
      cases e1
      cases e2
      exact ⟨rfl, fun _ _ _ => rfl, hm⟩
    | succ j => exact h3 j k q e1 e2
theorem catchT_sem {K : PySem.W.Frag} {N : Ends} {c : String} {d : D} {dx : Addr} {σ : Sl} {H : Hp} {env : Env} {ms : MS} {Z : Zs} (nx : G.xf = none) (hk : c ∈ kn) (hn : nameIn K (G.cls c) = some (c : Str)) (r : R K G env ms σ H Z) (hq : Rep K Z.f (.exc (fldOf c) d) (.ref dx)) :
    ∀ (cs : List DC2) (l : List Cl2), l.length = cs.length → (∀ (j : Nat) (k : DC2) (q : Cl2), cs[j]? = some k → l[j]? = some q → q.o = k.o ∧ (∀ a c d, q.ts a c d = tS K G W0 k.F) ∧ ∀ n ∈ kn, PySem.W.exmAny K (.ref (G.cls n)) q.cs = some (k.m n)) →
      PostS K G W Z N (catchT cs c d env ms) → wManyT K W N l (.ref (G.cls c)) (some dx) σ H
  | [], [], _, _, p => p dx σ H Z (Same.refl _) r hq
  | [], _ :: _, e, _, _ => by cases e
  | _ :: _, [], e, _, _ => by cases e
  | k :: cs, q :: l, e, hh, p => by
    obtain ⟨h1, h2, h3⟩ := hh 0 k q rfl rfl
    refine ⟨k.m c, h3 c hk, fun hm a na => ?_, fun hm => catchT_sem nx hk hn r hq cs l (Nat.succ.inj e) (fun j k q e1 e2 => hh (j + 1) k q e1 e2) ?_⟩
    · rw [h1]
      have p' : PostS K G W Z N (match k.o with
        | none => (k.F env ms).caught
        | some i => (k.F (env.set i (some (0, .xob c d))) ms).gone i) := by
        have p2 := p
        simp only [catchT, hm, cond_true] at p2
        exact p2
      cases ho : k.o with
      | none =>
        rw [ho] at p'
        dsimp only at p' ⊢
        rw [h2]
        refine ⟨env, ms, Z, r, ?_⟩
        cases e2 : k.F env ms with
        | ex _ _ _ _ =>
          rw [e2] at p'
          exact p'.elim
        | nx _ _ =>
          rw [e2] at p'
          exact p'
        | bk _ _ =>
          rw [e2] at p'
          exact p'
        | ct _ _ =>
          rw [e2] at p'
          exact p'
        | rt _ _ =>
          rw [e2] at p'
          exact p'
        | bad =>
          rw [e2] at p'
          exact p'
      | some i =>
        rw [ho] at p'
        dsimp only at p' ⊢
        rw [h2]
        obtain ⟨a', u, ea, hx, hu⟩ := hq
        obtain rfl : dx = a' := by
          cases ea
          rfl
        have hs := (r.extF (u := ExH (.ref (G.cls c)) (some dx) a) na).ff
        have r2 := (r.newF (u := ExH (.ref (G.cls c)) (some dx) a) na).set0 i (d := .xob c d) (v := .ref a) ⟨a, _, dx, u, rfl, upd_same, hn, hs _ _ hx, Rep.mono hs _ _ hu⟩
        refine ⟨env.set i (some (0, .xob c d)), ms, _, r2, ?_⟩
        have p3 := PostS.mono hs p'
        cases e2 : k.F (env.set i (some (0, .xob c d))) ms with
        | ex _ _ _ _ =>
          rw [e2] at p3
          exact p3.elim
        | nx e3 m3 =>
          rw [e2] at p3
          exact fun σ' H' Z' s' r' => p3 (σ'.set i none) H' Z' s' (r'.unset nx i none)
        | bk _ _ =>
          rw [e2] at p3
          exact fun σ' H' Z' s' r' => p3 (σ'.set i none) H' Z' s' (r'.unset nx i none)
        | ct _ _ =>
          rw [e2] at p3
          exact fun σ' H' Z' s' r' => p3 (σ'.set i none) H' Z' s' (r'.unset nx i none)
        | rt _ _ =>
          rw [e2] at p3
          exact p3
        | bad =>
          rw [e2] at p3
          exact p3
    · have p2 := p
      simp only [catchT, hm, cond_false] at p2
      exact p2
theorem ss_tryT (kn : List String) (nx : G.xf = none) (T : XobC X.K G.cls kn) (hs : X.stack = X.env :: X.outer) (hf : X.env.frame = some X.env.locals) (hN : X.N.Nodup) (hex : X.ex = []) (tk : Takes X W)
    (hb : ∀ (W : WX) (pn : List (Addr × Obj)) (xe : Value → Shared → Prop), Takes (X.tr pn xe) W → PassesOwn (model X.prog X.w) X.A X.env xe → SB (X.tr pn xe) G W body Fb)
    (hh : HDT X G kn (h₀ :: hds) cs) : SS X G W (.Try body (h₀ :: hds) [] [] pos) (sTryT kn Fb cs) := by
  obtain ⟨l, h1, h2, h3⟩ := hdt_of hh
  refine SS.mk (ps_try_kept (tb := fun W => tS X.K G W Fb) hs hf hN hex tk hb h1) fun N σ H env ms Z r p => ⟨env, ms, Z, r, ?_⟩
  unfold sTryT at p
  cases e : Fb env ms with
  | ex c d env' ms' =>
    rw [e] at p
    dsimp only at p
    by_cases hk : c ∈ kn
    · rw [if_pos hk] at p
      exact fun dx σ' H' Z' s' r' q' => catchT_sem nx hk (T.nm c hk) r' q' cs l h2 h3 (PostS.mono s' p)
    · rw [if_neg hk] at p
      exact p.elim
  | nx _ _ =>
    rw [e] at p
    exact p
  | bk _ _ =>
    rw [e] at p
    exact p
  | ct _ _ =>
    rw [e] at p
    exact p
  | rt _ _ =>
    rw [e] at p
    exact p
  | bad =>
    rw [e] at p
    exact p
end
/-! ### a, b, c = x, y, z -/
def sPar3 (i j l : Nat) (fl : EL) : FS := fun env ms => match fl env ms with
  | .ok [d, d', d2] m => .nx (((env.set i (some (0, d))).set j (some (0, d'))).set l (some (0, d2))) m
  | .ok _ _ => .bad
  | .exc c d m => .ex c d env m
  | .bad => .bad
theorem ss_par3 {X : Cx} {G : Gh} {W : WX} {a b c : Expr} {pos : Pos} (i j l : Nat) {x y z : Str} {px py pz pt : Pos} {kt k2 : Nat} {pt2 : Pos} {fl : EL} (hc : X.calm = true) (hN : X.N.Nodup) (ha : SA X G W [a, b, c] fl) (hij : i ≠ j := by decide) (hil : i ≠ l := by decide) (hjl : j ≠ l := by decide) (hi : X.N[i]? = some x := by rfl) (hj : X.N[j]? = some y := by rfl) (hl : X.N[l]? = some z := by rfl)
    (hx : X.env.scope.names.lookup x = some .local := by rfl) (hy : X.env.scope.names.lookup y = some .local := by rfl) (hz : X.env.scope.names.lookup z = some .local := by rfl)
    (hw : swappedStores [.Tuple [.Name x px, .Name y py, .Name z pz] kt pt] (.Tuple [a, b, c] k2 pt2) X.env = pure (some [x, y, z]) := by rfl)
    (hs : swapsWithSole [.Tuple [.Name x px, .Name y py, .Name z pz] kt pt] (.Tuple [a, b, c] k2 pt2) pos.line X.env = pure false := by rfl) :
    SS X G W (.Assign [.Tuple [.Name x px, .Name y py, .Name z pz] kt pt] (.Tuple [a, b, c] k2 pt2) pos) (sPar3 i j l fl) := by
  obtain ⟨t, pa, h⟩ := ha
  refine SS.mk (ps_par3 hc hN hi hj hl hij hil hjl hx hy hz pa hw hs) fun N σ H env ms Z r p => h σ H env ms Z _ r ?_
  unfold sPar3 at p
  cases e : fl env ms with
  | ok ds m =>
    rw [e] at p
    intro vs H' Z' x' r' q
    match ds, q, p with
    | [d, d', d2], q, p =>
      obtain ⟨v, r1, rfl, q1, v', r2, rfl, q2, v2, r3, rfl, q3, q4⟩ := q
      have q4' : r3 = [] := q4
      subst q4'
      exact ⟨v, v', v2, rfl, p _ H' Z' x'.ff (((r'.set0 i q1).set0 j q2).set0 l q3)⟩
    | [], _, p => exact p.elim
    | [_], _, p => exact p.elim
    | [_, _], _, p => exact p.elim
    | _ :: _ :: _ :: _ :: _, _, p => exact p.elim
  | exc c d m =>
    rw [e] at p
    exact fun dx H2 Z2 x r2 t => p dx σ H2 Z2 x.ff r2 t
  | bad =>
    rw [e] at p
    exact p
theorem se_kn {X : Cx} {G : Gh} {W : WX} {pos p : Pos} {n k j nk : Nat} {g : Fn} {x : Str} {ks : List Str} {kws : List Keyword} {fk : EL} {gp : {α : Type} → List α → List α → List α} (tk : Takes X W) (F : CalK X.prog X.w X.K X.mg X.base G.cls x n k ks gp g) (hr : Room j X.A) (ha : SK X G W kws fk)
    (hkj : k ≤ j := by decide) (hnk : ks.length = nk := by rfl) (hg : Gl X x := by rfl) (hall : (backToKw pos (keywordEach kws X.env)).all (·.1.isSome) = true := by rfl)
    (hks : (backToKw pos (keywordEach kws X.env)).filterMap (·.1) = ks := by rfl) (hdb : (x == ("__debug__" : Str)) = false := by decide)
    (hpl : ((backTo pos (starEach [] X.env)).any (·.1) || (backToKw pos (keywordEach kws X.env)).any (·.1.isNone)) = false := by rfl) :
    SE X G W (.Call (.Name x p) [] kws pos) (eCallK n g 0 nk gp lNil fk) := by
  subst hnk
  exact se_k tk F hr ha hkj hg hall hks hdb hpl
end DL
/-! ### zip of a tuple and a list, in either order -/
namespace DL
section
open PySem
open PySem.Sem (wp)
/-- true: a tuple; false: a list -/
def SqH (t : Bool) (h : Heap) (l : Addr) (xs : Array Value) : Prop := match t with
  | true => h.IsTuple l xs
  | false => h.IsList l xs
def ItH (t : Bool) (h : Heap) (it l : Addr) (k : Nat) : Prop := match t with
  | true => h.IsTupleIter it l k
  | false => h.IsListIter it l k
theorem SqH.ext {t : Bool} {h h' : Heap} {c l : Addr} {xs : Array Value} (x : SqH t h l xs) (e : Heap.ExtBut c h h') (n : l ≠ c) : SqH t h' l xs := by
  cases t
  · exact Heap.IsList.extBut x e n
  · exact Heap.IsTuple.extBut x e n
theorem ItH.ext {t : Bool} {h h' : Heap} {c it l : Addr} {k : Nat} (x : ItH t h it l k) (e : Heap.ExtBut c h h') (n : it ≠ c) : ItH t h' it l k := by
  cases t
  · exact Heap.IsListIter.extBut x e n
  · exact Heap.IsTupleIter.extBut x e n
theorem ItH.up {t : Bool} {h h' : Heap} {it l : Addr} {k : Nat} (x : ItH t h it l k) (e : ∀ o, h.get? it = some o → h'.get? it = some o) : ItH t h' it l k := by
  cases t
  · exact Heap.IsListIter.at x e
  · exact Heap.IsTupleIter.at x e
theorem ItH.obj {t : Bool} {h : Heap} {it l : Addr} {k : Nat} (x : ItH t h it l k) : ∃ o, h.get? it = some o ∧ ∀ v, o.data ≠ .cell v := by
  cases t
  · obtain ⟨o, e, _, d⟩ := x
    exact ⟨o, e, fun v q => by rw [d] at q; cases q⟩
  · obtain ⟨o, e, _, d⟩ := x
    exact ⟨o, e, fun v q => by rw [d] at q; cases q⟩
variable {P : Program} {w : World} {A : Around} {E : Value → Shared → Prop} {s : Shared}
theorem nx_item {t : Bool} {it l : Addr} {k : Nat} {xs : Array Value} {x : Value} {Q : Value → Shared → Prop} (hi : ItH t s.heap it l k) (hl : SqH t s.heap l xs) (hx : xs[k]? = some x)
    (q : ∀ h', ItH t h' it l (k + 1) → Heap.SameBut it s.heap h' → Q x { s with heap := h' }) : wpAny (model P w) A (Builtin.SmallTypes.nextOf (.ref it)) Q E s := by
  cases t
  · exact wpAny_nextOf_list_item hi hl hx q
  · exact RZ.nextOf_tuple_item hi hl hx q
theorem nx_end {t : Bool} {it l : Addr} {k : Nat} {xs : Array Value} {Q : Value → Shared → Prop} (hh : A.handled = none) (hi : ItH t s.heap it l k) (hl : SqH t s.heap l xs) (hx : xs[k]? = none)
    (q : ∀ h' e, Heap.ExtBut it s.heap h' → (∃ o, h'.get? e = some o ∧ o.cls = .type "StopIteration") → E (.ref e) { s with heap := h' }) : wpAny (model P w) A (Builtin.SmallTypes.nextOf (.ref it)) Q E s := by
  cases t
  · exact wpAny_nextOf_list_end hh hi hl hx q
  · exact RZ.nextOf_tuple_end hh hi hl hx q
theorem zm_item {t1 t2 : Bool} {z U V i j a b : Addr} {m n : Nat} {xs ys : Array Value} {x y p q : Value} {Q : Value → Shared → Prop} (D : ZipApart z U V i j a b) (hz : IsZip s.heap z U V .none) (hU : IsPair s.heap U (.ref i) (.ref j)) (hV : IsPair s.heap V p q)
    (hi : ItH t1 s.heap i a m) (hj : ItH t2 s.heap j b n) (ha : SqH t1 s.heap a xs) (hb : SqH t2 s.heap b ys) (hx : xs[m]? = some x) (hy : ys[n]? = some y)
    (hQ : ∀ h', IsZip h' z U V (rawInt s.heap.objs.size) → IsPair h' V x y → ItH t1 h' i a (m + 1) → ItH t2 h' j b (n + 1) → IsPair h' s.heap.objs.size x y → h'.objs.size = s.heap.objs.size + 1 →
      (∀ c o, c ≠ z → c ≠ V → c ≠ i → c ≠ j → s.heap.get? c = some o → h'.get? c = some o) → Q (.ref s.heap.objs.size) { s with heap := h' }) :
    wpAny (model P w) A (Builtin.«zip.__next__» ⟨[.ref z], []⟩) (fun r s' => ∃ v, r = .done (.ret v) ∧ Q v s') E s := by
  show wpAny _ _ (field (.ref z) 2 >>= _) _ _ _
  refine wpAny_bind (wpAny_field (x := .bool false) hz rfl rfl (by
    show wpAny _ _ (field (.ref z) 3 >>= _) _ _ _
    refine wpAny_bind (wpAny_field (x := .ref U) hz rfl rfl (wpAny_bind (wpAny_seqItems hU rfl ?_)))
    show wpAny _ _ (Builtin.SmallTypes.ownedTupleIsFree (.ref z) >>= _) _ _ _
    refine wpAny_bind (by
      unfold Builtin.SmallTypes.ownedTupleIsFree
      refine wpAny_bind (wpAny_field (x := .none) hz rfl rfl (wpAny_pure ?_))
      simp only [if_true]
      refine wpAny_bind (wpAny_rule (wpAny_bind (wpAny_field (x := .ref V) hz rfl rfl (wpAny_bind (wpAny_setField_rec hz (by simp) fun g1 z1 u1 => ?_)))))
      replace z1 : IsZip g1 z U V .ellipsis := z1
      refine wpAny_bind (by
        simp only [List.zipIdx_cons, List.zipIdx_nil, List.forIn_cons, List.forIn_nil]
        refine wpAny_bind (wpAny_bind (wpAny_onRaise (by
          show wpAny _ _ (Builtin.SmallTypes.nextOf (.ref i) >>= _) _ _ _
          refine wpAny_bind (nx_item (hi.ext u1.extBut D.i1z) (ha.ext u1.extBut D.l1z) hx fun g2 hi2 u2 => wpAny_pure ?_)
          have v2 : IsPair g2 V p q := u2.extBut _ _ D.TOi1 (u1.extBut _ _ D.TOz hV)
          refine wpAny_bind (wpAny_seqItems v2 rfl (wpAny_bind (wpAny_updateSeq_pair v2 fun g3 v3 u3 => ?_)))
          replace v3 : IsPair g3 V x q := v3
          refine wpAny_bind (wpAny_letGo (wpAny_pure (wpAny_bind (wpAny_bind (wpAny_onRaise (by
            show wpAny _ _ (Builtin.SmallTypes.nextOf (.ref j) >>= _) _ _ _
            refine wpAny_bind (nx_item (((hj.ext u1.extBut D.i2z).ext u2.extBut D.i12.symm).ext u3.extBut D.TOi2.symm) (((hb.ext u1.extBut D.l2z).ext u2.extBut D.l2i1).ext u3.extBut D.l2TO) hy fun g4 hj4 u4 => wpAny_pure ?_)
            have v4 : IsPair g4 V x q := u4.extBut _ _ D.TOi2 v3
            refine wpAny_bind (wpAny_seqItems v4 rfl (wpAny_bind (wpAny_updateSeq_pair v4 fun g5 v5 u5 => ?_)))
            replace v5 : IsPair g5 V x y := v5
            refine wpAny_bind (wpAny_letGo (wpAny_pure (wpAny_pure (wpAny_bind (wpAny_seqItems v5 rfl (wpAny_bind (wpAny_newTuple ?_)))))))
            have sz : g5.objs.size = s.heap.objs.size := by rw [u5.1, u4.1, u3.1, u2.1, u1.1]
            have z5 : IsZip g5 z U V .ellipsis := u5.extBut _ _ D.TOz.symm (u4.extBut _ _ D.i2z.symm (u3.extBut _ _ D.TOz.symm (u2.extBut _ _ D.i1z.symm z1)))
            have k5 : ∀ c o, c ≠ z → c ≠ V → c ≠ i → c ≠ j → s.heap.get? c = some o → g5.get? c = some o := fun c o c1 c2 c3 c4 e => u5.extBut _ _ c2 (u4.extBut _ _ c4 (u3.extBut _ _ c2 (u2.extBut _ _ c3 (u1.extBut _ _ c1 e))))
            have i5 : ItH t1 g5 i a (m + 1) := ((hi2.ext u3.extBut D.TOi1.symm).ext u4.extBut D.i12).ext u5.extBut D.TOi1.symm
            have j5 : ItH t2 g5 j b (n + 1) := hj4.ext u5.extBut D.TOi2.symm
            have lz : z < g5.objs.size := Heap.lt_size z5
            show wpAny _ _ (Builtin.SmallTypes.ownedTupleHandOut (.ref z) (.ref g5.objs.size) >>= _) _ _ _
            refine wpAny_bind (by
              unfold Builtin.SmallTypes.ownedTupleHandOut
              have z6 : IsZip (g5.push { cls := .type "tuple", data := .seq #[x, y] }) z U V .ellipsis := Heap.get?_push_of_some _ z5
              refine wpAny_bind (wpAny_setField_rec z6 (by simp) fun g7 z7 u7 => ?_)
              replace z7 : IsZip g7 z U V (rawInt g5.objs.size) := z7
              refine wpAny_setField_rec z7 (by simp) fun g8 z8 u8 => ?_
              replace z8 : IsZip g8 z U V (rawInt g5.objs.size) := z8
              have up : ∀ c o, c ≠ z → g5.get? c = some o → g8.get? c = some o := fun c o c1 e => u8.extBut _ _ c1 (u7.extBut _ _ c1 (Heap.get?_push_of_some _ e))
              have p8 : IsPair g8 g5.objs.size x y := u8.extBut _ _ (Nat.ne_of_gt lz) (u7.extBut _ _ (Nat.ne_of_gt lz) (Heap.get?_push_size _ rfl))
              have s8 : g8.objs.size = g5.objs.size + 1 := by rw [u8.1, u7.1, Heap.size_push]
              rw [sz] at z8 p8 s8
              refine wpAny_pure ⟨_, rfl, ?_⟩
              show Q (.ref g5.objs.size) _
              rw [sz]
              exact hQ g8 z8 (up _ _ D.TOz v5) (i5.up fun o e => up _ o D.i1z e) (j5.up fun o e => up _ o D.i2z e) p8 s8 fun c o c1 c2 c3 c4 e => up c o c1 (k5 c o c1 c2 c3 c4 e)))))))))))))))
theorem zm_end {t1 t2 : Bool} {z U V i j a b : Addr} {m n : Nat} {xs ys : Array Value} {p q : Value} {Q : Fin → Shared → Prop} (hh : A.handled = none) (D : ZipApart z U V i j a b) (hz : IsZip s.heap z U V .none) (hU : IsPair s.heap U (.ref i) (.ref j)) (hV : IsPair s.heap V p q)
    (hi : ItH t1 s.heap i a m) (hj : ItH t2 s.heap j b n) (ha : SqH t1 s.heap a xs) (hb : SqH t2 s.heap b ys) (he : xs[m]? = none ∨ ys[n]? = none)
    (hE : ∀ h' e, (∀ c o, c ≠ z → c ≠ V → c ≠ i → c ≠ j → s.heap.get? c = some o → h'.get? c = some o) → (∃ o, h'.get? e = some o ∧ o.cls = .type "StopIteration") → E (.ref e) { s with heap := h' }) :
    wpAny (model P w) A (Builtin.«zip.__next__» ⟨[.ref z], []⟩) Q E s := by
  show wpAny _ _ (field (.ref z) 2 >>= _) _ _ _
  refine wpAny_bind (wpAny_field (x := .bool false) hz rfl rfl (by
    show wpAny _ _ (field (.ref z) 3 >>= _) _ _ _
    refine wpAny_bind (wpAny_field (x := .ref U) hz rfl rfl (wpAny_bind (wpAny_seqItems hU rfl ?_)))
    show wpAny _ _ (Builtin.SmallTypes.ownedTupleIsFree (.ref z) >>= _) _ _ _
    refine wpAny_bind (by
      unfold Builtin.SmallTypes.ownedTupleIsFree
      refine wpAny_bind (wpAny_field (x := .none) hz rfl rfl (wpAny_pure ?_))
      simp only [if_true]
      refine wpAny_bind (wpAny_rule (wpAny_bind (wpAny_field (x := .ref V) hz rfl rfl (wpAny_bind (wpAny_setField_rec hz (by simp) fun g1 z1 u1 => ?_)))))
      replace z1 : IsZip g1 z U V .ellipsis := z1
      refine wpAny_bind (by
        simp only [List.zipIdx_cons, List.zipIdx_nil, List.forIn_cons, List.forIn_nil]
        refine wpAny_bind (wpAny_bind (wpAny_onRaise (by
          show wpAny _ _ (Builtin.SmallTypes.nextOf (.ref i) >>= _) _ _ _
          cases hx : xs[m]? with
          | none =>
            refine wpAny_bind (nx_end hh (hi.ext u1.extBut D.i1z) (ha.ext u1.extBut D.l1z) hx fun g2 e u2 ⟨oe, e1, e2⟩ => ?_)
            have z2 : IsZip g2 z U V .ellipsis := u2 _ _ D.i1z.symm z1
            have nez : e ≠ z := fun x => by
              rw [x, z2] at e1
              cases e1
              simp at e2
            exact wpAny_setField_rec z2 (by simp) fun g3 _ u3 => hE g3 e (fun c o c1 _ c3 _ x => u3.extBut _ _ c1 (u2 _ _ c3 (u1.extBut _ _ c1 x))) ⟨oe, u3.extBut _ _ nez e1, e2⟩
          | some x =>
            have hy : ys[n]? = none := by
              rcases he with h | h
              · rw [hx] at h
                cases h
              · exact h
            refine wpAny_bind (nx_item (hi.ext u1.extBut D.i1z) (ha.ext u1.extBut D.l1z) hx fun g2 hi2 u2 => wpAny_pure ?_)
            have v2 : IsPair g2 V p q := u2.extBut _ _ D.TOi1 (u1.extBut _ _ D.TOz hV)
            refine wpAny_bind (wpAny_seqItems v2 rfl (wpAny_bind (wpAny_updateSeq_pair v2 fun g3 v3 u3 => wpAny_bind (wpAny_letGo (wpAny_pure (wpAny_bind (wpAny_bind (wpAny_onRaise (by
              show wpAny _ _ (Builtin.SmallTypes.nextOf (.ref j) >>= _) _ _ _
              refine wpAny_bind (nx_end hh (((hj.ext u1.extBut D.i2z).ext u2.extBut D.i12.symm).ext u3.extBut D.TOi2.symm) (((hb.ext u1.extBut D.l2z).ext u2.extBut D.l2i1).ext u3.extBut D.l2TO) hy fun g4 e u4 ⟨oe, e1, e2⟩ => ?_)
              have z4 : IsZip g4 z U V .ellipsis := u4 _ _ D.i2z.symm (u3.extBut _ _ D.TOz.symm (u2.extBut _ _ D.i1z.symm z1))
              have nez : e ≠ z := fun x => by
                rw [x, z4] at e1
                cases e1
                simp at e2
              exact wpAny_setField_rec z4 (by simp) fun g5 _ u5 => hE g5 e (fun c o c1 c2 c3 c4 x => u5.extBut _ _ c1 (u4 _ _ c4 (u3.extBut _ _ c2 (u2.extBut _ _ c3 (u1.extBut _ _ c1 x))))) ⟨oe, u5.extBut _ _ nez e1, e2⟩))))))))))))))))
theorem zm_next {t1 t2 : Bool} {z U V i j a b : Addr} {m n : Nat} {xs ys : Array Value} {x y p q : Value} {Q : Option Value → Shared → Prop} (D : ZipApart z U V i j a b) (hz : IsZip s.heap z U V .none) (hU : IsPair s.heap U (.ref i) (.ref j)) (hV : IsPair s.heap V p q)
    (hi : ItH t1 s.heap i a m) (hj : ItH t2 s.heap j b n) (ha : SqH t1 s.heap a xs) (hb : SqH t2 s.heap b ys) (hx : xs[m]? = some x) (hy : ys[n]? = some y)
    (hQ : ∀ h', IsZip h' z U V (rawInt s.heap.objs.size) → IsPair h' V x y → ItH t1 h' i a (m + 1) → ItH t2 h' j b (n + 1) → IsPair h' s.heap.objs.size x y → h'.objs.size = s.heap.objs.size + 1 →
      (∀ c o, c ≠ z → c ≠ V → c ≠ i → c ≠ j → s.heap.get? c = some o → h'.get? c = some o) → Q (some (.ref s.heap.objs.size)) { s with heap := h' }) :
    wpAny (model P w) A (pyNext (.ref z)) Q E s := by
  have T : s.TypeIs (.ref z) "zip" := ⟨_, hz, rfl⟩
  unfold pyNext
  exact wpAny_bind (wpAny_attempt (wpAny_callSpecial?_slot (name := Str.ofString "__next__") T F.slot_zip_next (wpAny_call_entry F.slot_zip_next T F.entry_zip_next (zm_item D hz hU hV hi hj ha hb hx hy fun h' a1 a2 a3 a4 a5 a6 a7 => wpAny_pure (hQ h' a1 a2 a3 a4 a5 a6 a7)) (F.args_zip_next_1 _))))
theorem zm_stop {t1 t2 : Bool} {z U V i j a b : Addr} {m n : Nat} {xs ys : Array Value} {p q : Value} {Q : Option Value → Shared → Prop} (hh : A.handled = none) (D : ZipApart z U V i j a b) (hz : IsZip s.heap z U V .none) (hU : IsPair s.heap U (.ref i) (.ref j)) (hV : IsPair s.heap V p q)
    (hi : ItH t1 s.heap i a m) (hj : ItH t2 s.heap j b n) (ha : SqH t1 s.heap a xs) (hb : SqH t2 s.heap b ys) (he : xs[m]? = none ∨ ys[n]? = none)
    (hQ : ∀ h', (∀ c o, c ≠ z → c ≠ V → c ≠ i → c ≠ j → s.heap.get? c = some o → h'.get? c = some o) → Q none { s with heap := h' }) : wpAny (model P w) A (pyNext (.ref z)) Q E s := by
  have T : s.TypeIs (.ref z) "zip" := ⟨_, hz, rfl⟩
  unfold pyNext
  exact wpAny_bind (wpAny_attempt (wpAny_callSpecial?_slot (name := Str.ofString "__next__") T F.slot_zip_next (wpAny_call_entry F.slot_zip_next T F.entry_zip_next (zm_end hh D hz hU hV hi hj ha hb he fun h' e hk ⟨o, ho, hc⟩ => wpAny_bind (wpAny_isInstance (T := "StopIteration") (b := true) ⟨o, ho, hc⟩ isSubtype_stop (wpAny_pure (hQ _ hk)))) (F.args_zip_next_1 _))))
end
open PySem PySem.Spec PyProof.Rows L2
def SqV (t : Bool) (K : PySem.W.Frag) (H : Hp) (a : Addr) (xs : List V) : Prop := match t with
  | true => SqT K H a xs
  | false => SqL K H a xs
theorem SqV.of_same {t : Bool} {K : PySem.W.Frag} {H H' : Hp} {a : Addr} {xs : List V} (s : Same H H') (h : SqV t K H a xs) : SqV t K H' a xs := by
  cases t
  · exact s.seq h
  · exact sqT_mono s h
section
variable {X : Cx} {pins : List (Addr × Obj)} {σ : Sl} {H : Hp} {s : Shared} {t : Bool} {a : Addr} {xs ys : List V}
theorem sqv_its (I : Inv X pins σ H s) (h : SqV t X.K H a xs) : ∃ its : List Value, Vals xs its ∧ SqH t s.heap a its.toArray ∧ a < s.heap.objs.size := by
  cases t
  · obtain ⟨its, r, p, _⟩ := I.list h
    exact ⟨its, r, p.isList, p.lt⟩
  · obtain ⟨its, r, p, _⟩ := I.tuple h
    obtain ⟨o, e, _⟩ := id p
    exact ⟨its, r, (p : s.heap.IsTuple a its.toArray), Heap.lt_size e⟩
theorem sqv_inj (I : Inv X pins σ H s) (h : SqV t X.K H a xs) (h' : SqV t X.K H a ys) : xs = ys := by
  cases t
  · exact I.list_inj h h'
  · exact I.tuple_inj h h'
end
def ItzM (t1 t2 : Bool) (K : PySem.W.Frag) (a b : Addr) : It where
  go := fun i H => ∃ (xs ys : List V) (x y : V), SqV t1 K H a xs ∧ SqV t2 K H b ys ∧ xs[i]? = some x ∧ ys[i]? = some y
  yld := fun i H v H' => ∃ T x y, v = .ref T ∧ H T = none ∧ H' = upd H T (.tup [x, y]) ∧ (∀ xs, SqV t1 K H a xs → xs[i]? = some x) ∧ ∀ ys, SqV t2 K H b ys → ys[i]? = some y
  stop := fun i H => ∃ xs ys : List V, SqV t1 K H a xs ∧ SqV t2 K H b ys ∧ (xs.length ≤ i ∨ ys.length ≤ i)
theorem turn_zipM {P : Program} {w : World} {K : PySem.W.Frag} {elts : List Expr} {kk : Nat} {tpos : Pos} {t1 t2 : Bool} {a b z U V i1 i2 : Addr} (D : ZipApart z U V i1 i2 a b) :
    Turn P w K (.Tuple elts kk tpos) (ItzM t1 t2 K a b) [z, U, V, i1, i2] z (fun i h => IsZip h z U V .none ∧ IsPair h U (.ref i1) (.ref i2) ∧ (∃ x y, IsPair h V x y) ∧ ItH t1 h i1 a i ∧ ItH t2 h i2 b i) := by
  have five : ∀ {c : Addr}, c ∈ [z, U, V, i1, i2] → c = z ∨ c = U ∨ c = V ∨ c = i1 ∨ c = i2 := fun {c} hc => by simpa using hc
  refine ⟨by simp, fun i h st c hc => ?_, fun i h h' st k => ?_, ?_, ?_, fun A i s Q E st h => wpAny_pyIter_zip st.1 h⟩
  · obtain ⟨hz, hU, ⟨x, y, hV⟩, h1, h2⟩ := st
    rcases five hc with q | q | q | q | q
    · rw [q]
      exact ⟨_, hz, fun v q => by cases q⟩
    · rw [q]
      exact ⟨_, hU, fun v q => by cases q⟩
    · rw [q]
      exact ⟨_, hV, fun v q => by cases q⟩
    · rw [q]
      exact h1.obj
    · rw [q]
      exact h2.obj
  · obtain ⟨hz, hU, ⟨x, y, hV⟩, h1, h2⟩ := st
    exact ⟨k z (by simp) _ hz, k U (by simp) _ hU, ⟨x, y, k V (by simp) _ hV⟩, h1.up (k i1 (by simp)), h2.up (k i2 (by simp))⟩
  · intro X hP hw hK hc i pins s σ H E I hf ⟨hz, hU, ⟨x0, y0, hV⟩, h1, h2⟩ ⟨xs, ys, x, y, qx, qy, hx, hy⟩
    subst hP hw hK
    obtain ⟨its, rv, p1, _⟩ := sqv_its I qx
    obtain ⟨its2, rv2, p2, _⟩ := sqv_its I qy
    obtain ⟨u, hu, ru⟩ := rv.get hx
    obtain ⟨u2, hu2, ru2⟩ := rv2.get hy
    have lz : z < s.heap.objs.size := Heap.lt_size hz
    refine zm_next D hz hU hV h1 h2 p1 p2 (x := u) (y := u2) (by simpa using hu) (by simpa using hu2) fun g1 z1 v1 j1 j2 pr sz k1 => ⟨_, rfl, wpAny_letOwnedTupleGo_zip (s := { s with heap := g1 }) z1 fun g2 z2 sb => ?_⟩
    have pr2 : g2.get? s.heap.objs.size = some { cls := .type "tuple", data := .seq #[u, u2] } := (sb.2 _ (Nat.ne_of_gt lz)).trans pr
    have kp : ∀ c o, c ∉ [z, U, V, i1, i2] → s.heap.get? c = some o → g2.get? c = some o := fun c o n q => by
      simp only [List.mem_cons, List.not_mem_nil, or_false, not_or] at n
      exact (sb.2 c n.1).trans (k1 c o n.1 n.2.2.1 n.2.2.2.1 n.2.2.2.2 q)
    have J : Inv X pins σ (upd H s.heap.objs.size (.tup [x, y])) { s with heap := g2 } := I.turnedNew (t' := s.toks) (ch := [z, U, V, i1, i2]) kp hf (Nat.le_refl _) ⟨by show 2 ≤ sizeLine; decide, [u, u2], .cons ru (.cons ru2 .nil), ⟨_, pr2, rfl, _, rfl⟩⟩
    refine ⟨.ref s.heap.objs.size, _, J, rfl, ⟨_, x, y, rfl, I.hok.fresh (Nat.le_refl _), rfl, fun l hl => by rw [sqv_inj I hl qx]; exact hx, fun l hl => by rw [sqv_inj I hl qy]; exact hy⟩,
      ⟨z2, (sb.2 _ D.TIz).trans (k1 _ _ D.TIz D.TITO D.TIi1 D.TIi2 hU), ⟨u, u2, (sb.2 _ D.TOz).trans v1⟩, j1.up fun o q => (sb.2 _ D.i1z).trans q, j2.up fun o q => (sb.2 _ D.i2z).trans q⟩, fun c hc => ?_⟩
    have lt : c < s.heap.objs.size := by
      rcases five hc with q | q | q | q | q
      · rw [q]
        exact lz
      · rw [q]
        exact Heap.lt_size hU
      · rw [q]
        exact Heap.lt_size hV
      · obtain ⟨_, e, _⟩ := h1.obj
        rw [q]
        exact Heap.lt_size e
      · obtain ⟨_, e, _⟩ := h2.obj
        rw [q]
        exact Heap.lt_size e
    rw [upd_ne (Nat.ne_of_lt lt)]
    exact (hf c hc).1
  · intro X hP hw hK hc i pins s σ H E I hf ⟨hz, hU, ⟨x0, y0, hV⟩, h1, h2⟩ ⟨xs, ys, qx, qy, hend⟩
    subst hP hw hK
    obtain ⟨its, rv, p1, _⟩ := sqv_its I qx
    obtain ⟨its2, rv2, p2, _⟩ := sqv_its I qy
    have l1 := rv.length
    have l2 := rv2.length
    have he : its.toArray[i]? = none ∨ its2.toArray[i]? = none := hend.imp (fun q => by simp; omega) fun q => by simp; omega
    exact zm_stop (I.ok.hd hc) D hz hU hV h1 h2 p1 p2 he fun g kg => ⟨rfl, I.turnedL (t' := s.toks) (ch := [z, U, V, i1, i2]) (fun c o n q => by
      simp only [List.mem_cons, List.not_mem_nil, or_false, not_or] at n
      exact kg c o n.1 n.2.2.1 n.2.2.2.1 n.2.2.2.2 q) hf⟩
/-! ### zip is called -/
def itO (t : Bool) (l : Addr) : Obj := { cls := .type (bif t then "tuple_iterator" else "list_iterator"), data := .fields #[.ref l, .int 0 0] }
def zmH (h : Heap) (t1 t2 : Bool) (a b : Addr) : Heap :=
  ((((h.push (itO t1 a)).push (itO t2 b)).push { cls := .type "tuple", data := .seq #[.ref h.objs.size, .ref (h.push (itO t1 a)).objs.size] }).push { cls := .type "tuple", data := .seq #[.none, .none] }).push
    { cls := .type "zip", data := .fields #[.none, .bool false, .bool false, .ref ((h.push (itO t1 a)).push (itO t2 b)).objs.size, .ref (((h.push (itO t1 a)).push (itO t2 b)).push { cls := .type "tuple", data := .seq #[.ref h.objs.size, .ref (h.push (itO t1 a)).objs.size] }).objs.size] }
theorem zm_new_tl (a b : Addr) (xs ys : Array Value) : Meets (Builtin.«zip.__new__» ⟨[.type "zip", .ref a, .ref b], []⟩) (fun _ R s => s.heap.IsTuple a xs ∧ s.heap.IsList b ys ∧ R (.ok (.ret (.ref (s.heap.objs.size + 4)))) { s with heap := zmH s.heap true false a b }) :=
  .of_wp fun prog w A R s ⟨h1, h2, h⟩ => by
    obtain ⟨hp, g, d, tk, os⟩ := s
    have hsub := sub_zip
    have e1 : Heap.IsTuple (Shared.heap ⟨hp, g, d, tk, os⟩) a xs := h1
    have e2 : Heap.IsList (Shared.heap ⟨hp.push { cls := .type "tuple_iterator", data := .fields #[.ref a, .int 0 0] }, g, d, tk, os⟩) b ys := Heap.IsList.push h2 _
    wp_walk using wpAny_pyIter_tuple e1, wpAny_pyIter_list e2
    refine ⟨_, rfl, ?_⟩
    have z4 : hp.objs.size + 4 = ((((hp.push (itO true a)).push (itO false b)).push { cls := .type "tuple", data := .seq #[.ref hp.objs.size, .ref (hp.push (itO true a)).objs.size] }).push { cls := .type "tuple", data := .seq #[.none, .none] }).objs.size := by
      rw [Heap.size_push, Heap.size_push, Heap.size_push, Heap.size_push]
    dsimp only at h
    rw [z4] at h
    exact h
theorem zm_new_lt (a b : Addr) (xs ys : Array Value) : Meets (Builtin.«zip.__new__» ⟨[.type "zip", .ref a, .ref b], []⟩) (fun _ R s => s.heap.IsList a xs ∧ s.heap.IsTuple b ys ∧ R (.ok (.ret (.ref (s.heap.objs.size + 4)))) { s with heap := zmH s.heap false true a b }) :=
  .of_wp fun prog w A R s ⟨h1, h2, h⟩ => by
    obtain ⟨hp, g, d, tk, os⟩ := s
    have hsub := sub_zip
    have e1 : Heap.IsList (Shared.heap ⟨hp, g, d, tk, os⟩) a xs := h1
    have e2 : Heap.IsTuple (Shared.heap ⟨hp.push { cls := .type "list_iterator", data := .fields #[.ref a, .int 0 0] }, g, d, tk, os⟩) b ys := Heap.IsTuple.push h2 _
    wp_walk using wpAny_pyIter_list e1, wpAny_pyIter_tuple e2
    refine ⟨_, rfl, ?_⟩
    have z4 : hp.objs.size + 4 = ((((hp.push (itO false a)).push (itO true b)).push { cls := .type "tuple", data := .seq #[.ref hp.objs.size, .ref (hp.push (itO false a)).objs.size] }).push { cls := .type "tuple", data := .seq #[.none, .none] }).objs.size := by
      rw [Heap.size_push, Heap.size_push, Heap.size_push, Heap.size_push]
    dsimp only at h
    rw [z4] at h
    exact h
theorem itO_at (t : Bool) {h : Heap} {c l : Addr} (e : h.get? c = some (itO t l)) : ItH t h c l 0 := by
  cases t
  · exact ⟨_, e, rfl, rfl⟩
  · exact ⟨_, e, rfl, rfl⟩
theorem zmH_ok (h : Heap) (t1 t2 : Bool) (a b : Addr) : IsZip (zmH h t1 t2 a b) (h.objs.size + 4) (h.objs.size + 2) (h.objs.size + 3) .none ∧ IsPair (zmH h t1 t2 a b) (h.objs.size + 2) (.ref h.objs.size) (.ref (h.objs.size + 1)) ∧ IsPair (zmH h t1 t2 a b) (h.objs.size + 3) .none .none ∧
    ItH t1 (zmH h t1 t2 a b) h.objs.size a 0 ∧ ItH t2 (zmH h t1 t2 a b) (h.objs.size + 1) b 0 ∧ ∀ c o, h.get? c = some o → (zmH h t1 t2 a b).get? c = some o := by
  unfold zmH
  have s1 : (h.push (itO t1 a)).objs.size = h.objs.size + 1 := Heap.size_push ..
  have s2 : ((h.push (itO t1 a)).push (itO t2 b)).objs.size = h.objs.size + 2 := by rw [Heap.size_push, s1]
  rw [s1, s2]
  have s3 : (((h.push (itO t1 a)).push (itO t2 b)).push { cls := .type "tuple", data := .seq #[.ref h.objs.size, .ref (h.objs.size + 1)] }).objs.size = h.objs.size + 3 := by rw [Heap.size_push, s2]
  rw [s3]
  have s4 : ((((h.push (itO t1 a)).push (itO t2 b)).push { cls := .type "tuple", data := .seq #[.ref h.objs.size, .ref (h.objs.size + 1)] }).push { cls := .type "tuple", data := .seq #[.none, .none] }).objs.size = h.objs.size + 4 := by rw [Heap.size_push, s3]
  have up : ∀ {h : Heap} {o : Obj} {c : Addr} {u : Obj}, h.get? c = some u → (h.push o).get? c = some u := fun e => Heap.get?_push_of_some _ e
  refine ⟨Heap.get?_push_at s4.symm rfl, up (up (Heap.get?_push_at s2.symm rfl)), up (Heap.get?_push_at s3.symm rfl), itO_at t1 (up (up (up (up (Heap.get?_push_at rfl ?_))))), itO_at t2 (up (up (up (Heap.get?_push_at s1.symm ?_)))), fun c o e => up (up (up (up (up e))))⟩
  · cases t1 <;> rfl
  · cases t2 <;> rfl
section
variable {P : Program} {w : World} {A : Around} {E : Value → Shared → Prop} {s : Shared}
theorem call_zm {t1 t2 : Bool} {a b : Addr} {xs ys : Array Value} {Q : Value → Shared → Prop} (ht : t1 ≠ t2) (ha : SqH t1 s.heap a xs) (hb : SqH t2 s.heap b ys) (q : Q (.ref (s.heap.objs.size + 4)) { s with heap := zmH s.heap t1 t2 a b }) :
    wpAny (model P w) A (call (.type "zip") [.ref a, .ref b]) Q E s := by
  have nz : ∃ z, IsZip (zmH s.heap t1 t2 a b) (s.heap.objs.size + 4) (s.heap.objs.size + 2) (s.heap.objs.size + 3) z := ⟨_, (zmH_ok s.heap t1 t2 a b).1⟩
  obtain ⟨z, hz⟩ := nz
  cases t1 <;> cases t2
  · exact absurd rfl ht
  · refine callType_new F.called_zip (by decide) (F.typeCall_zip_2 _ _) (F.newCall_zip_2 _ _) (fun obj => F.args_object_init_3 obj _ _) F.entry_zip_new (zm_new_lt a b xs ys) ⟨ha, hb, ⟨_, hz, rfl⟩, q⟩
  · refine callType_new F.called_zip (by decide) (F.typeCall_zip_2 _ _) (F.newCall_zip_2 _ _) (fun obj => F.args_object_init_3 obj _ _) F.entry_zip_new (zm_new_tl a b xs ys) ⟨ha, hb, ⟨_, hz, rfl⟩, q⟩
  · exact absurd rfl ht
end
def iZipM (K : PySem.W.Frag) (ta : TA) : TI := fun σ H R => ta σ H fun vs H1 => ∃ a b xs ys, vs = [.ref a, .ref b] ∧ ((SqL K H1 a xs ∧ SqL K H1 b ys ∧ R (Itz K a b) H1) ∨ (SqT K H1 a xs ∧ SqT K H1 b ys ∧ R (RZ.ItzT K a b) H1) ∨ ∃ t1 t2, t1 ≠ t2 ∧ SqV t1 K H1 a xs ∧ SqV t2 K H1 b ys ∧ R (ItzM t1 t2 K a b) H1)
theorem pi_zipM {X : Cx} {e e2 : Expr} {ta : TA} {p pos tpos : Pos} {elts : List Expr} {kk : Nat} (hg : Gl X "zip") (hm : X.mg "zip" = none) (ha : PA X [e, e2] ta) (hs : starEach [e, e2] X.env = (false, eval e X.env) :: starEach [e2] X.env := by rfl)
    (hpl : (backTo pos (starEach [e2] X.env)).any (·.1) = false := by rfl) : PI X (.Tuple elts kk tpos) (.Call (.Name "zip" p) [e, e2] [] pos) (iZipM X.K ta) := by
  refine ⟨fun pins s σ H R I h => Call_ (ld_blt I hg hm PyProof.Rows.boot_zip (PyProof.Rows.callWith_type1 (thn (ha.run pos pins s σ H _ I h) fun us s1 ⟨vs, H1, I1, r1, a, b, xs, ys, ex, q1⟩ => ?_) hs hpl))⟩
  subst ex
  obtain ⟨u1, u2, rfl, r, r'⟩ := vals2 r1
  obtain rfl : u1 = Value.ref a := r
  obtain rfl : u2 = Value.ref b := r'
  have new5 : ∀ c, c ∈ [s1.heap.objs.size + 4, s1.heap.objs.size + 2, s1.heap.objs.size + 3, s1.heap.objs.size, s1.heap.objs.size + 1] → FpOk X pins H1 c := fun c hcm => by
    have le : s1.heap.objs.size ≤ c := by
      simp only [List.mem_cons, List.not_mem_nil, or_false] at hcm
      rcases hcm with z | z | z | z | z <;> rw [z] <;> first | exact Nat.le_add_right _ _ | exact Nat.le_refl _
    exact I1.fpOk le (I1.hok.fresh le)
  rcases q1 with ⟨qx, qy, q⟩ | ⟨qx, qy, q⟩ | ⟨t1, t2, ht, qx, qy, q⟩
  · obtain ⟨its, rv, p1, _⟩ := I1.list qx
    obtain ⟨its2, rv2, p2, _⟩ := I1.list qy
    exact call_zip_2 p1.isList p2.isList fun g hz hU hV h1 h2 sz hk => wpAny_pyIter_zip hz ⟨_, _, _, _, H1, rfl, I1.kept (t' := s1.toks) hk, turn_zip (PySem.W.ktu_apart s1.heap.objs.size a b p1.lt p2.lt), ⟨hz, hU, ⟨_, _, hV⟩, h1, h2⟩, new5, q⟩
  · obtain ⟨its, rv, p1, _⟩ := I1.tuple qx
    obtain ⟨its2, rv2, p2, _⟩ := I1.tuple qy
    obtain ⟨o1, e1, _⟩ := id p1
    obtain ⟨o2, e2, _⟩ := id p2
    exact RZ.call_zipT (p1 : s1.heap.IsTuple a its.toArray) (p2 : s1.heap.IsTuple b its2.toArray) fun g hz hU hV h1 h2 sz hk => wpAny_pyIter_zip hz ⟨_, _, _, _, H1, rfl, I1.kept (t' := s1.toks) hk, RZ.turn_zipT (PySem.W.ktu_apart s1.heap.objs.size a b (Heap.lt_size e1) (Heap.lt_size e2)), ⟨hz, hU, ⟨_, _, hV⟩, h1, h2⟩, new5, q⟩
  · obtain ⟨its, rv, p1, l1⟩ := sqv_its I1 qx
    obtain ⟨its2, rv2, p2, l2⟩ := sqv_its I1 qy
    obtain ⟨hz, hU, hV, h1, h2, hk⟩ := zmH_ok s1.heap t1 t2 a b
    exact call_zm ht p1 p2 (wpAny_pyIter_zip (s := { s1 with heap := zmH s1.heap t1 t2 a b }) hz ⟨_, _, _, _, H1, rfl, I1.kept (t' := s1.toks) hk, turn_zipM (PySem.W.ktu_apart s1.heap.objs.size a b l1 l2), ⟨hz, hU, ⟨_, _, hV⟩, h1, h2⟩, new5, q⟩)
/-! ### the walk of such a zip -/
theorem walkd_zipM {t1 t2 : Bool} {K : PySem.W.Frag} {B f : Hp} {a b : Addr} {ds es : List D} {vs us : List V} (h : SqV t1 K B a vs) (h' : SqV t2 K B b us) (r : RepL K f ds vs) (r' : RepL K f es us) : WalkD K (ItzM t1 t2 K a b) (zipD ds es) B f where
  go := fun i H hi s => by
    rw [zipD_len] at hi
    obtain ⟨v, e⟩ := get_rep r (Nat.lt_of_lt_of_le hi (Nat.min_le_left _ _))
    obtain ⟨u, e'⟩ := get_rep r' (Nat.lt_of_lt_of_le hi (Nat.min_le_right _ _))
    exact ⟨vs, us, v, u, h.of_same s, h'.of_same s, e, e'⟩
  stop := fun H s => ⟨vs, us, h.of_same s, h'.of_same s, by rw [zipD_len, r.len, r'.len]; omega⟩
  yld := fun i H x H' hi s y => by
    obtain ⟨T, v, u, e, n, e2, g, g'⟩ := y
    obtain ⟨d, e1, q⟩ := rep_get r (g vs (h.of_same s))
    obtain ⟨d', e1', q'⟩ := rep_get r' (g' us (h'.of_same s))
    exact .inr ⟨T, v, u, d, d', e, n, e2, zipD_at e1 e1', q, q'⟩
def iZm : List D → MS → OutI := fun ds ms => match ds with
  | [.lst xs, .lst ys] => .ok true (zipD xs ys) ms
  | [.tup xs, .tup ys] => .ok true (zipD xs ys) ms
  | [.tup xs, .lst ys] => .ok true (zipD xs ys) ms
  | [.lst xs, .tup ys] => .ok true (zipD xs ys) ms
  | _ => .bad
theorem si_zipM {X : Cx} {G : Gh} {W : WX} {a b : Expr} {fl : EL} {pos p : Pos} {elts : List Expr} {kk : Nat} {tpos : Pos} (hm : X.mg "zip" = none) (ha : SA X G W [a, b] fl) (hg : Gl X "zip" := by rfl) (hs : starEach [a, b] X.env = (false, eval a X.env) :: starEach [b] X.env := by rfl)
    (hpl : (backTo pos (starEach [b] X.env)).any (·.1) = false := by rfl) : SI X G W (.Tuple elts kk tpos) (.Call (.Name "zip" p) [a, b] [] pos) (fun env ms => (fl env ms).bindI iZm) := by
  obtain ⟨t, pt, h⟩ := ha
  refine ⟨_, pi_zipM hg hm pt hs hpl, fun σ H env ms Z Q hr p => h σ H env ms Z _ hr (PostI.args hr p fun ds ms' vs H' Z' x r' q p' => ?_)⟩
  have sh : Same Z'.f H' := r'.fb.trans r'.bh
  unfold iZm at p'
  split at p'
  · obtain ⟨v, vs', rfl, ⟨c, us, rfl, s, l⟩, v2, vs2, rfl, ⟨c2, us2, rfl, s2, l2⟩, e2⟩ := q
    cases (show vs2 = [] from e2)
    exact ⟨c, c2, us, us2, rfl, .inl ⟨SqL.of (sh _ _ s), SqL.of (sh _ _ s2), p' _ _ _ r'.refl r' (walkd_zipL (SqL.of s) (SqL.of s2) l l2)⟩⟩
  · obtain ⟨v, vs', rfl, ⟨c, us, rfl, s, l⟩, v2, vs2, rfl, ⟨c2, us2, rfl, s2, l2⟩, e2⟩ := q
    cases (show vs2 = [] from e2)
    exact ⟨c, c2, us, us2, rfl, .inr (.inl ⟨sqT_mono sh s, sqT_mono sh s2, p' _ _ _ r'.refl r' (walkd_zipT s s2 l l2)⟩)⟩
  · obtain ⟨v, vs', rfl, ⟨c, us, rfl, s, l⟩, v2, vs2, rfl, ⟨c2, us2, rfl, s2, l2⟩, e2⟩ := q
    cases (show vs2 = [] from e2)
    exact ⟨c, c2, us, us2, rfl, .inr (.inr ⟨true, false, by decide, sqT_mono sh s, SqL.of (sh _ _ s2), p' _ _ _ r'.refl r' (walkd_zipM (t1 := true) (t2 := false) s (SqL.of s2) l l2)⟩)⟩
  · obtain ⟨v, vs', rfl, ⟨c, us, rfl, s, l⟩, v2, vs2, rfl, ⟨c2, us2, rfl, s2, l2⟩, e2⟩ := q
    cases (show vs2 = [] from e2)
    exact ⟨c, c2, us, us2, rfl, .inr (.inr ⟨false, true, by decide, SqL.of (sh _ _ s), sqT_mono sh s2, p' _ _ _ r'.refl r' (walkd_zipM (t1 := false) (t2 := true) (SqL.of s) s2 l l2)⟩)⟩
  · exact p'.elim
end DL
namespace DL
open PySem PySem.Spec PyProof.Rows L2
abbrev topS (i : Nat) : Stmt := PySem.Challenge.pw_endlesswalks_k16_matrices_and_powers.main.body.getD i (.Pass ⟨0, 0, 0, 0⟩)
def r__law_folded : Fn := runD 4 ((sSeq (sSet 1 (eLc (gpN 2) (fun env ms => ((lCons (eC (.int 64)) lNil) env ms).bindI iR1) eYes (eBinS gAdd (eC (.int 17)) (eVar 2)) [2]))
    (sSeq (sFor (gpTup 2 (gpCons (gpN 2) (gpCons (gpN 3) gpNil))) (fun env ms => ((lCons (eVar 0) lNil) env ms).bindI iEn) (sPut 1 (eBin gMod (eC1 gInt (eVar 2)) (eC (.int 64))) (eBin gMod (eC1 gInt (eBinS gAdd (eBinS gMul (eBinS gIx (eVar 1) (eBin gMod (eC1 gInt (eVar 2)) (eC (.int 64)))) (eC (.int 48271))) (eVar 3))) (eC (.int 2147483647)))))
    (sSeq (sFor (gpN 2) (fun env ms => ((lCons (eC (.int 1)) (lCons (eC (.int 64)) lNil)) env ms).bindI iR2) (sPut 1 (eVar 2) (eBin gMod (eC1 gInt (eBinS gAdd (eBinS gIx (eVar 1) (eVar 2)) (eBinS gMul (eBinS gIx (eVar 1) (eBin gSub (eVar 2) (eC (.int 1)))) (eC (.int 16807))))) (eC (.int 2147483647)))))
    (sFrz 1 (sRet (eVar 1)))))))
theorem sc__law_folded : FnScope ["script", "found", "n", "cell"] ["script"] (defScope (topS 22)) := ⟨rfl, rfl, rfl, by decide +kernel, rfl, by decide +kernel, by decide +kernel⟩
theorem ok__law_folded {P : Program} {w : World} {K : PySem.W.Frag} {mg : Str → Option Value} {base : Heap} {cls : ClT} (b_enumerate : mg "enumerate" = none) (b_int : mg "int" = none) (b_range : mg "range" = none) : OkD P w K mg base cls "_law_folded" (topS 22) [] ["script"] 1 3 r__law_folded := fun f fd Fd => fn_ok Fd sc__law_folded rfl (by decide) (by decide) fun cdv A outer s H E G hG nx hr => by
    subst hG
    have nd := sc__law_folded.nd
    have hu1 := hu_of hr
    have hu64 := hr.units
    have hu0 := hr.units0
    exact (sb_cons (ss_setLc 1 nx rfl nd (own := [("n", 2)]) (vs := [2]) rfl rfl (si_range1 b_range (sa_cons se_int sa_nil)) (blkOk_by (by rfl)) (fun s H C cl fp => (sg_name 2 nd)) (fun s H C cl fp => pts_yes) (fun s H C cl fp => (se_add se_int (se_var 2))))
    (sb_cons (ss_for (vs := [2, 3]) (passes_of rfl) rfl (si_enum b_enumerate (sa_cons (se_var 0) sa_nil)) (sg_tup rfl (sgs_cons (sg_name 2 nd) (sgs_cons (sg_name 3 nd) sgs_nil))) (sb_one (ss_put 1 (se_mod (se_intc b_int (se_var 2)) se_int) (se_mod (se_intc b_int (se_add (se_mul (se_ix (se_var 1) (se_mod (se_intc b_int (se_var 2)) se_int)) se_int) (se_var 3))) se_int))))
    (sb_cons (ss_for (vs := [2]) (passes_of rfl) rfl (si_range2 b_range (sa_cons se_int (sa_cons se_int sa_nil))) (sg_name 2 nd) (sb_one (ss_put 1 (se_var 2) (se_mod (se_intc b_int (se_add (se_ix (se_var 1) (se_var 2)) (se_mul (se_ix (se_var 1) (se_sub (se_var 2) se_int)) se_int))) se_int))))
    (sb_one (ss_frz 1 (ss_ret (se_var 1)))))))
def r__law_mixed : Fn := runD 3 ((sSeq (sSet 2 (eBinS gAdd (eBinS gAdd (eBin gMod (eC1 gInt (eBinS gMul (eBinS gMul (eVar 0) (eBinS gAdd (eC (.int 1)) (eBinS gMul (eC (.int 2)) (eVar 1)))) (eC (.int 48271)))) (eC (.int 2147483647))) (eBinS gMul (eBinS gMul (eC (.int 7919)) (eVar 1)) (eVar 1))) (eBinS gMul (eC (.int 104729)) (eVar 1))))
    (sRet (eBin gDiv (eBin gMod (eC1 gInt (eBinS gMul (eVar 2) (eC (.int 69621)))) (eC (.int 2147483629))) (eC (.int 7))))))
theorem sc__law_mixed : FnScope ["cell", "n", "blend"] ["cell", "n"] (defScope (topS 21)) := ⟨rfl, rfl, rfl, by decide +kernel, rfl, by decide +kernel, by decide +kernel⟩
theorem ok__law_mixed {P : Program} {w : World} {K : PySem.W.Frag} {mg : Str → Option Value} {base : Heap} {cls : ClT} (b_int : mg "int" = none) : OkD P w K mg base cls "_law_mixed" (topS 21) [] ["cell", "n"] 2 3 r__law_mixed := fun f fd Fd => fn_ok Fd sc__law_mixed rfl (by decide) (by decide) fun cdv A outer s H E G hG nx hr => by
    subst hG
    have nd := sc__law_mixed.nd
    have hu1 := hu_of hr
    have hu64 := hr.units
    have hu0 := hr.units0
    exact (sb_cons (ss_set 2 nd (se_add (se_add (se_mod (se_intc b_int (se_mul (se_mul (se_var 0) (se_add se_int (se_mul se_int (se_var 1)))) se_int)) se_int) (se_mul (se_mul se_int (se_var 1)) (se_var 1))) (se_mul se_int (se_var 1))))
    (sb_one (ss_ret (se_div (se_mod (se_intc b_int (se_mul (se_var 2) se_int)) se_int) se_int))))
def r__law_draw : Fn := runD 6 ((sSeq (sSet 2 (eM 0 "spot"))
    (sSeq (sSpot 0 (eBinS gAdd (eVar 2) (eC (.int 1))))
    (sSeq (sIf (eGreat 0) (sSeq (sSet 3 (eM 0 "great"))
    (sSeq (sSet 4 (eBin gMod (eC1 gInt (eVar 2)) (eLenG 3)))
    (sSeq (sSet 5 (eIxG 3 (eVar 4)))
    (sIf (eBin gGt (eVar 5) (eC (.int 0))) (sSeq (sPutG 3 (eVar 4) (eBin gDiv (eVar 5) (eVar 1)))
    (sRet (eBin gMod (eC1 gInt (eVar 5)) (eVar 1)))) sNil)))) sNil)
    (sSeq (sSet 3 (eM 0 "cells"))
    (sRet (eBin gMod (eC1 gInt (eCall 2 r__law_mixed [] (lCons (eCall 2 r__law_mixed [] (lCons (eBinS gAdd (eBinS gIx (eVar 3) (eBin gMod (eC1 gInt (eVar 2)) (eC (.int 64)))) (eBinS gMul (eC (.int 31)) (eBin gDiv (eVar 2) (eC (.int 64))))) (lCons (eVar 2) lNil))) (lCons (eBinS gAdd (eVar 2) (eC (.int 7))) lNil)))) (eVar 1))))))))
theorem sc__law_draw : FnScope ["m", "limit", "n", "lot", "here", "cell"] ["m", "limit"] (defScope (topS 23)) := ⟨rfl, rfl, rfl, by decide +kernel, rfl, by decide +kernel, by decide +kernel⟩
theorem ok__law_draw {P : Program} {w : World} {K : PySem.W.Frag} {mg : Str → Option Value} {base : Heap} {cls : ClT} (c__law_mixed_2 : CalF P w K mg base cls "_law_mixed" 2 3 [] r__law_mixed) (b_int : mg "int" = none) (b_len : mg "len" = none) : OkD P w K mg base cls "_law_draw" (topS 23) [] ["m", "limit"] 2 4 r__law_draw := fun f fd Fd => fn_ok Fd sc__law_draw rfl (by decide) (by decide) fun cdv A outer s H E G hG nx hr => by
    subst hG
    have nd := sc__law_draw.nd
    have hu1 := hu_of hr
    have hu64 := hr.units
    have hu0 := hr.units0
    exact (sb_cons (ss_set 2 nd (se_m 0 "spot" hu1))
    (sb_cons (ss_spot 0 hu1 (se_add (se_var 2) se_int))
    (sb_cons (ss_if (st_great 0 hu64) (sb_cons (ss_set 3 nd (se_m 0 "great" hu1))
    (sb_cons (ss_set 4 nd (se_mod (se_intc b_int (se_var 2)) (se_lenG 3 b_len)))
    (sb_cons (ss_set 5 nd (se_ixG 3 (se_var 4)))
    (sb_one (ss_if (st_cmp op_gt ok_gt (nomark _) (se_var 5) se_int) (sb_cons (ss_putG 3 (se_var 4) (se_div (se_var 5) (se_var 1)))
    (sb_one (ss_ret (se_mod (se_intc b_int (se_var 5)) (se_var 1))))) sb_nil))))) sb_nil)
    (sb_cons (ss_set 3 nd (se_m 0 "cells" hu1))
    (sb_one (ss_ret (se_mod (se_intc b_int (se_f (takes_of rfl rfl rfl rfl) c__law_mixed_2 hr (sa_cons (se_f (takes_of rfl rfl rfl rfl) c__law_mixed_2 hr (sa_cons (se_add (se_ix (se_var 3) (se_mod (se_intc b_int (se_var 2)) se_int)) (se_mul se_int (se_div (se_var 2) se_int))) (sa_cons (se_var 2) sa_nil)) (hkj := by decide)) (sa_cons (se_add (se_var 2) se_int) sa_nil)) (hkj := by decide))) (se_var 1))))))))
def r__law_of : Fn := runD 2 ((sRet (eBinS gIx (eVar 1) (eCall 2 r__law_draw [] (lCons (eVar 0) (lCons (eC1 gLen (eVar 1)) lNil))))))
theorem sc__law_of : FnScope ["m", "some"] ["m", "some"] (defScope (topS 25)) := ⟨rfl, rfl, rfl, by decide +kernel, rfl, by decide +kernel, by decide +kernel⟩
theorem ok__law_of {P : Program} {w : World} {K : PySem.W.Frag} {mg : Str → Option Value} {base : Heap} {cls : ClT} (c__law_draw_2 : CalF P w K mg base cls "_law_draw" 2 4 [] r__law_draw) (b_len : mg "len" = none) : OkD P w K mg base cls "_law_of" (topS 25) [] ["m", "some"] 2 5 r__law_of := fun f fd Fd => fn_ok Fd sc__law_of rfl (by decide) (by decide) fun cdv A outer s H E G hG nx hr => by
    subst hG
    have nd := sc__law_of.nd
    have hu1 := hu_of hr
    have hu64 := hr.units
    have hu0 := hr.units0
    exact (sb_one (ss_ret (se_ix (se_var 1) (se_f (takes_of rfl rfl rfl rfl) c__law_draw_2 hr (sa_cons (se_var 0) (sa_cons (se_len b_len (se_var 1)) sa_nil)) (hkj := by decide)))))
def f__law_like (self : Fn) : FS :=
    (sSeq (sIf (eBin gIsN (eVar 1) (eC .non)) (sRet (eBin gIsN (eVar 0) (eC .non))) sNil)
    (sSeq (sIf (eTru (eC1 (gIsi "bool") (eVar 1))) (sRet (eAnd (eC1 (gIsi "bool") (eVar 0)) (eBin gEq (eVar 0) (eVar 1)))) sNil)
    (sSeq (sIf (eTru (eC1 (gIsi "int") (eVar 1))) (sRet (eAnd (eC1 (gIsi "int") (eVar 0)) (eAnd (eNot (eC1 (gIsi "bool") (eVar 0))) (eBin gEq (eVar 0) (eVar 1))))) sNil)
    (sSeq (sIf (eTru (eC1 (gIsi "str") (eVar 1))) (sRet (eAnd (eC1 (gIsi "str") (eVar 0)) (eBin gEq (eVar 0) (eVar 1)))) sNil)
    (sSeq (sIf (eOr (eAnd (eTru (eC1 (gIsi "tuple") (eVar 1))) (eNot (eTru (eC1 (gIsi "tuple") (eVar 0))))) (eAnd (eTru (eC1 (gIsi "list") (eVar 1))) (eNot (eTru (eC1 (gIsi "list") (eVar 0)))))) (sRet (eC (.bl false))) sNil)
    (sSeq (sIf (eBin gNe (eC1 gLen (eVar 0)) (eC1 gLen (eVar 1))) (sRet (eC (.bl false))) sNil)
    (sSeq (sFor (gpN 2) (fun env ms => ((lCons (eC1 gLen (eVar 1)) lNil) env ms).bindI iR1) (sIf (eNot (eTru (eCall 2 self [] (lCons (eBinS gIx (eVar 0) (eVar 2)) (lCons (eBinS gIx (eVar 1) (eVar 2)) lNil))))) (sRet (eC (.bl false))) sNil))
    (sRet (eC (.bl true))))))))))
def l__law_like : Nat → Fn
  | 0 => fun _ _ => .bad
  | n + 1 => runD 3 (f__law_like (l__law_like n))
def r__law_like : Fn := l__law_like 10
theorem sc__law_like : FnScope ["got", "due", "n"] ["got", "due"] (defScope (topS 26)) := ⟨rfl, rfl, rfl, by decide +kernel, rfl, by decide +kernel, by decide +kernel⟩
theorem ok__law_like {P : Program} {w : World} {K : PySem.W.Frag} {mg : Str → Option Value} {base : Heap} {cls : ClT} (b_bool : mg "bool" = none) (b_int : mg "int" = none) (b_isinstance : mg "isinstance" = none) (b_len : mg "len" = none) (b_list : mg "list" = none) (b_range : mg "range" = none) (b_str : mg "str" = none) (b_tuple : mg "tuple" = none) (t : DefT K mg "_law_like" (topS 26) []) (hbnd : ∀ (kV doc pm : Value) (an : Option Addr) (cdv ct : Value) (us : List Value), us.length = (["got", "due"] : List Str).length → bindArgs (PySem.W.fnOf "_law_like" "_law_like" (defArgs (topS 26)) (defBody (topS 26)) (defScope (topS 26)) .none kV doc pm an cdv ct) ⟨us, []⟩ = pure ((["got", "due"] : List Str).zip us)) : ∀ n, OkD P w K mg base cls "_law_like" (topS 26) [] ["got", "due"] 2 (n + 3) (l__law_like n)
  | 0 => okD_never t (fun vs H Q E ⟨_, _, _, _, _, _, _, _, _, p⟩ => p)
  | n + 1 => fun f fd Fd => fn_ok Fd sc__law_like rfl (by decide) (by decide) fun cdv A outer s H E G hG nx hr => by
    subst hG
    have nd := sc__law_like.nd
    have hu1 := hu_of hr
    have hu64 := hr.units
    have hu0 := hr.units0
    have c__law_like_2 : CalF P w K mg base G.cls "_law_like" 2 (n + 3) [] (l__law_like n) := CalF.mk0 t (ok__law_like b_bool b_int b_isinstance b_len b_list b_range b_str b_tuple t hbnd n) hbnd
    exact (sb_cons (ss_if (st_cmp op_isN ok_isN (nomark _) (se_var 1) se_non) (sb_one (ss_ret (se_cmp op_isN ok_isN (nomark _) (se_var 0) se_non))) sb_nil)
    (sb_cons (ss_if (st_tru (se_isi (T := "bool") b_isinstance b_bool (se_var 1))) (sb_one (ss_ret (se_and (se_isi (T := "bool") b_isinstance b_bool (se_var 0)) (se_one (se_cmp (op_eqD hu64) ok_eq (nomark _) (se_var 0) (se_var 1)))))) sb_nil)
    (sb_cons (ss_if (st_tru (se_isi (T := "int") b_isinstance b_int (se_var 1))) (sb_one (ss_ret (se_and (se_isi (T := "int") b_isinstance b_int (se_var 0)) (se_and (se_not (se_isi (T := "bool") b_isinstance b_bool (se_var 0))) (se_one (se_cmp (op_eqD hu64) ok_eq (nomark _) (se_var 0) (se_var 1))))))) sb_nil)
    (sb_cons (ss_if (st_tru (se_isi (T := "str") b_isinstance b_str (se_var 1))) (sb_one (ss_ret (se_and (se_isi (T := "str") b_isinstance b_str (se_var 0)) (se_one (se_cmp (op_eqD hu64) ok_eq (nomark _) (se_var 0) (se_var 1)))))) sb_nil)
    (sb_cons (ss_if (SW.pt (sw_or (SW.pt (sw_and (st_tru (se_isi (T := "tuple") b_isinstance b_tuple (se_var 1))) (sw_and1 (st_not (st_tru (se_isi (T := "tuple") b_isinstance b_tuple (se_var 0))))))) (sw_or1 (SW.pt (sw_and (st_tru (se_isi (T := "list") b_isinstance b_list (se_var 1))) (sw_and1 (st_not (st_tru (se_isi (T := "list") b_isinstance b_list (se_var 0)))))))))) (sb_one (ss_ret se_bl)) sb_nil)
    (sb_cons (ss_if (st_cmp (op_neD hu64) ok_ne (nomark _) (se_len b_len (se_var 0)) (se_len b_len (se_var 1))) (sb_one (ss_ret se_bl)) sb_nil)
    (sb_cons (ss_for (vs := [2]) (passes_of rfl) rfl (si_range1 b_range (sa_cons (se_len b_len (se_var 1)) sa_nil)) (sg_name 2 nd) (sb_one (ss_if (st_not (st_tru (se_f (takes_of rfl rfl rfl rfl) c__law_like_2 hr (sa_cons (se_ix (se_var 0) (se_var 2)) (sa_cons (se_ix (se_var 1) (se_var 2)) sa_nil)) (hkj := by omega)))) (sb_one (ss_ret se_bl)) sb_nil)))
    (sb_one (ss_ret se_bl)))))))))
def r__law_drawn_matrix : Fn := runD 6 ((sSeq (sSet 3 (eBinS gAdd (eC (.int 1)) (eCall 2 r__law_draw [] (lCons (eVar 0) (lCons (eC (.int 4)) lNil)))))
    (sRet (eC1 gTuple (eLc (gpN 4) (fun env ms => ((lCons (eVar 1) lNil) env ms).bindI iR1) eYes (eC1 gTuple (eLc (gpN 5) (fun env ms => ((lCons (eVar 1) lNil) env ms).bindI iR1) eYes (eIf (eBin gLt (eCall 2 r__law_draw [] (lCons (eVar 0) (lCons (eC (.int 4)) lNil))) (eVar 3)) (eBin gSub (eCall 2 r__law_draw [] (lCons (eVar 0) (lCons (eBinS gAdd (eBinS gMul (eC (.int 2)) (eVar 2)) (eC (.int 1))) lNil))) (eVar 2)) (eC (.int 0))) [5])) [4])))))
theorem sc__law_drawn_matrix : FnScope ["m", "size", "most", "dense", "place", "end"] ["m", "size", "most"] (defScope (topS 30)) := ⟨rfl, rfl, rfl, by decide +kernel, rfl, by decide +kernel, by decide +kernel⟩
theorem ok__law_drawn_matrix {P : Program} {w : World} {K : PySem.W.Frag} {mg : Str → Option Value} {base : Heap} {cls : ClT} (c__law_draw_2 : CalF P w K mg base cls "_law_draw" 2 4 [] r__law_draw) (b_range : mg "range" = none) (b_tuple : mg "tuple" = none) : OkD P w K mg base cls "_law_drawn_matrix" (topS 30) [] ["m", "size", "most"] 3 5 r__law_drawn_matrix := fun f fd Fd => fn_ok Fd sc__law_drawn_matrix rfl (by decide) (by decide) fun cdv A outer s H E G hG nx hr => by
    subst hG
    have nd := sc__law_drawn_matrix.nd
    have hu1 := hu_of hr
    have hu64 := hr.units
    have hu0 := hr.units0
    exact (sb_cons (ss_set 3 nd (se_add se_int (se_f (takes_of rfl rfl rfl rfl) c__law_draw_2 hr (sa_cons (se_var 0) (sa_cons se_int sa_nil)) (hkj := by decide))))
    (sb_one (ss_ret (se_tuple b_tuple (se_lc nx rfl nd (own := [("place", 4)]) (vs := [4]) rfl (si_range1 b_range (sa_cons (se_var 1) sa_nil)) (blkOk_by (by rfl)) (fun s H C cl fp => (sg_name 4 nd)) (fun s H C cl fp => pts_yes) (fun s H C cl fp => (se_tuple b_tuple (se_lc nx rfl nd (own := [("end", 5)]) (vs := [5]) rfl (si_range1 b_range (sa_cons (se_var 1) sa_nil)) (blkOk_by (by rfl)) (fun s H C cl fp => (sg_name 5 nd)) (fun s H C cl fp => pts_yes) (fun s H C cl fp => (se_if (st_cmp (opr_lt hu0) ok_lt (nomark _) (se_f takes_none5 c__law_draw_2 hr (sa_cons (se_var 0) (sa_cons se_int sa_nil)) (hkj := by decide)) (se_var 3)) (se_sub (se_f takes_none5 c__law_draw_2 hr (sa_cons (se_var 0) (sa_cons (se_add (se_mul se_int (se_var 2)) se_int) sa_nil)) (hkj := by decide)) (se_var 2)) se_int))))))))))
def fT__law_heard (fa : Addr) (th : Thk) : FS :=
    (sSeq (sAsg (gpTup 2 (gpCons (gpN 1) (gpCons (gpN 2) gpNil))) (eTup (lCons (eC .non) (lCons (eC .non) lNil))))
    (sSeq (sTryT ["BadNumber", "BadMatrix", "Unalike"] (sSet 1 (eThk fa th)) (⟨(fun n => decide (n ∈ ["BadNumber", "BadMatrix", "Unalike"])), some 3, (sSet 2 (eVar 3))⟩ :: []))
    (sSeq (sIf (eBin gIsN (eVar 2) (eC .non)) (sRet (eTup (lCons (eC (.str "told")) (lCons (eVar 1) lNil)))) sNil)
    (sSeq (sIf (eTru (eC1 (gIsX ["BadNumber", "BadMatrix", "Unalike"] (fun n => decide (n ∈ ["BadNumber"]))) (eVar 2))) (sRet (eTup (lCons (eC (.str "number")) (lCons (eFld ["BadNumber", "BadMatrix", "Unalike"] "value" (eVar 2)) lNil)))) sNil)
    (sRet (eTup (lCons (eIf (eTru (eC1 (gIsX ["BadNumber", "BadMatrix", "Unalike"] (fun n => decide (n ∈ ["BadMatrix"]))) (eVar 2))) (eC (.str "matrix")) (eC (.str "unalike"))) (lCons (eFld ["BadNumber", "BadMatrix", "Unalike"] "place" (eVar 2)) lNil))))))))
theorem sc__law_heard : FnScope ["deed", "found", "error", "e"] ["deed"] (defScope (topS 31)) := ⟨rfl, rfl, rfl, by decide +kernel, rfl, by decide +kernel, by decide +kernel⟩
theorem gv__law_heard {P : Program} {w : World} {K : PySem.W.Frag} {mg : Str → Option Value} {base : Heap} {cls : ClT} (b_isinstance : mg "isinstance" = none) (m_BadMatrix : mg "BadMatrix" = some (.ref (cls "BadMatrix"))) (m_BadNumber : mg "BadNumber" = some (.ref (cls "BadNumber"))) (m_Unalike : mg "Unalike" = some (.ref (cls "Unalike"))) (xo : XobC K cls ["BadNumber", "BadMatrix", "Unalike"]) (h__law_heard_BadMatrix_BadNumber_Unalike : ∀ n ∈ ["BadNumber", "BadMatrix", "Unalike"], PySem.W.exmAny K (.ref (cls n)) [.ref (cls "BadMatrix"), .ref (cls "BadNumber"), .ref (cls "Unalike")] = some (decide (n ∈ ["BadNumber", "BadMatrix", "Unalike"]))) (v__law_heard_BadMatrix : ∀ n ∈ ["BadNumber", "BadMatrix", "Unalike"], PySem.W.kitOne K (.ref (cls n)) (.ref (cls "BadMatrix")) = some (decide (n ∈ ["BadMatrix"]))) (v__law_heard_BadNumber : ∀ n ∈ ["BadNumber", "BadMatrix", "Unalike"], PySem.W.kitOne K (.ref (cls n)) (.ref (cls "BadNumber")) = some (decide (n ∈ ["BadNumber"]))) : GvF P w K mg base cls "_law_heard" (topS 31) ["deed", "found", "error", "e"] 7 "deed" fT__law_heard := fun g cdv th fa A outer s H G hG nx hr act => by
    subst hG
    have nd := sc__law_heard.nd
    have hu1 := hu_of hr
    have hu64 := hr.units
    have hu0 := hr.units0
    exact (sb_cons (ss_asg (vs := [1, 2]) (sg_tup rfl (sgs_cons (sg_name 1 nd) (sgs_cons (sg_name 2 nd) sgs_nil))) (se_tup (sa_cons se_non (sa_cons se_non sa_nil))))
    (sb_cons (ss_tryT ["BadNumber", "BadMatrix", "Unalike"] nx xo rfl rfl nd rfl (takes_of rfl rfl rfl rfl) (fun W pn xe tk po => (sb_one (ss_set 1 nd (act W pn xe _ _ tk)))) (.consA (.three ⟨by rfl, by decide, .inl m_BadMatrix⟩ ⟨by rfl, by decide, .inl m_BadNumber⟩ ⟨by rfl, by decide, .inl m_Unalike⟩) h__law_heard_BadMatrix_BadNumber_Unalike (fun a pn => (sb_one (ss_set 2 nd (se_var 3)))) .nil))
    (sb_cons (ss_if (st_cmp op_isN ok_isN (nomark _) (se_var 2) se_non) (sb_one (ss_ret (se_tup (sa_cons se_str (sa_cons (se_var 1) sa_nil))))) sb_nil)
    (sb_cons (ss_if (st_tru (se_isX xo (fun n => decide (n ∈ ["BadNumber"])) v__law_heard_BadNumber b_isinstance m_BadNumber (se_var 2))) (sb_one (ss_ret (se_tup (sa_cons se_str (sa_cons (se_fldx xo "value" (se_var 2)) sa_nil))))) sb_nil)
    (sb_one (ss_ret (se_tup (sa_cons (se_if (st_tru (se_isX xo (fun n => decide (n ∈ ["BadMatrix"])) v__law_heard_BadMatrix b_isinstance m_BadMatrix (se_var 2))) se_str se_str) (sa_cons (se_fldx xo "place" (se_var 2)) sa_nil)))))))))
def r_is_row : Fn := runD 2 ((sRet (eAnd (eC1 (gIsi "tuple") (eVar 0)) (eOr (eBin gIsN (eVar 1) (eC .non)) (eBin gEq (eC1 gLen (eVar 0)) (eVar 1))))))
theorem sc_is_row : FnScope ["value", "length"] ["value", "length"] (defScope (topS 7)) := ⟨rfl, rfl, rfl, by decide +kernel, rfl, by decide +kernel, by decide +kernel⟩
theorem ok_is_row {P : Program} {w : World} {K : PySem.W.Frag} {mg : Str → Option Value} {base : Heap} {cls : ClT} (b_isinstance : mg "isinstance" = none) (b_len : mg "len" = none) (b_tuple : mg "tuple" = none) : OkD P w K mg base cls "is_row" (topS 7) [.non] ["value", "length"] 2 3 r_is_row := fun f fd Fd => fn_ok Fd sc_is_row rfl (by decide) (by decide) fun cdv A outer s H E G hG nx hr => by
    subst hG
    have nd := sc_is_row.nd
    have hu1 := hu_of hr
    have hu64 := hr.units
    have hu0 := hr.units0
    exact (sb_one (ss_ret (se_and (se_isi (T := "tuple") b_isinstance b_tuple (se_var 0)) (se_one (se_or (se_cmp op_isN ok_isN (nomark _) (se_var 1) se_non) (se_one (se_cmp (op_eqD hu64) ok_eq (nomark _) (se_len b_len (se_var 0)) (se_var 1))))))))
def r_is_whole : Fn := runD 3 ((sSeq (sIf (eOr (eNot (eTru (eC1 (gIsi "int") (eVar 0)))) (eTru (eC1 (gIsi "bool") (eVar 0)))) (sRet (eC (.bl false))) sNil)
    (sRet (eAnd (eOr (eBin gIsN (eVar 1) (eC .non)) (eBin gGe (eVar 0) (eVar 1))) (eOr (eBin gIsN (eVar 2) (eC .non)) (eBin gLe (eVar 0) (eVar 2)))))))
theorem sc_is_whole : FnScope ["value", "least", "most"] ["value", "least", "most"] (defScope (topS 6)) := ⟨rfl, rfl, rfl, by decide +kernel, rfl, by decide +kernel, by decide +kernel⟩
theorem ok_is_whole {P : Program} {w : World} {K : PySem.W.Frag} {mg : Str → Option Value} {base : Heap} {cls : ClT} (b_bool : mg "bool" = none) (b_int : mg "int" = none) (b_isinstance : mg "isinstance" = none) : OkD P w K mg base cls "is_whole" (topS 6) [.non, .non] ["value", "least", "most"] 3 3 r_is_whole := fun f fd Fd => fn_ok Fd sc_is_whole rfl (by decide) (by decide) fun cdv A outer s H E G hG nx hr => by
    subst hG
    have nd := sc_is_whole.nd
    have hu1 := hu_of hr
    have hu64 := hr.units
    have hu0 := hr.units0
    exact (sb_cons (ss_if (SW.pt (sw_or (st_not (st_tru (se_isi (T := "int") b_isinstance b_int (se_var 0)))) (sw_or1 (st_tru (se_isi (T := "bool") b_isinstance b_bool (se_var 0)))))) (sb_one (ss_ret se_bl)) sb_nil)
    (sb_one (ss_ret (se_and (se_or (se_cmp op_isN ok_isN (nomark _) (se_var 1) se_non) (se_one (se_cmp op_ge ok_ge (nomark _) (se_var 0) (se_var 1)))) (se_one (se_or (se_cmp op_isN ok_isN (nomark _) (se_var 2) se_non) (se_one (se_cmp op_le ok_le (nomark _) (se_var 0) (se_var 2)))))))))
def r_are_wholes : Fn := runD 4 ((sRet (eAnd (eCall 2 r_is_row [.non] (lCons (eVar 0) lNil)) (eC1 (gBs fun bs => bs.all id) (eLc (gpN 3) (fun env ms => ((eVar 0) env ms).bindI iSq) eYes (eCall 3 r_is_whole [] (lCons (eVar 3) (lCons (eVar 1) (lCons (eVar 2) lNil)))) [3])))))
theorem sc_are_wholes : FnScope ["value", "least", "most", "one"] ["value", "least", "most"] (defScope (topS 8)) := ⟨rfl, rfl, rfl, by decide +kernel, rfl, by decide +kernel, by decide +kernel⟩
theorem ok_are_wholes {P : Program} {w : World} {K : PySem.W.Frag} {mg : Str → Option Value} {base : Heap} {cls : ClT} (c_is_row_1 : CalF P w K mg base cls "is_row" 2 3 [.non] r_is_row) (c_is_whole_3 : CalF P w K mg base cls "is_whole" 3 3 [] r_is_whole) (b_all : mg "all" = none) : OkD P w K mg base cls "are_wholes" (topS 8) [.non, .non] ["value", "least", "most"] 3 4 r_are_wholes := fun f fd Fd => fn_ok Fd sc_are_wholes rfl (by decide) (by decide) fun cdv A outer s H E G hG nx hr => by
    subst hG
    have nd := sc_are_wholes.nd
    have hu1 := hu_of hr
    have hu64 := hr.units
    have hu0 := hr.units0
    exact (sb_one (ss_ret (se_and (se_f (takes_of rfl rfl rfl rfl) c_is_row_1 hr (sa_cons (se_var 0) sa_nil) (hkj := by decide)) (se_one (se_all rfl b_all (se_lc nx rfl nd (own := [("one", 3)]) (vs := [3]) rfl (si_seq (se_var 0)) (blkOk_by (by rfl)) (fun s H C cl fp => (sg_name 3 nd)) (fun s H C cl fp => pts_yes) (fun s H C cl fp => (se_f takes_none5 c_is_whole_3 hr (sa_cons (se_var 3) (sa_cons (se_var 1) (sa_cons (se_var 2) sa_nil))) (hkj := by decide)))))))))
def r_need_matrix : Fn := runD 3 ((sSeq (sIf (eOr (eNot (eTru (eCall 2 r_is_row [.non] (lCons (eVar 0) lNil)))) (eBin gGt (eC1 gLen (eVar 0)) (eC (.int 12)))) (sRaise "BadMatrix" (eC (.str "form"))) sNil)
    (sSeq (sFor (gpTup 2 (gpCons (gpN 1) (gpCons (gpN 2) gpNil))) (fun env ms => ((lCons (eVar 0) lNil) env ms).bindI iEn) (sIf (eOr (eNot (eTru (eCall 3 r_are_wholes [] (lCons (eVar 2) (lCons (eNeg (eC (.int 1000000000000))) (lCons (eC (.int 1000000000000)) lNil)))))) (eBin gNe (eC1 gLen (eVar 2)) (eC1 gLen (eVar 0)))) (sRaise "BadMatrix" (eVar 1)) sNil))
    (sRet (eVar 0)))))
theorem sc_need_matrix : FnScope ["matrix", "number", "row"] ["matrix"] (defScope (topS 13)) := ⟨rfl, rfl, rfl, by decide +kernel, rfl, by decide +kernel, by decide +kernel⟩
theorem ok_need_matrix {P : Program} {w : World} {K : PySem.W.Frag} {mg : Str → Option Value} {base : Heap} {cls : ClT} {t_MOST_ENTRY : Tok} {t_MOST_ROWS : Tok} {B_BadMatrix nI_BadMatrix iI_BadMatrix : String} {bm_BadMatrix : List Value} {pr_BadMatrix : Str} (c_are_wholes_3 : CalF P w K mg base cls "are_wholes" 3 4 [] r_are_wholes) (c_is_row_1 : CalF P w K mg base cls "is_row" 2 3 [.non] r_is_row) (b_enumerate : mg "enumerate" = none) (b_len : mg "len" = none) (b_super : mg "super" = none) (k_MOST_ENTRY : mg "MOST_ENTRY" = some (.int 1000000000000 t_MOST_ENTRY)) (k_MOST_ROWS : mg "MOST_ROWS" = some (.int 12 t_MOST_ROWS)) (m_BadMatrix : mg "BadMatrix" = some (.ref (cls "BadMatrix"))) (s_BadMatrix : SupC P K (cls "BadMatrix") (fldOf "BadMatrix") B_BadMatrix nI_BadMatrix iI_BadMatrix bm_BadMatrix pr_BadMatrix) : OkD P w K mg base cls "need_matrix" (topS 13) [] ["matrix"] 1 5 r_need_matrix := fun f fd Fd => fn_ok Fd sc_need_matrix rfl (by decide) (by decide) fun cdv A outer s H E G hG nx hr => by
    subst hG
    have nd := sc_need_matrix.nd
    have hu1 := hu_of hr
    have hu64 := hr.units
    have hu0 := hr.units0
    have hdp := room_dp hr
    exact (sb_cons (ss_if (SW.pt (sw_or (st_not (st_tru (se_f (takes_of rfl rfl rfl rfl) c_is_row_1 hr (sa_cons (se_var 0) sa_nil) (hkj := by decide)))) (sw_or1 (st_cmp op_gt ok_gt (nomark _) (se_len b_len (se_var 0)) (se_glob k_MOST_ROWS))))) (sb_one (ss_raise "BadMatrix" rfl (takes_of rfl rfl rfl rfl) s_BadMatrix se_str m_BadMatrix b_super hdp)) sb_nil)
    (sb_cons (ss_for (vs := [1, 2]) (passes_of rfl) rfl (si_enum b_enumerate (sa_cons (se_var 0) sa_nil)) (sg_tup rfl (sgs_cons (sg_name 1 nd) (sgs_cons (sg_name 2 nd) sgs_nil))) (sb_one (ss_if (SW.pt (sw_or (st_not (st_tru (se_f (takes_of rfl rfl rfl rfl) c_are_wholes_3 hr (sa_cons (se_var 2) (sa_cons (se_neg (se_glob k_MOST_ENTRY)) (sa_cons (se_glob k_MOST_ENTRY) sa_nil))) (hkj := by decide)))) (sw_or1 (st_cmp (op_neD hu64) ok_ne (nomark _) (se_len b_len (se_var 2)) (se_len b_len (se_var 0)))))) (sb_one (ss_raise "BadMatrix" rfl (takes_of rfl rfl rfl rfl) s_BadMatrix (se_var 1) m_BadMatrix b_super hdp)) sb_nil)))
    (sb_one (ss_ret (se_var 0)))))
def r_product_of : Fn := runD 9 ((sSeq (sSet 2 (eLc (gpN 4) (fun env ms => ((lCons (eC1 gLen (eVar 1)) lNil) env ms).bindI iR1) eYes (eLc (gpN 5) (fun env ms => ((eVar 1) env ms).bindI iSq) eYes (eBinS gIx (eVar 5) (eVar 4)) [5]) [4]))
    (sSeq (sSet 3 (eLc (gpN 5) (fun env ms => ((eVar 0) env ms).bindI iSq) eYes (eLc (gpN 6) (fun env ms => ((eVar 2) env ms).bindI iSq) eYes (eC1 (gIs fun ns => some ns.sum) (eLc (gpTup 2 (gpCons (gpN 7) (gpCons (gpN 8) gpNil))) (fun env ms => ((lCons (eVar 5) (lCons (eVar 6) lNil)) env ms).bindI iZm) eYes (eBinS gMul (eVar 7) (eVar 8)) [7, 8])) [6]) [5]))
    (sRet (eC1 gTuple (eLc (gpN 5) (fun env ms => ((eVar 3) env ms).bindI iSq) eYes (eC1 gTuple (eVar 5)) [5]))))))
theorem sc_product_of : FnScope ["one", "other", "columns", "found", "place", "row", "column", "near", "far"] ["one", "other"] (defScope (topS 15)) := ⟨rfl, rfl, rfl, by decide +kernel, rfl, by decide +kernel, by decide +kernel⟩
theorem ok_product_of {P : Program} {w : World} {K : PySem.W.Frag} {mg : Str → Option Value} {base : Heap} {cls : ClT} (b_len : mg "len" = none) (b_range : mg "range" = none) (b_sum : mg "sum" = none) (b_tuple : mg "tuple" = none) (b_zip : mg "zip" = none) : OkD P w K mg base cls "product_of" (topS 15) [] ["one", "other"] 2 3 r_product_of := fun f fd Fd => fn_ok Fd sc_product_of rfl (by decide) (by decide) fun cdv A outer s H E G hG nx hr => by
    subst hG
    have nd := sc_product_of.nd
    have hu1 := hu_of hr
    have hu64 := hr.units
    have hu0 := hr.units0
    exact (sb_cons (ss_set 2 nd (se_lc nx rfl nd (own := [("place", 4)]) (vs := [4]) rfl (si_range1 b_range (sa_cons (se_len b_len (se_var 1)) sa_nil)) (blkOk_by (by rfl)) (fun s H C cl fp => (sg_name 4 nd)) (fun s H C cl fp => pts_yes) (fun s H C cl fp => (se_lc nx rfl nd (own := [("row", 5)]) (vs := [5]) rfl (si_seq (se_var 1)) (blkOk_by (by rfl)) (fun s H C cl fp => (sg_name 5 nd)) (fun s H C cl fp => pts_yes) (fun s H C cl fp => (se_ix (se_var 5) (se_var 4)))))))
    (sb_cons (ss_setLc 3 nx rfl nd (own := [("row", 5)]) (vs := [5]) rfl rfl (si_seq (se_var 0)) (blkOk_by (by rfl)) (fun s H C cl fp => (sg_name 5 nd)) (fun s H C cl fp => pts_yes) (fun s H C cl fp => (se_lc nx rfl nd (own := [("column", 6)]) (vs := [6]) rfl (si_seq (se_var 2)) (blkOk_by (by rfl)) (fun s H C cl fp => (sg_name 6 nd)) (fun s H C cl fp => pts_yes) (fun s H C cl fp => (se_sum rfl b_sum (se_lc nx rfl nd (own := [("near", 7), ("far", 8)]) (vs := [7, 8]) rfl (si_zipM b_zip (sa_cons (se_var 5) (sa_cons (se_var 6) sa_nil))) (blkOk_by (by rfl)) (fun s H C cl fp => (sg_tup rfl (sgs_cons (sg_name 7 nd) (sgs_cons (sg_name 8 nd) sgs_nil)))) (fun s H C cl fp => pts_yes) (fun s H C cl fp => (se_mul (se_var 7) (se_var 8)))))))))
    (sb_one (ss_ret (se_tuple b_tuple (se_lc nx rfl nd (own := [("row", 5)]) (vs := [5]) rfl (si_seq (se_var 3)) (blkOk_by (by rfl)) (fun s H C cl fp => (sg_name 5 nd)) (fun s H C cl fp => pts_yes) (fun s H C cl fp => (se_tuple b_tuple (se_var 5)))))))))
def r_matrix_times : Fn := runD 2 ((sSeq (sDrop (eCall 1 r_need_matrix [] (lCons (eVar 0) lNil)))
    (sSeq (sDrop (eCall 1 r_need_matrix [] (lCons (eVar 1) lNil)))
    (sSeq (sIf (eBin gNe (eC1 gLen (eVar 0)) (eC1 gLen (eVar 1))) (sRaise "Unalike" (eC (.str "places"))) sNil)
    (sRet (eCall 2 r_product_of [] (lCons (eVar 0) (lCons (eVar 1) lNil))))))))
theorem sc_matrix_times : FnScope ["matrix", "other"] ["matrix", "other"] (defScope (topS 18)) := ⟨rfl, rfl, rfl, by decide +kernel, rfl, by decide +kernel, by decide +kernel⟩
theorem ok_matrix_times {P : Program} {w : World} {K : PySem.W.Frag} {mg : Str → Option Value} {base : Heap} {cls : ClT} {B_Unalike nI_Unalike iI_Unalike : String} {bm_Unalike : List Value} {pr_Unalike : Str} (c_need_matrix_1 : CalF P w K mg base cls "need_matrix" 1 5 [] r_need_matrix) (c_product_of_2 : CalF P w K mg base cls "product_of" 2 3 [] r_product_of) (b_len : mg "len" = none) (b_super : mg "super" = none) (m_Unalike : mg "Unalike" = some (.ref (cls "Unalike"))) (s_Unalike : SupC P K (cls "Unalike") (fldOf "Unalike") B_Unalike nI_Unalike iI_Unalike bm_Unalike pr_Unalike) : OkD P w K mg base cls "matrix_times" (topS 18) [] ["matrix", "other"] 2 6 r_matrix_times := fun f fd Fd => fn_ok Fd sc_matrix_times rfl (by decide) (by decide) fun cdv A outer s H E G hG nx hr => by
    subst hG
    have nd := sc_matrix_times.nd
    have hu1 := hu_of hr
    have hu64 := hr.units
    have hu0 := hr.units0
    have hdp := room_dp hr
    exact (sb_cons (ss_expr (se_f (takes_of rfl rfl rfl rfl) c_need_matrix_1 hr (sa_cons (se_var 0) sa_nil) (hkj := by decide)))
    (sb_cons (ss_expr (se_f (takes_of rfl rfl rfl rfl) c_need_matrix_1 hr (sa_cons (se_var 1) sa_nil) (hkj := by decide)))
    (sb_cons (ss_if (st_cmp (op_neD hu64) ok_ne (nomark _) (se_len b_len (se_var 0)) (se_len b_len (se_var 1))) (sb_one (ss_raise "Unalike" rfl (takes_of rfl rfl rfl rfl) s_Unalike se_str m_Unalike b_super hdp)) sb_nil)
    (sb_one (ss_ret (se_f (takes_of rfl rfl rfl rfl) c_product_of_2 hr (sa_cons (se_var 0) (sa_cons (se_var 1) sa_nil)) (hkj := by decide)))))))
def r_plain_matrix : Fn := runD 3 ((sRet (eC1 gTuple (eLc (gpN 1) (fun env ms => ((lCons (eVar 0) lNil) env ms).bindI iR1) eYes (eC1 gTuple (eLc (gpN 2) (fun env ms => ((lCons (eVar 0) lNil) env ms).bindI iR1) eYes (eIf (eBin gEq (eVar 2) (eVar 1)) (eC (.int 1)) (eC (.int 0))) [2])) [1]))))
theorem sc_plain_matrix : FnScope ["rows", "place", "end"] ["rows"] (defScope (topS 16)) := ⟨rfl, rfl, rfl, by decide +kernel, rfl, by decide +kernel, by decide +kernel⟩
theorem ok_plain_matrix {P : Program} {w : World} {K : PySem.W.Frag} {mg : Str → Option Value} {base : Heap} {cls : ClT} (b_range : mg "range" = none) (b_tuple : mg "tuple" = none) : OkD P w K mg base cls "plain_matrix" (topS 16) [] ["rows"] 1 3 r_plain_matrix := fun f fd Fd => fn_ok Fd sc_plain_matrix rfl (by decide) (by decide) fun cdv A outer s H E G hG nx hr => by
    subst hG
    have nd := sc_plain_matrix.nd
    have hu1 := hu_of hr
    have hu64 := hr.units
    have hu0 := hr.units0
    exact (sb_one (ss_ret (se_tuple b_tuple (se_lc nx rfl nd (own := [("place", 1)]) (vs := [1]) rfl (si_range1 b_range (sa_cons (se_var 0) sa_nil)) (blkOk_by (by rfl)) (fun s H C cl fp => (sg_name 1 nd)) (fun s H C cl fp => pts_yes) (fun s H C cl fp => (se_tuple b_tuple (se_lc nx rfl nd (own := [("end", 2)]) (vs := [2]) rfl (si_range1 b_range (sa_cons (se_var 0) sa_nil)) (blkOk_by (by rfl)) (fun s H C cl fp => (sg_name 2 nd)) (fun s H C cl fp => pts_yes) (fun s H C cl fp => (se_if (st_cmp (op_eqD hu64) ok_eq (nomark _) (se_var 2) (se_var 1)) se_int se_int)))))))))
def r_power_matrix : Fn := runD 4 ((sSeq (sPar 2 3 (lCons (eCall 1 r_plain_matrix [] (lCons (eC1 gLen (eVar 0)) lNil)) (lCons (eVar 0) lNil)))
    (sSeq (sWhile whileFuel (eBin gGt (eVar 1) (eC (.int 0))) (sSeq (sIf (eBin gEq (eBin gMod (eC1 gInt (eVar 1)) (eC (.int 2))) (eC (.int 1))) (sSet 2 (eCall 2 r_product_of [] (lCons (eVar 2) (lCons (eVar 3) lNil)))) sNil)
    (sSeq (sSet 1 (eBin gDiv (eVar 1) (eC (.int 2))))
    (sIf (eBin gGt (eVar 1) (eC (.int 0))) (sSet 3 (eCall 2 r_product_of [] (lCons (eVar 3) (lCons (eVar 3) lNil)))) sNil))))
    (sRet (eVar 2)))))
theorem sc_power_matrix : FnScope ["matrix", "length", "found", "square"] ["matrix", "length"] (defScope (topS 17)) := ⟨rfl, rfl, rfl, by decide +kernel, rfl, by decide +kernel, by decide +kernel⟩
theorem ok_power_matrix {P : Program} {w : World} {K : PySem.W.Frag} {mg : Str → Option Value} {base : Heap} {cls : ClT} (c_plain_matrix_1 : CalF P w K mg base cls "plain_matrix" 1 3 [] r_plain_matrix) (c_product_of_2 : CalF P w K mg base cls "product_of" 2 3 [] r_product_of) (b_int : mg "int" = none) (b_len : mg "len" = none) : OkD P w K mg base cls "power_matrix" (topS 17) [] ["matrix", "length"] 2 4 r_power_matrix := fun f fd Fd => fn_ok Fd sc_power_matrix rfl (by decide) (by decide) fun cdv A outer s H E G hG nx hr => by
    subst hG
    have nd := sc_power_matrix.nd
    have hu1 := hu_of hr
    have hu64 := hr.units
    have hu0 := hr.units0
    exact (sb_cons (ss_par 2 3 rfl nd (sa_cons (se_f (takes_of rfl rfl rfl rfl) c_plain_matrix_1 hr (sa_cons (se_len b_len (se_var 0)) sa_nil) (hkj := by decide)) (sa_cons (se_var 0) sa_nil)))
    (sb_cons (ss_while whileFuel (passes_of rfl) (st_cmp op_gt ok_gt (nomark _) (se_var 1) se_int) (sb_cons (ss_if (st_cmp (op_eqD hu64) ok_eq (nomark _) (se_mod (se_intc b_int (se_var 1)) se_int) se_int) (sb_one (ss_set 2 nd (se_f (takes_of rfl rfl rfl rfl) c_product_of_2 hr (sa_cons (se_var 2) (sa_cons (se_var 3) sa_nil)) (hkj := by decide)))) sb_nil)
    (sb_cons (ss_set 1 nd (se_div (se_var 1) se_int))
    (sb_one (ss_if (st_cmp op_gt ok_gt (nomark _) (se_var 1) se_int) (sb_one (ss_set 3 nd (se_f (takes_of rfl rfl rfl rfl) c_product_of_2 hr (sa_cons (se_var 3) (sa_cons (se_var 3) sa_nil)) (hkj := by decide)))) sb_nil)))))
    (sb_one (ss_ret (se_var 2)))))
def r_need_power : Fn := runD 1 ((sSeq (sIf (eNot (eTru (eCall 3 r_is_whole [] (lCons (eVar 0) (lCons (eC (.int 0)) (lCons (eC (.int 200)) lNil)))))) (sRaise "BadNumber" (eVar 0)) sNil)
    (sRet (eVar 0))))
theorem sc_need_power : FnScope ["length"] ["length"] (defScope (topS 14)) := ⟨rfl, rfl, rfl, by decide +kernel, rfl, by decide +kernel, by decide +kernel⟩
theorem ok_need_power {P : Program} {w : World} {K : PySem.W.Frag} {mg : Str → Option Value} {base : Heap} {cls : ClT} {t_MOST_LENGTH : Tok} {B_BadNumber nI_BadNumber iI_BadNumber : String} {bm_BadNumber : List Value} {pr_BadNumber : Str} (c_is_whole_3 : CalF P w K mg base cls "is_whole" 3 3 [] r_is_whole) (b_super : mg "super" = none) (k_MOST_LENGTH : mg "MOST_LENGTH" = some (.int 200 t_MOST_LENGTH)) (m_BadNumber : mg "BadNumber" = some (.ref (cls "BadNumber"))) (s_BadNumber : SupC P K (cls "BadNumber") (fldOf "BadNumber") B_BadNumber nI_BadNumber iI_BadNumber bm_BadNumber pr_BadNumber) : OkD P w K mg base cls "need_power" (topS 14) [] ["length"] 1 4 r_need_power := fun f fd Fd => fn_ok Fd sc_need_power rfl (by decide) (by decide) fun cdv A outer s H E G hG nx hr => by
    subst hG
    have nd := sc_need_power.nd
    have hu1 := hu_of hr
    have hu64 := hr.units
    have hu0 := hr.units0
    have hdp := room_dp hr
    exact (sb_cons (ss_if (st_not (st_tru (se_f (takes_of rfl rfl rfl rfl) c_is_whole_3 hr (sa_cons (se_var 0) (sa_cons se_int (sa_cons (se_glob k_MOST_LENGTH) sa_nil))) (hkj := by decide)))) (sb_one (ss_raise "BadNumber" rfl (takes_of rfl rfl rfl rfl) s_BadNumber (se_var 0) m_BadNumber b_super hdp)) sb_nil)
    (sb_one (ss_ret (se_var 0))))
def r_matrix_power : Fn := runD 2 ((sSeq (sDrop (eCall 1 r_need_matrix [] (lCons (eVar 0) lNil)))
    (sRet (eCall 2 r_power_matrix [] (lCons (eVar 0) (lCons (eCall 1 r_need_power [] (lCons (eVar 1) lNil)) lNil))))))
theorem sc_matrix_power : FnScope ["matrix", "length"] ["matrix", "length"] (defScope (topS 19)) := ⟨rfl, rfl, rfl, by decide +kernel, rfl, by decide +kernel, by decide +kernel⟩
theorem ok_matrix_power {P : Program} {w : World} {K : PySem.W.Frag} {mg : Str → Option Value} {base : Heap} {cls : ClT} (c_need_matrix_1 : CalF P w K mg base cls "need_matrix" 1 5 [] r_need_matrix) (c_need_power_1 : CalF P w K mg base cls "need_power" 1 4 [] r_need_power) (c_power_matrix_2 : CalF P w K mg base cls "power_matrix" 2 4 [] r_power_matrix) : OkD P w K mg base cls "matrix_power" (topS 19) [] ["matrix", "length"] 2 6 r_matrix_power := fun f fd Fd => fn_ok Fd sc_matrix_power rfl (by decide) (by decide) fun cdv A outer s H E G hG nx hr => by
    subst hG
    have nd := sc_matrix_power.nd
    have hu1 := hu_of hr
    have hu64 := hr.units
    have hu0 := hr.units0
    exact (sb_cons (ss_expr (se_f (takes_of rfl rfl rfl rfl) c_need_matrix_1 hr (sa_cons (se_var 0) sa_nil) (hkj := by decide)))
    (sb_one (ss_ret (se_f (takes_of rfl rfl rfl rfl) c_power_matrix_2 hr (sa_cons (se_var 0) (sa_cons (se_f (takes_of rfl rfl rfl rfl) c_need_power_1 hr (sa_cons (se_var 1) sa_nil) (hkj := by decide)) sa_nil)) (hkj := by decide)))))
noncomputable def r__law_odd_right : Fn := runD 17 ((sSeq (sSet 1 (eBinS gAdd (eC (.int 1)) (eCall 2 r__law_draw [] (lCons (eVar 0) (lCons (eC (.int 4)) lNil)))))
    (sSeq (sFrz 1 (sAsg (gpTup 3 (gpCons (gpN 2) (gpCons (gpN 3) (gpCons (gpN 4) gpNil)))) (eTup (lCons (eCall 3 r__law_drawn_matrix [] (lCons (eVar 0) (lCons (eVar 1) (lCons (eC (.int 3)) lNil)))) (lCons (eCall 2 r__law_draw [] (lCons (eVar 0) (lCons (eVar 1) lNil))) (lCons (eCall 2 r__law_draw [] (lCons (eVar 0) (lCons (eVar 1) lNil))) lNil))))))
    (sSeq (sSet 5 (eCall 2 r__law_of [] (lCons (eVar 0) (lCons (eLst (lCons (eBinS gAdd (eBin gPow (eC (.int 10)) (eC (.int 12))) (eC (.int 1))) (lCons (eBin gSub (eNeg (eBin gPow (eC (.int 10)) (eC (.int 12)))) (eC (.int 1))) (lCons (eC (.bl true)) (lCons (eC .non) (lCons (eC (.str "1")) (lCons (eTup (lCons (eC (.int 2)) lNil)) lNil))))))) lNil))))
    (sSeq (sSet 6 (eBinS gAdd (eBinS gAdd (eSl (eBinS gIx (eVar 2) (eVar 3)) (eC .non) (eIntO (eVar 4))) (eTup (lCons (eVar 5) lNil))) (eSl (eBinS gIx (eVar 2) (eVar 3)) (eIntO (eBinS gAdd (eVar 4) (eC (.int 1)))) (eC .non))))
    (sSeq (sFrz 6 (sSet 7 (eCall 2 r__law_of [] (lCons (eVar 0) (lCons (eLst (lCons (eVar 6) (lCons (eVar 6) (lCons (eBinS gAdd (eBinS gIx (eVar 2) (eVar 3)) (eTup (lCons (eC (.int 0)) lNil))) (lCons (eSl (eBinS gIx (eVar 2) (eVar 3)) (eIntO (eC (.int 1))) (eC .non)) (lCons (eC1 gList (eBinS gIx (eVar 2) (eVar 3))) (lCons (eC .non) (lCons (eC (.int 7)) lNil)))))))) lNil)))))
    (sSeq (sSet 8 (eBinS gAdd (eBinS gAdd (eSl (eVar 2) (eC .non) (eIntO (eVar 3))) (eTup (lCons (eVar 7) lNil))) (eSl (eVar 2) (eIntO (eBinS gAdd (eVar 3) (eC (.int 1)))) (eC .non))))
    (sSeq (sSet 9 (eCall 2 r__law_of [] (lCons (eVar 0) (lCons (eLst (lCons (eC1 gList (eVar 2)) (lCons (eC .non) (lCons (eC (.int 3)) (lCons (eC (.str "")) (lCons (eBinS gMul (eTup (lCons (eBinS gMul (eTup (lCons (eC (.int 0)) lNil)) (eC (.int 13))) lNil)) (eC (.int 13))) lNil)))))) lNil))))
    (sSeq (sAsg (gpTup 2 (gpCons (gpN 10) (gpCons (gpN 11) gpNil))) (eTup (lCons (eCall 3 r__law_drawn_matrix [] (lCons (eVar 0) (lCons (eBinS gAdd (eVar 1) (eC (.int 1))) (lCons (eC (.int 2)) lNil)))) (lCons (eCall 2 r__law_of [] (lCons (eVar 0) (lCons (eLst (lCons (eNeg (eC (.int 1))) (lCons (eC (.int 201)) (lCons (eC (.bl true)) (lCons (eC .non) (lCons (eC (.str "2")) lNil)))))) lNil))) lNil))))
    (sSeq (sFrz 8 (sSet 12 (eLst (lCons (eLam 4 fT__law_heard (eCall 1 r_need_matrix [] (lCons (eVar 8) lNil))) (lCons (eLam 4 fT__law_heard (eCall 1 r_need_matrix [] (lCons (eVar 9) lNil))) (lCons (eLam 4 fT__law_heard (eCall 2 r_matrix_times [] (lCons (eVar 8) (lCons (eVar 9) lNil)))) (lCons (eLam 4 fT__law_heard (eCall 2 r_matrix_times [] (lCons (eVar 2) (lCons (eVar 8) lNil)))) (lCons (eLam 4 fT__law_heard (eCall 2 r_matrix_times [] (lCons (eVar 2) (lCons (eVar 9) lNil)))) (lCons (eLam 4 fT__law_heard (eCall 2 r_matrix_times [] (lCons (eVar 2) (lCons (eVar 10) lNil)))) (lCons (eLam 4 fT__law_heard (eCall 2 r_matrix_times [] (lCons (eTup lNil) (lCons (eVar 2) lNil)))) (lCons (eLam 4 fT__law_heard (eCall 2 r_matrix_power [] (lCons (eVar 8) (lCons (eVar 11) lNil)))) (lCons (eLam 4 fT__law_heard (eCall 2 r_matrix_power [] (lCons (eVar 9) (lCons (eC (.int 2)) lNil)))) (lCons (eLam 4 fT__law_heard (eCall 2 r_matrix_power [] (lCons (eVar 2) (lCons (eVar 11) lNil)))) lNil)))))))))))))
    (sSeq (sPar3 13 14 15 (lCons (eTup (lCons (eC (.str "matrix")) (lCons (eVar 3) lNil))) (lCons (eTup (lCons (eC (.str "matrix")) (lCons (eC (.str "form")) lNil))) (lCons (eTup (lCons (eC (.str "unalike")) (lCons (eC (.str "places")) lNil))) lNil))))
    (sSeq (sSet 16 (eLst (lCons (eVar 13) (lCons (eVar 14) (lCons (eVar 13) (lCons (eVar 13) (lCons (eVar 14) (lCons (eVar 15) (lCons (eVar 15) (lCons (eVar 13) (lCons (eVar 14) (lCons (eTup (lCons (eC (.str "number")) (lCons (eVar 11) lNil))) lNil))))))))))))
    (sFrz 16 (sFrz 12 (sRet (eCall 2 r__law_like [] (lCons (eVar 12) (lCons (eVar 16) lNil))))))))))))))))))
theorem sc__law_odd_right : FnScope ["m", "size", "good", "spot", "entry", "odd", "row", "rows", "bad", "form", "other", "length", "told", "here", "head", "unlike", "due"] ["m"] (defScope (topS 34)) := ⟨rfl, rfl, rfl, by decide +kernel, rfl, by decide +kernel, by decide +kernel⟩
theorem ok__law_odd_right {P : Program} {w : World} {K : PySem.W.Frag} {mg : Str → Option Value} {base : Heap} {cls : ClT} {c__law_odd_right P__law_odd_right : Addr} (c__law_draw_2 : CalF P w K mg base cls "_law_draw" 2 4 [] r__law_draw) (c__law_drawn_matrix_3 : CalF P w K mg base cls "_law_drawn_matrix" 3 5 [] r__law_drawn_matrix) (c__law_like_2 : CalF P w K mg base cls "_law_like" 2 13 [] r__law_like) (c__law_of_2 : CalF P w K mg base cls "_law_of" 2 5 [] r__law_of) (c_matrix_power_2 : CalF P w K mg base cls "matrix_power" 2 6 [] r_matrix_power) (c_matrix_times_2 : CalF P w K mg base cls "matrix_times" 2 6 [] r_matrix_times) (c_need_matrix_1 : CalF P w K mg base cls "need_matrix" 1 5 [] r_need_matrix) (b_list : mg "list" = none) (d__law_heard : DefT K mg "_law_heard" (topS 31) []) (g__law_heard : GvF P w K mg base cls "_law_heard" (topS 31) ["deed", "found", "error", "e"] 7 "deed" fT__law_heard) (mk__law_odd_right : MkC K mg "_law_odd_right" c__law_odd_right) (tb__law_odd_right : LamX.TabB base mg c__law_odd_right P__law_odd_right) (i__law_odd_right : (P__law_odd_right, ("_law_odd_right.<locals>.<lambda>" : Str)) ∈ cls.tb) (u__law_odd_right : ∀ p ∈ cls.tb, p.1 = P__law_odd_right → p.2 = ("_law_odd_right.<locals>.<lambda>" : Str)) : OkM P w K mg base cls "_law_odd_right" (topS 34) ["m"] 1 14 r__law_odd_right := fun f fd Fd hm => fn_okM Fd hm mk__law_odd_right sc__law_odd_right rfl (by decide) (by decide) fun A outer s H E G hG nx hr => by
    subst hG
    have nd := sc__law_odd_right.nd
    have hu1 := hu_of hr
    have hu64 := hr.units
    have hu0 := hr.units0
    exact (sb_cons (ss_set 1 nd (se_add se_int (se_f (takes_of rfl rfl rfl rfl) c__law_draw_2 hr (sa_cons (se_var 0) (sa_cons se_int sa_nil)) (hkj := by decide))))
    (sb_cons (ss_frz 1 (ss_asg (vs := [2, 3, 4]) (sg_tup rfl (sgs_cons (sg_name 2 nd) (sgs_cons (sg_name 3 nd) (sgs_cons (sg_name 4 nd) sgs_nil)))) (se_tup (sa_cons (se_f (takes_of rfl rfl rfl rfl) c__law_drawn_matrix_3 hr (sa_cons (se_var 0) (sa_cons (se_var 1) (sa_cons se_int sa_nil))) (hkj := by decide)) (sa_cons (se_f (takes_of rfl rfl rfl rfl) c__law_draw_2 hr (sa_cons (se_var 0) (sa_cons (se_var 1) sa_nil)) (hkj := by decide)) (sa_cons (se_f (takes_of rfl rfl rfl rfl) c__law_draw_2 hr (sa_cons (se_var 0) (sa_cons (se_var 1) sa_nil)) (hkj := by decide)) sa_nil))))))
    (sb_cons (ss_set 5 nd (se_f (takes_of rfl rfl rfl rfl) c__law_of_2 hr (sa_cons (se_var 0) (sa_cons (se_lst (sa_cons (se_add (se_pow se_int se_int) se_int) (sa_cons (se_sub (se_neg (se_pow se_int se_int)) se_int) (sa_cons se_bl (sa_cons se_non (sa_cons se_str (sa_cons (se_tup (sa_cons se_int sa_nil)) sa_nil))))))) sa_nil)) (hkj := by decide)))
    (sb_cons (ss_set 6 nd (se_add (se_add (se_slice (se_ix (se_var 2) (se_var 3)) spo_none (spo_some (se_var 4))) (se_tup (sa_cons (se_var 5) sa_nil))) (se_slice (se_ix (se_var 2) (se_var 3)) (spo_some (se_add (se_var 4) se_int)) spo_none)))
    (sb_cons (ss_frz 6 (ss_set 7 nd (se_f (takes_of rfl rfl rfl rfl) c__law_of_2 hr (sa_cons (se_var 0) (sa_cons (se_lst (sa_cons (se_var 6) (sa_cons (se_var 6) (sa_cons (se_add (se_ix (se_var 2) (se_var 3)) (se_tup (sa_cons se_int sa_nil))) (sa_cons (se_slice (se_ix (se_var 2) (se_var 3)) (spo_some se_int) spo_none) (sa_cons (se_list b_list (se_ix (se_var 2) (se_var 3))) (sa_cons se_non (sa_cons se_int sa_nil)))))))) sa_nil)) (hkj := by decide))))
    (sb_cons (ss_set 8 nd (se_add (se_add (se_slice (se_var 2) spo_none (spo_some (se_var 3))) (se_tup (sa_cons (se_var 7) sa_nil))) (se_slice (se_var 2) (spo_some (se_add (se_var 3) se_int)) spo_none)))
    (sb_cons (ss_set 9 nd (se_f (takes_of rfl rfl rfl rfl) c__law_of_2 hr (sa_cons (se_var 0) (sa_cons (se_lst (sa_cons (se_list b_list (se_var 2)) (sa_cons se_non (sa_cons se_int (sa_cons se_str (sa_cons (se_mul (se_tup (sa_cons (se_mul (se_tup (sa_cons se_int sa_nil)) se_int) sa_nil)) se_int) sa_nil)))))) sa_nil)) (hkj := by decide)))
    (sb_cons (ss_asg (vs := [10, 11]) (sg_tup rfl (sgs_cons (sg_name 10 nd) (sgs_cons (sg_name 11 nd) sgs_nil))) (se_tup (sa_cons (se_f (takes_of rfl rfl rfl rfl) c__law_drawn_matrix_3 hr (sa_cons (se_var 0) (sa_cons (se_add (se_var 1) se_int) (sa_cons se_int sa_nil))) (hkj := by decide)) (sa_cons (se_f (takes_of rfl rfl rfl rfl) c__law_of_2 hr (sa_cons (se_var 0) (sa_cons (se_lst (sa_cons (se_neg se_int) (sa_cons se_int (sa_cons se_bl (sa_cons se_non (sa_cons se_str sa_nil)))))) sa_nil)) (hkj := by decide)) sa_nil))))
    (sb_cons (ss_frz 8 (ss_set 12 nd (se_lst (sa_cons (se_lam (k := 6) d__law_heard (fun _ _ _ _ _ _ us hl => match us, hl with | [_], _ => rfl) g__law_heard sc__law_heard (by decide) rfl tb__law_odd_right rfl i__law_odd_right u__law_odd_right hr (by decide) (LamX.lamS_by (by rfl)) (fun A outer s H E f c1 H0 f0 m0 hr => by
      have hu64 := hr.units
      have hu0 := hr.units0
      have hu1 := hu_of hr
      exact (se_f (takes_of rfl rfl rfl rfl) c_need_matrix_1 hr (sa_cons (se_var 8) sa_nil) (hkj := by decide)))) (sa_cons (se_lam (k := 6) d__law_heard (fun _ _ _ _ _ _ us hl => match us, hl with | [_], _ => rfl) g__law_heard sc__law_heard (by decide) rfl tb__law_odd_right rfl i__law_odd_right u__law_odd_right hr (by decide) (LamX.lamS_by (by rfl)) (fun A outer s H E f c1 H0 f0 m0 hr => by
      have hu64 := hr.units
      have hu0 := hr.units0
      have hu1 := hu_of hr
      exact (se_f (takes_of rfl rfl rfl rfl) c_need_matrix_1 hr (sa_cons (se_var 9) sa_nil) (hkj := by decide)))) (sa_cons (se_lam (k := 6) d__law_heard (fun _ _ _ _ _ _ us hl => match us, hl with | [_], _ => rfl) g__law_heard sc__law_heard (by decide) rfl tb__law_odd_right rfl i__law_odd_right u__law_odd_right hr (by decide) (LamX.lamS_by (by rfl)) (fun A outer s H E f c1 H0 f0 m0 hr => by
      have hu64 := hr.units
      have hu0 := hr.units0
      have hu1 := hu_of hr
      exact (se_f (takes_of rfl rfl rfl rfl) c_matrix_times_2 hr (sa_cons (se_var 8) (sa_cons (se_var 9) sa_nil)) (hkj := by decide)))) (sa_cons (se_lam (k := 6) d__law_heard (fun _ _ _ _ _ _ us hl => match us, hl with | [_], _ => rfl) g__law_heard sc__law_heard (by decide) rfl tb__law_odd_right rfl i__law_odd_right u__law_odd_right hr (by decide) (LamX.lamS_by (by rfl)) (fun A outer s H E f c1 H0 f0 m0 hr => by
      have hu64 := hr.units
      have hu0 := hr.units0
      have hu1 := hu_of hr
      exact (se_f (takes_of rfl rfl rfl rfl) c_matrix_times_2 hr (sa_cons (se_var 2) (sa_cons (se_var 8) sa_nil)) (hkj := by decide)))) (sa_cons (se_lam (k := 6) d__law_heard (fun _ _ _ _ _ _ us hl => match us, hl with | [_], _ => rfl) g__law_heard sc__law_heard (by decide) rfl tb__law_odd_right rfl i__law_odd_right u__law_odd_right hr (by decide) (LamX.lamS_by (by rfl)) (fun A outer s H E f c1 H0 f0 m0 hr => by
      have hu64 := hr.units
      have hu0 := hr.units0
      have hu1 := hu_of hr
      exact (se_f (takes_of rfl rfl rfl rfl) c_matrix_times_2 hr (sa_cons (se_var 2) (sa_cons (se_var 9) sa_nil)) (hkj := by decide)))) (sa_cons (se_lam (k := 6) d__law_heard (fun _ _ _ _ _ _ us hl => match us, hl with | [_], _ => rfl) g__law_heard sc__law_heard (by decide) rfl tb__law_odd_right rfl i__law_odd_right u__law_odd_right hr (by decide) (LamX.lamS_by (by rfl)) (fun A outer s H E f c1 H0 f0 m0 hr => by
      have hu64 := hr.units
      have hu0 := hr.units0
      have hu1 := hu_of hr
      exact (se_f (takes_of rfl rfl rfl rfl) c_matrix_times_2 hr (sa_cons (se_var 2) (sa_cons (se_var 10) sa_nil)) (hkj := by decide)))) (sa_cons (se_lam (k := 6) d__law_heard (fun _ _ _ _ _ _ us hl => match us, hl with | [_], _ => rfl) g__law_heard sc__law_heard (by decide) rfl tb__law_odd_right rfl i__law_odd_right u__law_odd_right hr (by decide) (LamX.lamS_by (by rfl)) (fun A outer s H E f c1 H0 f0 m0 hr => by
      have hu64 := hr.units
      have hu0 := hr.units0
      have hu1 := hu_of hr
      exact (se_f (takes_of rfl rfl rfl rfl) c_matrix_times_2 hr (sa_cons (se_tup sa_nil) (sa_cons (se_var 2) sa_nil)) (hkj := by decide)))) (sa_cons (se_lam (k := 6) d__law_heard (fun _ _ _ _ _ _ us hl => match us, hl with | [_], _ => rfl) g__law_heard sc__law_heard (by decide) rfl tb__law_odd_right rfl i__law_odd_right u__law_odd_right hr (by decide) (LamX.lamS_by (by rfl)) (fun A outer s H E f c1 H0 f0 m0 hr => by
      have hu64 := hr.units
      have hu0 := hr.units0
      have hu1 := hu_of hr
      exact (se_f (takes_of rfl rfl rfl rfl) c_matrix_power_2 hr (sa_cons (se_var 8) (sa_cons (se_var 11) sa_nil)) (hkj := by decide)))) (sa_cons (se_lam (k := 6) d__law_heard (fun _ _ _ _ _ _ us hl => match us, hl with | [_], _ => rfl) g__law_heard sc__law_heard (by decide) rfl tb__law_odd_right rfl i__law_odd_right u__law_odd_right hr (by decide) (LamX.lamS_by (by rfl)) (fun A outer s H E f c1 H0 f0 m0 hr => by
      have hu64 := hr.units
      have hu0 := hr.units0
      have hu1 := hu_of hr
      exact (se_f (takes_of rfl rfl rfl rfl) c_matrix_power_2 hr (sa_cons (se_var 9) (sa_cons se_int sa_nil)) (hkj := by decide)))) (sa_cons (se_lam (k := 6) d__law_heard (fun _ _ _ _ _ _ us hl => match us, hl with | [_], _ => rfl) g__law_heard sc__law_heard (by decide) rfl tb__law_odd_right rfl i__law_odd_right u__law_odd_right hr (by decide) (LamX.lamS_by (by rfl)) (fun A outer s H E f c1 H0 f0 m0 hr => by
      have hu64 := hr.units
      have hu0 := hr.units0
      have hu1 := hu_of hr
      exact (se_f (takes_of rfl rfl rfl rfl) c_matrix_power_2 hr (sa_cons (se_var 2) (sa_cons (se_var 11) sa_nil)) (hkj := by decide)))) sa_nil)))))))))))))
    (sb_cons (ss_par3 13 14 15 rfl nd (sa_cons (se_tup (sa_cons se_str (sa_cons (se_var 3) sa_nil))) (sa_cons (se_tup (sa_cons se_str (sa_cons se_str sa_nil))) (sa_cons (se_tup (sa_cons se_str (sa_cons se_str sa_nil))) sa_nil))))
    (sb_cons (ss_set 16 nd (se_lst (sa_cons (se_var 13) (sa_cons (se_var 14) (sa_cons (se_var 13) (sa_cons (se_var 13) (sa_cons (se_var 14) (sa_cons (se_var 15) (sa_cons (se_var 15) (sa_cons (se_var 13) (sa_cons (se_var 14) (sa_cons (se_tup (sa_cons se_str (sa_cons (se_var 11) sa_nil))) sa_nil))))))))))))
    (sb_one (ss_frz 16 (ss_frz 12 (ss_ret (se_f (takes_of rfl rfl rfl rfl) c__law_like_2 hr (sa_cons (se_var 12) (sa_cons (se_var 16) sa_nil)) (hkj := by decide)))))))))))))))))
def r__law_plain : Fn := runD 3 ((sRet (eC1 gTuple (eLc (gpN 1) (fun env ms => ((lCons (eVar 0) lNil) env ms).bindI iR1) eYes (eC1 gTuple (eLc (gpN 2) (fun env ms => ((lCons (eVar 0) lNil) env ms).bindI iR1) eYes (eC1 gInt (eBin gEq (eVar 2) (eVar 1))) [2])) [1]))))
theorem sc__law_plain : FnScope ["size", "place", "end"] ["size"] (defScope (topS 28)) := ⟨rfl, rfl, rfl, by decide +kernel, rfl, by decide +kernel, by decide +kernel⟩
theorem ok__law_plain {P : Program} {w : World} {K : PySem.W.Frag} {mg : Str → Option Value} {base : Heap} {cls : ClT} (b_int : mg "int" = none) (b_range : mg "range" = none) (b_tuple : mg "tuple" = none) : OkD P w K mg base cls "_law_plain" (topS 28) [] ["size"] 1 3 r__law_plain := fun f fd Fd => fn_ok Fd sc__law_plain rfl (by decide) (by decide) fun cdv A outer s H E G hG nx hr => by
    subst hG
    have nd := sc__law_plain.nd
    have hu1 := hu_of hr
    have hu64 := hr.units
    have hu0 := hr.units0
    exact (sb_one (ss_ret (se_tuple b_tuple (se_lc nx rfl nd (own := [("place", 1)]) (vs := [1]) rfl (si_range1 b_range (sa_cons (se_var 0) sa_nil)) (blkOk_by (by rfl)) (fun s H C cl fp => (sg_name 1 nd)) (fun s H C cl fp => pts_yes) (fun s H C cl fp => (se_tuple b_tuple (se_lc nx rfl nd (own := [("end", 2)]) (vs := [2]) rfl (si_range1 b_range (sa_cons (se_var 0) sa_nil)) (blkOk_by (by rfl)) (fun s H C cl fp => (sg_name 2 nd)) (fun s H C cl fp => pts_yes) (fun s H C cl fp => (se_intc b_int (se_cmp (op_eqD hu64) ok_eq (nomark _) (se_var 2) (se_var 1)))))))))))
def r__law_times : Fn := runD 6 ((sSeq (sSet 2 (fun env ms => ((eC1 gLen (eVar 0)) env ms).bindR gRgL))
    (sRet (eC1 gTuple (eLc (gpN 3) (fun env ms => ((eVar 0) env ms).bindI iSq) eYes (eC1 gTuple (eLc (gpN 4) (fun env ms => ((eVar 2) env ms).bindI iSq) eYes (eC1 (gIs fun ns => some ns.sum) (eLc (gpN 5) (fun env ms => ((eVar 2) env ms).bindI iSq) eYes (eBinS gMul (eBinS gIx (eVar 3) (eVar 5)) (eBinS gIx (eBinS gIx (eVar 1) (eVar 5)) (eVar 4))) [5])) [4])) [3])))))
theorem sc__law_times : FnScope ["one", "other", "size", "row", "end", "k"] ["one", "other"] (defScope (topS 27)) := ⟨rfl, rfl, rfl, by decide +kernel, rfl, by decide +kernel, by decide +kernel⟩
theorem ok__law_times {P : Program} {w : World} {K : PySem.W.Frag} {mg : Str → Option Value} {base : Heap} {cls : ClT} (b_len : mg "len" = none) (b_list : mg "list" = none) (b_range : mg "range" = none) (b_sum : mg "sum" = none) (b_tuple : mg "tuple" = none) : OkD P w K mg base cls "_law_times" (topS 27) [] ["one", "other"] 2 3 r__law_times := fun f fd Fd => fn_ok Fd sc__law_times rfl (by decide) (by decide) fun cdv A outer s H E G hG nx hr => by
    subst hG
    have nd := sc__law_times.nd
    have hu1 := hu_of hr
    have hu64 := hr.units
    have hu0 := hr.units0
    exact (sb_cons (ss_set 2 nd (se_listRg1 rfl b_list b_range (se_len b_len (se_var 0))))
    (sb_one (ss_ret (se_tuple b_tuple (se_lc nx rfl nd (own := [("row", 3)]) (vs := [3]) rfl (si_seq (se_var 0)) (blkOk_by (by rfl)) (fun s H C cl fp => (sg_name 3 nd)) (fun s H C cl fp => pts_yes) (fun s H C cl fp => (se_tuple b_tuple (se_lc nx rfl nd (own := [("end", 4)]) (vs := [4]) rfl (si_seq (se_var 2)) (blkOk_by (by rfl)) (fun s H C cl fp => (sg_name 4 nd)) (fun s H C cl fp => pts_yes) (fun s H C cl fp => (se_sum rfl b_sum (se_lc nx rfl nd (own := [("k", 5)]) (vs := [5]) rfl (si_seq (se_var 2)) (blkOk_by (by rfl)) (fun s H C cl fp => (sg_name 5 nd)) (fun s H C cl fp => pts_yes) (fun s H C cl fp => (se_mul (se_ix (se_var 3) (se_var 5)) (se_ix (se_ix (se_var 1) (se_var 5)) (se_var 4)))))))))))))))
def r__law_powers : Fn := runD 4 ((sSeq (sSet 2 (eLst (lCons (eCall 1 r__law_plain [] (lCons (eC1 gLen (eVar 0)) lNil)) lNil)))
    (sSeq (sFor (gpN 3) (fun env ms => ((lCons (eVar 1) lNil) env ms).bindI iR1) (sApp 2 (eCall 2 r__law_times [] (lCons (eBinS gIx (eVar 2) (eNeg (eC (.int 1)))) (lCons (eVar 0) lNil)))))
    (sFrz 2 (sRet (eVar 2))))))
theorem sc__law_powers : FnScope ["matrix", "most", "found", "turn"] ["matrix", "most"] (defScope (topS 29)) := ⟨rfl, rfl, rfl, by decide +kernel, rfl, by decide +kernel, by decide +kernel⟩
theorem ok__law_powers {P : Program} {w : World} {K : PySem.W.Frag} {mg : Str → Option Value} {base : Heap} {cls : ClT} (c__law_plain_1 : CalF P w K mg base cls "_law_plain" 1 3 [] r__law_plain) (c__law_times_2 : CalF P w K mg base cls "_law_times" 2 3 [] r__law_times) (b_len : mg "len" = none) (b_range : mg "range" = none) : OkD P w K mg base cls "_law_powers" (topS 29) [] ["matrix", "most"] 2 4 r__law_powers := fun f fd Fd => fn_ok Fd sc__law_powers rfl (by decide) (by decide) fun cdv A outer s H E G hG nx hr => by
    subst hG
    have nd := sc__law_powers.nd
    have hu1 := hu_of hr
    have hu64 := hr.units
    have hu0 := hr.units0
    exact (sb_cons (ss_set 2 nd (se_lst (sa_cons (se_f (takes_of rfl rfl rfl rfl) c__law_plain_1 hr (sa_cons (se_len b_len (se_var 0)) sa_nil) (hkj := by decide)) sa_nil)))
    (sb_cons (ss_for (vs := [3]) (passes_of rfl) rfl (si_range1 b_range (sa_cons (se_var 1) sa_nil)) (sg_name 3 nd) (sb_one (ss_append 2 (se_f (takes_of rfl rfl rfl rfl) c__law_times_2 hr (sa_cons (se_ix (se_var 2) (se_neg se_int)) (sa_cons (se_var 0) sa_nil)) (hkj := by decide)))))
    (sb_one (ss_frz 2 (ss_ret (se_var 2))))))
def gp_matrix_times_other_matrix {α : Type} (as bs : List α) : List α := match as, bs with
  | [], [x0, x1] => [x1, x0]
  | _, _ => []
theorem natK_matrix_times_other_matrix {α β : Type} {Rr : α → β → Prop} : ∀ {cs : List α} {ds : List β}, Paired Rr cs ds → cs.length = 2 → Paired Rr (gp_matrix_times_other_matrix [] cs) (gp_matrix_times_other_matrix [] ds)
  | _, _, .cons r0 (.cons r1 .nil), _ => (.cons r1 (.cons r0 .nil))
  | _, _, .nil, h => by cases h
  | _, _, .cons _ .nil, h => by cases h
  | _, _, .cons _ (.cons _ (.cons _ _)), h => by simp at h
def gp_need_matrix_matrix {α : Type} (as bs : List α) : List α := match as, bs with
  | [], [x0] => [x0]
  | _, _ => []
theorem natK_need_matrix_matrix {α β : Type} {Rr : α → β → Prop} : ∀ {cs : List α} {ds : List β}, Paired Rr cs ds → cs.length = 1 → Paired Rr (gp_need_matrix_matrix [] cs) (gp_need_matrix_matrix [] ds)
  | _, _, .cons r0 .nil, _ => (.cons r0 .nil)
  | _, _, .nil, h => by cases h
  | _, _, .cons _ (.cons _ _), h => by simp at h
def gp_matrix_power_length_matrix {α : Type} (as bs : List α) : List α := match as, bs with
  | [], [x0, x1] => [x1, x0]
  | _, _ => []
theorem natK_matrix_power_length_matrix {α β : Type} {Rr : α → β → Prop} : ∀ {cs : List α} {ds : List β}, Paired Rr cs ds → cs.length = 2 → Paired Rr (gp_matrix_power_length_matrix [] cs) (gp_matrix_power_length_matrix [] ds)
  | _, _, .cons r0 (.cons r1 .nil), _ => (.cons r1 (.cons r0 .nil))
  | _, _, .nil, h => by cases h
  | _, _, .cons _ .nil, h => by cases h
  | _, _, .cons _ (.cons _ (.cons _ _)), h => by simp at h
def r__law_right : Fn := runD 11 ((sSeq (sPar 1 2 (lCons (eCall 2 r__law_draw [] (lCons (eVar 0) (lCons (eC (.int 5)) lNil))) (lCons (eCall 2 r__law_of [] (lCons (eVar 0) (lCons (eLst (lCons (eC (.int 1)) (lCons (eC (.int 3)) (lCons (eC (.int 40)) lNil)))) lNil))) lNil)))
    (sSeq (sPar3 3 4 5 (lCons (eCall 3 r__law_drawn_matrix [] (lCons (eVar 0) (lCons (eVar 1) (lCons (eVar 2) lNil)))) (lCons (eCall 3 r__law_drawn_matrix [] (lCons (eVar 0) (lCons (eVar 1) (lCons (eVar 2) lNil)))) (lCons (eCall 3 r__law_drawn_matrix [] (lCons (eVar 0) (lCons (eVar 1) (lCons (eC (.int 2)) lNil)))) lNil))))
    (sSeq (sPar 6 7 (lCons (eCall 2 r__law_times [] (lCons (eCall 2 r__law_times [] (lCons (eVar 3) (lCons (eVar 4) lNil))) (lCons (eVar 5) lNil))) (lCons (eCall 2 r__law_times [] (lCons (eVar 3) (lCons (eCall 2 r__law_times [] (lCons (eVar 4) (lCons (eVar 5) lNil))) lNil))) lNil)))
    (sSeq (sSet 8 (eLst (lCons (eCall 2 r_matrix_times [] (lCons (eVar 3) (lCons (eVar 4) lNil))) (lCons (eCallK 2 r_matrix_times 0 2 gp_matrix_times_other_matrix lNil (lCons (eVar 3) (lCons (eVar 4) lNil))) (lCons (eCallK 1 r_need_matrix 0 1 gp_need_matrix_matrix lNil (lCons (eVar 3) lNil)) lNil)))))
    (sSeq (sFrz 8 (sIf (eOr (eBin gNe (eVar 6) (eVar 7)) (eNot (eTru (eCall 2 r__law_like [] (lCons (eVar 8) (lCons (eLst (lCons (eCall 2 r__law_times [] (lCons (eVar 3) (lCons (eVar 4) lNil))) (lCons (eCall 2 r__law_times [] (lCons (eVar 4) (lCons (eVar 3) lNil))) (lCons (eVar 3) lNil)))) lNil)))))) (sRet (eC (.bl false))) sNil))
    (sSeq (sSet 9 (eCall 2 r__law_draw [] (lCons (eVar 0) (lCons (eC (.int 9)) lNil))))
    (sSeq (sSet 10 (eCall 2 r__law_powers [] (lCons (eVar 3) (lCons (eBinS gAdd (eVar 9) (eC (.int 3))) lNil))))
    (sSeq (sSet 8 (eLst (lCons (eCall 2 r_matrix_power [] (lCons (eVar 3) (lCons (eVar 9) lNil))) (lCons (eCallK 2 r_matrix_power 0 2 gp_matrix_power_length_matrix lNil (lCons (eBinS gAdd (eVar 9) (eC (.int 3))) (lCons (eVar 3) lNil))) (lCons (eCall 2 r_matrix_power [] (lCons (eVar 3) (lCons (eC (.int 0)) lNil))) (lCons (eCall 2 r_matrix_power [] (lCons (eVar 3) (lCons (eC (.int 1)) lNil))) lNil))))))
    (sSeq (sFrz 8 (sIf (eNot (eTru (eCall 2 r__law_like [] (lCons (eVar 8) (lCons (eLst (lCons (eBinS gIx (eVar 10) (eVar 9)) (lCons (eBinS gIx (eVar 10) (eBinS gAdd (eVar 9) (eC (.int 3)))) (lCons (eCall 1 r__law_plain [] (lCons (eVar 1) lNil)) (lCons (eVar 3) lNil))))) lNil))))) (sRet (eC (.bl false))) sNil))
    (sRet (eCall 2 r__law_like [] (lCons (eCall 2 r__law_times [] (lCons (eBinS gIx (eVar 8) (eC (.int 0))) (lCons (eCall 2 r_matrix_power [] (lCons (eVar 3) (lCons (eC (.int 3)) lNil))) lNil))) (lCons (eBinS gIx (eVar 8) (eC (.int 1))) lNil))))))))))))))
theorem sc__law_right : FnScope ["m", "size", "most", "one", "two", "three", "left", "right", "told", "length", "powers"] ["m"] (defScope (topS 32)) := ⟨rfl, rfl, rfl, by decide +kernel, rfl, by decide +kernel, by decide +kernel⟩
theorem ok__law_right {P : Program} {w : World} {K : PySem.W.Frag} {mg : Str → Option Value} {base : Heap} {cls : ClT} (c__law_draw_2 : CalF P w K mg base cls "_law_draw" 2 4 [] r__law_draw) (c__law_drawn_matrix_3 : CalF P w K mg base cls "_law_drawn_matrix" 3 5 [] r__law_drawn_matrix) (c__law_like_2 : CalF P w K mg base cls "_law_like" 2 13 [] r__law_like) (c__law_of_2 : CalF P w K mg base cls "_law_of" 2 5 [] r__law_of) (c__law_plain_1 : CalF P w K mg base cls "_law_plain" 1 3 [] r__law_plain) (c__law_powers_2 : CalF P w K mg base cls "_law_powers" 2 4 [] r__law_powers) (c__law_times_2 : CalF P w K mg base cls "_law_times" 2 3 [] r__law_times) (c_matrix_power_2 : CalF P w K mg base cls "matrix_power" 2 6 [] r_matrix_power) (c_matrix_times_2 : CalF P w K mg base cls "matrix_times" 2 6 [] r_matrix_times) (q_matrix_power_length_matrix : CalK P w K mg base cls "matrix_power" 2 6 ["length", "matrix"] gp_matrix_power_length_matrix r_matrix_power) (q_matrix_times_other_matrix : CalK P w K mg base cls "matrix_times" 2 6 ["other", "matrix"] gp_matrix_times_other_matrix r_matrix_times) (q_need_matrix_matrix : CalK P w K mg base cls "need_matrix" 1 5 ["matrix"] gp_need_matrix_matrix r_need_matrix) : OkD P w K mg base cls "_law_right" (topS 32) [] ["m"] 1 14 r__law_right := fun f fd Fd => fn_ok Fd sc__law_right rfl (by decide) (by decide) fun cdv A outer s H E G hG nx hr => by
    subst hG
    have nd := sc__law_right.nd
    have hu1 := hu_of hr
    have hu64 := hr.units
    have hu0 := hr.units0
    exact (sb_cons (ss_par 1 2 rfl nd (sa_cons (se_f (takes_of rfl rfl rfl rfl) c__law_draw_2 hr (sa_cons (se_var 0) (sa_cons se_int sa_nil)) (hkj := by decide)) (sa_cons (se_f (takes_of rfl rfl rfl rfl) c__law_of_2 hr (sa_cons (se_var 0) (sa_cons (se_lst (sa_cons se_int (sa_cons se_int (sa_cons se_int sa_nil)))) sa_nil)) (hkj := by decide)) sa_nil)))
    (sb_cons (ss_par3 3 4 5 rfl nd (sa_cons (se_f (takes_of rfl rfl rfl rfl) c__law_drawn_matrix_3 hr (sa_cons (se_var 0) (sa_cons (se_var 1) (sa_cons (se_var 2) sa_nil))) (hkj := by decide)) (sa_cons (se_f (takes_of rfl rfl rfl rfl) c__law_drawn_matrix_3 hr (sa_cons (se_var 0) (sa_cons (se_var 1) (sa_cons (se_var 2) sa_nil))) (hkj := by decide)) (sa_cons (se_f (takes_of rfl rfl rfl rfl) c__law_drawn_matrix_3 hr (sa_cons (se_var 0) (sa_cons (se_var 1) (sa_cons se_int sa_nil))) (hkj := by decide)) sa_nil))))
    (sb_cons (ss_par 6 7 rfl nd (sa_cons (se_f (takes_of rfl rfl rfl rfl) c__law_times_2 hr (sa_cons (se_f (takes_of rfl rfl rfl rfl) c__law_times_2 hr (sa_cons (se_var 3) (sa_cons (se_var 4) sa_nil)) (hkj := by decide)) (sa_cons (se_var 5) sa_nil)) (hkj := by decide)) (sa_cons (se_f (takes_of rfl rfl rfl rfl) c__law_times_2 hr (sa_cons (se_var 3) (sa_cons (se_f (takes_of rfl rfl rfl rfl) c__law_times_2 hr (sa_cons (se_var 4) (sa_cons (se_var 5) sa_nil)) (hkj := by decide)) sa_nil)) (hkj := by decide)) sa_nil)))
    (sb_cons (ss_set 8 nd (se_lst (sa_cons (se_f (takes_of rfl rfl rfl rfl) c_matrix_times_2 hr (sa_cons (se_var 3) (sa_cons (se_var 4) sa_nil)) (hkj := by decide)) (sa_cons (se_kn (takes_of rfl rfl rfl rfl) q_matrix_times_other_matrix hr (sk_cons (se_var 3) (sk_cons (se_var 4) sk_nil)) (hkj := by decide)) (sa_cons (se_kn (takes_of rfl rfl rfl rfl) q_need_matrix_matrix hr (sk_cons (se_var 3) sk_nil) (hkj := by decide)) sa_nil)))))
    (sb_cons (ss_frz 8 (ss_if (SW.pt (sw_or (st_cmp (op_neD hu64) ok_ne (nomark _) (se_var 6) (se_var 7)) (sw_or1 (st_not (st_tru (se_f (takes_of rfl rfl rfl rfl) c__law_like_2 hr (sa_cons (se_var 8) (sa_cons (se_lst (sa_cons (se_f (takes_of rfl rfl rfl rfl) c__law_times_2 hr (sa_cons (se_var 3) (sa_cons (se_var 4) sa_nil)) (hkj := by decide)) (sa_cons (se_f (takes_of rfl rfl rfl rfl) c__law_times_2 hr (sa_cons (se_var 4) (sa_cons (se_var 3) sa_nil)) (hkj := by decide)) (sa_cons (se_var 3) sa_nil)))) sa_nil)) (hkj := by decide))))))) (sb_one (ss_ret se_bl)) sb_nil))
    (sb_cons (ss_set 9 nd (se_f (takes_of rfl rfl rfl rfl) c__law_draw_2 hr (sa_cons (se_var 0) (sa_cons se_int sa_nil)) (hkj := by decide)))
    (sb_cons (ss_set 10 nd (se_f (takes_of rfl rfl rfl rfl) c__law_powers_2 hr (sa_cons (se_var 3) (sa_cons (se_add (se_var 9) se_int) sa_nil)) (hkj := by decide)))
    (sb_cons (ss_set 8 nd (se_lst (sa_cons (se_f (takes_of rfl rfl rfl rfl) c_matrix_power_2 hr (sa_cons (se_var 3) (sa_cons (se_var 9) sa_nil)) (hkj := by decide)) (sa_cons (se_kn (takes_of rfl rfl rfl rfl) q_matrix_power_length_matrix hr (sk_cons (se_add (se_var 9) se_int) (sk_cons (se_var 3) sk_nil)) (hkj := by decide)) (sa_cons (se_f (takes_of rfl rfl rfl rfl) c_matrix_power_2 hr (sa_cons (se_var 3) (sa_cons se_int sa_nil)) (hkj := by decide)) (sa_cons (se_f (takes_of rfl rfl rfl rfl) c_matrix_power_2 hr (sa_cons (se_var 3) (sa_cons se_int sa_nil)) (hkj := by decide)) sa_nil))))))
    (sb_cons (ss_frz 8 (ss_if (st_not (st_tru (se_f (takes_of rfl rfl rfl rfl) c__law_like_2 hr (sa_cons (se_var 8) (sa_cons (se_lst (sa_cons (se_ix (se_var 10) (se_var 9)) (sa_cons (se_ix (se_var 10) (se_add (se_var 9) se_int)) (sa_cons (se_f (takes_of rfl rfl rfl rfl) c__law_plain_1 hr (sa_cons (se_var 1) sa_nil) (hkj := by decide)) (sa_cons (se_var 3) sa_nil))))) sa_nil)) (hkj := by decide)))) (sb_one (ss_ret se_bl)) sb_nil))
    (sb_one (ss_ret (se_f (takes_of rfl rfl rfl rfl) c__law_like_2 hr (sa_cons (se_f (takes_of rfl rfl rfl rfl) c__law_times_2 hr (sa_cons (se_ix (se_var 8) se_int) (sa_cons (se_f (takes_of rfl rfl rfl rfl) c_matrix_power_2 hr (sa_cons (se_var 3) (sa_cons se_int sa_nil)) (hkj := by decide)) sa_nil)) (hkj := by decide)) (sa_cons (se_ix (se_var 8) se_int) sa_nil)) (hkj := by decide)))))))))))))
def r__law_great_right : Fn := runD 7 ((sSeq (sSet 1 (eCall 2 r__law_of [] (lCons (eVar 0) (lCons (eLst (lCons (eC (.int 1)) (lCons (eNeg (eC (.int 1))) lNil))) lNil))))
    (sSeq (sSet 2 (eC1 gTuple (eLc (gpN 5) (fun env ms => ((lCons (eC (.int 12)) lNil) env ms).bindI iR1) eYes (eC1 gTuple (eLc (gpN 6) (fun env ms => ((lCons (eC (.int 12)) lNil) env ms).bindI iR1) eYes (eIf (eBin gEq (eCall 2 r__law_draw [] (lCons (eVar 0) (lCons (eC (.int 3)) lNil))) (eC (.int 0))) (eBinS gMul (eVar 1) (eBin gPow (eC (.int 10)) (eC (.int 12)))) (eC (.int 0))) [6])) [5])))
    (sSeq (sIf (eNot (eTru (eCall 2 r__law_like [] (lCons (eCall 2 r_matrix_times [] (lCons (eVar 2) (lCons (eVar 2) lNil))) (lCons (eCall 2 r__law_times [] (lCons (eVar 2) (lCons (eVar 2) lNil))) lNil))))) (sRet (eC (.bl false))) sNil)
    (sSeq (sSet 3 (eCall 3 r__law_drawn_matrix [] (lCons (eVar 0) (lCons (eC (.int 2)) (lCons (eC (.int 3)) lNil)))))
    (sSeq (sSet 4 (eBinS gIx (eCall 2 r__law_powers [] (lCons (eVar 3) (lCons (eC (.int 100)) lNil))) (eC (.int 100))))
    (sRet (eCall 2 r__law_like [] (lCons (eLst (lCons (eCall 2 r_matrix_power [] (lCons (eVar 3) (lCons (eC (.int 200)) lNil))) (lCons (eCall 2 r_matrix_power [] (lCons (eTup lNil) (lCons (eC (.int 200)) lNil))) (lCons (eCall 2 r_matrix_times [] (lCons (eTup lNil) (lCons (eTup lNil) lNil))) lNil)))) (lCons (eLst (lCons (eCall 2 r__law_times [] (lCons (eVar 4) (lCons (eVar 4) lNil))) (lCons (eTup lNil) (lCons (eTup lNil) lNil)))) lNil))))))))))
theorem sc__law_great_right : FnScope ["m", "sign", "wide", "low", "half", "place", "end"] ["m"] (defScope (topS 33)) := ⟨rfl, rfl, rfl, by decide +kernel, rfl, by decide +kernel, by decide +kernel⟩
theorem ok__law_great_right {P : Program} {w : World} {K : PySem.W.Frag} {mg : Str → Option Value} {base : Heap} {cls : ClT} (c__law_draw_2 : CalF P w K mg base cls "_law_draw" 2 4 [] r__law_draw) (c__law_drawn_matrix_3 : CalF P w K mg base cls "_law_drawn_matrix" 3 5 [] r__law_drawn_matrix) (c__law_like_2 : CalF P w K mg base cls "_law_like" 2 13 [] r__law_like) (c__law_of_2 : CalF P w K mg base cls "_law_of" 2 5 [] r__law_of) (c__law_powers_2 : CalF P w K mg base cls "_law_powers" 2 4 [] r__law_powers) (c__law_times_2 : CalF P w K mg base cls "_law_times" 2 3 [] r__law_times) (c_matrix_power_2 : CalF P w K mg base cls "matrix_power" 2 6 [] r_matrix_power) (c_matrix_times_2 : CalF P w K mg base cls "matrix_times" 2 6 [] r_matrix_times) (b_range : mg "range" = none) (b_tuple : mg "tuple" = none) : OkD P w K mg base cls "_law_great_right" (topS 33) [] ["m"] 1 14 r__law_great_right := fun f fd Fd => fn_ok Fd sc__law_great_right rfl (by decide) (by decide) fun cdv A outer s H E G hG nx hr => by
    subst hG
    have nd := sc__law_great_right.nd
    have hu1 := hu_of hr
    have hu64 := hr.units
    have hu0 := hr.units0
    exact (sb_cons (ss_set 1 nd (se_f (takes_of rfl rfl rfl rfl) c__law_of_2 hr (sa_cons (se_var 0) (sa_cons (se_lst (sa_cons se_int (sa_cons (se_neg se_int) sa_nil))) sa_nil)) (hkj := by decide)))
    (sb_cons (ss_set 2 nd (se_tuple b_tuple (se_lc nx rfl nd (own := [("place", 5)]) (vs := [5]) rfl (si_range1 b_range (sa_cons se_int sa_nil)) (blkOk_by (by rfl)) (fun s H C cl fp => (sg_name 5 nd)) (fun s H C cl fp => pts_yes) (fun s H C cl fp => (se_tuple b_tuple (se_lc nx rfl nd (own := [("end", 6)]) (vs := [6]) rfl (si_range1 b_range (sa_cons se_int sa_nil)) (blkOk_by (by rfl)) (fun s H C cl fp => (sg_name 6 nd)) (fun s H C cl fp => pts_yes) (fun s H C cl fp => (se_if (st_cmp (op_eqD hu64) ok_eq (nomark _) (se_f takes_none5 c__law_draw_2 hr (sa_cons (se_var 0) (sa_cons se_int sa_nil)) (hkj := by decide)) se_int) (se_mul (se_var 1) (se_pow se_int se_int)) se_int))))))))
    (sb_cons (ss_if (st_not (st_tru (se_f (takes_of rfl rfl rfl rfl) c__law_like_2 hr (sa_cons (se_f (takes_of rfl rfl rfl rfl) c_matrix_times_2 hr (sa_cons (se_var 2) (sa_cons (se_var 2) sa_nil)) (hkj := by decide)) (sa_cons (se_f (takes_of rfl rfl rfl rfl) c__law_times_2 hr (sa_cons (se_var 2) (sa_cons (se_var 2) sa_nil)) (hkj := by decide)) sa_nil)) (hkj := by decide)))) (sb_one (ss_ret se_bl)) sb_nil)
    (sb_cons (ss_set 3 nd (se_f (takes_of rfl rfl rfl rfl) c__law_drawn_matrix_3 hr (sa_cons (se_var 0) (sa_cons se_int (sa_cons se_int sa_nil))) (hkj := by decide)))
    (sb_cons (ss_set 4 nd (se_ix (se_f (takes_of rfl rfl rfl rfl) c__law_powers_2 hr (sa_cons (se_var 3) (sa_cons se_int sa_nil)) (hkj := by decide)) se_int))
    (sb_one (ss_ret (se_f (takes_of rfl rfl rfl rfl) c__law_like_2 hr (sa_cons (se_lst (sa_cons (se_f (takes_of rfl rfl rfl rfl) c_matrix_power_2 hr (sa_cons (se_var 3) (sa_cons se_int sa_nil)) (hkj := by decide)) (sa_cons (se_f (takes_of rfl rfl rfl rfl) c_matrix_power_2 hr (sa_cons (se_tup sa_nil) (sa_cons se_int sa_nil)) (hkj := by decide)) (sa_cons (se_f (takes_of rfl rfl rfl rfl) c_matrix_times_2 hr (sa_cons (se_tup sa_nil) (sa_cons (se_tup sa_nil) sa_nil)) (hkj := by decide)) sa_nil)))) (sa_cons (se_lst (sa_cons (se_f (takes_of rfl rfl rfl rfl) c__law_times_2 hr (sa_cons (se_var 4) (sa_cons (se_var 4) sa_nil)) (hkj := by decide)) (sa_cons (se_tup sa_nil) (sa_cons (se_tup sa_nil) sa_nil)))) sa_nil)) (hkj := by decide)))))))))
noncomputable def b_law : FS :=
    (sSeq (sFor (gpN 2) (fun env ms => ((lCons (eC (.int 3)) lNil) env ms).bindI iR1) (sIf (eNot (eTru (eCall 1 r__law_right [] (lCons (eVar 1) lNil)))) (sRet (eC (.bl false))) sNil))
    (sSeq (sIf (eAnd (eBin gEq (eCall 2 r__law_draw [] (lCons (eVar 1) (lCons (eC (.int 4)) lNil))) (eC (.int 0))) (eNot (eTru (eCall 1 r__law_great_right [] (lCons (eVar 1) lNil))))) (sRet (eC (.bl false))) sNil)
    (sRet (eCall 1 r__law_odd_right [] (lCons (eVar 1) lNil)))))
theorem sc_law : FnScope ["script", "m", "turn"] ["script"] (defScope (topS 35)) := ⟨rfl, rfl, rfl, by decide +kernel, rfl, by decide +kernel, by decide +kernel⟩
theorem sb_law {P : Program} {w : World} {K : PySem.W.Frag} {mg : Str → Option Value} {base : Heap} {cls : ClT} (c__law_draw_2 : CalF P w K mg base cls "_law_draw" 2 4 [] r__law_draw) (c__law_great_right_1 : CalF P w K mg base cls "_law_great_right" 1 14 [] r__law_great_right) (c__law_odd_right_1 : CalF P w K mg base cls "_law_odd_right" 1 14 [] r__law_odd_right) (c__law_right_1 : CalF P w K mg base cls "_law_right" 1 14 [] r__law_right) (b_range : mg "range" = none) (fa : Addr) (cdv : Value) (A : Around) (outer : List PySem.Env) (s : Shared) (H : Hp) (E : XK) (G : Gh) (hG : G.cls = cls) (nx : G.xf = none) (hr : Room 14 (A.deeper (envOfC "law" (defScope (topS 35)) s.heap.objs.size fa cdv))) :
    SB (cxOf (L2.CX P w) P w K mg base ["script", "m", "turn"] "law" (defScope (topS 35)) fa cdv A outer s H E) G (fun c d _ H => E c d H) ((defBody (topS 35)).tail) b_law := by
    subst hG
    have nd := sc_law.nd
    have hu1 := hu_of hr
    have hu64 := hr.units
    have hu0 := hr.units0
    exact (sb_cons (ss_for (vs := [2]) (passes_of rfl) rfl (si_range1 b_range (sa_cons se_int sa_nil)) (sg_name 2 nd) (sb_one (ss_if (st_not (st_tru (se_f (takes_of rfl rfl rfl rfl) c__law_right_1 hr (sa_cons (se_var 1) sa_nil) (hkj := by decide)))) (sb_one (ss_ret se_bl)) sb_nil)))
    (sb_cons (ss_if (SW.pt (sw_and (st_cmp (op_eqD hu64) ok_eq (nomark _) (se_f (takes_of rfl rfl rfl rfl) c__law_draw_2 hr (sa_cons (se_var 1) (sa_cons se_int sa_nil)) (hkj := by decide)) se_int) (sw_and1 (st_not (st_tru (se_f (takes_of rfl rfl rfl rfl) c__law_great_right_1 hr (sa_cons (se_var 1) sa_nil) (hkj := by decide))))))) (sb_one (ss_ret se_bl)) sb_nil)
    (sb_one (ss_ret (se_f (takes_of rfl rfl rfl rfl) c__law_odd_right_1 hr (sa_cons (se_var 1) sa_nil) (hkj := by decide))))))
def e1_begun : EF := (eCall 1 r__law_folded [] (lCons (eVar 0) lNil))
def e2_begun : EF := (eLc (gpN 2) (fun env ms => ((eVar 0) env ms).bindI iSq) eYes (eIf (eBin gGe (eVar 2) (eBin gPow (eC (.int 10)) (eC (.int 18)))) (eVar 2) (eC (.int 0))) [2])
end DL
namespace DL
open PySem PySem.Spec PyProof.Rows L2
/-! ### the law's own draws -/
theorem mulOk_r (i : Int) {j : Int} (h : -(2 ^ 64) < j ∧ j < 2 ^ 64) : mulOk i j = true := by
  unfold mulOk
  rw [decide_eq_true h]
  simp
theorem mulOk_l (j : Int) {i : Int} (h : -(2 ^ 64) < i ∧ i < 2 ^ 64) : mulOk i j = true := by
  unfold mulOk
  rw [decide_eq_true h]
  simp
def mixI (c n : Int) : Int := ((c * (1 + 2 * n) * 48271) % 2147483647 + 7919 * n * n + 104729 * n) * 69621 % 2147483629 / 7
theorem mixI_bd (c n : Int) : 0 ≤ mixI c n ∧ mixI c n < 2 ^ 31 := by
  unfold mixI
  generalize ((c * (1 + 2 * n) * 48271) % 2147483647 + 7919 * n * n + 104729 * n) * 69621 = x
  omega
theorem sp_mixed (c n : Int) (ms : MS) (hc : -(2 ^ 64) < c ∧ c < 2 ^ 64) (hn : 0 ≤ n ∧ n < 2 ^ 52) : r__law_mixed [.int c, .int n] ms = .ok (.int (mixI c n)) ms := by
  have h1 := mulOk_l (1 + 2 * n) hc
  have h2 : mulOk 2 n = true := mulOk_l _ (by omega)
  have h3 : ∀ x : Int, mulOk x 48271 = true := fun x => mulOk_r _ (by omega)
  have h4 : ∀ x : Int, mulOk x n = true := fun x => mulOk_r _ (by omega)
  have h5 : ∀ x : Int, mulOk x 69621 = true := fun x => mulOk_r _ (by omega)
  have h6 : Nat.log2 7 < 9000 := by decide
  simp [r__law_mixed, runD, startE, sSeq, sSet, sRet, eC1, gInt, eVar, eC, eBin, eBinS, gMul, gAdd, gMod, gDiv, Out.bind, Out.bindR, Out.st, Fw.fin, h1, h2, h3, h4, h5, h6, mixI]
/-- cells that are right -/
def Cok (cs : List Int) : Prop := cs.length = 64 ∧ ∀ c ∈ cs, 0 ≤ c ∧ c < 2147483647
theorem Cok.set {cs : List Int} (h : Cok cs) (i : Nat) {c : Int} (hc : 0 ≤ c ∧ c < 2147483647) : Cok (cs.set i c) :=
  ⟨by rw [List.length_set, h.1], fun d hd => by
    rcases List.mem_or_eq_of_mem_set hd with hd | hd
    · exact h.2 d hd
    · rw [hd]
      exact hc⟩
theorem Cok.at {cs : List Int} (h : Cok cs) {i : Nat} (hi : i < 64) : ∃ c, cs[i]? = some c ∧ 0 ≤ c ∧ c < 2147483647 := by
  have hi' : i < cs.length := by rw [h.1]; exact hi
  exact ⟨cs[i], List.getElem?_eq_getElem hi', h.2 _ (List.getElem_mem hi')⟩
theorem ixN_nat {n i : Nat} (h : i < n) : ixN n (i : Int) = some i := by
  unfold ixN
  rw [if_pos (by omega), if_pos (by omega)]
  simp
theorem atI_mapI (cs : List Int) (i : Nat) : atI (cs.map D.int) (i : Int) = (cs[i]?).map D.int := by
  rw [atI_pos, List.getElem?_map]
theorem folded_put {sc t2 t3 : Ent} {cs : List Int} {ms : MS} (h : Cok cs) {i : Nat} (hi : i < 64) {v : Int} (f1 f2 : EF) (env : Env) (he : env = [sc, some (1, .lst (cs.map D.int)), t2, t3])
    (h1 : f1 env ms = .ok (.o 0) (.int (i : Int)) ms) (h2 : f2 env ms = .ok (.o 0) (.int v) ms) : sPut 1 f1 f2 env ms = .nx [sc, some (1, .lst ((cs.set i v).map D.int)), t2, t3] ms := by
  have hz : ixN (cs.map D.int).length (i : Int) = some i := by
    rw [List.length_map, h.1]
    exact ixN_nat hi
  subst he
  unfold sPut
  rw [h2]
  simp only [Out.st, getL, List.getElem?_cons_succ, List.getElem?_cons_zero, h1, hz, if_true]
  simp [List.map_set]
theorem sSeq_nx {F1 F2 : FS} {env e : Env} {ms m : MS} (h : F1 env ms = .nx e m) : sSeq F1 F2 env ms = F2 e m := by simp [sSeq, h]
theorem sFor_ok {gp : GP} {fi : EI} {body : FS} {env : Env} {ms m : MS} {ds : List D} (h : fi env ms = .ok true ds m) : sFor gp fi body env ms = forF gp body ds env m := by simp [sFor, h]
def sixtyfour : List Int := (List.range 64).map fun (n : Nat) => 17 + (n : Int)
theorem cok64 : Cok sixtyfour := ⟨by decide, by decide⟩
theorem sp_folded (ns : List Int) : ∃ cs, r__law_folded [.scr ns] none = .ok (.lst (cs.map D.int)) none ∧ Cok cs := by
  have e0 : startE 4 [D.scr ns] = [some (0, .scr ns), none, none, none] := rfl
  unfold r__law_folded runD
  rw [e0, sSeq_nx (e := [some (0, .scr ns), some (1, .lst (sixtyfour.map D.int)), none, none]) (m := none) (by rfl)]
  have h48 : ∀ x : Int, mulOk x 48271 = true := fun x => mulOk_r _ (by omega)
  have h16 : ∀ x : Int, mulOk x 16807 = true := fun x => mulOk_r _ (by omega)
  have l1 : ∃ env ms, sFor (gpTup 2 (gpCons (gpN 2) (gpCons (gpN 3) gpNil))) (fun env ms => ((lCons (eVar 0) lNil) env ms).bindI iEn) (sPut 1 (eBin gMod (eC1 gInt (eVar 2)) (eC (.int 64))) (eBin gMod (eC1 gInt (eBinS gAdd (eBinS gMul (eBinS gIx (eVar 1) (eBin gMod (eC1 gInt (eVar 2)) (eC (.int 64)))) (eC (.int 48271))) (eVar 3))) (eC (.int 2147483647)))) [some (0, .scr ns), some (1, .lst (sixtyfour.map D.int)), none, none] none = .nx env ms ∧ ms = none ∧ ∃ cs t2 t3, env = [some (0, .scr ns), some (1, .lst (cs.map D.int)), t2, t3] ∧ Cok cs := by
    rw [sFor_ok (ds := enumD 0 (ns.map D.int)) (m := none) (by rfl)]
    obtain ⟨e', m', h1, h2⟩ := forF_inv (fun _ env ms => ms = none ∧ ∃ cs t2 t3, env = [some (0, .scr ns), some (1, .lst (cs.map D.int)), t2, t3] ∧ Cok cs) (enumD 0 (ns.map D.int)) 0 [some (0, .scr ns), some (1, .lst (sixtyfour.map D.int)), none, none] none ⟨rfl, sixtyfour, none, none, rfl, cok64⟩ (gp := gpTup 2 (gpCons (gpN 2) (gpCons (gpN 3) gpNil))) (body := (sPut 1 (eBin gMod (eC1 gInt (eVar 2)) (eC (.int 64))) (eBin gMod (eC1 gInt (eBinS gAdd (eBinS gMul (eBinS gIx (eVar 1) (eBin gMod (eC1 gInt (eVar 2)) (eC (.int 64)))) (eC (.int 48271))) (eVar 3))) (eC (.int 2147483647))))) fun j d env ms hd hI => by
      obtain ⟨rfl, cs, t2, t3, rfl, hc⟩ := hI
      have hj : j < ns.length := by
        rcases Nat.lt_or_ge j ns.length with z | z
        · exact z
        · rw [List.getElem?_eq_none (by rw [enumD_len, List.length_map]; exact z)] at hd
          cases hd
      have hd2 := enumD_at 0 (ns.map D.int) j (.int ns[j]) (by rw [List.getElem?_map, List.getElem?_eq_getElem hj]; rfl)
      rw [hd] at hd2
      cases hd2
      obtain ⟨c, hc1, hc2⟩ := hc.at (i := j % 64) (Nat.mod_lt _ (by omega))
      have ej : ((0 + j : Nat) : Int) % 64 = ((j % 64 : Nat) : Int) := by omega
      refine ⟨[some (0, .scr ns), some (1, .lst (cs.map D.int)), some (0, .int ((0 + j : Nat) : Int)), some (0, .int ns[j])], _, none, by rfl, folded_put hc (i := j % 64) (Nat.mod_lt _ (by omega)) (v := (c * 48271 + ns[j]) % 2147483647) _ _ _ rfl ?_ ?_, rfl, _, _, _, rfl, hc.set _ ⟨by omega, by omega⟩⟩
      · simp [eBin, eC1, gInt, eVar, eC, gMod, Out.bind, Out.bindR]
      · have hx : atI (cs.map D.int) ((j : Int) % 64) = some (.int c) := by
          rw [show (j : Int) % 64 = ((j % 64 : Nat) : Int) by omega, atI_mapI, hc1]
          rfl
        simp [eBin, eBinS, eC1, gInt, eVar, eC, gMod, gAdd, gMul, gIx, Out.bind, Out.bindR, hx, h48, ixFl]
    exact ⟨e', m', h1, h2⟩
  obtain ⟨env1, ms1, h1, rfl, cs, t2, t3, rfl, hc⟩ := l1
  rw [sSeq_nx h1]
  have l2 : ∃ env ms, sFor (gpN 2) (fun env ms => ((lCons (eC (.int 1)) (lCons (eC (.int 64)) lNil)) env ms).bindI iR2) (sPut 1 (eVar 2) (eBin gMod (eC1 gInt (eBinS gAdd (eBinS gIx (eVar 1) (eVar 2)) (eBinS gMul (eBinS gIx (eVar 1) (eBin gSub (eVar 2) (eC (.int 1)))) (eC (.int 16807))))) (eC (.int 2147483647)))) [some (0, .scr ns), some (1, .lst (cs.map D.int)), t2, t3] none = .nx env ms ∧ ms = none ∧ ∃ cs t2 t3, env = [some (0, .scr ns), some (1, .lst (cs.map D.int)), t2, t3] ∧ Cok cs := by
    rw [sFor_ok (ds := rangeD 1 63) (m := none) (by rfl)]
    obtain ⟨e', m', h1, h2⟩ := forF_inv (fun _ env ms => ms = none ∧ ∃ cs t2 t3, env = [some (0, .scr ns), some (1, .lst (cs.map D.int)), t2, t3] ∧ Cok cs) (rangeD 1 63) 0 [some (0, .scr ns), some (1, .lst (cs.map D.int)), t2, t3] none ⟨rfl, cs, t2, t3, rfl, hc⟩ (gp := gpN 2) (body := (sPut 1 (eVar 2) (eBin gMod (eC1 gInt (eBinS gAdd (eBinS gIx (eVar 1) (eVar 2)) (eBinS gMul (eBinS gIx (eVar 1) (eBin gSub (eVar 2) (eC (.int 1)))) (eC (.int 16807))))) (eC (.int 2147483647))))) fun j d env ms hd hI => by
      obtain ⟨rfl, cs, t2, t3, rfl, hc⟩ := hI
      have hj : j < 63 := by
        rcases Nat.lt_or_ge j 63 with z | z
        · exact z
        · rw [List.getElem?_eq_none (by unfold rangeD; rw [List.length_map, List.length_range]; exact z)] at hd
          cases hd
      have hd2 : d = .int ((j + 1 : Nat) : Int) := by
        unfold rangeD at hd
        rw [List.getElem?_map, List.getElem?_range hj] at hd
        cases hd
        show D.int (1 + (j : Int)) = D.int ((j + 1 : Nat) : Int)
        congr 1
        omega
      subst hd2
      obtain ⟨c, hc1, hc2⟩ := hc.at (i := j + 1) (by omega)
      obtain ⟨b, hb1, hb2⟩ := hc.at (i := j) (by omega)
      have ej : ((j + 1 : Nat) : Int) - 1 = ((j : Nat) : Int) := by omega
      refine ⟨[some (0, .scr ns), some (1, .lst (cs.map D.int)), some (0, .int ((j + 1 : Nat) : Int)), t3], _, none, by rfl, folded_put hc (i := j + 1) (by omega) (v := (c + b * 16807) % 2147483647) _ _ _ rfl ?_ ?_, rfl, _, _, _, rfl, hc.set _ ⟨by omega, by omega⟩⟩
      · rfl
      · have hx : atI (cs.map D.int) ((j : Int) + 1) = some (.int c) := by
          rw [show (j : Int) + 1 = ((j + 1 : Nat) : Int) by omega, atI_mapI, hc1]
          rfl
        have hy : atI (cs.map D.int) (j : Int) = some (.int b) := by
          rw [atI_mapI, hb1]
          rfl
        simp [eBin, eBinS, eC1, gInt, eVar, eC, gMod, gAdd, gMul, gSub, gI, gIx, Out.bind, Out.bindR, hx, hy, h16, ixFl]
    exact ⟨e', m', h1, h2⟩
  obtain ⟨env2, ms2, h2, rfl, cs2, t4, t5, rfl, hc2⟩ := l2
  rw [sSeq_nx h2]
  exact ⟨cs2, rfl, hc2⟩
/-- a dict from which at most n numbers were drawn -/
structure Mk (n : Int) (m : MSt) : Prop where
  cok : Cok m.cells
  sp : 0 ≤ m.spot ∧ m.spot ≤ n
  gr : ∀ g ∈ m.great, 0 ≤ g
theorem Mk.le {n k : Int} {m : MSt} (h : Mk n m) (e : n ≤ k) : Mk k m := ⟨h.cok, ⟨h.sp.1, by have := h.sp.2; omega⟩, h.gr⟩
theorem log2_small {l : Int} (h0 : 0 < l) (h : l < 2 ^ 64) : l.natAbs.log2 < 9000 := by
  have h1 : l.natAbs ≠ 0 := by omega
  have h2 : l.natAbs < 2 ^ 64 := by omega
  exact (Nat.log2_lt h1).mpr (Nat.lt_of_lt_of_le h2 (Nat.pow_le_pow_right (by omega) (by omega)))
theorem sp_draw {n l : Int} {m : MSt} (h : Mk n m) (hn : n < 2 ^ 50) (hl : 0 < l ∧ l < 2 ^ 64) : ∃ v m', r__law_draw [.raw (.ref m.am), .int l] (some m) = .ok (.int v) (some m') ∧ 0 ≤ v ∧ v < l ∧ Mk (n + 1) m' ∧ m'.am = m.am := by
  obtain ⟨am, cc, cg, cells, great, spot, tb⟩ := m
  obtain ⟨hc, ⟨s0, s1⟩, hg⟩ := h
  dsimp only at hc s0 s1 hg
  have lg := log2_small hl.1 hl.2
  have lg64 : Nat.log2 64 < 9000 := by decide
  obtain ⟨c, hc1, hc2⟩ := hc.at (i := (spot % 64).toNat) (by omega)
  have hx : atI (cells.map D.int) (spot % 64) = some (.int c) := by
    rw [show spot % 64 = (((spot % 64).toNat : Nat) : Int) by omega, atI_mapI, hc1]
    rfl
  have m31 : ∀ x : Int, mulOk 31 x = true := fun x => mulOk_l _ (by omega)
  have x1 : ∀ ms, r__law_mixed [.int (c + 31 * (spot / 64)), .int spot] ms = .ok (.int (mixI (c + 31 * (spot / 64)) spot)) ms := fun ms => sp_mixed _ _ _ (by omega) (by omega)
  have b1 := mixI_bd (c + 31 * (spot / 64)) spot
  generalize mixI (c + 31 * (spot / 64)) spot = v1 at x1 b1
  have x2 : ∀ ms, r__law_mixed [.int v1, .int (spot + 7)] ms = .ok (.int (mixI v1 (spot + 7))) ms := fun ms => sp_mixed _ _ _ (by omega) (by omega)
  generalize mixI v1 (spot + 7) = v2 at x2
  have nl : ¬ l = 0 := by omega
  have p1 := Int.emod_nonneg v2 nl
  have p2 := Int.emod_lt_of_pos v2 hl.1
  by_cases hgr : great = []
  · subst hgr
    refine ⟨v2 % l, ⟨am, cc, cg, cells, [], spot + 1, tb⟩, ?_, p1, p2, ⟨hc, ⟨by show (0 : Int) ≤ spot + 1; omega, by show spot + 1 ≤ n + 1; omega⟩, hg⟩, rfl⟩
    simp [r__law_draw, runD, startE, sSeq, sSet, sRet, sSpot, sIf, sNil, eM, mAt, mGet, eGreat, eC1, gInt, eVar, eC, eBin, eBinS, gMul, gAdd, gMod, gDiv, gIx, ixFl, eCall, lCons, lNil, OutL.bind, FOut.e, Out.bind, Out.bindR, Out.st, Fw.fin, hx, x1, x2, m31, lg, lg64, hl.1]
  · have hz : 0 < great.length := by
      rcases great with _ | ⟨g, gs⟩
      · exact absurd rfl hgr
      · simp
    have hh : ((spot % (great.length : Int)).toNat) < great.length := by
      have a1 := Int.emod_nonneg spot (show (great.length : Int) ≠ 0 by omega)
      have a2 := Int.emod_lt_of_pos spot (show (0 : Int) < great.length by omega)
      omega
    have ei : spot % (great.length : Int) = (((spot % (great.length : Int)).toNat : Nat) : Int) := by
      have a1 := Int.emod_nonneg spot (show (great.length : Int) ≠ 0 by omega)
      omega
    have hget : great[(spot % (great.length : Int)).toNat]? = some great[(spot % (great.length : Int)).toNat] := List.getElem?_eq_getElem hh
    have g0 := hg _ (List.getElem_mem hh)
    generalize hgv : great[(spot % (great.length : Int)).toNat] = g at hget g0
    have hy : atI great (spot % (great.length : Int)) = some g := by
      rw [ei, atI_pos]
      exact hget
    have hix : ixN great.length (spot % (great.length : Int)) = some (spot % (great.length : Int)).toNat := by
      conv => lhs; rw [ei]
      exact ixN_nat hh
    have zl : (0 : Int) < great.length := by omega
    have he : great.isEmpty = false := by
      rcases great with _ | ⟨g, gs⟩
      · exact absurd rfl hgr
      · rfl
    have hne : great ≠ [] := hgr
    have zl' : 0 < great.length := hz
    by_cases hpos : 0 < g
    · have q1 := Int.emod_nonneg g nl
      have q2 := Int.emod_lt_of_pos g hl.1
      refine ⟨g % l, ⟨am, cc, cg, cells, great.set (spot % (great.length : Int)).toNat (g / l), spot + 1, tb⟩, ?_, q1, q2, ⟨hc, ⟨by show (0 : Int) ≤ spot + 1; omega, by show spot + 1 ≤ n + 1; omega⟩, fun x hx => ?_⟩, rfl⟩
      · simp [r__law_draw, runD, startE, sSeq, sSet, sRet, sSpot, sIf, sNil, sPutG, gAt, eIxG, eLenG, eM, mAt, mGet, eGreat, eC1, gInt, eVar, eC, eBin, eBinS, gMul, gAdd, gMod, gDiv, gGt, gI, Out.bind, Out.bindR, Out.st, Fw.fin, hy, hix, hpos, lg, hl.1, he, zl, zl', hne, List.length_pos_iff]
      · rcases List.mem_or_eq_of_mem_set hx with hx | hx
        · exact hg x hx
        · rw [hx]
          exact Int.ediv_nonneg g0 (by omega)
    · refine ⟨v2 % l, ⟨am, cc, cg, cells, great, spot + 1, tb⟩, ?_, p1, p2, ⟨hc, ⟨by show (0 : Int) ≤ spot + 1; omega, by show spot + 1 ≤ n + 1; omega⟩, hg⟩, rfl⟩
      simp [r__law_draw, runD, startE, sSeq, sSet, sRet, sSpot, sIf, sNil, sPutG, gAt, eIxG, eLenG, eM, mAt, mGet, eGreat, eC1, gInt, eVar, eC, eBin, eBinS, gMul, gAdd, gMod, gDiv, gIx, ixFl, gGt, gI, eCall, lCons, lNil, OutL.bind, FOut.e, Out.bind, Out.bindR, Out.st, Fw.fin, hx, x1, x2, m31, lg, lg64, hl.1, hy, hpos, he, zl, zl', hne, List.length_pos_iff]
/-! the beginning -/
def PPs (ns : List Int) : Prop := ns.length ≤ 63 ∧ ∀ z ∈ ns, Builtin.Int.intBits z ≤ 1048576
def unI : D → List Int
  | .lst ds => ds.filterMap fun d => match d with
    | .int i => some i
    | _ => none
  | _ => []
theorem unI_ints (cs : List Int) : unI (.lst (cs.map D.int)) = cs := by
  show List.filterMap _ (cs.map D.int) = cs
  induction cs with
  | nil => rfl
  | cons c cs ih =>
    show c :: List.filterMap _ (cs.map D.int) = c :: cs
    rw [ih]
def cellsI (ns : List Int) : List Int := match r__law_folded [.scr ns] none with
  | .ok d _ => unI d
  | _ => []
def greatI (ns : List Int) : List Int := ns.map fun c => if 1000000000000000000 ≤ c then c else 0
theorem cells_ok (ns : List Int) : r__law_folded [.scr ns] none = .ok (.lst ((cellsI ns).map D.int)) none ∧ Cok (cellsI ns) := by
  obtain ⟨cs, h1, h2⟩ := sp_folded ns
  have e : cellsI ns = cs := by
    unfold cellsI
    rw [h1]
    exact unI_ints cs
  rw [e]
  exact ⟨h1, h2⟩
theorem g1_begun : ∀ ns, PPs ns → e1_begun (startE 3 [.scr ns]) none = .ok (.o 0) (.lst ((cellsI ns).map D.int)) none := fun ns _ => by
  have h : startE 3 [D.scr ns] = [some (0, .scr ns), none, none] := rfl
  simp [e1_begun, h, eCall, lCons, lNil, eVar, OutL.bind, FOut.e, (cells_ok ns).1]
theorem lc_great (a b : Ent) (ms : MS) : ∀ (ns acc : List Int) (t : Ent), ns.length + acc.length ≤ 1000 → lcF (gpN 2) eYes (eIf (eBin gGe (eVar 2) (eBin gPow (eC (.int 10)) (eC (.int 18)))) (eVar 2) (eC (.int 0))) [2] (ns.map D.int) (acc.map D.int) [a, b, t] ms = .ok (.o 1) (.lst ((acc ++ greatI ns).map D.int)) ms
  | [], acc, t, _ => by simp [lcF, greatI]
  | n :: ns, acc, t, h => by
    have hs : acc.length < sizeLine := by
      rw [sizeLine_eq]
      simp at h
      omega
    have hp : ∀ x : Int, gPow (.int 10) (.int 18) ms = .ok (.o 0) (.int 1000000000000000000) ms := fun x => by rfl
    have h2 := lc_great a b ms ns (acc ++ [if 1000000000000000000 ≤ n then n else 0]) t (by simp at h ⊢; omega)
    have e : (acc ++ [if 1000000000000000000 ≤ n then n else 0]) ++ greatI ns = acc ++ greatI (n :: ns) := by simp [greatI]
    rw [e] at h2
    rw [List.map_cons]
    by_cases hb : 1000000000000000000 ≤ n
    · rw [if_pos hb] at h2
      rw [← h2]
      simp [lcF, gpN, wipeE, eYes, eIf, eBin, gGe, gI, eVar, eC, Out.bindR, Out.bind, hp 0, hb, hs]
    · rw [if_neg hb] at h2
      rw [← h2]
      simp [lcF, gpN, wipeE, eYes, eIf, eBin, gGe, gI, eVar, eC, Out.bindR, Out.bind, hp 0, hb, hs]
theorem g2_begun : ∀ ns p, PPs ns → e2_begun ((startE 3 [.scr ns]).set 1 (some (0, .raw p))) none = .ok (.o 1) (.lst ((greatI ns).map D.int)) none := fun ns p hp => by
  have h := lc_great (some (0, .scr ns)) (some (0, .raw p)) none ns [] none (by have := hp.1; simp; omega)
  exact h
theorem great_nn (ns : List Int) : ∀ g ∈ greatI ns, 0 ≤ g := fun g hg => by
  obtain ⟨c, _, rfl⟩ := List.mem_map.mp hg
  split <;> omega
theorem mk_begin {ns : List Int} {m : MSt} (h1 : m.cells = cellsI ns) (h2 : m.great = greatI ns) (h3 : m.spot = 0) : Mk 0 m :=
  ⟨by rw [h1]; exact (cells_ok ns).2, by rw [h3]; omega, by rw [h2]; exact great_nn ns⟩
/-! ### sums -/
def sm : Nat → (Nat → Int) → Int
  | 0, _ => 0
  | n + 1, h => sm n h + h n
theorem sm_congr : ∀ {n : Nat} {h h' : Nat → Int}, (∀ k, k < n → h k = h' k) → sm n h = sm n h'
  | 0, _, _, _ => rfl
  | n + 1, h, h', e => by
    show sm n h + h n = sm n h' + h' n
    rw [sm_congr fun k hk => e k (Nat.lt_succ_of_lt hk), e n (Nat.lt_succ_self n)]
theorem sm_add (n : Nat) (h h' : Nat → Int) : sm n (fun k => h k + h' k) = sm n h + sm n h' := by
  induction n with
  | zero => rfl
  | succ n ih =>
    show sm n (fun k => h k + h' k) + (h n + h' n) = (sm n h + h n) + (sm n h' + h' n)
    rw [ih]
    omega
theorem sm_mul_l (n : Nat) (c : Int) (h : Nat → Int) : sm n (fun k => c * h k) = c * sm n h := by
  induction n with
  | zero => simp [sm]
  | succ n ih =>
    show sm n (fun k => c * h k) + c * h n = c * (sm n h + h n)
    rw [ih, Int.mul_add]
theorem sm_mul_r (n : Nat) (c : Int) (h : Nat → Int) : sm n (fun k => h k * c) = sm n h * c := by
  induction n with
  | zero => simp [sm]
  | succ n ih =>
    show sm n (fun k => h k * c) + h n * c = (sm n h + h n) * c
    rw [ih, Int.add_mul]
theorem sm_zero (n : Nat) : sm n (fun _ => 0) = 0 := by
  induction n with
  | zero => rfl
  | succ n ih =>
    show sm n (fun _ => 0) + 0 = 0
    rw [ih]
    rfl
theorem sm_comm (n m : Nat) (h : Nat → Nat → Int) : sm n (fun i => sm m fun j => h i j) = sm m (fun j => sm n fun i => h i j) := by
  induction n with
  | zero =>
    show 0 = sm m fun _ => 0
    rw [sm_zero]
  | succ n ih =>
    show sm n (fun i => sm m fun j => h i j) + sm m (fun j => h n j) = sm m (fun j => sm n (fun i => h i j) + h n j)
    rw [ih, sm_add]
theorem sm_single : ∀ {n i : Nat} (h : Nat → Int), i < n → sm n (fun k => if k = i then h k else 0) = h i
  | 0, i, h, hi => by omega
  | n + 1, i, h, hi => by
    show sm n (fun k => if k = i then h k else 0) + (if n = i then h n else 0) = h i
    by_cases z : n = i
    · subst z
      rw [if_pos rfl, sm_congr (h' := fun _ => 0) fun k hk => if_neg (by omega), sm_zero]
      omega
    · rw [if_neg z, sm_single h (by omega)]
      omega
theorem sm_range (n : Nat) (h : Nat → Int) : ((List.range n).map h).sum = sm n h := by
  induction n with
  | zero => rfl
  | succ n ih =>
    rw [List.range_succ, List.map_append, List.sum_append, ih]
    show sm n h + (h n + 0) = sm n h + h n
    omega
theorem sm_bound {a : Nat} : ∀ {n : Nat} {h : Nat → Int}, (∀ k, k < n → (h k).natAbs < 2 ^ a) → (sm n h).natAbs ≤ n * 2 ^ a
  | 0, h, _ => by simp [sm]
  | n + 1, h, e => by
    have h1 := sm_bound (n := n) (h := h) fun k hk => e k (Nat.lt_succ_of_lt hk)
    have h2 := e n (Nat.lt_succ_self n)
    have h3 : (sm n h + h n).natAbs ≤ (sm n h).natAbs + (h n).natAbs := Int.natAbs_add_le _ _
    show (sm n h + h n).natAbs ≤ (n + 1) * 2 ^ a
    rw [Nat.succ_mul]
    omega
/-! ### matrices: functions of two numbers -/
abbrev Mx := Nat → Nat → Int
def mulF (n : Nat) (f g : Mx) : Mx := fun i j => if i < n ∧ j < n then sm n (fun k => f i k * g k j) else 0
def oneF (n : Nat) : Mx := fun i j => if i < n ∧ j = i then 1 else 0
def powF (n : Nat) (f : Mx) : Nat → Mx
  | 0 => oneF n
  | k + 1 => mulF n (powF n f k) f
/-- noughts outside -/
def Su (n : Nat) (f : Mx) : Prop := ∀ i j, ¬ (i < n ∧ j < n) → f i j = 0
theorem mul_su (n : Nat) (f g : Mx) : Su n (mulF n f g) := fun i j h => if_neg h
theorem one_su (n : Nat) : Su n (oneF n) := fun i j h => if_neg fun z => h ⟨z.1, by omega⟩
theorem pow_su (n : Nat) (f : Mx) : ∀ k, Su n (powF n f k)
  | 0 => one_su n
  | k + 1 => mul_su n _ _
theorem mulF_in {n i j : Nat} {f g : Mx} (h : i < n ∧ j < n) : mulF n f g i j = sm n (fun k => f i k * g k j) := if_pos h
theorem mul_one' {n : Nat} {f : Mx} (h : Su n f) : mulF n f (oneF n) = f := by
  funext i j
  by_cases z : i < n ∧ j < n
  · rw [mulF_in z, sm_congr (h' := fun k => if k = j then f i k else 0), sm_single (fun k => f i k) z.2]
    intro k hk
    show f i k * (if k < n ∧ j = k then 1 else 0) = _
    by_cases e : k = j
    · rw [if_pos ⟨hk, e.symm⟩, if_pos e, Int.mul_one]
    · rw [if_neg (fun q => e q.2.symm), if_neg e, Int.mul_zero]
  · rw [mul_su n f _ i j z, h i j z]
theorem one_mul' {n : Nat} {f : Mx} (h : Su n f) : mulF n (oneF n) f = f := by
  funext i j
  by_cases z : i < n ∧ j < n
  · rw [mulF_in z, sm_congr (h' := fun k => if k = i then f k j else 0), sm_single (fun k => f k j) z.1]
    intro k hk
    show (if i < n ∧ k = i then 1 else 0) * f k j = _
    by_cases e : k = i
    · rw [if_pos ⟨z.1, e⟩, if_pos e, Int.one_mul]
    · rw [if_neg (fun q => e q.2), if_neg e, Int.zero_mul]
  · rw [mul_su n _ f i j z, h i j z]
theorem mul_assoc' (n : Nat) (f g h : Mx) : mulF n (mulF n f g) h = mulF n f (mulF n g h) := by
  funext i j
  by_cases z : i < n ∧ j < n
  · rw [mulF_in z, mulF_in z]
    rw [sm_congr (h' := fun k => sm n fun l => f i l * g l k * h k j) fun k hk => by rw [mulF_in ⟨z.1, hk⟩, sm_mul_r]]
    rw [sm_comm]
    refine sm_congr fun l hl => ?_
    rw [mulF_in ⟨hl, z.2⟩, ← sm_mul_l]
    exact sm_congr fun k _ => by rw [Int.mul_assoc]
  · rw [mul_su n _ h i j z, mul_su n f _ i j z]
theorem pow_comm {n : Nat} {f : Mx} (h : Su n f) : ∀ k, mulF n f (powF n f k) = powF n f (k + 1)
  | 0 => by
    show mulF n f (oneF n) = mulF n (oneF n) f
    rw [mul_one' h, one_mul' h]
  | k + 1 => by
    show mulF n f (mulF n (powF n f k) f) = mulF n (powF n f (k + 1)) f
    rw [← mul_assoc', pow_comm h k]
theorem pow_add {n : Nat} {f : Mx} (h : Su n f) (a : Nat) : ∀ b, mulF n (powF n f a) (powF n f b) = powF n f (a + b)
  | 0 => mul_one' (pow_su n f a)
  | b + 1 => by
    show mulF n (powF n f a) (mulF n (powF n f b) f) = mulF n (powF n f (a + b)) f
    rw [← mul_assoc', pow_add h a b]
theorem pow_one {n : Nat} {f : Mx} (h : Su n f) : powF n f 1 = f := one_mul' h
theorem pow_sq {n : Nat} {f : Mx} (h : Su n f) : ∀ k, powF n (mulF n f f) k = powF n f (2 * k)
  | 0 => rfl
  | k + 1 => by
    show mulF n (powF n (mulF n f f) k) (mulF n f f) = mulF n (mulF n (powF n f (2 * k)) f) f
    rw [pow_sq h k, mul_assoc']
/-! ### how great entries are -/
def Bx (a : Nat) (f : Mx) : Prop := ∀ i j, (f i j).natAbs < 2 ^ a
theorem Bx.le {a b : Nat} {f : Mx} (h : Bx a f) (e : a ≤ b) : Bx b f := fun i j => Nat.lt_of_lt_of_le (h i j) (Nat.pow_le_pow_right (by omega) e)
theorem one_bx (n : Nat) : Bx 1 (oneF n) := fun i j => by
  unfold oneF
  split <;> decide
theorem mul_bx {a b n : Nat} {f g : Mx} (hn : n ≤ 12) (hf : Bx a f) (hg : Bx b g) : Bx (a + b + 4) (mulF n f g) := fun i j => by
  by_cases z : i < n ∧ j < n
  · rw [mulF_in z]
    have h1 := sm_bound (a := a + b) (n := n) (h := fun k => f i k * g k j) fun k _ => by
      rw [Int.natAbs_mul, Nat.pow_add]
      exact Nat.mul_lt_mul'' (hf i k) (hg k j)
    refine Nat.lt_of_le_of_lt h1 ?_
    rw [Nat.pow_add _ (a + b), Nat.mul_comm]
    exact Nat.mul_lt_mul_of_pos_left (by omega) (Nat.pow_pos (by omega))
  · rw [mul_su n f g i j z]
    exact Nat.pow_pos (by omega)
theorem pow_bx {a n : Nat} {f : Mx} (hn : n ≤ 12) (hf : Bx a f) : ∀ k, Bx (k * (a + 4) + 1) (powF n f k)
  | 0 => by
    rw [Nat.zero_mul]
    exact one_bx n
  | k + 1 => (mul_bx hn (pow_bx hn hf k) hf).le (by rw [Nat.succ_mul]; omega)
theorem log2_le {x a : Nat} (h : x < 2 ^ a) : x.log2 ≤ a := by
  by_cases z : x = 0
  · subst z
    exact Nat.zero_le _
  · exact Nat.le_of_lt ((Nat.log2_lt z).mpr h)
theorem mulOk_bd {x y : Int} {a b : Nat} (hx : x.natAbs < 2 ^ a) (hy : y.natAbs < 2 ^ b) (h : a + b < 1000000) : mulOk x y = true := by
  unfold mulOk
  have h1 := log2_le hx
  have h2 := log2_le hy
  have h3 : decide (x.natAbs.log2 + y.natAbs.log2 < 1000000) = true := decide_eq_true (by omega)
  rw [h3, Bool.or_true]
theorem lcF_map {gp : GP} {fe : EF} {vs : List Nat} {ms : MS} {env : Env} {F : D → D} {e1 : D → Env} : ∀ (ds acc : List D), (∀ d ∈ ds, gp d (wipeE env vs) = some (e1 d)) → (∀ d ∈ ds, ∃ k, fe (e1 d) ms = .ok (.o k) (F d) ms) → acc.length + ds.length ≤ sizeLine →
    lcF gp eYes fe vs ds acc env ms = .ok (.o 1) (.lst (acc ++ ds.map F)) ms
  | [], acc, _, _, _ => by simp [lcF]
  | d :: ds, acc, h1, h2, hl => by
    obtain ⟨k, hk⟩ := h2 d List.mem_cons_self
    have h3 := lcF_map (F := F) ds (acc ++ [F d]) (fun d hd => h1 d (List.mem_cons_of_mem _ hd)) (fun d hd => h2 d (List.mem_cons_of_mem _ hd)) (by simp at hl ⊢; omega)
    have hs : acc.length < sizeLine := by simp at hl; omega
    simp only [lcF, h1 d List.mem_cons_self, eYes, hk, hs, if_true, h3]
    simp
theorem blsD_map (bs : List Bool) : blsD (bs.map D.bl) = some bs := by
  induction bs with
  | nil => rfl
  | cons b bs ih =>
    show (blsD (bs.map D.bl)).map _ = _
    rw [ih]
    rfl
theorem blsD_map2 {α : Type} (f : α → Bool) (as : List α) : blsD (as.map (D.bl ∘ f)) = some (as.map f) := by
  rw [← List.map_map, blsD_map]
theorem eIf_t {ft fa fb : EF} {env : Env} {ms m : MS} {fl : Fl} (h : ft env ms = .ok fl (.bl true) m) : eIf ft fa fb env ms = fa env m := by
  unfold eIf Out.bindR Out.bind
  rw [h]
theorem eIf_f {ft fa fb : EF} {env : Env} {ms m : MS} {fl : Fl} (h : ft env ms = .ok fl (.bl false) m) : eIf ft fa fb env ms = fb env m := by
  unfold eIf Out.bindR Out.bind
  rw [h]
theorem sSet_ok {f : EF} {env : Env} {ms m : MS} {k i : Nat} {d : D} (h : f env ms = .ok (.o k) d m) : sSet i f env ms = .nx (env.set i (some (k, d))) m := by
  unfold sSet
  rw [h]
  rfl
theorem eTup0 (env : Env) (ms : MS) : eTup lNil env ms = .ok (.o 0) (.tup []) ms := rfl
theorem eIx_ok {fa fb : EF} {env : Env} {ms m1 m2 : MS} {l1 l2 : Fl} {d1 d2 : D} (h1 : fa env ms = .ok l1 d1 m1) (h2 : fb env m1 = .ok l2 d2 m2) : eBinS gIx fa fb env ms = gIx l1 d1 l2 d2 m2 := by
  unfold eBinS Out.bind
  rw [h1]
  dsimp only
  rw [h2]
theorem gIx_tup {ds : List D} {i : Int} {d : D} (l2 : Fl) (ms : MS) (h : atI ds i = some d) : gIx (.o 0) (.tup ds) l2 (.int i) ms = .ok (.o 0) d ms := by
  unfold gIx
  dsimp only
  rw [h]
  rfl
theorem gIx_lst {ds : List D} {i : Int} {d : D} (l2 : Fl) (ms : MS) (h : atI ds i = some d) : gIx (.o 0) (.lst ds) l2 (.int i) ms = .ok (.o 0) d ms := by
  unfold gIx
  dsimp only
  rw [h]
  rfl
theorem okg_small {n : Int} (h : n ≤ 1000) (h0 : 0 ≤ n) : okRg 0 n = true := by
  unfold okRg
  rw [decide_eq_true_iff]
  refine ⟨by omega, by omega, by omega, by omega, ?_⟩
  rw [Int.sub_zero]
  exact Nat.le_trans (Int.toNat_le.mpr h) (by decide)
theorem gRg_ok {n : Nat} {ms : MS} (h : okRg 0 (n : Int) = true) : gRgL (.int (n : Int)) ms = .ok (.o 1) (.lst (rangeD 0 n)) ms := by
  simp only [gRgL, h, if_true, Int.toNat_natCast]
theorem bindR_ok (fl : Fl) (d : D) (m : MS) (k : D → MS → Out) : Out.bindR (.ok fl d m) k = k d m := rfl
theorem gRg_bind {f : EF} {env : Env} {n : Nat} {ms : MS} {fl : Fl} (h : f env ms = .ok fl (.int (n : Int)) ms) (hk : okRg 0 (n : Int) = true) : (f env ms).bindR gRgL = .ok (.o 1) (.lst (rangeD 0 n)) ms := by
  rw [h, bindR_ok]
  exact gRg_ok hk
theorem sIf_t {fc : EF} {F1 F2 : FS} {env : Env} {ms m : MS} {fl : Fl} (h : fc env ms = .ok fl (.bl true) m) : sIf fc F1 F2 env ms = F1 env m := by
  unfold sIf Out.st
  rw [h]
theorem sIf_f {fc : EF} {F1 F2 : FS} {env : Env} {ms m : MS} {fl : Fl} (h : fc env ms = .ok fl (.bl false) m) : sIf fc F1 F2 env ms = F2 env m := by
  unfold sIf Out.st
  rw [h]
theorem sExt_ok {i : Nat} {f : EF} {env : Env} {ms m : MS} {ds es : List D} {fl : Fl} (h0 : getL env i 1 = some ds) (h : f env ms = .ok fl (.lst es) m) (h1 : fzI fl = true) (h2 : ds.length + es.length ≤ sizeLine) : sExt i f env ms = .nx (env.set i (some (1, .lst (ds ++ es)))) m := by
  unfold sExt
  rw [h0]
  dsimp only
  rw [h]
  show (if fzI fl = true ∧ ds.length + es.length ≤ sizeLine then _ else _) = _
  rw [if_pos ⟨h1, h2⟩]
theorem sApp_ok {i : Nat} {f : EF} {env : Env} {ms m : MS} {ds : List D} {d : D} {k : Nat} (h0 : getL env i 1 = some ds) (h : f env ms = .ok (.o k) d m) (h2 : ds.length < sizeLine) : sApp i f env ms = .nx (env.set i (some (1, .lst (ds ++ [d])))) m := by
  unfold sApp
  rw [h0]
  dsimp only
  rw [h]
  show (if ds.length < sizeLine then _ else _) = _
  rw [if_pos h2]
theorem lCons_ok {f : EF} {fl : EL} {env : Env} {ms m m2 : MS} {k : Nat} {d : D} {ds : List D} (h : f env ms = .ok (.o k) d m) (h2 : fl env m = .ok ds m2) : lCons f fl env ms = .ok (d :: ds) m2 := by
  unfold lCons
  rw [h]
  dsimp only
  rw [h2]
theorem eTup_ok {fl : EL} {env : Env} {ms m : MS} {ds : List D} (h : fl env ms = .ok ds m) (hl : ds.length ≤ sizeLine) : eTup fl env ms = .ok (.o 0) (.tup ds) m := by
  unfold eTup OutL.bind
  rw [h]
  dsimp only
  rw [if_pos hl]
theorem eLst_ok {fl : EL} {env : Env} {ms m : MS} {ds : List D} (h : fl env ms = .ok ds m) (hl : ds.length ≤ sizeLine) : eLst fl env ms = .ok (.o 1) (.lst ds) m := by
  unfold eLst OutL.bind
  rw [h]
  dsimp only
  rw [if_pos hl]
theorem sSeq_ex {F1 F2 : FS} {env e : Env} {ms m : MS} {c : String} {d : D} (h : F1 env ms = .ex c d e m) : sSeq F1 F2 env ms = .ex c d e m := by simp [sSeq, h]
theorem sSeq_rt {F1 F2 : FS} {env : Env} {ms m : MS} {d : D} (h : F1 env ms = .rt d m) : sSeq F1 F2 env ms = .rt d m := by simp [sSeq, h]
theorem okR_small {l : Int} (h : 0 ≤ l ∧ l ≤ 1000) : okR l = true := by
  unfold okR
  rw [decide_eq_true_iff]
  omega
theorem rangeD_len (a : Int) (n : Nat) : (rangeD a n).length = n := by
  unfold rangeD
  rw [List.length_map, List.length_range]
theorem range_fi {i : Nat} {env : Env} {ms : MS} {l : Int} (h : eVar i env ms = .ok (.o 0) (.int l) ms) (hl : 0 ≤ l ∧ l ≤ 1000) : (fun env ms => ((lCons (eVar i) lNil) env ms).bindI iR1) env ms = .ok true (rangeD 0 l.toNat) ms := by
  show OutL.bindI (lCons (eVar i) lNil env ms) iR1 = _
  rw [lCons_ok h rfl]
  show iR1 [.int l] ms = _
  simp only [iR1, okR_small hl, if_true]
theorem sIf_skip {fc : EF} {F1 : FS} {env : Env} {ms m : MS} {fl : Fl} (h : fc env ms = .ok fl (.bl false) m) : sIf fc F1 sNil env ms = .nx env m := sIf_f h
theorem eOr_t {fa fb : EF} {env : Env} {ms m : MS} {fl : Fl} (h : fa env ms = .ok fl (.bl true) m) : eOr fa fb env ms = .ok (.o 0) (.bl true) m := by
  unfold eOr Out.bindR Out.bind
  rw [h]
theorem eOr_f {fa fb : EF} {env : Env} {ms m : MS} {fl : Fl} (h : fa env ms = .ok fl (.bl false) m) : eOr fa fb env ms = fb env m := by
  unfold eOr Out.bindR Out.bind
  rw [h]
theorem eAnd_t {fa fb : EF} {env : Env} {ms m : MS} {fl : Fl} (h : fa env ms = .ok fl (.bl true) m) : eAnd fa fb env ms = fb env m := by
  unfold eAnd Out.bindR Out.bind
  rw [h]
theorem eAnd_f {fa fb : EF} {env : Env} {ms m : MS} {fl : Fl} (h : fa env ms = .ok fl (.bl false) m) : eAnd fa fb env ms = .ok (.o 0) (.bl false) m := by
  unfold eAnd Out.bindR Out.bind
  rw [h]
theorem eNot_ok {fa : EF} {env : Env} {ms m : MS} {fl : Fl} {b : Bool} (h : fa env ms = .ok fl (.bl b) m) : eNot fa env ms = .ok (.o 0) (.bl !b) m := by
  unfold eNot Out.bindR Out.bind
  rw [h]
theorem eTru_ok {fa : EF} {env : Env} {ms m : MS} {fl : Fl} {b : Bool} (h : fa env ms = .ok fl (.bl b) m) : eTru fa env ms = .ok (.o 0) (.bl b) m := by
  unfold eTru Out.bindR Out.bind
  rw [h]
  rfl
theorem eEq_int {fa fb : EF} {env : Env} {ms m1 m2 : MS} {l1 l2 : Fl} {i j : Int} (h1 : fa env ms = .ok l1 (.int i) m1) (h2 : fb env m1 = .ok l2 (.int j) m2) : eBin gEq fa fb env ms = .ok (.o 0) (.bl (decide (i = j))) m2 := by
  unfold eBin Out.bindR Out.bind
  rw [h1]
  dsimp only
  rw [h2]
  unfold gEq
  dsimp only
  rw [deq_int]
theorem okR_len {n : Nat} (h : n ≤ 1000000) : okR (n : Int) = true := by
  unfold okR
  rw [decide_eq_true_iff]
  omega
theorem range_fi2 {f : EF} {env : Env} {ms : MS} {l : Int} (h : f env ms = .ok (.o 0) (.int l) ms) (hl : okR l = true) : (fun env ms => ((lCons f lNil) env ms).bindI iR1) env ms = .ok true (rangeD 0 l.toNat) ms := by
  show OutL.bindI (lCons f lNil env ms) iR1 = _
  rw [lCons_ok h rfl]
  show iR1 [.int l] ms = _
  simp only [iR1, hl, if_true]
theorem sFor_rng {gp : GP} {f : EF} {body : FS} {env : Env} {ms : MS} {l : Int} (h : f env ms = .ok (.o 0) (.int l) ms) (hl : okR l = true) : sFor gp (fun env ms => ((lCons f lNil) env ms).bindI iR1) body env ms = forF gp body (rangeD 0 l.toNat) env ms :=
  sFor_ok (fi := fun env ms => ((lCons f lNil) env ms).bindI iR1) (range_fi2 h hl)
theorem eNe_int {fa fb : EF} {env : Env} {ms m1 m2 : MS} {l1 l2 : Fl} {i j : Int} (h1 : fa env ms = .ok l1 (.int i) m1) (h2 : fb env m1 = .ok l2 (.int j) m2) : eBin gNe fa fb env ms = .ok (.o 0) (.bl (!decide (i = j))) m2 := by
  unfold eBin Out.bindR Out.bind
  rw [h1]
  dsimp only
  rw [h2]
  unfold gNe
  dsimp only
  rw [deq_int]
theorem eCall2_ok {g : Fn} {f1 f2 : EF} {env : Env} {ms m1 m2 : MS} {k1 k2 : Nat} {d1 d2 : D} {o : FOut} (h1 : f1 env ms = .ok (.o k1) d1 m1) (h2 : f2 env m1 = .ok (.o k2) d2 m2) (hg : g [d1, d2] m2 = o) : eCall 2 g [] (lCons f1 (lCons f2 lNil)) env ms = o.e := by
  unfold eCall
  rw [lCons_ok h1 (lCons_ok h2 rfl)]
  show (g [d1, d2] m2).e = _
  rw [hg]
theorem rangeD_mem {n : Nat} {d : D} (h : d ∈ rangeD 0 n) : ∃ i : Nat, i < n ∧ d = .int (i : Int) := by
  unfold rangeD at h
  obtain ⟨i, hi, rfl⟩ := List.mem_map.mp h
  exact ⟨i, List.mem_range.mp hi, by show D.int (0 + (i : Int)) = _; congr 1; omega⟩
theorem eCall1_ok {g : Fn} {f1 : EF} {env : Env} {ms m1 : MS} {k1 : Nat} {d1 : D} {o : FOut} (h1 : f1 env ms = .ok (.o k1) d1 m1) (hg : g [d1] m1 = o) : eCall 1 g [] (lCons f1 lNil) env ms = o.e := by
  unfold eCall
  rw [lCons_ok h1 rfl]
  show (g [d1] m1).e = _
  rw [hg]
theorem eCall3_ok {g : Fn} {f1 f2 f3 : EF} {env : Env} {ms m1 m2 m3 : MS} {k1 k2 k3 : Nat} {d1 d2 d3 : D} {o : FOut} (h1 : f1 env ms = .ok (.o k1) d1 m1) (h2 : f2 env m1 = .ok (.o k2) d2 m2) (h3 : f3 env m2 = .ok (.o k3) d3 m3) (hg : g [d1, d2, d3] m3 = o) : eCall 3 g [] (lCons f1 (lCons f2 (lCons f3 lNil))) env ms = o.e := by
  unfold eCall
  rw [lCons_ok h1 (lCons_ok h2 (lCons_ok h3 rfl))]
  show (g [d1, d2, d3] m3).e = _
  rw [hg]
theorem add_int {fa fb : EF} {env : Env} {ms m1 m2 : MS} {l1 l2 : Fl} {i j : Int} (h1 : fa env ms = .ok l1 (.int i) m1) (h2 : fb env m1 = .ok l2 (.int j) m2) : eBinS gAdd fa fb env ms = .ok (.o 0) (.int (i + j)) m2 := by
  unfold eBinS Out.bind
  rw [h1]
  dsimp only
  rw [h2]
  rfl
theorem eq_d {g : D → D → MS → Out} {fa fb : EF} {env : Env} {ms m1 m2 : MS} {l1 l2 : Fl} {a b : D} (h1 : fa env ms = .ok l1 a m1) (h2 : fb env m1 = .ok l2 b m2) : eBin g fa fb env ms = g a b m2 := by
  unfold eBin Out.bindR Out.bind
  rw [h1]
  dsimp only
  rw [h2]
theorem sPar_ok {i j : Nat} {fl : EL} {env : Env} {ms m : MS} {d d' : D} (h : fl env ms = .ok [d, d'] m) : sPar i j fl env ms = .nx ((env.set i (some (0, d))).set j (some (0, d'))) m := by
  unfold sPar
  rw [h]
theorem sPar3_ok {i j l : Nat} {fl : EL} {env : Env} {ms m : MS} {d d' d2 : D} (h : fl env ms = .ok [d, d', d2] m) : sPar3 i j l fl env ms = .nx (((env.set i (some (0, d))).set j (some (0, d'))).set l (some (0, d2))) m := by
  unfold sPar3
  rw [h]
def lk : Nat → D → Prop
  | 0, _ => False
  | n + 1, d => match d with
    | .non => True
    | .bl _ => True
    | .int _ => True
    | .str s => deq (.str s) (.str s) = some true
    | .tup ds => ds.length ≤ 1000000 ∧ ∀ x ∈ ds, lk n x
    | .lst ds => ds.length ≤ 1000000 ∧ ∀ x ∈ ds, lk n x
    | _ => False
theorem deq_bl (b : Bool) : deq (.bl b) (.bl b) = some true := by cases b <;> rfl
def likeBody (self : Fn) : FS := sIf (eNot (eTru (eCall 2 self [] (lCons (eBinS gIx (eVar 0) (eVar 2)) (lCons (eBinS gIx (eVar 1) (eVar 2)) lNil))))) (sRet (eC (.bl false))) sNil
theorem like_loop {self : Fn} {d : D} {ds : List D} {ms : MS} (hd : d = .tup ds ∨ d = .lst ds) (hs : ∀ x ∈ ds, self [x, x] ms = .ok (.bl true) ms) : ∃ e', forF (gpN 2) (likeBody self) (rangeD 0 ds.length) [some (0, d), some (0, d), none] ms = .nx e' ms := by
  obtain ⟨e', m', h, rfl, _⟩ := forF_inv (gp := gpN 2) (body := likeBody self) (fun _ env m => m = ms ∧ ∃ t, env = [some (0, d), some (0, d), t]) (rangeD 0 ds.length) 0 [some (0, d), some (0, d), none] ms ⟨rfl, none, rfl⟩ fun j x env m hx hI => by
    obtain ⟨rfl, t, rfl⟩ := hI
    have hj : j < ds.length := by
      rcases Nat.lt_or_ge j ds.length with z | z
      · exact z
      · rw [List.getElem?_eq_none (by rw [rangeD_len]; exact z)] at hx
        cases hx
    have ex : x = .int (j : Int) := by
      unfold rangeD at hx
      rw [List.getElem?_map, List.getElem?_range hj] at hx
      cases hx
      show D.int (0 + (j : Int)) = _
      congr 1
      omega
    subst ex
    refine ⟨[some (0, d), some (0, d), some (0, .int (j : Int))], [some (0, d), some (0, d), some (0, .int (j : Int))], m, rfl, ?_, rfl, _, rfl⟩
    have ha : atI ds (j : Int) = some ds[j] := by rw [atI_pos, List.getElem?_eq_getElem hj]
    have g : ∀ i, (i = 0 ∨ i = 1) → eBinS gIx (eVar i) (eVar 2) [some (0, d), some (0, d), some (0, .int (j : Int))] m = .ok (.o 0) ds[j] m := fun i hi => by
      rcases hi with rfl | rfl <;> rcases hd with rfl | rfl
      · rw [eIx_ok (l1 := .o 0) (m1 := m) rfl rfl]
        exact gIx_tup _ _ ha
      · rw [eIx_ok (l1 := .o 0) (m1 := m) rfl rfl]
        exact gIx_lst _ _ ha
      · rw [eIx_ok (l1 := .o 0) (m1 := m) rfl rfl]
        exact gIx_tup _ _ ha
      · rw [eIx_ok (l1 := .o 0) (m1 := m) rfl rfl]
        exact gIx_lst _ _ ha
    have hc : eCall 2 self [] (lCons (eBinS gIx (eVar 0) (eVar 2)) (lCons (eBinS gIx (eVar 1) (eVar 2)) lNil)) [some (0, d), some (0, d), some (0, .int (j : Int))] m = .ok (.o 0) (.bl true) m := by
      unfold eCall
      rw [lCons_ok (g 0 (.inl rfl)) (lCons_ok (g 1 (.inr rfl)) rfl)]
      show (self [ds[j], ds[j]] m).e = _
      rw [hs _ (List.getElem_mem hj)]
      rfl
    unfold likeBody
    exact sIf_skip (eNot_ok (eTru_ok hc))
  exact ⟨e', h⟩
theorem sp_like : ∀ (n : Nat) (d : D) (ms : MS), lk n d → l__law_like n [d, d] ms = .ok (.bl true) ms
  | 0, d, ms, h => h.elim
  | n + 1, d, ms, h => by
    have e0 : startE 3 [d, d] = [some (0, d), some (0, d), none] := rfl
    cases d with
    | non => rfl
    | bl b => cases b <;> rfl
    | int i =>
      simp [l__law_like, runD, e0, f__law_like, sSeq, sIf, sRet, sNil, eBin, gIsN, isNonD, eVar, eC, eC1, gIsi, tyD, isiB, eTru, truD, eAnd, eNot, gEq, deq_int, Out.bind, Out.bindR, Out.st, Fw.fin]
    | str s =>
      have hs : deq (.str s) (.str s) = some true := h
      simp [l__law_like, runD, e0, f__law_like, sSeq, sIf, sRet, sNil, eBin, gIsN, isNonD, eVar, eC, eC1, gIsi, tyD, isiB, eTru, truD, eAnd, eNot, gEq, hs, Out.bind, Out.bindR, Out.st, Fw.fin]
    | tup ds =>
      obtain ⟨hl, hx⟩ := h
      obtain ⟨e', hL⟩ := like_loop (self := l__law_like n) (d := .tup ds) (ds := ds) (ms := ms) (.inl rfl) fun x hm => sp_like n x ms (hx x hm)
      have c6 := sIf_skip (F1 := sRet (eC (.bl false))) (eNe_int (fa := eC1 gLen (eVar 0)) (fb := eC1 gLen (eVar 1)) (env := [some (0, .tup ds), some (0, .tup ds), none]) (ms := ms) (i := ds.length) (j := ds.length) (l1 := .o 0) (l2 := .o 0) (m1 := ms) (m2 := ms) rfl rfl |>.trans (by rw [decide_eq_true rfl]; rfl))
      have fi := sFor_rng (gp := gpN 2) (body := likeBody (l__law_like n)) (f := eC1 gLen (eVar 1)) (env := [some (0, .tup ds), some (0, .tup ds), none]) (ms := ms) (l := (ds.length : Int)) rfl (okR_len hl)
      rw [Int.toNat_natCast] at fi
      unfold l__law_like runD
      rw [e0]
      unfold f__law_like
      rw [sSeq_nx (e := [some (0, .tup ds), some (0, .tup ds), none]) (m := ms) (by rfl), sSeq_nx (e := [some (0, .tup ds), some (0, .tup ds), none]) (m := ms) (by rfl), sSeq_nx (e := [some (0, .tup ds), some (0, .tup ds), none]) (m := ms) (by rfl), sSeq_nx (e := [some (0, .tup ds), some (0, .tup ds), none]) (m := ms) (by rfl), sSeq_nx (e := [some (0, .tup ds), some (0, .tup ds), none]) (m := ms) (by rfl)]
      have hz := fi.trans hL
      unfold likeBody at hz
      rw [sSeq_nx c6, sSeq_nx hz]
      rfl
    | lst ds =>
      obtain ⟨hl, hx⟩ := h
      obtain ⟨e', hL⟩ := like_loop (self := l__law_like n) (d := .lst ds) (ds := ds) (ms := ms) (.inr rfl) fun x hm => sp_like n x ms (hx x hm)
      have c6 := sIf_skip (F1 := sRet (eC (.bl false))) (eNe_int (fa := eC1 gLen (eVar 0)) (fb := eC1 gLen (eVar 1)) (env := [some (0, .lst ds), some (0, .lst ds), none]) (ms := ms) (i := ds.length) (j := ds.length) (l1 := .o 0) (l2 := .o 0) (m1 := ms) (m2 := ms) rfl rfl |>.trans (by rw [decide_eq_true rfl]; rfl))
      have fi := sFor_rng (gp := gpN 2) (body := likeBody (l__law_like n)) (f := eC1 gLen (eVar 1)) (env := [some (0, .lst ds), some (0, .lst ds), none]) (ms := ms) (l := (ds.length : Int)) rfl (okR_len hl)
      rw [Int.toNat_natCast] at fi
      unfold l__law_like runD
      rw [e0]
      unfold f__law_like
      rw [sSeq_nx (e := [some (0, .lst ds), some (0, .lst ds), none]) (m := ms) (by rfl), sSeq_nx (e := [some (0, .lst ds), some (0, .lst ds), none]) (m := ms) (by rfl), sSeq_nx (e := [some (0, .lst ds), some (0, .lst ds), none]) (m := ms) (by rfl), sSeq_nx (e := [some (0, .lst ds), some (0, .lst ds), none]) (m := ms) (by rfl), sSeq_nx (e := [some (0, .lst ds), some (0, .lst ds), none]) (m := ms) (by rfl)]
      have hz := fi.trans hL
      unfold likeBody at hz
      rw [sSeq_nx c6, sSeq_nx hz]
      rfl
    | dct _ => exact h.elim
    | dtt _ => exact h.elim
    | raw _ => exact h.elim
    | exc _ _ => exact h.elim
    | xob _ _ => exact h.elim
    | scr _ => exact h.elim
theorem lk_int (n : Nat) (i : Int) : lk (n + 1) (.int i) := trivial
theorem lk_tup (n : Nat) {ds : List D} (hl : ds.length ≤ 1000000) (h : ∀ x ∈ ds, lk n x) : lk (n + 1) (.tup ds) := ⟨hl, h⟩
theorem lk_lst (n : Nat) {ds : List D} (hl : ds.length ≤ 1000000) (h : ∀ x ∈ ds, lk n x) : lk (n + 1) (.lst ds) := ⟨hl, h⟩
theorem sp_of {n : Int} {m : MSt} {ds : List D} (h : Mk n m) (hn : n < 2 ^ 50) (hd : ds ≠ []) (hl : ds.length ≤ 1000000) : ∃ d m', d ∈ ds ∧ r__law_of [.raw (.ref m.am), .lst ds] (some m) = .ok d (some m') ∧ Mk (n + 1) m' ∧ m'.am = m.am := by
  have hz : 0 < ds.length := List.length_pos_iff.mpr hd
  obtain ⟨v, m', h1, v0, v1, h2, h3⟩ := sp_draw (l := (ds.length : Int)) h hn (by omega)
  have hv : v.toNat < ds.length := by omega
  refine ⟨ds[v.toNat], m', List.getElem_mem hv, ?_, h2, h3⟩
  have e0 : startE 2 [D.raw (.ref m.am), D.lst ds] = [some (0, .raw (.ref m.am)), some (0, .lst ds)] := rfl
  have c := eCall2_ok (g := r__law_draw) (f1 := eVar 0) (f2 := eC1 gLen (eVar 1)) (env := [some (0, .raw (.ref m.am)), some (0, .lst ds)]) (ms := some m) (k1 := 0) (k2 := 0) rfl rfl h1
  have ha : atI ds v = some ds[v.toNat] := by
    conv => lhs; rw [show v = ((v.toNat : Nat) : Int) by omega]
    rw [atI_pos, List.getElem?_eq_getElem hv]
  unfold r__law_of runD
  rw [e0]
  unfold sRet
  rw [eIx_ok (fa := eVar 1) (l1 := .o 0) (d1 := .lst ds) (m1 := some m) rfl (c.trans rfl)]
  rw [gIx_lst _ _ ha]
  rfl
theorem sp_is_whole (n a b : Int) (ms : MS) : r_is_whole [.int n, .int a, .int b] ms = .ok (.bl (decide (a ≤ n) && decide (n ≤ b))) ms := by
  simp [r_is_whole, runD, startE, sSeq, sIf, sRet, eOr, eAnd, eNot, eTru, eC1, gIsi, eVar, eC, Out.bind, Out.bindR, Out.st, tyD, isiB, truD, Fw.fin, sNil, eBin, gIsN, isNonD, gGe, gLe, gI]
  cases h1 : decide (a ≤ n) <;> cases h2 : decide (n ≤ b) <;> simp_all
theorem sp_is_row1 (ds : List D) (ms : MS) : r_is_row [.tup ds, .non] ms = .ok (.bl true) ms := rfl
theorem sp_is_row2 (ds : List D) (k : Int) (ms : MS) : r_is_row [.tup ds, .int k] ms = .ok (.bl (decide ((ds.length : Int) = k))) ms := by
  simp [r_is_row, runD, startE, sRet, eOr, eAnd, eC1, gIsi, eVar, eC, Out.bind, Out.bindR, Out.st, tyD, isiB, Fw.fin, eBin, gIsN, isNonD, gEq, gLen, deq_int]
theorem sp_are_wholes (ns : List Int) (a b : Int) (ms : MS) (hl : ns.length ≤ 1000) : r_are_wholes [.tup (ns.map D.int), .int a, .int b] ms = .ok (.bl (ns.all fun n => decide (a ≤ n) && decide (n ≤ b))) ms := by
  have h := lcF_map (gp := gpN 3) (fe := eCall 3 r_is_whole [] (lCons (eVar 3) (lCons (eVar 1) (lCons (eVar 2) lNil)))) (vs := [3]) (ms := ms) (env := [some (0, .tup (ns.map D.int)), some (0, .int a), some (0, .int b), none])
    (F := fun d => match d with
      | .int n => .bl (decide (a ≤ n) && decide (n ≤ b))
      | _ => .non) (e1 := fun d => [some (0, .tup (ns.map D.int)), some (0, .int a), some (0, .int b), some (0, d)]) (ns.map D.int) [] (fun d _ => rfl) (fun d hd => by
        obtain ⟨n, _, rfl⟩ := List.mem_map.mp hd
        exact ⟨0, by simp [eCall, lCons, lNil, eVar, OutL.bind, FOut.e, sp_is_whole]⟩) (by rw [sizeLine_eq]; simp; omega)
  have e : (ns.map D.int).map (fun d => match d with
      | .int n => D.bl (decide (a ≤ n) && decide (n ≤ b))
      | _ => .non) = (ns.map fun n => decide (a ≤ n) && decide (n ≤ b)).map D.bl := by
    rw [List.map_map, List.map_map]
    rfl
  rw [e, List.nil_append] at h
  simp [r_are_wholes, runD, startE, sRet, eAnd, eCall, lCons, lNil, OutL.bind, FOut.e, eC1, eLc, iSq, isFz, Out.bindI, eVar, Out.bind, Out.bindR, Out.st, Fw.fin, sp_is_row1, h, gBs, blsD_map2, List.all_map]
/-! ### comprehensions -/
theorem eLc_ok {gp : GP} {fi : EI} {ft fe : EF} {vs : List Nat} {env : Env} {ms m : MS} {fz : Bool} {ds : List D} (h : fi env ms = .ok fz ds m) : eLc gp fi ft fe vs env ms = lcF gp ft fe vs ds [] env m := by
  unfold eLc
  rw [h]
/-- a comprehension over a list that is written by numbers -/
theorem lc_range {gp : GP} {fi : EI} {fe : EF} {vs : List Nat} {env : Env} {ms m : MS} {fz : Bool} {n : Nat} {X Y : Nat → D} {e1 : Nat → Env} (hn : n ≤ 100000) (h : fi env ms = .ok fz ((List.range n).map X) m) (hg : ∀ i, i < n → gp (X i) (wipeE env vs) = some (e1 i)) (he : ∀ i, i < n → ∃ k, fe (e1 i) m = .ok (.o k) (Y i) m) :
    eLc gp fi eYes fe vs env ms = .ok (.o 1) (.lst ((List.range n).map Y)) m := by
  rw [eLc_ok h]
  have key : ∀ (l : List Nat) (acc : List D), (∀ i ∈ l, i < n) → acc.length + l.length ≤ sizeLine → lcF gp eYes fe vs (l.map X) acc env m = .ok (.o 1) (.lst (acc ++ l.map Y)) m := by
    intro l
    induction l with
    | nil =>
      intro acc _ _
      simp [lcF]
    | cons i l ih =>
      intro acc hl hs
      obtain ⟨k, hk⟩ := he i (hl i List.mem_cons_self)
      have h2 := ih (acc ++ [Y i]) (fun j hj => hl j (List.mem_cons_of_mem _ hj)) (by simp at hs ⊢; omega)
      have h3 : acc.length < sizeLine := by simp at hs; omega
      simp only [List.map_cons, lcF, hg i (hl i List.mem_cons_self), eYes, hk, h3, if_true, h2]
      simp
  have := key (List.range n) [] (fun i hi => List.mem_range.mp hi) (by rw [sizeLine_eq]; simp; omega)
  simpa using this
theorem intsD_map : ∀ ns : List Int, intsD (ns.map D.int) = some ns
  | [] => rfl
  | n :: ns => by
    show (intsD (ns.map D.int)).map (n :: ·) = _
    rw [intsD_map ns]
    rfl
theorem intsD_range (n : Nat) (h : Nat → Int) : intsD ((List.range n).map fun k => D.int (h k)) = some ((List.range n).map h) := by
  have e : ((List.range n).map fun k => D.int (h k)) = ((List.range n).map h).map D.int := by
    rw [List.map_map]
    rfl
  rw [e, intsD_map]
theorem sum_ok {f : EF} {env : Env} {ms m : MS} {fl : Fl} {n : Nat} {h : Nat → Int} (e : f env ms = .ok fl (.lst ((List.range n).map fun k => D.int (h k))) m) : eC1 (gIs fun ns => some ns.sum) f env ms = .ok (.o 0) (.int (sm n h)) m := by
  unfold eC1 Out.bind
  rw [e]
  show (match (intsD ((List.range n).map fun k => D.int (h k))).bind (fun ns => some ns.sum) with
    | some i => Out.ok (.o 0) (.int i) m
    | none => .bad) = _
  rw [intsD_range]
  show Out.ok (.o 0) (.int ((List.range n).map h).sum) m = _
  rw [sm_range]
theorem tup_ok {f : EF} {env : Env} {ms m : MS} {ds : List D} (h : f env ms = .ok (.o 1) (.lst ds) m) : eC1 gTuple f env ms = .ok (.o 0) (.tup ds) m := by
  unfold eC1 Out.bind
  rw [h]
  rfl
theorem mul_ok {fa fb : EF} {env : Env} {ms m1 m2 : MS} {l1 l2 : Fl} {i j : Int} (h1 : fa env ms = .ok l1 (.int i) m1) (h2 : fb env m1 = .ok l2 (.int j) m2) (h : mulOk i j = true) : eBinS gMul fa fb env ms = .ok (.o 0) (.int (i * j)) m2 := by
  unfold eBinS Out.bind
  rw [h1]
  dsimp only
  rw [h2]
  show (if mulOk i j = true then Out.ok (.o 0) (.int (i * j)) m2 else .bad) = _
  rw [if_pos h]
theorem ix_tup {fa fb : EF} {env : Env} {ms m1 m2 : MS} {l2 : Fl} {ds : List D} {k : Nat} {d : D} (h1 : fa env ms = .ok (.o 0) (.tup ds) m1) (h2 : fb env m1 = .ok l2 (.int (k : Int)) m2) (h : ds[k]? = some d) : eBinS gIx fa fb env ms = .ok (.o 0) d m2 := by
  rw [eIx_ok h1 h2]
  exact gIx_tup _ _ (by rw [atI_pos, h])
theorem range_at {n k : Nat} (Y : Nat → D) (h : k < n) : ((List.range n).map Y)[k]? = some (Y k) := by
  rw [List.getElem?_map, List.getElem?_range h]
  rfl
theorem fi_range {f : EF} {env : Env} {ms : MS} {n : Nat} (h : f env ms = .ok (.o 0) (.int (n : Int)) ms) (hn : n ≤ 1000) : (fun env ms => ((lCons f lNil) env ms).bindI iR1) env ms = .ok true ((List.range n).map fun (i : Nat) => D.int (i : Int)) ms := by
  have e : rangeD 0 ((n : Int)).toNat = (List.range n).map fun (i : Nat) => D.int (i : Int) := by
    unfold rangeD
    rw [Int.toNat_natCast]
    exact List.map_congr_left fun i _ => by rw [Int.zero_add]
  rw [← e]
  exact range_fi2 h (okR_small (by omega))
theorem fi_seqT {f : EF} {env : Env} {ms m : MS} {ds : List D} (h : f env ms = .ok (.o 0) (.tup ds) m) : (fun env ms => (f env ms).bindI iSq) env ms = .ok true ds m := by
  show Out.bindI (f env ms) iSq = _
  rw [h]
  rfl
theorem fi_seqL {f : EF} {env : Env} {ms m : MS} {ds : List D} {k : Nat} (h : f env ms = .ok (.o k) (.lst ds) m) : (fun env ms => (f env ms).bindI iSq) env ms = .ok true ds m := by
  show Out.bindI (f env ms) iSq = _
  rw [h]
  rfl
theorem zip_range (n : Nat) (x y : Nat → D) : zipD ((List.range n).map x) ((List.range n).map y) = (List.range n).map fun k => D.tup [x k, y k] := by
  unfold zipD
  induction n with
  | zero => rfl
  | succ n ih => rw [List.range_succ, List.map_append, List.map_append, List.map_append, List.zipWith_append (by simp), ih]; rfl
theorem len_tup {f : EF} {env : Env} {ms m : MS} {fl : Fl} {ds : List D} (h : f env ms = .ok fl (.tup ds) m) : eC1 gLen f env ms = .ok (.o 0) (.int (ds.length : Int)) m := by
  unfold eC1 Out.bind
  rw [h]
  rfl
/-! ### matrices as data -/
def rowD (n : Nat) (h : Nat → Int) : D := .tup ((List.range n).map fun j => D.int (h j))
def TM (n : Nat) (f : Mx) : D := .tup ((List.range n).map fun i => rowD n (f i))
theorem tm_len {n : Nat} {f : Mx} {g : EF} {env : Env} {ms m : MS} {fl : Fl} (h : g env ms = .ok fl (TM n f) m) : eC1 gLen g env ms = .ok (.o 0) (.int (n : Int)) m := by
  have := len_tup h
  simpa using this
theorem tm_congr {n : Nat} {f g : Mx} (h : ∀ i j, i < n → j < n → f i j = g i j) : TM n f = TM n g := by
  unfold TM rowD
  congr 1
  refine List.map_congr_left fun i hi => ?_
  congr 1
  exact List.map_congr_left fun j hj => by rw [h i j (List.mem_range.mp hi) (List.mem_range.mp hj)]
theorem fi_seqB {f : EF} {env : Env} {ms m : MS} {ds : List D} (h : f env ms = .ok (.b 1) (.lst ds) m) : (fun env ms => (f env ms).bindI iSq) env ms = .ok false ds m := by
  show Out.bindI (f env ms) iSq = _
  rw [h]
  rfl
/-! ### products -/
theorem zip_fi {f g : EF} {env : Env} {ms : MS} {k1 k2 : Nat} {n : Nat} {x y : Nat → D} (h1 : f env ms = .ok (.o k1) (.tup ((List.range n).map x)) ms) (h2 : g env ms = .ok (.o k2) (.lst ((List.range n).map y)) ms) :
    (fun env ms => ((lCons f (lCons g lNil)) env ms).bindI iZm) env ms = .ok true ((List.range n).map fun k => D.tup [x k, y k]) ms := by
  show OutL.bindI (lCons f (lCons g lNil) env ms) iZm = _
  rw [lCons_ok h1 (lCons_ok h2 rfl)]
  show OutI.ok true (zipD _ _) ms = _
  rw [zip_range]
theorem fin_ret {F : FS} {env : Env} {ms m : MS} {d : D} (h : F env ms = .rt d m) : (F env ms).fin = .ok d m := by
  rw [h]
  rfl
theorem ret_ok {f : EF} {env : Env} {ms m : MS} {k : Nat} {d : D} (h : f env ms = .ok (.o k) d m) : sRet f env ms = .rt d m := by
  unfold sRet
  rw [h]
  rfl
theorem sp_product {n a b : Nat} {f g : Mx} (hn : n ≤ 12) (hf : Bx a f) (hg : Bx b g) (hab : a + b < 1000000) (ms : MS) : r_product_of [TM n f, TM n g] ms = .ok (TM n (mulF n f g)) ms := by
  have e0 : startE 9 [TM n f, TM n g] = [some (0, TM n f), some (0, TM n g), none, none, none, none, none, none, none] := rfl
  have c2 : eLc (gpN 4) (fun env ms => ((lCons (eC1 gLen (eVar 1)) lNil) env ms).bindI iR1) eYes (eLc (gpN 5) (fun env ms => ((eVar 1) env ms).bindI iSq) eYes (eBinS gIx (eVar 5) (eVar 4)) [5]) [4] [some (0, TM n f), some (0, TM n g), none, none, none, none, none, none, none] ms = .ok (.o 1) (.lst ((List.range n).map fun j => .lst ((List.range n).map fun i => .int (g i j)))) ms :=
    lc_range (X := fun j => D.int (j : Int)) (e1 := fun j => [some (0, TM n f), some (0, TM n g), none, none, some (0, .int (j : Int)), none, none, none, none]) (by omega) (fi_range (n := n) (tm_len (f := g) rfl) (by omega)) (fun _ _ => rfl) fun j hj => ⟨1,
      lc_range (X := fun i => rowD n (g i)) (e1 := fun i => [some (0, TM n f), some (0, TM n g), none, none, some (0, .int (j : Int)), some (0, rowD n (g i)), none, none, none]) (by omega) (fi_seqT rfl) (fun _ _ => rfl) fun i hi => ⟨0, ix_tup rfl rfl (range_at _ hj)⟩⟩
  have c3 : eLc (gpN 5) (fun env ms => ((eVar 0) env ms).bindI iSq) eYes (eLc (gpN 6) (fun env ms => ((eVar 2) env ms).bindI iSq) eYes (eC1 (gIs fun ns => some ns.sum) (eLc (gpTup 2 (gpCons (gpN 7) (gpCons (gpN 8) gpNil))) (fun env ms => ((lCons (eVar 5) (lCons (eVar 6) lNil)) env ms).bindI iZm) eYes (eBinS gMul (eVar 7) (eVar 8)) [7, 8])) [6]) [5]
      [some (0, TM n f), some (0, TM n g), some (1, .lst ((List.range n).map fun j => .lst ((List.range n).map fun i => .int (g i j)))), none, none, none, none, none, none] ms = .ok (.o 1) (.lst ((List.range n).map fun i => .lst ((List.range n).map fun j => .int (sm n fun k => f i k * g k j)))) ms :=
    lc_range (X := fun i => rowD n (f i)) (e1 := fun i => [some (0, TM n f), some (0, TM n g), some (1, .lst ((List.range n).map fun j => .lst ((List.range n).map fun i => .int (g i j)))), none, none, some (0, rowD n (f i)), none, none, none]) (by omega) (fi_seqT rfl) (fun _ _ => rfl) fun i hi => ⟨1,
      lc_range (X := fun j => D.lst ((List.range n).map fun i => .int (g i j))) (e1 := fun j => [some (0, TM n f), some (0, TM n g), some (1, .lst ((List.range n).map fun j => .lst ((List.range n).map fun i => .int (g i j)))), none, none, some (0, rowD n (f i)), some (0, .lst ((List.range n).map fun i => .int (g i j))), none, none]) (by omega) (fi_seqB rfl) (fun _ _ => rfl) fun j hj => ⟨0,
        sum_ok (n := n) (h := fun k => f i k * g k j) (lc_range (X := fun k => D.tup [.int (f i k), .int (g k j)]) (e1 := fun k => [some (0, TM n f), some (0, TM n g), some (1, .lst ((List.range n).map fun j => .lst ((List.range n).map fun i => .int (g i j)))), none, none, some (0, rowD n (f i)), some (0, .lst ((List.range n).map fun i => .int (g i j))), some (0, .int (f i k)), some (0, .int (g k j))]) (by omega)
          (zip_fi (x := fun k => D.int (f i k)) (y := fun k => D.int (g k j)) rfl rfl) (fun _ _ => rfl) fun k hk => ⟨0, mul_ok rfl rfl (mulOk_bd (hf i k) (hg k j) hab)⟩)⟩⟩
  have c4 : eC1 gTuple (eLc (gpN 5) (fun env ms => ((eVar 3) env ms).bindI iSq) eYes (eC1 gTuple (eVar 5)) [5])
      [some (0, TM n f), some (0, TM n g), some (1, .lst ((List.range n).map fun j => .lst ((List.range n).map fun i => .int (g i j)))), some (1, .lst ((List.range n).map fun i => .lst ((List.range n).map fun j => .int (sm n fun k => f i k * g k j)))), none, none, none, none, none] ms = .ok (.o 0) (.tup ((List.range n).map fun i => .tup ((List.range n).map fun j => .int (sm n fun k => f i k * g k j)))) ms :=
    tup_ok (lc_range (X := fun i => D.lst ((List.range n).map fun j => .int (sm n fun k => f i k * g k j))) (e1 := fun i => [some (0, TM n f), some (0, TM n g), some (1, .lst ((List.range n).map fun j => .lst ((List.range n).map fun i => .int (g i j)))), some (1, .lst ((List.range n).map fun i => .lst ((List.range n).map fun j => .int (sm n fun k => f i k * g k j)))), none, some (0, .lst ((List.range n).map fun j => .int (sm n fun k => f i k * g k j))), none, none, none]) (by omega)
      (fi_seqB rfl) (fun _ _ => rfl) fun i hi => ⟨0, rfl⟩)
  have e1 : TM n (mulF n f g) = D.tup ((List.range n).map fun i => .tup ((List.range n).map fun j => .int (sm n fun k => f i k * g k j))) := tm_congr (g := fun i j => sm n fun k => f i k * g k j) fun i j hi hj => mulF_in ⟨hi, hj⟩
  unfold r_product_of runD
  rw [e0, e1]
  refine fin_ret ?_
  rw [sSeq_nx (sSet_ok c2)]
  show sSeq _ _ [some (0, TM n f), some (0, TM n g), some (1, _), none, none, none, none, none, none] ms = _
  rw [sSeq_nx (sSet_ok c3)]
  exact ret_ok c4
/-! ### the law's product -/
theorem rangeD_map (n : Nat) : rangeD 0 n = (List.range n).map fun (i : Nat) => D.int (i : Int) := by
  unfold rangeD
  exact List.map_congr_left fun i _ => by rw [Int.zero_add]
theorem sp_times {n a b : Nat} {f g : Mx} (hn : n ≤ 12) (hf : Bx a f) (hg : Bx b g) (hab : a + b < 1000000) (ms : MS) : r__law_times [TM n f, TM n g] ms = .ok (TM n (mulF n f g)) ms := by
  have e0 : startE 6 [TM n f, TM n g] = [some (0, TM n f), some (0, TM n g), none, none, none, none] := rfl
  have c2 : (fun env ms => ((eC1 gLen (eVar 0)) env ms).bindR gRgL) [some (0, TM n f), some (0, TM n g), none, none, none, none] ms = .ok (.o 1) (.lst ((List.range n).map fun (i : Nat) => D.int (i : Int))) ms := by
    rw [← rangeD_map]
    exact gRg_bind (f := eC1 gLen (eVar 0)) (tm_len (f := f) rfl) (okg_small (by omega) (by omega))
  have c3 : eC1 gTuple (eLc (gpN 3) (fun env ms => ((eVar 0) env ms).bindI iSq) eYes (eC1 gTuple (eLc (gpN 4) (fun env ms => ((eVar 2) env ms).bindI iSq) eYes (eC1 (gIs fun ns => some ns.sum) (eLc (gpN 5) (fun env ms => ((eVar 2) env ms).bindI iSq) eYes (eBinS gMul (eBinS gIx (eVar 3) (eVar 5)) (eBinS gIx (eBinS gIx (eVar 1) (eVar 5)) (eVar 4))) [5])) [4])) [3])
      [some (0, TM n f), some (0, TM n g), some (1, .lst ((List.range n).map fun (i : Nat) => D.int (i : Int))), none, none, none] ms = .ok (.o 0) (.tup ((List.range n).map fun i => .tup ((List.range n).map fun j => .int (sm n fun k => f i k * g k j)))) ms :=
    tup_ok (lc_range (X := fun i => rowD n (f i)) (e1 := fun i => [some (0, TM n f), some (0, TM n g), some (1, .lst ((List.range n).map fun (i : Nat) => D.int (i : Int))), some (0, rowD n (f i)), none, none]) (by omega) (fi_seqT rfl) (fun _ _ => rfl) fun i hi => ⟨0,
      tup_ok (lc_range (X := fun j => D.int (j : Int)) (e1 := fun j => [some (0, TM n f), some (0, TM n g), some (1, .lst ((List.range n).map fun (i : Nat) => D.int (i : Int))), some (0, rowD n (f i)), some (0, .int (j : Int)), none]) (by omega) (fi_seqB rfl) (fun _ _ => rfl) fun j hj => ⟨0,
        sum_ok (n := n) (h := fun k => f i k * g k j) (lc_range (X := fun k => D.int (k : Int)) (e1 := fun k => [some (0, TM n f), some (0, TM n g), some (1, .lst ((List.range n).map fun (i : Nat) => D.int (i : Int))), some (0, rowD n (f i)), some (0, .int (j : Int)), some (0, .int (k : Int))]) (by omega)
          (fi_seqB rfl) (fun _ _ => rfl) fun k hk => ⟨0, mul_ok (ix_tup rfl rfl (range_at (fun k => D.int (f i k)) hk)) (ix_tup (ix_tup rfl rfl (range_at (fun i => rowD n (g i)) hk)) rfl (range_at (fun j => D.int (g k j)) hj)) (mulOk_bd (hf i k) (hg k j) hab)⟩)⟩)⟩)
  have e1 : TM n (mulF n f g) = D.tup ((List.range n).map fun i => .tup ((List.range n).map fun j => .int (sm n fun k => f i k * g k j))) := tm_congr (g := fun i j => sm n fun k => f i k * g k j) fun i j hi hj => mulF_in ⟨hi, hj⟩
  have s2 := sSet_ok (i := 2) (f := fun env ms => ((eC1 gLen (eVar 0)) env ms).bindR gRgL) c2
  unfold r__law_times runD
  rw [e0, e1]
  refine fin_ret ?_
  rw [sSeq_nx s2]
  exact ret_ok c3
/-! ### the plain matrix -/
theorem int_of_bl {f : EF} {env : Env} {ms m : MS} {fl : Fl} {k : Bool} (h : f env ms = .ok fl (.bl k) m) : eC1 gInt f env ms = .ok (.o 0) (.int (if k then 1 else 0)) m := by
  unfold eC1 Out.bind
  rw [h]
  rfl
theorem one_ent {n i j : Nat} (hi : i < n) : oneF n i j = if decide ((j : Int) = (i : Int)) then 1 else 0 := by
  unfold oneF
  by_cases z : j = i
  · rw [if_pos ⟨hi, z⟩, if_pos (decide_eq_true (by omega))]
  · rw [if_neg (fun q => z q.2), if_neg (by simp; omega)]
theorem sp_lplain {n : Nat} (hn : n ≤ 12) (ms : MS) : r__law_plain [.int (n : Int)] ms = .ok (TM n (oneF n)) ms := by
  have e0 : startE 3 [D.int (n : Int)] = [some (0, .int (n : Int)), none, none] := rfl
  have c : eC1 gTuple (eLc (gpN 1) (fun env ms => ((lCons (eVar 0) lNil) env ms).bindI iR1) eYes (eC1 gTuple (eLc (gpN 2) (fun env ms => ((lCons (eVar 0) lNil) env ms).bindI iR1) eYes (eC1 gInt (eBin gEq (eVar 2) (eVar 1))) [2])) [1]) [some (0, .int (n : Int)), none, none] ms = .ok (.o 0) (TM n (oneF n)) ms :=
    tup_ok (lc_range (X := fun i => D.int (i : Int)) (Y := fun i => rowD n (oneF n i)) (e1 := fun i => [some (0, .int (n : Int)), some (0, .int (i : Int)), none]) (by omega) (fi_range rfl (by omega)) (fun _ _ => rfl) fun i hi => ⟨0,
      tup_ok (lc_range (X := fun j => D.int (j : Int)) (Y := fun j => D.int (oneF n i j)) (e1 := fun j => [some (0, .int (n : Int)), some (0, .int (i : Int)), some (0, .int (j : Int))]) (by omega) (fi_range rfl (by omega)) (fun _ _ => rfl) fun j hj => ⟨0, by
        rw [int_of_bl (eEq_int (i := (j : Int)) (j := (i : Int)) rfl rfl), one_ent hi]⟩)⟩)
  unfold r__law_plain runD
  rw [e0]
  exact fin_ret (ret_ok c)
theorem sp_plain {n : Nat} (hn : n ≤ 12) (ms : MS) : r_plain_matrix [.int (n : Int)] ms = .ok (TM n (oneF n)) ms := by
  have e0 : startE 3 [D.int (n : Int)] = [some (0, .int (n : Int)), none, none] := rfl
  have c : eC1 gTuple (eLc (gpN 1) (fun env ms => ((lCons (eVar 0) lNil) env ms).bindI iR1) eYes (eC1 gTuple (eLc (gpN 2) (fun env ms => ((lCons (eVar 0) lNil) env ms).bindI iR1) eYes (eIf (eBin gEq (eVar 2) (eVar 1)) (eC (.int 1)) (eC (.int 0))) [2])) [1]) [some (0, .int (n : Int)), none, none] ms = .ok (.o 0) (TM n (oneF n)) ms :=
    tup_ok (lc_range (X := fun i => D.int (i : Int)) (Y := fun i => rowD n (oneF n i)) (e1 := fun i => [some (0, .int (n : Int)), some (0, .int (i : Int)), none]) (by omega) (fi_range rfl (by omega)) (fun _ _ => rfl) fun i hi => ⟨0,
      tup_ok (lc_range (X := fun j => D.int (j : Int)) (Y := fun j => D.int (oneF n i j)) (e1 := fun j => [some (0, .int (n : Int)), some (0, .int (i : Int)), some (0, .int (j : Int))]) (by omega) (fi_range rfl (by omega)) (fun _ _ => rfl) fun j hj => ⟨0, by
        have ht := eEq_int (fa := eVar 2) (fb := eVar 1) (env := [some (0, .int (n : Int)), some (0, .int (i : Int)), some (0, .int (j : Int))]) (ms := ms) (i := (j : Int)) (j := (i : Int)) (m1 := ms) (m2 := ms) (l1 := .o 0) (l2 := .o 0) rfl rfl
        rw [one_ent hi]
        cases z : decide ((j : Int) = (i : Int)) with
        | true =>
          rw [z] at ht
          exact eIf_t ht
        | false =>
          rw [z] at ht
          exact eIf_f ht⟩)⟩)
  unfold r_plain_matrix runD
  rw [e0]
  exact fin_ret (ret_ok c)
/-! ### powers, one by one -/
theorem neg_one (env : Env) (ms : MS) : eNeg (eC (.int 1)) env ms = .ok (.o 0) (.int (-1)) ms := rfl
def pwL (n : Nat) (f : Mx) (k : Nat) : D := .lst ((List.range k).map fun i => TM n (powF n f i))
theorem sp_powers {n a : Nat} {f : Mx} (hn : n ≤ 12) (hf : Bx a f) (k : Nat) (hk : k ≤ 200) (ha : a ≤ 1000) (ms : MS) : r__law_powers [TM n f, .int (k : Int)] ms = .ok (pwL n f (k + 1)) ms := by
  have e0 : startE 4 [TM n f, .int (k : Int)] = [some (0, TM n f), some (0, .int (k : Int)), none, none] := rfl
  have c1 : eLst (lCons (eCall 1 r__law_plain [] (lCons (eC1 gLen (eVar 0)) lNil)) lNil) [some (0, TM n f), some (0, .int (k : Int)), none, none] ms = .ok (.o 1) (pwL n f 1) ms :=
    eLst_ok (lCons_ok (eCall1_ok (tm_len (f := f) rfl) (sp_lplain hn ms)) rfl) (by rw [sizeLine_eq]; show 1 ≤ 16777216; omega)
  obtain ⟨e', m', h, rfl, t, rfl⟩ := forF_inv (gp := gpN 3) (body := sApp 2 (eCall 2 r__law_times [] (lCons (eBinS gIx (eVar 2) (eNeg (eC (.int 1)))) (lCons (eVar 0) lNil)))) (fun j env m => m = ms ∧ ∃ t, env = [some (0, TM n f), some (0, .int (k : Int)), some (1, pwL n f (j + 1)), t])
      ((List.range k).map fun (i : Nat) => D.int (i : Int)) 0 [some (0, TM n f), some (0, .int (k : Int)), some (1, pwL n f 1), none] ms ⟨rfl, none, rfl⟩ fun j x env m hx hI => by
    obtain ⟨rfl, t, rfl⟩ := hI
    have hj : j < k := by
      rcases Nat.lt_or_ge j k with z | z
      · exact z
      · rw [List.getElem?_eq_none (by simpa using z)] at hx
        cases hx
    rw [Nat.zero_add]
    refine ⟨[some (0, TM n f), some (0, .int (k : Int)), some (1, pwL n f (j + 1)), some (0, x)], _, m, rfl, sApp_ok (k := 0) (ds := (List.range (j + 1)).map fun i => TM n (powF n f i)) rfl (eCall2_ok (d1 := TM n (powF n f j)) (m1 := m) (m2 := m) (k1 := 0) (k2 := 0) ?_ rfl (sp_times (a := j * (a + 4) + 1) (b := a) hn (pow_bx hn hf j) hf ?_ m)) ?_, rfl, some (0, x), ?_⟩
    · rw [eIx_ok (l1 := .b 1) (d1 := pwL n f (j + 1)) (m1 := m) rfl (neg_one _ _)]
      show (match atI ((List.range (j + 1)).map fun i => TM n (powF n f i)) (-1) with
        | some d => Out.ok (ixFl (.b 1)) d m
        | none => .bad) = _
      rw [atI_neg1, List.getLast?_eq_getElem?]
      simp
      rfl
    · have : j * (a + 4) ≤ 200 * 1004 := Nat.mul_le_mul (by omega) (by omega)
      omega
    · rw [sizeLine_eq]
      simp
      omega
    · show [some (0, TM n f), some (0, .int (k : Int)), some (1, .lst (((List.range (j + 1)).map fun i => TM n (powF n f i)) ++ [TM n (mulF n (powF n f j) f)])), some (0, x)] = _
      unfold pwL
      rw [List.range_succ (n := j + 1), List.map_append]
      rfl
  have hl : ((List.range k).map fun (i : Nat) => D.int (i : Int)).length = k := by simp
  rw [hl, Nat.zero_add] at h
  have fi := fi_range (f := eVar 1) (env := [some (0, TM n f), some (0, .int (k : Int)), some (1, pwL n f 1), none]) (ms := m') (n := k) rfl (by omega)
  unfold r__law_powers runD
  rw [e0]
  refine fin_ret ?_
  rw [sSeq_nx (sSet_ok c1)]
  show sSeq _ _ [some (0, TM n f), some (0, .int (k : Int)), some (1, pwL n f 1), none] m' = _
  rw [sSeq_nx ((sFor_ok (fi := fun env ms => ((lCons (eVar 1) lNil) env ms).bindI iR1) fi).trans h)]
  rfl
/-! ### powers by squaring -/
theorem gt0_ok {f : EF} {env : Env} {ms m : MS} {fl : Fl} {l : Nat} (h : f env ms = .ok fl (.int (l : Int)) m) : eBin gGt f (eC (.int 0)) env ms = .ok (.o 0) (.bl (decide (0 < l))) m := by
  rw [eq_d h rfl]
  show Out.ok (.o 0) (.bl (decide ((0 : Int) < (l : Int)))) m = _
  congr 2
  exact decide_eq_decide.mpr (by omega)
theorem half_ok {env : Env} {ms : MS} {i : Nat} {l : Nat} (h : eVar i env ms = .ok (.o 0) (.int (l : Int)) ms) : eBin gDiv (eVar i) (eC (.int 2)) env ms = .ok (.o 0) (.int ((l / 2 : Nat) : Int)) ms := by
  have hz : Nat.log2 2 < 9000 := by decide
  rw [eq_d h rfl]
  simp [gDiv, hz]
theorem odd_ok {env : Env} {ms : MS} {i : Nat} {l : Nat} (h : eVar i env ms = .ok (.o 0) (.int (l : Int)) ms) : eBin gEq (eBin gMod (eC1 gInt (eVar i)) (eC (.int 2))) (eC (.int 1)) env ms = .ok (.o 0) (.bl (decide (l % 2 = 1))) ms := by
  have h1 : eC1 gInt (eVar i) env ms = .ok (.o 0) (.int (l : Int)) ms := by
    unfold eC1 Out.bind
    rw [h]
    rfl
  have hz : Nat.log2 2 < 9000 := by decide
  have h2 : eBin gMod (eC1 gInt (eVar i)) (eC (.int 2)) env ms = .ok (.o 0) (.int ((l % 2 : Nat) : Int)) ms := by
    rw [eq_d h1 rfl]
    simp [gMod, hz]
  rw [eEq_int h2 rfl]
  congr 2
  exact decide_eq_decide.mpr (by omega)
theorem whileF_t {fc : EF} {body : FS} {k : Nat} {env e : Env} {ms m m2 : MS} {fl : Fl} (h : fc env ms = .ok fl (.bl true) m) (h2 : body env m = .nx e m2) : whileF fc body (k + 1) env ms = whileF fc body k e m2 := by
  unfold whileF Out.st
  rw [h]
  dsimp only
  rw [h2]
  cases k <;> rfl
theorem whileF_f {fc : EF} {body : FS} {k : Nat} {env : Env} {ms m : MS} {fl : Fl} (h : fc env ms = .ok fl (.bl false) m) : whileF fc body (k + 1) env ms = .nx env m := by
  unfold whileF Out.st
  rw [h]
def pwBody : FS := sSeq (sIf (eBin gEq (eBin gMod (eC1 gInt (eVar 1)) (eC (.int 2))) (eC (.int 1))) (sSet 2 (eCall 2 r_product_of [] (lCons (eVar 2) (lCons (eVar 3) lNil)))) sNil)
    (sSeq (sSet 1 (eBin gDiv (eVar 1) (eC (.int 2))))
    (sIf (eBin gGt (eVar 1) (eC (.int 0))) (sSet 3 (eCall 2 r_product_of [] (lCons (eVar 3) (lCons (eVar 3) lNil)))) sNil))
theorem pw_loop {n : Nat} (hn : n ≤ 12) (M : Ent) (ms : MS) : ∀ (k l e e' fuel : Nat) (S Pm : Mx), l < 2 ^ k → Su n S → Su n Pm → Bx e S → Bx e' Pm → (e + e' + 8) * 3 ^ k ≤ 400000 →
    ∃ t, whileF (eBin gGt (eVar 1) (eC (.int 0))) pwBody (k + 1 + fuel) [M, some (0, .int (l : Int)), some (0, TM n Pm), some (0, TM n S)] ms = .nx [M, some (0, .int 0), some (0, TM n (mulF n Pm (powF n S l))), t] ms
  | k, 0, e, e', fuel, S, Pm, _, hS, hP, _, _, _ => by
    refine ⟨some (0, TM n S), ?_⟩
    rw [show k + 1 + fuel = (k + fuel) + 1 by omega, whileF_f (m := ms) (gt0_ok (l := 0) (m := ms) rfl)]
    show Fw.nx [M, some (0, .int 0), some (0, TM n Pm), some (0, TM n S)] ms = Fw.nx [M, some (0, .int 0), some (0, TM n (mulF n Pm (oneF n))), some (0, TM n S)] ms
    rw [mul_one' hP]
  | 0, l + 1, e, e', fuel, S, Pm, hl, _, _, _, _, _ => by
    simp at hl
  | k + 1, l + 1, e, e', fuel, S, Pm, hl, hS, hP, bS, bP, hb => by
    have hb3 : (e + e' + 8) * 3 ^ k * 3 ≤ 400000 := by
      rw [Nat.mul_assoc, ← Nat.pow_succ]
      exact hb
    have hp1 : 1 ≤ 3 ^ k := Nat.pow_pos (by omega)
    have hs0 : e + e' + 8 ≤ (e + e' + 8) * 3 ^ k := Nat.le_mul_of_pos_right _ hp1
    have hl2 : (l + 1) / 2 < 2 ^ k := by
      rw [Nat.pow_succ] at hl
      omega
    -- the first half of a turn
    have s1 : ∃ P' e1, sIf (eBin gEq (eBin gMod (eC1 gInt (eVar 1)) (eC (.int 2))) (eC (.int 1))) (sSet 2 (eCall 2 r_product_of [] (lCons (eVar 2) (lCons (eVar 3) lNil)))) sNil [M, some (0, .int ((l + 1 : Nat) : Int)), some (0, TM n Pm), some (0, TM n S)] ms = .nx [M, some (0, .int ((l + 1 : Nat) : Int)), some (0, TM n P'), some (0, TM n S)] ms ∧
        Su n P' ∧ Bx e1 P' ∧ e1 ≤ e + e' + 4 ∧ mulF n P' (powF n S (2 * ((l + 1) / 2))) = mulF n Pm (powF n S (l + 1)) := by
      have ht := odd_ok (env := [M, some (0, .int ((l + 1 : Nat) : Int)), some (0, TM n Pm), some (0, TM n S)]) (ms := ms) (i := 1) (l := l + 1) rfl
      by_cases z : (l + 1) % 2 = 1
      · rw [decide_eq_true z] at ht
        refine ⟨mulF n Pm S, e' + e + 4, ?_, mul_su n _ _, mul_bx hn bP bS, by omega, ?_⟩
        · rw [sIf_t ht, sSet_ok (k := 0) (eCall2_ok (m1 := ms) (m2 := ms) (k1 := 0) (k2 := 0) rfl rfl (sp_product hn bP bS (by omega) ms))]
          rfl
        · rw [mul_assoc', pow_comm hS]
          congr 2
          omega
      · rw [decide_eq_false z] at ht
        refine ⟨Pm, e', sIf_skip ht, hP, bP, by omega, ?_⟩
        congr 2
        omega
    obtain ⟨P', e1, h1, sP, bP1, le1, hm⟩ := s1
    have s2 : sSet 1 (eBin gDiv (eVar 1) (eC (.int 2))) [M, some (0, .int ((l + 1 : Nat) : Int)), some (0, TM n P'), some (0, TM n S)] ms = .nx [M, some (0, .int (((l + 1) / 2 : Nat) : Int)), some (0, TM n P'), some (0, TM n S)] ms :=
      sSet_ok (k := 0) (half_ok (i := 1) (l := l + 1) rfl)
    have s3 : ∃ S' e2, sIf (eBin gGt (eVar 1) (eC (.int 0))) (sSet 3 (eCall 2 r_product_of [] (lCons (eVar 3) (lCons (eVar 3) lNil)))) sNil [M, some (0, .int (((l + 1) / 2 : Nat) : Int)), some (0, TM n P'), some (0, TM n S)] ms = .nx [M, some (0, .int (((l + 1) / 2 : Nat) : Int)), some (0, TM n P'), some (0, TM n S')] ms ∧
        Su n S' ∧ Bx e2 S' ∧ e2 ≤ 2 * e + 4 ∧ powF n S' ((l + 1) / 2) = powF n S (2 * ((l + 1) / 2)) := by
      have ht := gt0_ok (f := eVar 1) (env := [M, some (0, .int (((l + 1) / 2 : Nat) : Int)), some (0, TM n P'), some (0, TM n S)]) (ms := ms) (m := ms) (fl := .o 0) (l := (l + 1) / 2) rfl
      by_cases z : 0 < (l + 1) / 2
      · rw [decide_eq_true z] at ht
        refine ⟨mulF n S S, e + e + 4, ?_, mul_su n _ _, mul_bx hn bS bS, by omega, pow_sq hS _⟩
        rw [sIf_t ht, sSet_ok (k := 0) (eCall2_ok (m1 := ms) (m2 := ms) (k1 := 0) (k2 := 0) rfl rfl (sp_product hn bS bS (by omega) ms))]
        rfl
      · rw [decide_eq_false z] at ht
        have z0 : (l + 1) / 2 = 0 := by omega
        refine ⟨S, e, sIf_skip ht, hS, bS, by omega, ?_⟩
        rw [z0]
    obtain ⟨S', e2, h3, sS, bS2, le2, hq⟩ := s3
    have hbody : pwBody [M, some (0, .int ((l + 1 : Nat) : Int)), some (0, TM n Pm), some (0, TM n S)] ms = .nx [M, some (0, .int (((l + 1) / 2 : Nat) : Int)), some (0, TM n P'), some (0, TM n S')] ms := by
      unfold pwBody
      rw [sSeq_nx h1, sSeq_nx s2]
      exact h3
    obtain ⟨t, ih⟩ := pw_loop hn M ms k ((l + 1) / 2) (2 * e + 4) (e + e' + 4) fuel S' P' hl2 sS sP (bS2.le le2) (bP1.le le1) (by
      have : (2 * e + 4 + (e + e' + 4) + 8) * 3 ^ k ≤ ((e + e' + 8) * 3) * 3 ^ k := Nat.mul_le_mul_right _ (by omega)
      rw [Nat.mul_right_comm] at this
      omega)
    refine ⟨t, ?_⟩
    rw [show k + 1 + 1 + fuel = (k + 1 + fuel) + 1 by omega, whileF_t (gt0_ok (l := l + 1) (m := ms) rfl) hbody, ih, hq, hm]
theorem pw_loopN {n : Nat} (hn : n ≤ 12) (M : Ent) (ms : MS) (k l e e' N : Nat) (S Pm : Mx) (hl : l < 2 ^ k) (hS : Su n S) (hP : Su n Pm) (bS : Bx e S) (bP : Bx e' Pm) (hb : (e + e' + 8) * 3 ^ k ≤ 400000) (hN : k + 1 ≤ N) :
    ∃ t, sWhile N (eBin gGt (eVar 1) (eC (.int 0))) pwBody [M, some (0, .int (l : Int)), some (0, TM n Pm), some (0, TM n S)] ms = .nx [M, some (0, .int 0), some (0, TM n (mulF n Pm (powF n S l))), t] ms := by
  obtain ⟨fuel, rfl⟩ : ∃ fuel, N = k + 1 + fuel := ⟨N - (k + 1), by omega⟩
  exact pw_loop hn M ms k l e e' fuel S Pm hl hS hP bS bP hb
theorem fuel_ge : 8 + 1 ≤ whileFuel := by decide
theorem pm_h1 {n : Nat} {f : Mx} (hn : n ≤ 12) (l : Nat) (ms : MS) : eCall 1 r_plain_matrix [] (lCons (eC1 gLen (eVar 0)) lNil) [some (0, TM n f), some (0, .int (l : Int)), none, none] ms = .ok (.o 0) (TM n (oneF n)) ms := (eCall1_ok (k1 := 0) (d1 := .int (n : Int)) (m1 := ms) (o := .ok (TM n (oneF n)) ms) (tm_len (f := f) (g := eVar 0) (fl := .o 0) rfl) (sp_plain hn ms))
theorem pm_h2 {n : Nat} {f : Mx} (hn : n ≤ 12) (l : Nat) (ms : MS) : lCons (eCall 1 r_plain_matrix [] (lCons (eC1 gLen (eVar 0)) lNil)) (lCons (eVar 0) lNil) [some (0, TM n f), some (0, .int (l : Int)), none, none] ms = .ok [TM n (oneF n), TM n f] ms :=
  lCons_ok (pm_h1 hn l ms) (lCons_ok (k := 0) (d := TM n f) (m := ms) (m2 := ms) (ds := []) rfl rfl)
theorem pm_c1 {n : Nat} {f : Mx} (hn : n ≤ 12) (l : Nat) (ms : MS) : sPar 2 3 (lCons (eCall 1 r_plain_matrix [] (lCons (eC1 gLen (eVar 0)) lNil)) (lCons (eVar 0) lNil)) [some (0, TM n f), some (0, .int (l : Int)), none, none] ms = .nx [some (0, TM n f), some (0, .int (l : Int)), some (0, TM n (oneF n)), some (0, TM n f)] ms :=
  sPar_ok (pm_h2 hn l ms)
theorem sp_power {n a : Nat} {f : Mx} (hn : n ≤ 12) (hS : Su n f) (hf : Bx a f) (ha : a ≤ 40) (l : Nat) (hl : l ≤ 200) (ms : MS) : r_power_matrix [TM n f, .int (l : Int)] ms = .ok (TM n (powF n f l)) ms := by
  have e0 : startE 4 [TM n f, .int (l : Int)] = [some (0, TM n f), some (0, .int (l : Int)), none, none] := rfl
  have c1 := pm_c1 (f := f) hn l ms
  have fg := fuel_ge
  unfold r_power_matrix runD
  generalize whileFuel = N at fg ⊢
  obtain ⟨t, hw⟩ := pw_loopN hn (some (0, TM n f)) ms 8 l a 1 N f (oneF n) (by omega) hS (one_su n) hf (one_bx n) (by
    have : (a + 1 + 8) * 3 ^ 8 ≤ 49 * 3 ^ 8 := Nat.mul_le_mul_right _ (by omega)
    omega) fg
  rw [one_mul' (pow_su n f l)] at hw
  unfold pwBody at hw
  rw [e0]
  refine fin_ret ?_
  rw [sSeq_nx c1, sSeq_nx hw]
  rfl
/-! ### matrices are judged -/
theorem eCallD_ok {n : Nat} {g : Fn} {dds ds : List D} {fl : EL} {env : Env} {ms m : MS} {o : FOut} (h : fl env ms = .ok ds m) (hl : (ds ++ dds).length = n) (hg : g (ds ++ dds) m = o) : eCall n g dds fl env ms = o.e := by
  unfold eCall OutL.bind
  rw [h]
  dsimp only
  rw [if_pos hl, hg]
def wh (a b : Int) : D → Bool
  | .int x => decide (a ≤ x) && decide (x ≤ b)
  | _ => false
def Sim : D → Prop
  | .int _ => True
  | .bl _ => True
  | .non => True
  | .str _ => True
  | .tup _ => True
  | _ => False
theorem sp_whole_any (d : D) (h : Sim d) (a b : Int) (ms : MS) : r_is_whole [d, .int a, .int b] ms = .ok (.bl (wh a b d)) ms := by
  cases d with
  | int x => exact sp_is_whole x a b ms
  | bl x => cases x <;> rfl
  | non => rfl
  | str x => rfl
  | tup x => rfl
  | _ => exact h.elim
theorem sp_wholes_any (ds : List D) (hs : ∀ d ∈ ds, Sim d) (a b : Int) (ms : MS) (hl : ds.length ≤ 1000) : r_are_wholes [.tup ds, .int a, .int b] ms = .ok (.bl (ds.all (wh a b))) ms := by
  have h := lcF_map (gp := gpN 3) (fe := eCall 3 r_is_whole [] (lCons (eVar 3) (lCons (eVar 1) (lCons (eVar 2) lNil)))) (vs := [3]) (ms := ms) (env := [some (0, .tup ds), some (0, .int a), some (0, .int b), none])
    (F := fun d => .bl (wh a b d)) (e1 := fun d => [some (0, .tup ds), some (0, .int a), some (0, .int b), some (0, d)]) ds [] (fun d _ => rfl) (fun d hd => ⟨0, eCall3_ok (d1 := d) (d2 := .int a) (d3 := .int b) (m1 := ms) (m2 := ms) (m3 := ms) (k1 := 0) (k2 := 0) (k3 := 0) rfl rfl rfl (sp_whole_any d (hs d hd) a b ms)⟩) (by rw [sizeLine_eq]; simp; omega)
  have e : ds.map (fun d => D.bl (wh a b d)) = (ds.map (wh a b)).map D.bl := by
    rw [List.map_map]
    rfl
  rw [e, List.nil_append] at h
  have e0 : startE 4 [D.tup ds, .int a, .int b] = [some (0, .tup ds), some (0, .int a), some (0, .int b), none] := rfl
  have c1 : eCall 2 r_is_row [.non] (lCons (eVar 0) lNil) [some (0, .tup ds), some (0, .int a), some (0, .int b), none] ms = .ok (.o 0) (.bl true) ms := eCallD_ok (ds := [.tup ds]) (m := ms) (o := .ok (.bl true) ms) rfl rfl (sp_is_row1 ds ms)
  have c2 : eC1 (gBs fun bs => bs.all id) (eLc (gpN 3) (fun env ms => ((eVar 0) env ms).bindI iSq) eYes (eCall 3 r_is_whole [] (lCons (eVar 3) (lCons (eVar 1) (lCons (eVar 2) lNil)))) [3]) [some (0, .tup ds), some (0, .int a), some (0, .int b), none] ms = .ok (.o 0) (.bl (ds.all (wh a b))) ms := by
    unfold eC1 Out.bind
    rw [eLc_ok (fz := true) (ds := ds) (m := ms) (fi_seqT rfl), h]
    show (match blsD ((ds.map (wh a b)).map D.bl) with
      | some bs => Out.ok (.o 0) (.bl (bs.all id)) ms
      | none => .bad) = _
    rw [blsD_map]
    simp [List.all_map]
  unfold r_are_wholes runD
  rw [e0]
  exact fin_ret (ret_ok ((eAnd_t c1).trans c2))
theorem sp_row_no (d : D) (t : String) (h : tyD d = some t) (hn : isiB t "tuple" = false) (ms : MS) : r_is_row [d, .non] ms = .ok (.bl false) ms := by
  have e0 : startE 2 [d, .non] = [some (0, d), some (0, .non)] := rfl
  have c : eC1 (gIsi "tuple") (eVar 0) [some (0, d), some (0, .non)] ms = .ok (.o 0) (.bl false) ms := by
    show gIsi "tuple" (.o 0) d ms = _
    unfold gIsi
    rw [h]
    dsimp only
    rw [hn]
  unfold r_is_row runD
  rw [e0]
  exact fin_ret (ret_ok (eAnd_f c))
theorem sp_wholes_no (d : D) (t : String) (h : tyD d = some t) (hn : isiB t "tuple" = false) (a b : Int) (ms : MS) : r_are_wholes [d, .int a, .int b] ms = .ok (.bl false) ms := by
  have e0 : startE 4 [d, .int a, .int b] = [some (0, d), some (0, .int a), some (0, .int b), none] := rfl
  have c1 : eCall 2 r_is_row [.non] (lCons (eVar 0) lNil) [some (0, d), some (0, .int a), some (0, .int b), none] ms = .ok (.o 0) (.bl false) ms := eCallD_ok (ds := [d]) (m := ms) (o := .ok (.bl false) ms) rfl rfl (sp_row_no d t h hn ms)
  unfold r_are_wholes runD
  rw [e0]
  exact fin_ret (ret_ok (eAnd_f c1))
def nmT : EF := eOr (eNot (eTru (eCall 3 r_are_wholes [] (lCons (eVar 2) (lCons (eNeg (eC (.int 1000000000000))) (lCons (eC (.int 1000000000000)) lNil)))))) (eBin gNe (eC1 gLen (eVar 2)) (eC1 gLen (eVar 0)))
def nmB : FS := sIf nmT (sRaise "BadMatrix" (eVar 1)) sNil
def nmE (M : D) (i d : D) : Env := [some (0, M), some (0, i), some (0, d)]
def GoodR (n : Nat) (d : D) : Prop := ∃ ns : List Int, d = .tup (ns.map D.int) ∧ ns.length = n ∧ ∀ x ∈ ns, -1000000000000 ≤ x ∧ x ≤ 1000000000000
/-- a row that is refused -/
def BadR (n : Nat) (d : D) : Prop := (∀ ms, r_are_wholes [d, .int (-1000000000000), .int 1000000000000] ms = .ok (.bl false) ms) ∨ ∃ ds : List D, d = .tup ds ∧ ds.length ≠ n ∧ ∀ ms, ∃ b, r_are_wholes [d, .int (-1000000000000), .int 1000000000000] ms = .ok (.bl b) ms
theorem nm_call (M i d : D) (b : Bool) (ms : MS) (h : r_are_wholes [d, .int (-1000000000000), .int 1000000000000] ms = .ok (.bl b) ms) : eNot (eTru (eCall 3 r_are_wholes [] (lCons (eVar 2) (lCons (eNeg (eC (.int 1000000000000))) (lCons (eC (.int 1000000000000)) lNil))))) (nmE M i d) ms = .ok (.o 0) (.bl !b) ms :=
  eNot_ok (eTru_ok (fl := .o 0) (eCall3_ok (d1 := d) (d2 := .int (-1000000000000)) (d3 := .int 1000000000000) (m1 := ms) (m2 := ms) (m3 := ms) (k1 := 0) (k2 := 0) (k3 := 0) rfl rfl rfl h))
theorem nm_len (rows ds : List D) (i : D) (ms : MS) : eBin gNe (eC1 gLen (eVar 2)) (eC1 gLen (eVar 0)) (nmE (.tup rows) i (.tup ds)) ms = .ok (.o 0) (.bl (!decide ((ds.length : Int) = (rows.length : Int)))) ms :=
  eNe_int (len_tup (ds := ds) (fl := .o 0) rfl) (len_tup (ds := rows) (fl := .o 0) rfl)
theorem nm_good {n : Nat} {rows : List D} {d i : D} (hr : rows.length = n) (hn : n ≤ 12) (h : GoodR n d) (ms : MS) : nmB (nmE (.tup rows) i d) ms = .nx (nmE (.tup rows) i d) ms := by
  obtain ⟨ns, rfl, hl, hx⟩ := h
  have h1 := sp_are_wholes ns (-1000000000000) 1000000000000 ms (by omega)
  have h2 : (ns.all fun n => decide ((-1000000000000 : Int) ≤ n) && decide (n ≤ 1000000000000)) = true := by
    rw [List.all_eq_true]
    intro x hm
    have := hx x hm
    simp only [Bool.and_eq_true, decide_eq_true_eq]
    exact this
  rw [h2] at h1
  have h3 := nm_len rows (ns.map D.int) i ms
  rw [decide_eq_true (by rw [List.length_map]; omega)] at h3
  unfold nmB nmT
  exact sIf_skip ((eOr_f (nm_call _ _ _ true ms h1)).trans h3)
theorem nm_bad {n : Nat} {rows : List D} {d i : D} (hr : rows.length = n) (h : BadR n d) (ms : MS) : nmB (nmE (.tup rows) i d) ms = .ex "BadMatrix" i (nmE (.tup rows) i d) ms := by
  have ht : nmT (nmE (.tup rows) i d) ms = .ok (.o 0) (.bl true) ms := by
    unfold nmT
    rcases h with h | ⟨ds, rfl, hl, h⟩
    · exact eOr_t (nm_call _ _ _ false ms (h ms))
    · obtain ⟨b, h⟩ := h ms
      have h1 := nm_call (.tup rows) i _ b ms h
      cases b with
      | false => exact eOr_t h1
      | true =>
        have h3 := nm_len rows ds i ms
        rw [decide_eq_false (by omega)] at h3
        exact (eOr_f h1).trans h3
  unfold nmB
  rw [sIf_t ht]
  rfl
theorem nm_loop {n : Nat} {rows : List D} (hr : rows.length = n) (hn : n ≤ 12) (ms : MS) (rest : List D) : ∀ (ds : List D) (i : Nat) (t1 t2 : Ent), (∀ d ∈ ds, GoodR n d) → ∃ t1' t2',
    forF (gpTup 2 (gpCons (gpN 1) (gpCons (gpN 2) gpNil))) nmB (enumD i ds ++ rest) [some (0, .tup rows), t1, t2] ms = forF (gpTup 2 (gpCons (gpN 1) (gpCons (gpN 2) gpNil))) nmB rest [some (0, .tup rows), t1', t2'] ms
  | [], i, t1, t2, _ => ⟨t1, t2, rfl⟩
  | d :: ds, i, t1, t2, h => by
    obtain ⟨a, b, ih⟩ := nm_loop hr hn ms rest ds (i + 1) (some (0, .int (i : Int))) (some (0, d)) fun x hx => h x (List.mem_cons_of_mem _ hx)
    refine ⟨a, b, ?_⟩
    rw [enumD_cons, List.cons_append, forF_nx (env1 := nmE (.tup rows) (.int (i : Int)) d) (ms2 := ms) (env2 := nmE (.tup rows) (.int (i : Int)) d) rfl (nm_good hr hn (h d List.mem_cons_self) ms)]
    exact ih
theorem enumD_app : ∀ (as bs : List D) (i : Nat), enumD i (as ++ bs) = enumD i as ++ enumD (i + as.length) bs
  | [], bs, i => rfl
  | a :: as, bs, i => by
    rw [List.cons_append, enumD_cons, enumD_cons, enumD_app as bs (i + 1), List.cons_append]
    congr 3
    simp
    omega
theorem nm_head {rows : List D} (hn : rows.length ≤ 12) (t1 t2 : Ent) (ms : MS) : sIf (eOr (eNot (eTru (eCall 2 r_is_row [.non] (lCons (eVar 0) lNil)))) (eBin gGt (eC1 gLen (eVar 0)) (eC (.int 12)))) (sRaise "BadMatrix" (eC (.str "form"))) sNil [some (0, .tup rows), t1, t2] ms = .nx [some (0, .tup rows), t1, t2] ms := by
  have c1 : eNot (eTru (eCall 2 r_is_row [.non] (lCons (eVar 0) lNil))) [some (0, .tup rows), t1, t2] ms = .ok (.o 0) (.bl false) ms := eNot_ok (b := true) (fl := .o 0) (eTru_ok (fl := .o 0) (eCallD_ok (ds := [.tup rows]) (m := ms) (o := .ok (.bl true) ms) rfl rfl (sp_is_row1 rows ms)))
  have c2 : eBin gGt (eC1 gLen (eVar 0)) (eC (.int 12)) [some (0, .tup rows), t1, t2] ms = .ok (.o 0) (.bl false) ms := by
    rw [eq_d (len_tup (ds := rows) (fl := .o 0) rfl) rfl]
    show Out.ok (.o 0) (.bl (decide ((12 : Int) < (rows.length : Int)))) ms = _
    rw [decide_eq_false (by omega)]
  exact sIf_skip ((eOr_f c1).trans c2)
def nmF : EI := fun env ms => ((lCons (eVar 0) lNil) env ms).bindI iEn
theorem nm_unfold (M : D) (ms : MS) : r_need_matrix [M] ms = (sSeq (sIf (eOr (eNot (eTru (eCall 2 r_is_row [.non] (lCons (eVar 0) lNil)))) (eBin gGt (eC1 gLen (eVar 0)) (eC (.int 12)))) (sRaise "BadMatrix" (eC (.str "form"))) sNil) (sSeq (sFor (gpTup 2 (gpCons (gpN 1) (gpCons (gpN 2) gpNil))) nmF nmB) (sRet (eVar 0))) [some (0, M), none, none] ms).fin := rfl
theorem nm_fi (rows : List D) (ms : MS) : nmF [some (0, .tup rows), none, none] ms = .ok true (enumD 0 rows) ms := rfl
theorem sp_need {rows : List D} (hn : rows.length ≤ 12) (h : ∀ d ∈ rows, GoodR rows.length d) (ms : MS) : r_need_matrix [.tup rows] ms = .ok (.tup rows) ms := by
  obtain ⟨a, b, hl⟩ := nm_loop (rows := rows) rfl hn ms [] rows 0 none none h
  rw [List.append_nil] at hl
  rw [nm_unfold, sSeq_nx (nm_head hn none none ms), sSeq_nx ((sFor_ok (nm_fi rows ms)).trans hl)]
  rfl
theorem sp_need_bad {as bs : List D} {d : D} {n : Nat} (hl : (as ++ d :: bs).length = n) (hn : n ≤ 12) (h : ∀ x ∈ as, GoodR n x) (hd : BadR n d) (ms : MS) : r_need_matrix [.tup (as ++ d :: bs)] ms = .exc "BadMatrix" (.int (as.length : Int)) ms := by
  obtain ⟨a, b, hlp⟩ := nm_loop (rows := as ++ d :: bs) hl hn ms (enumD (0 + as.length) (d :: bs)) as 0 none none h
  have e : enumD 0 (as ++ d :: bs) = enumD 0 as ++ enumD (0 + as.length) (d :: bs) := enumD_app as (d :: bs) 0
  rw [← e, enumD_cons, forF_ex (env1 := nmE (.tup (as ++ d :: bs)) (.int ((0 + as.length : Nat) : Int)) d) rfl (nm_bad hl hd ms), Nat.zero_add] at hlp
  rw [nm_unfold, sSeq_nx (nm_head (by rw [hl]; exact hn) none none ms), sSeq_ex ((sFor_ok (nm_fi _ ms)).trans hlp)]
  rfl
theorem sp_need_form {d : D} (h : (∃ t, tyD d = some t ∧ isiB t "tuple" = false) ∨ ∃ ds : List D, d = .tup ds ∧ 12 < ds.length) (ms : MS) : r_need_matrix [d] ms = .exc "BadMatrix" (.str "form") ms := by
  have c : sIf (eOr (eNot (eTru (eCall 2 r_is_row [.non] (lCons (eVar 0) lNil)))) (eBin gGt (eC1 gLen (eVar 0)) (eC (.int 12)))) (sRaise "BadMatrix" (eC (.str "form"))) sNil [some (0, d), none, none] ms = .ex "BadMatrix" (.str "form") [some (0, d), none, none] ms := by
    rcases h with ⟨t, h1, h2⟩ | ⟨ds, rfl, hl⟩
    · have c1 : eNot (eTru (eCall 2 r_is_row [.non] (lCons (eVar 0) lNil))) [some (0, d), none, none] ms = .ok (.o 0) (.bl true) ms := eNot_ok (b := false) (fl := .o 0) (eTru_ok (fl := .o 0) (eCallD_ok (ds := [d]) (m := ms) (o := .ok (.bl false) ms) rfl rfl (sp_row_no d t h1 h2 ms)))
      rw [sIf_t (eOr_t c1)]
      rfl
    · have c1 : eNot (eTru (eCall 2 r_is_row [.non] (lCons (eVar 0) lNil))) [some (0, .tup ds), none, none] ms = .ok (.o 0) (.bl false) ms := eNot_ok (b := true) (fl := .o 0) (eTru_ok (fl := .o 0) (eCallD_ok (ds := [.tup ds]) (m := ms) (o := .ok (.bl true) ms) rfl rfl (sp_is_row1 ds ms)))
      have c2 : eBin gGt (eC1 gLen (eVar 0)) (eC (.int 12)) [some (0, .tup ds), none, none] ms = .ok (.o 0) (.bl true) ms := by
        rw [eq_d (len_tup (ds := ds) (fl := .o 0) rfl) rfl]
        show Out.ok (.o 0) (.bl (decide ((12 : Int) < (ds.length : Int)))) ms = _
        rw [decide_eq_true (by omega)]
      rw [sIf_t ((eOr_f c1).trans c2)]
      rfl
  rw [nm_unfold, sSeq_ex c]
  rfl
/-! ### products and powers, asked for -/
theorem sDrop_ok {f : EF} {env : Env} {ms m : MS} {fl : Fl} {d : D} (h : f env ms = .ok fl d m) : sDrop f env ms = .nx env m := by
  unfold sDrop
  rw [h]
  rfl
theorem sDrop_ex {f : EF} {env : Env} {ms m : MS} {c : String} {d : D} (h : f env ms = .exc c d m) : sDrop f env ms = .ex c d env m := by
  unfold sDrop
  rw [h]
  rfl
/-- entries that are let -/
def Let (f : Mx) : Prop := ∀ i j, -1000000000000 ≤ f i j ∧ f i j ≤ 1000000000000
theorem let_bx {f : Mx} (h : Let f) : Bx 40 f := fun i j => by
  have := h i j
  have e : (2 : Nat) ^ 40 = 1099511627776 := by decide
  omega
theorem let_row {n : Nat} {f : Mx} (h : Let f) (i : Nat) : GoodR n (rowD n (f i)) := ⟨(List.range n).map (f i), by rw [List.map_map]; rfl, by simp, fun x hx => by
  obtain ⟨j, _, rfl⟩ := List.mem_map.mp hx
  exact h i j⟩
theorem need_tm {n : Nat} {f : Mx} (hn : n ≤ 12) (h : Let f) (ms : MS) : r_need_matrix [TM n f] ms = .ok (TM n f) ms :=
  sp_need (rows := (List.range n).map fun i => rowD n (f i)) (by simp; exact hn) (fun d hd => by
    obtain ⟨i, _, rfl⟩ := List.mem_map.mp hd
    have e : ((List.range n).map fun i => rowD n (f i)).length = n := by simp
    rw [e]
    exact let_row h i) ms
theorem mt_unfold (A B : D) (ms : MS) : r_matrix_times [A, B] ms = (sSeq (sDrop (eCall 1 r_need_matrix [] (lCons (eVar 0) lNil))) (sSeq (sDrop (eCall 1 r_need_matrix [] (lCons (eVar 1) lNil))) (sSeq (sIf (eBin gNe (eC1 gLen (eVar 0)) (eC1 gLen (eVar 1))) (sRaise "Unalike" (eC (.str "places"))) sNil) (sRet (eCall 2 r_product_of [] (lCons (eVar 0) (lCons (eVar 1) lNil)))))) [some (0, A), some (0, B)] ms).fin := rfl
theorem sp_matrix_times {n : Nat} {f g : Mx} (hn : n ≤ 12) (hf : Let f) (hg : Let g) (ms : MS) : r_matrix_times [TM n f, TM n g] ms = .ok (TM n (mulF n f g)) ms := by
  have c1 : sDrop (eCall 1 r_need_matrix [] (lCons (eVar 0) lNil)) [some (0, TM n f), some (0, TM n g)] ms = .nx [some (0, TM n f), some (0, TM n g)] ms := sDrop_ok (fl := .o 0) (d := TM n f) (eCall1_ok (k1 := 0) (m1 := ms) rfl (need_tm hn hf ms))
  have c2 : sDrop (eCall 1 r_need_matrix [] (lCons (eVar 1) lNil)) [some (0, TM n f), some (0, TM n g)] ms = .nx [some (0, TM n f), some (0, TM n g)] ms := sDrop_ok (fl := .o 0) (d := TM n g) (eCall1_ok (k1 := 0) (m1 := ms) rfl (need_tm hn hg ms))
  have c3 := eNe_int (env := [some (0, TM n f), some (0, TM n g)]) (ms := ms) (tm_len (n := n) (f := f) (g := eVar 0) (fl := .o 0) (m := ms) rfl) (tm_len (n := n) (f := g) (g := eVar 1) (fl := .o 0) (m := ms) rfl)
  rw [decide_eq_true rfl] at c3
  rw [mt_unfold, sSeq_nx c1, sSeq_nx c2, sSeq_nx (sIf_skip c3)]
  exact fin_ret (ret_ok (k := 0) (eCall2_ok (m1 := ms) (m2 := ms) (k1 := 0) (k2 := 0) rfl rfl (sp_product hn (let_bx hf) (let_bx hg) (by omega) ms)))
theorem mp_unfold (A L : D) (ms : MS) : r_matrix_power [A, L] ms = (sSeq (sDrop (eCall 1 r_need_matrix [] (lCons (eVar 0) lNil))) (sRet (eCall 2 r_power_matrix [] (lCons (eVar 0) (lCons (eCall 1 r_need_power [] (lCons (eVar 1) lNil)) lNil)))) [some (0, A), some (0, L)] ms).fin := rfl
theorem sp_need_power {l : Nat} (h : l ≤ 200) (ms : MS) : r_need_power [.int (l : Int)] ms = .ok (.int (l : Int)) ms := by
  have e0 : startE 1 [D.int (l : Int)] = [some (0, .int (l : Int))] := rfl
  have h1 := sp_is_whole (l : Int) 0 200 ms
  rw [show (decide ((0 : Int) ≤ (l : Int)) && decide ((l : Int) ≤ 200)) = true by simp; omega] at h1
  have c : eNot (eTru (eCall 3 r_is_whole [] (lCons (eVar 0) (lCons (eC (.int 0)) (lCons (eC (.int 200)) lNil))))) [some (0, .int (l : Int))] ms = .ok (.o 0) (.bl false) ms := eNot_ok (b := true) (fl := .o 0) (eTru_ok (fl := .o 0) (eCall3_ok (m1 := ms) (m2 := ms) (m3 := ms) (k1 := 0) (k2 := 0) (k3 := 0) rfl rfl rfl h1))
  unfold r_need_power runD
  rw [e0, sSeq_nx (sIf_skip c)]
  rfl
theorem sp_need_power_bad {d : D} (hs : Sim d) (hw : wh 0 200 d = false) (ms : MS) : r_need_power [d] ms = .exc "BadNumber" d ms := by
  have e0 : startE 1 [d] = [some (0, d)] := rfl
  have h1 := sp_whole_any d hs 0 200 ms
  rw [hw] at h1
  have c : eNot (eTru (eCall 3 r_is_whole [] (lCons (eVar 0) (lCons (eC (.int 0)) (lCons (eC (.int 200)) lNil))))) [some (0, d)] ms = .ok (.o 0) (.bl true) ms := eNot_ok (b := false) (fl := .o 0) (eTru_ok (fl := .o 0) (eCall3_ok (m1 := ms) (m2 := ms) (m3 := ms) (k1 := 0) (k2 := 0) (k3 := 0) rfl rfl rfl h1))
  have c2 : sIf (eNot (eTru (eCall 3 r_is_whole [] (lCons (eVar 0) (lCons (eC (.int 0)) (lCons (eC (.int 200)) lNil)))))) (sRaise "BadNumber" (eVar 0)) sNil [some (0, d)] ms = .ex "BadNumber" d [some (0, d)] ms := by
    rw [sIf_t c]
    rfl
  unfold r_need_power runD
  rw [e0, sSeq_ex c2]
  rfl
theorem sp_matrix_power {n : Nat} {f : Mx} (hn : n ≤ 12) (hS : Su n f) (hf : Let f) (l : Nat) (hl : l ≤ 200) (ms : MS) : r_matrix_power [TM n f, .int (l : Int)] ms = .ok (TM n (powF n f l)) ms := by
  have c1 : sDrop (eCall 1 r_need_matrix [] (lCons (eVar 0) lNil)) [some (0, TM n f), some (0, .int (l : Int))] ms = .nx [some (0, TM n f), some (0, .int (l : Int))] ms := sDrop_ok (fl := .o 0) (d := TM n f) (eCall1_ok (k1 := 0) (m1 := ms) rfl (need_tm hn hf ms))
  rw [mp_unfold, sSeq_nx c1]
  exact fin_ret (ret_ok (k := 0) (eCall2_ok (d1 := TM n f) (d2 := .int (l : Int)) (m1 := ms) (m2 := ms) (k1 := 0) (k2 := 0) rfl (eCall1_ok (k1 := 0) (m1 := ms) (d1 := .int (l : Int)) (o := .ok (.int (l : Int)) ms) rfl (sp_need_power hl ms)) (sp_power hn hS (let_bx hf) (by omega) l hl ms)))
/-! ### things drawn in comprehensions -/
theorem lcF_draw {gp : GP} {fe : EF} {vs : List Nat} {env : Env} {am : Addr} (c : Int) (hc : 0 ≤ c) (K : Int) (P : D → Prop) (e1 : D → Env) : ∀ (ds acc : List D) (k : Int) (m : MSt), Mk k m → m.am = am → (∀ d ∈ ds, gp d (wipeE env vs) = some (e1 d)) →
    (∀ d ∈ ds, ∀ (k : Int) (m : MSt), Mk k m → m.am = am → k ≤ K → ∃ x m' l, fe (e1 d) (some m) = .ok (.o l) x (some m') ∧ P x ∧ Mk (k + c) m' ∧ m'.am = am) → k + c * ds.length ≤ K → acc.length + ds.length ≤ sizeLine →
    ∃ xs m', lcF gp eYes fe vs ds acc env (some m) = .ok (.o 1) (.lst (acc ++ xs)) (some m') ∧ xs.length = ds.length ∧ (∀ x ∈ xs, P x) ∧ Mk (k + c * ds.length) m' ∧ m'.am = am
  | [], acc, k, m, hm, ha, _, _, _, _ => ⟨[], m, by simp [lcF], rfl, (fun x h => by cases h), by simpa using hm, ha⟩
  | d :: ds, acc, k, m, hm, ha, h1, h2, hk, hl => by
    have hk' : k + c * ds.length + c ≤ K := by
      rw [List.length_cons] at hk
      rw [show ((ds.length + 1 : Nat) : Int) = (ds.length : Int) + 1 by omega, Int.mul_add, Int.mul_one] at hk
      omega
    have hcd : 0 ≤ c * (ds.length : Int) := Int.mul_nonneg hc (by omega)
    obtain ⟨x, m1, l, g1, g2, g3, g4⟩ := h2 d List.mem_cons_self k m hm ha (by omega)
    obtain ⟨xs, m2, i1, i2, i3, i4, i5⟩ := lcF_draw c hc K P e1 ds (acc ++ [x]) (k + c) m1 g3 g4 (fun d hd => h1 d (List.mem_cons_of_mem _ hd)) (fun d hd => h2 d (List.mem_cons_of_mem _ hd)) (by omega) (by simp at hl ⊢; omega)
    have hs : acc.length < sizeLine := by simp at hl; omega
    refine ⟨x :: xs, m2, ?_, by simp [i2], fun y hy => ?_, ?_, i5⟩
    · simp only [lcF, h1 d List.mem_cons_self, eYes, g1, hs, if_true, i1]
      simp
    · rcases List.mem_cons.mp hy with rfl | hy
      · exact g2
      · exact i3 y hy
    · rw [List.length_cons, show ((ds.length + 1 : Nat) : Int) = (ds.length : Int) + 1 by omega, Int.mul_add, Int.mul_one, show k + (c * ds.length + c) = k + c + c * ds.length by omega]
      exact i4
theorem list_of {α : Type} (g : α → D) (Q : α → Prop) : ∀ (xs : List D), (∀ x ∈ xs, ∃ a, x = g a ∧ Q a) → ∃ as : List α, xs = as.map g ∧ ∀ a ∈ as, Q a
  | [], _ => ⟨[], rfl, fun a h => by cases h⟩
  | x :: xs, h => by
    obtain ⟨a, rfl, q⟩ := h x List.mem_cons_self
    obtain ⟨as, rfl, h2⟩ := list_of g Q xs fun y hy => h y (List.mem_cons_of_mem _ hy)
    exact ⟨a :: as, rfl, fun b hb => by
      rcases List.mem_cons.mp hb with rfl | hb
      · exact q
      · exact h2 b hb⟩
def entF (R : List (List Int)) : Mx := fun i j => (R.getD i []).getD j 0
theorem map_range_getD {α : Type} (d : α) (g : α → D) : ∀ (r : List α), (List.range r.length).map (fun i => g (r.getD i d)) = r.map g := fun r => by
  apply List.ext_getElem
  · simp
  · intro i h1 h2
    have hi : i < r.length := by simpa using h2
    simp [hi]
theorem ent_tm {n : Nat} {R : List (List Int)} (h1 : R.length = n) (h2 : ∀ r ∈ R, r.length = n) : TM n (entF R) = .tup (R.map fun r => .tup (r.map D.int)) := by
  unfold TM rowD entF
  congr 1
  rw [← map_range_getD [] (fun r => D.tup (r.map D.int)) R, h1]
  refine List.map_congr_left fun i hi => ?_
  have hi' : i < R.length := by rw [h1]; exact List.mem_range.mp hi
  have hr : R.getD i [] ∈ R := by
    rw [List.getD_eq_getElem?_getD, List.getElem?_eq_getElem hi']
    exact List.getElem_mem hi'
  congr 1
  have := map_range_getD 0 D.int (R.getD i [])
  rw [h2 _ hr] at this
  exact this
theorem ent_su {n : Nat} {R : List (List Int)} (h1 : R.length = n) (h2 : ∀ r ∈ R, r.length = n) : Su n (entF R) := fun i j h => by
  unfold entF
  by_cases hi : i < R.length
  · have hr : R.getD i [] ∈ R := by
      rw [List.getD_eq_getElem?_getD, List.getElem?_eq_getElem hi]
      exact List.getElem_mem hi
    have hj : (R.getD i []).length ≤ j := by
      rw [h2 _ hr]
      rcases Nat.lt_or_ge j n with z | z
      · exact absurd ⟨by omega, z⟩ h
      · exact z
    rw [List.getD_eq_getElem?_getD, List.getElem?_eq_none hj]
    rfl
  · rw [List.getD_eq_getElem?_getD (l := R), List.getElem?_eq_none (by omega)]
    rfl
theorem ent_all {P : Int → Prop} (h0 : P 0) {R : List (List Int)} (h : ∀ r ∈ R, ∀ x ∈ r, P x) (i j : Nat) : P (entF R i j) := by
  unfold entF
  by_cases hi : i < R.length
  · have hr : R.getD i [] ∈ R := by
      rw [List.getD_eq_getElem?_getD, List.getElem?_eq_getElem hi]
      exact List.getElem_mem hi
    by_cases hj : j < (R.getD i []).length
    · refine h _ hr _ ?_
      rw [List.getD_eq_getElem?_getD (l := R.getD i []), List.getElem?_eq_getElem hj]
      exact List.getElem_mem hj
    · rw [List.getD_eq_getElem?_getD (l := R.getD i []), List.getElem?_eq_none (by omega)]
      exact h0
  · rw [List.getD_eq_getElem?_getD (l := R), List.getElem?_eq_none (by omega)]
    exact h0
/-- a matrix drawn entry by entry -/
theorem drawn_tm {n : Nat} (hn : n ≤ 12) {fi1 fi2 : EI} {fe : EF} {s1 s2 : Nat} {env : Env} {am : Addr} {k : Int} {m : MSt} (hm : Mk k m) (ha : m.am = am) (c : Int) (hc : 0 ≤ c ∧ c ≤ 1000) (hk : k ≤ 2 ^ 47) (B : Int → Prop) (h0 : B 0) (e1 : D → Env) (e2 : D → D → Env)
    (hf1 : fi1 env (some m) = .ok true ((List.range n).map fun (i : Nat) => D.int (i : Int)) (some m)) (hg1 : ∀ d, gpN s1 d (wipeE env [s1]) = some (e1 d)) (hf2 : ∀ d m, fi2 (e1 d) (some m) = .ok true ((List.range n).map fun (i : Nat) => D.int (i : Int)) (some m)) (hg2 : ∀ d d2, gpN s2 d2 (wipeE (e1 d) [s2]) = some (e2 d d2))
    (hfe : ∀ d d2 (k : Int) (m : MSt), Mk k m → m.am = am → k ≤ 2 ^ 49 → ∃ v m' l, fe (e2 d d2) (some m) = .ok (.o l) (.int v) (some m') ∧ B v ∧ Mk (k + c) m' ∧ m'.am = am) :
    ∃ f m', eC1 gTuple (eLc (gpN s1) fi1 eYes (eC1 gTuple (eLc (gpN s2) fi2 eYes fe [s2])) [s1]) env (some m) = .ok (.o 0) (TM n f) (some m') ∧ Su n f ∧ (∀ i j, B (f i j)) ∧ Mk (k + 144000) m' ∧ m'.am = am := by
  have hcn : 0 ≤ c * (n : Int) := Int.mul_nonneg hc.1 (by omega)
  have hcn2 : c * (n : Int) ≤ 1000 * 12 := Int.mul_le_mul hc.2 (by omega) (by omega) (by omega)
  have inner : ∀ d (k : Int) (m : MSt), Mk k m → m.am = am → k ≤ 2 ^ 48 → ∃ x m' l, eC1 gTuple (eLc (gpN s2) fi2 eYes fe [s2]) (e1 d) (some m) = .ok (.o l) x (some m') ∧ (∃ r : List Int, x = .tup (r.map D.int) ∧ (r.length = n ∧ ∀ v ∈ r, B v)) ∧ Mk (k + 12000) m' ∧ m'.am = am := by
    intro d k m hm ha hk
    obtain ⟨xs, m', i1, i2, i3, i4, i5⟩ := lcF_draw (gp := gpN s2) (fe := fe) (vs := [s2]) (env := e1 d) (am := am) c hc.1 (2 ^ 49) (fun x => ∃ v, x = .int v ∧ B v) (e2 d) ((List.range n).map fun (i : Nat) => D.int (i : Int)) [] k m hm ha (fun d2 _ => hg2 d d2)
      (fun d2 _ k m hm ha hk => by
        obtain ⟨v, m', l, a1, a2, a3, a4⟩ := hfe d d2 k m hm ha hk
        exact ⟨.int v, m', l, a1, ⟨v, rfl, a2⟩, a3, a4⟩) (by simp; omega) (by rw [sizeLine_eq]; simp; omega)
    obtain ⟨r, rfl, hr⟩ := list_of D.int B xs i3
    refine ⟨_, m', 0, tup_ok ((eLc_ok (hf2 d m)).trans i1), ⟨r, rfl, by simpa using i2, hr⟩, i4.le ?_, i5⟩
    simp only [List.length_map, List.length_range]
    omega
  obtain ⟨xs, m', i1, i2, i3, i4, i5⟩ := lcF_draw (gp := gpN s1) (fe := eC1 gTuple (eLc (gpN s2) fi2 eYes fe [s2])) (vs := [s1]) (env := env) (am := am) 12000 (by omega) (2 ^ 48) (fun x => ∃ r : List Int, x = .tup (r.map D.int) ∧ (r.length = n ∧ ∀ v ∈ r, B v)) e1 ((List.range n).map fun (i : Nat) => D.int (i : Int)) [] k m hm ha (fun d _ => hg1 d)
    (fun d _ k m hm ha hk => inner d k m hm ha hk) (by simp; omega) (by rw [sizeLine_eq]; simp; omega)
  obtain ⟨R, rfl, hR⟩ := list_of (fun r : List Int => D.tup (r.map D.int)) (fun r => r.length = n ∧ ∀ v ∈ r, B v) xs i3
  have hl : R.length = n := by simpa using i2
  refine ⟨entF R, m', ?_, ent_su hl fun r hr => (hR r hr).1, ent_all h0 fun r hr => (hR r hr).2, i4.le ?_, i5⟩
  · rw [ent_tm hl fun r hr => (hR r hr).1]
    exact tup_ok ((eLc_ok hf1).trans i1)
  · simp only [List.length_map, List.length_range]
    omega
theorem sp_drawn {n : Nat} (hn : n ≤ 12) {most k : Int} (h1 : 0 ≤ most ∧ most ≤ 1000) {m : MSt} (hm : Mk k m) (hk : k ≤ 2 ^ 46) : ∃ f m', r__law_drawn_matrix [.raw (.ref m.am), .int (n : Int), .int most] (some m) = .ok (TM n f) (some m') ∧ Su n f ∧ (∀ i j, -most ≤ f i j ∧ f i j ≤ most) ∧ Mk (k + 144001) m' ∧ m'.am = m.am := by
  obtain ⟨v, m1, d1, d2, d3, d4, d5⟩ := sp_draw (l := 4) hm (by omega) (by omega)
  have e0 : startE 6 [D.raw (.ref m.am), .int (n : Int), .int most] = [some (0, .raw (.ref m.am)), some (0, .int (n : Int)), some (0, .int most), none, none, none] := rfl
  have c1 : eBinS gAdd (eC (.int 1)) (eCall 2 r__law_draw [] (lCons (eVar 0) (lCons (eC (.int 4)) lNil))) [some (0, .raw (.ref m.am)), some (0, .int (n : Int)), some (0, .int most), none, none, none] (some m) = .ok (.o 0) (.int (1 + v)) (some m1) :=
    add_int (l1 := .o 0) (l2 := .o 0) (m1 := some m) rfl (eCall2_ok (m1 := some m) (m2 := some m) (k1 := 0) (k2 := 0) rfl rfl d1)
  obtain ⟨f, m2, g1, g2, g3, g4, g5⟩ := drawn_tm (n := n) hn (fi1 := fun env ms => ((lCons (eVar 1) lNil) env ms).bindI iR1) (fi2 := fun env ms => ((lCons (eVar 1) lNil) env ms).bindI iR1) (s1 := 4) (s2 := 5)
    (fe := eIf (eBin gLt (eCall 2 r__law_draw [] (lCons (eVar 0) (lCons (eC (.int 4)) lNil))) (eVar 3)) (eBin gSub (eCall 2 r__law_draw [] (lCons (eVar 0) (lCons (eBinS gAdd (eBinS gMul (eC (.int 2)) (eVar 2)) (eC (.int 1))) lNil))) (eVar 2)) (eC (.int 0)))
    (env := [some (0, .raw (.ref m.am)), some (0, .int (n : Int)), some (0, .int most), some (0, .int (1 + v)), none, none]) (am := m.am) (k := k + 1) (m := m1) d4 d5 2 (by omega) (by omega) (fun x => -most ≤ x ∧ x ≤ most) (by omega)
    (fun d => [some (0, .raw (.ref m.am)), some (0, .int (n : Int)), some (0, .int most), some (0, .int (1 + v)), some (0, d), none]) (fun d d2 => [some (0, .raw (.ref m.am)), some (0, .int (n : Int)), some (0, .int most), some (0, .int (1 + v)), some (0, d), some (0, d2)])
    (fi_range rfl (by omega)) (fun d => rfl) (fun d m => fi_range rfl (by omega)) (fun d d2 => rfl) (fun d d2 k2 m2 hm2 ha2 hk2 => by
      obtain ⟨v2, m3, p1, p2, p3, p4, p5⟩ := sp_draw (l := 4) hm2 (by omega) (by omega)
      rw [ha2] at p1
      have t1 : eBin gLt (eCall 2 r__law_draw [] (lCons (eVar 0) (lCons (eC (.int 4)) lNil))) (eVar 3) [some (0, .raw (.ref m.am)), some (0, .int (n : Int)), some (0, .int most), some (0, .int (1 + v)), some (0, d), some (0, d2)] (some m2) = .ok (.o 0) (.bl (decide (v2 < 1 + v))) (some m3) := by
        rw [eq_d (l1 := .o 0) (eCall2_ok (m1 := some m2) (m2 := some m2) (k1 := 0) (k2 := 0) (o := .ok (.int v2) (some m3)) rfl rfl p1) rfl]
        rfl
      cases z : decide (v2 < 1 + v) with
      | false =>
        rw [z] at t1
        exact ⟨0, m3, 0, (eIf_f t1).trans rfl, by omega, p4.le (by omega), p5.trans ha2⟩
      | true =>
        rw [z] at t1
        obtain ⟨v3, m4, q1, q2, q3, q4, q5⟩ := sp_draw (l := 2 * most + 1) p4 (by omega) (by omega)
        rw [p5, ha2] at q1
        refine ⟨v3 - most, m4, 0, (eIf_t t1).trans ?_, by omega, q4.le (by omega), q5.trans (p5.trans ha2)⟩
        rw [eq_d (l1 := .o 0) (eCall2_ok (d1 := .raw (.ref m.am)) (d2 := .int (2 * most + 1)) (m1 := some m3) (m2 := some m3) (k1 := 0) (k2 := 0) (o := .ok (.int v3) (some m4)) rfl (add_int (l1 := .o 0) (l2 := .o 0) (m1 := some m3) (mul_ok (l1 := .o 0) (l2 := .o 0) (m1 := some m3) rfl rfl (mulOk_l _ (by omega))) rfl) q1) rfl]
        rfl)
  refine ⟨f, m2, ?_, g2, g3, g4.le (by omega), g5⟩
  have s1 := sSet_ok (i := 3) c1
  unfold r__law_drawn_matrix runD
  rw [e0, sSeq_nx s1]
  exact fin_ret (ret_ok g1)
def wD (w : List Int) : D := .tup (w.map D.int)
theorem toPyL_words : ∀ ws : List (List Int), toPyL (ws.map wD) = some (ws.map fun w => PyData.tuple (w.map PyData.int))
  | [] => rfl
  | w :: ws => by
    have e : toPy (wD w) = some (.tuple (w.map PyData.int)) := by
      show (toPyL (w.map D.int)).map _ = _
      rw [toPyL_ints]
      rfl
    simp [toPyL, e, toPyL_words ws]
theorem canLay_words : ∀ ws : List (List Int), PyData.canLayAll0 (ws.map fun w => PyData.tuple (w.map PyData.int)) = true
  | [] => by simp [PyData.canLayAll0]
  | w :: ws => by simp [PyData.canLayAll0, PyData.canLay0, canLay_ints, canLay_words ws]
theorem depth_words : ∀ ws : List (List Int), PyData.depthAll (ws.map fun w => PyData.tuple (w.map PyData.int)) ≤ 1
  | [] => by simp [PyData.depthAll]
  | w :: ws => by
    have := depth_words ws
    simp [PyData.depthAll, PyData.depth, depth_ints]
    omega
theorem eqvAll_words : ∀ ws : List (List Int), PyData.eqvAll (ws.map fun w => PyData.tuple (w.map PyData.int)) (ws.map fun w => PyData.tuple (w.map PyData.int)) = true
  | [] => by simp [PyData.eqvAll]
  | w :: ws => by simp [PyData.eqvAll, PyData.eqv, eqvAll_ints, eqvAll_words ws]
theorem deq_rows (ws : List (List Int)) : deq (.tup (ws.map wD)) (.tup (ws.map wD)) = some true := by
  have e1 : toPy (.tup (ws.map wD)) = some (.tuple (ws.map fun w => PyData.tuple (w.map PyData.int))) := by
    show (toPyL (ws.map wD)).map _ = _
    rw [toPyL_words]
    rfl
  have s1 : SeqAt.shaped (.tuple (ws.map fun w => PyData.tuple (w.map PyData.int))) = true := by
    have := depth_words ws
    simp [SeqAt.shaped, PyData.canLay0, PyData.depth, canLay_words]
    omega
  unfold deq
  rw [e1]
  dsimp only
  rw [s1]
  simp [PyData.eqv, eqvAll_words]
theorem tm_rows (n : Nat) (f : Mx) : TM n f = .tup (((List.range n).map fun i => (List.range n).map (f i)).map wD) := by
  unfold TM rowD
  rw [List.map_map]
  congr 1
  refine List.map_congr_left fun i _ => ?_
  show _ = D.tup (((List.range n).map (f i)).map D.int)
  rw [List.map_map]
  rfl
theorem deq_tm (n : Nat) (f : Mx) : deq (TM n f) (TM n f) = some true := by
  rw [tm_rows]
  exact deq_rows _
theorem lk_tm {n : Nat} (hn : n ≤ 12) (k : Nat) (f : Mx) : lk (k + 3) (TM n f) := lk_tup _ (by simp; omega) fun x hx => by
  obtain ⟨i, _, rfl⟩ := List.mem_map.mp hx
  exact lk_tup _ (by simp; omega) fun y hy => by
    obtain ⟨j, _, rfl⟩ := List.mem_map.mp hy
    exact lk_int _ _
theorem lk_all (n : Nat) {ds : List D} (hl : ds.length ≤ 1000) (h : ∀ x ∈ ds, lk n x) : lk (n + 1) (.lst ds) := lk_lst _ (by omega) h
theorem like_ok {f1 f2 : EF} {env : Env} {ms m1 m2 : MS} {k1 k2 : Nat} {d : D} (h1 : f1 env ms = .ok (.o k1) d m1) (h2 : f2 env m1 = .ok (.o k2) d m2) (hl : lk 10 d) : eCall 2 r__law_like [] (lCons f1 (lCons f2 lNil)) env ms = .ok (.o 0) (.bl true) m2 :=
  eCall2_ok h1 h2 (o := .ok (.bl true) m2) (sp_like 10 d m2 hl)
theorem eCallKw_ok {n nk : Nat} {g : Fn} {gp : {α : Type} → List α → List α → List α} {fk : EL} {env : Env} {ms m : MS} {es : List D} {o : FOut} (h : fk env ms = .ok es m) (hl : es.length = nk) (hl2 : (gp [] es).length = n) (hg : g (gp [] es) m = o) : eCallK n g 0 nk gp lNil fk env ms = o.e := by
  unfold eCallK lNil OutL.bind
  dsimp only
  rw [h]
  dsimp only
  rw [if_pos ⟨rfl, hl, hl2⟩, hg]
theorem ix_lst {fa fb : EF} {env : Env} {ms m1 m2 : MS} {l2 : Fl} {ds : List D} {k : Nat} {d : D} (h1 : fa env ms = .ok (.o 0) (.lst ds) m1) (h2 : fb env m1 = .ok l2 (.int (k : Int)) m2) (h : ds[k]? = some d) : eBinS gIx fa fb env ms = .ok (.o 0) d m2 := by
  rw [eIx_ok h1 h2]
  exact gIx_lst _ _ (by rw [atI_pos, h])
theorem ix_lst1 {fa fb : EF} {env : Env} {ms m1 m2 : MS} {l2 : Fl} {ds : List D} {k : Nat} {d : D} (h1 : fa env ms = .ok (.o 0) (.lst ds) m1) (h2 : fb env m1 = .ok l2 (.int (k : Int)) m2) (h : ds[k]? = some d) : eBinS gIx fa fb env ms = .ok (.o 0) d m2 := ix_lst h1 h2 h
theorem small_let {f : Mx} {b : Int} (hb : b ≤ 40) (h : ∀ i j, -b ≤ f i j ∧ f i j ≤ b) : Let f := fun i j => by
  have := h i j
  omega
theorem small_bx {f : Mx} {b : Int} (hb : b ≤ 40) (h : ∀ i j, -b ≤ f i j ∧ f i j ≤ b) : Bx 6 f := fun i j => by
  have := h i j
  have e : (2 : Nat) ^ 6 = 64 := by decide
  omega
theorem sp_right {k : Int} {m : MSt} (hm : Mk k m) (hk : k ≤ 2 ^ 44) : ∃ m', r__law_right [.raw (.ref m.am)] (some m) = .ok (.bl true) (some m') ∧ Mk (k + 500000) m' ∧ m'.am = m.am := by
  obtain ⟨v, m1, a1, a2, a3, a4, a5⟩ := sp_draw (l := 5) hm (by omega) (by omega)
  obtain ⟨n, rfl⟩ : ∃ n : Nat, v = (n : Int) := ⟨v.toNat, by omega⟩
  have hn : n ≤ 12 := by omega
  obtain ⟨md, m2, b1, b2, b3, b4⟩ := sp_of (ds := [.int 1, .int 3, .int 40]) a4 (by omega) (by simp) (by simp)
  obtain ⟨most, rfl, hmost⟩ : ∃ x : Int, md = .int x ∧ (0 ≤ x ∧ x ≤ 40) := by
    simp only [List.mem_cons, List.not_mem_nil, or_false] at b1
    rcases b1 with rfl | rfl | rfl
    · exact ⟨1, rfl, by omega⟩
    · exact ⟨3, rfl, by omega⟩
    · exact ⟨40, rfl, by omega⟩
  obtain ⟨f, m3, c1, c2, c3, c4, c5⟩ := sp_drawn hn (most := most) (by omega) b3 (by omega)
  obtain ⟨g, m4, d1, d2, d3, d4, d5⟩ := sp_drawn hn (most := most) (by omega) c4 (by omega)
  obtain ⟨h, m5, e1, e2, e3, e4, e5⟩ := sp_drawn hn (most := 2) (by omega) d4 (by omega)
  obtain ⟨lv, m6, f1, f2, f3, f4, f5⟩ := sp_draw (l := 9) e4 (by omega) (by omega)
  obtain ⟨L, rfl⟩ : ∃ n : Nat, lv = (n : Int) := ⟨lv.toNat, by omega⟩
  rw [a5] at b2
  rw [b4, a5] at c1
  rw [c5, b4, a5] at d1
  rw [d5, c5, b4, a5] at e1
  rw [e5, d5, c5, b4, a5] at f1
  refine ⟨m6, ?_, f4.le (by omega), by rw [f5, e5, d5, c5, b4, a5]⟩
  have xf := small_bx hmost.2 c3
  have xg := small_bx hmost.2 d3
  have xh := small_bx (by omega : (2 : Int) ≤ 40) e3
  have lf := small_let hmost.2 c3
  have lg := small_let hmost.2 d3
  have e0 : startE 11 [D.raw (.ref m.am)] = [some (0, .raw (.ref m.am)), none, none, none, none, none, none, none, none, none, none] := rfl
  have s1 : sPar 1 2 (lCons (eCall 2 r__law_draw [] (lCons (eVar 0) (lCons (eC (.int 5)) lNil))) (lCons (eCall 2 r__law_of [] (lCons (eVar 0) (lCons (eLst (lCons (eC (.int 1)) (lCons (eC (.int 3)) (lCons (eC (.int 40)) lNil)))) lNil))) lNil)) [some (0, .raw (.ref m.am)), none, none, none, none, none, none, none, none, none, none] (some m) =
      .nx [some (0, .raw (.ref m.am)), some (0, .int (n : Int)), some (0, .int most), none, none, none, none, none, none, none, none] (some m2) :=
    sPar_ok (lCons_ok (k := 0) (eCall2_ok (m1 := some m) (m2 := some m) (k1 := 0) (k2 := 0) (o := .ok (.int (n : Int)) (some m1)) rfl rfl a1) (lCons_ok (k := 0) (eCall2_ok (m1 := some m1) (m2 := some m1) (k1 := 0) (k2 := 1) (o := .ok (.int most) (some m2)) rfl rfl b2) rfl))
  have s2 : sPar3 3 4 5 (lCons (eCall 3 r__law_drawn_matrix [] (lCons (eVar 0) (lCons (eVar 1) (lCons (eVar 2) lNil)))) (lCons (eCall 3 r__law_drawn_matrix [] (lCons (eVar 0) (lCons (eVar 1) (lCons (eVar 2) lNil)))) (lCons (eCall 3 r__law_drawn_matrix [] (lCons (eVar 0) (lCons (eVar 1) (lCons (eC (.int 2)) lNil)))) lNil))) [some (0, .raw (.ref m.am)), some (0, .int (n : Int)), some (0, .int most), none, none, none, none, none, none, none, none] (some m2) =
      .nx [some (0, .raw (.ref m.am)), some (0, .int (n : Int)), some (0, .int most), some (0, TM n f), some (0, TM n g), some (0, TM n h), none, none, none, none, none] (some m5) :=
    sPar3_ok (lCons_ok (k := 0) (eCall3_ok (m1 := some m2) (m2 := some m2) (m3 := some m2) (k1 := 0) (k2 := 0) (k3 := 0) (o := .ok (TM n f) (some m3)) rfl rfl rfl c1) (lCons_ok (k := 0) (eCall3_ok (m1 := some m3) (m2 := some m3) (m3 := some m3) (k1 := 0) (k2 := 0) (k3 := 0) (o := .ok (TM n g) (some m4)) rfl rfl rfl d1)
      (lCons_ok (k := 0) (eCall3_ok (m1 := some m4) (m2 := some m4) (m3 := some m4) (k1 := 0) (k2 := 0) (k3 := 0) (o := .ok (TM n h) (some m5)) rfl rfl rfl e1) rfl)))
  have s3 : sPar 6 7 (lCons (eCall 2 r__law_times [] (lCons (eCall 2 r__law_times [] (lCons (eVar 3) (lCons (eVar 4) lNil))) (lCons (eVar 5) lNil))) (lCons (eCall 2 r__law_times [] (lCons (eVar 3) (lCons (eCall 2 r__law_times [] (lCons (eVar 4) (lCons (eVar 5) lNil))) lNil))) lNil)) [some (0, .raw (.ref m.am)), some (0, .int (n : Int)), some (0, .int most), some (0, TM n f), some (0, TM n g), some (0, TM n h), none, none, none, none, none] (some m5) =
      .nx [some (0, .raw (.ref m.am)), some (0, .int (n : Int)), some (0, .int most), some (0, TM n f), some (0, TM n g), some (0, TM n h), some (0, TM n (mulF n (mulF n f g) h)), some (0, TM n (mulF n (mulF n f g) h)), none, none, none] (some m5) :=
    sPar_ok (lCons_ok (k := 0) (eCall2_ok (m1 := some m5) (m2 := some m5) (k1 := 0) (k2 := 0) (o := .ok (TM n (mulF n (mulF n f g) h)) (some m5)) (eCall2_ok (m1 := some m5) (m2 := some m5) (k1 := 0) (k2 := 0) (o := .ok (TM n (mulF n f g)) (some m5)) rfl rfl (sp_times hn xf xg (by omega) _)) rfl (sp_times hn (mul_bx hn xf xg) xh (by omega) _))
      (lCons_ok (k := 0) (eCall2_ok (m1 := some m5) (m2 := some m5) (k1 := 0) (k2 := 0) (o := .ok (TM n (mulF n (mulF n f g) h)) (some m5)) rfl (eCall2_ok (m1 := some m5) (m2 := some m5) (k1 := 0) (k2 := 0) (o := .ok (TM n (mulF n g h)) (some m5)) rfl rfl (sp_times hn xg xh (by omega) _)) (by rw [mul_assoc']; exact sp_times hn xf (mul_bx hn xg xh) (by omega) _)) rfl))
  have s4 : sSet 8 (eLst (lCons (eCall 2 r_matrix_times [] (lCons (eVar 3) (lCons (eVar 4) lNil))) (lCons (eCallK 2 r_matrix_times 0 2 gp_matrix_times_other_matrix lNil (lCons (eVar 3) (lCons (eVar 4) lNil))) (lCons (eCallK 1 r_need_matrix 0 1 gp_need_matrix_matrix lNil (lCons (eVar 3) lNil)) lNil)))) [some (0, .raw (.ref m.am)), some (0, .int (n : Int)), some (0, .int most), some (0, TM n f), some (0, TM n g), some (0, TM n h), some (0, TM n (mulF n (mulF n f g) h)), some (0, TM n (mulF n (mulF n f g) h)), none, none, none] (some m5) =
      .nx [some (0, .raw (.ref m.am)), some (0, .int (n : Int)), some (0, .int most), some (0, TM n f), some (0, TM n g), some (0, TM n h), some (0, TM n (mulF n (mulF n f g) h)), some (0, TM n (mulF n (mulF n f g) h)), some (1, .lst [TM n (mulF n f g), TM n (mulF n g f), TM n f]), none, none] (some m5) :=
    sSet_ok (k := 1) (eLst_ok (lCons_ok (k := 0) (eCall2_ok (m1 := some m5) (m2 := some m5) (k1 := 0) (k2 := 0) (o := .ok (TM n (mulF n f g)) (some m5)) rfl rfl (sp_matrix_times hn lf lg _)) (lCons_ok (k := 0) (eCallKw_ok (es := [TM n f, TM n g]) (m := some m5) (o := .ok (TM n (mulF n g f)) (some m5)) rfl rfl rfl (sp_matrix_times hn lg lf _))
      (lCons_ok (k := 0) (eCallKw_ok (es := [TM n f]) (m := some m5) (o := .ok (TM n f) (some m5)) rfl rfl rfl (need_tm hn lf _)) rfl))) (by rw [sizeLine_eq]; show 3 ≤ 16777216; omega))
  have s5 : sFrz 8 (sIf (eOr (eBin gNe (eVar 6) (eVar 7)) (eNot (eTru (eCall 2 r__law_like [] (lCons (eVar 8) (lCons (eLst (lCons (eCall 2 r__law_times [] (lCons (eVar 3) (lCons (eVar 4) lNil))) (lCons (eCall 2 r__law_times [] (lCons (eVar 4) (lCons (eVar 3) lNil))) (lCons (eVar 3) lNil)))) lNil)))))) (sRet (eC (.bl false))) sNil)
      [some (0, .raw (.ref m.am)), some (0, .int (n : Int)), some (0, .int most), some (0, TM n f), some (0, TM n g), some (0, TM n h), some (0, TM n (mulF n (mulF n f g) h)), some (0, TM n (mulF n (mulF n f g) h)), some (1, .lst [TM n (mulF n f g), TM n (mulF n g f), TM n f]), none, none] (some m5) =
      .nx [some (0, .raw (.ref m.am)), some (0, .int (n : Int)), some (0, .int most), some (0, TM n f), some (0, TM n g), some (0, TM n h), some (0, TM n (mulF n (mulF n f g) h)), some (0, TM n (mulF n (mulF n f g) h)), some (0, .lst [TM n (mulF n f g), TM n (mulF n g f), TM n f]), none, none] (some m5) := by
    refine sIf_skip (fl := .o 0) ?_
    rw [eOr_f (fl := .o 0) (m := some m5)]
    · exact eNot_ok (b := true) (fl := .o 0) (eTru_ok (fl := .o 0) (like_ok (m1 := some m5) (k1 := 0) (k2 := 1) (d := .lst [TM n (mulF n f g), TM n (mulF n g f), TM n f]) rfl (eLst_ok (lCons_ok (k := 0) (eCall2_ok (m1 := some m5) (m2 := some m5) (k1 := 0) (k2 := 0) (o := .ok (TM n (mulF n f g)) (some m5)) rfl rfl (sp_times hn xf xg (by omega) _))
        (lCons_ok (k := 0) (eCall2_ok (m1 := some m5) (m2 := some m5) (k1 := 0) (k2 := 0) (o := .ok (TM n (mulF n g f)) (some m5)) rfl rfl (sp_times hn xg xf (by omega) _)) (lCons_ok (k := 0) (d := TM n f) (m := some m5) (m2 := some m5) (ds := []) rfl rfl))) (by rw [sizeLine_eq]; show 3 ≤ 16777216; omega))
        (lk_all _ (by simp) fun x hx => by
          simp only [List.mem_cons, List.not_mem_nil, or_false] at hx
          rcases hx with rfl | rfl | rfl <;> exact lk_tm hn 6 _)))
    · rw [eq_d (l1 := .o 0) (l2 := .o 0) (a := TM n (mulF n (mulF n f g) h)) (b := TM n (mulF n (mulF n f g) h)) (m1 := some m5) (m2 := some m5) rfl rfl]
      unfold gNe
      rw [deq_tm]
      rfl
  have s6 : sSet 9 (eCall 2 r__law_draw [] (lCons (eVar 0) (lCons (eC (.int 9)) lNil))) [some (0, .raw (.ref m.am)), some (0, .int (n : Int)), some (0, .int most), some (0, TM n f), some (0, TM n g), some (0, TM n h), some (0, TM n (mulF n (mulF n f g) h)), some (0, TM n (mulF n (mulF n f g) h)), some (0, .lst [TM n (mulF n f g), TM n (mulF n g f), TM n f]), none, none] (some m5) =
      .nx [some (0, .raw (.ref m.am)), some (0, .int (n : Int)), some (0, .int most), some (0, TM n f), some (0, TM n g), some (0, TM n h), some (0, TM n (mulF n (mulF n f g) h)), some (0, TM n (mulF n (mulF n f g) h)), some (0, .lst [TM n (mulF n f g), TM n (mulF n g f), TM n f]), some (0, .int (L : Int)), none] (some m6) :=
    sSet_ok (k := 0) (eCall2_ok (m1 := some m5) (m2 := some m5) (k1 := 0) (k2 := 0) (o := .ok (.int (L : Int)) (some m6)) rfl rfl f1)
  have add3 : ∀ (env : Env), env[9]? = some (some (0, .int (L : Int))) → eBinS gAdd (eVar 9) (eC (.int 3)) env (some m6) = .ok (.o 0) (.int ((L + 3 : Nat) : Int)) (some m6) := fun env he => by
    have h0 : eVar 9 env (some m6) = .ok (.o 0) (.int (L : Int)) (some m6) := by
      unfold eVar
      rw [he]
    rw [add_int h0 rfl]
    rfl
  have s7 : sSet 10 (eCall 2 r__law_powers [] (lCons (eVar 3) (lCons (eBinS gAdd (eVar 9) (eC (.int 3))) lNil))) [some (0, .raw (.ref m.am)), some (0, .int (n : Int)), some (0, .int most), some (0, TM n f), some (0, TM n g), some (0, TM n h), some (0, TM n (mulF n (mulF n f g) h)), some (0, TM n (mulF n (mulF n f g) h)), some (0, .lst [TM n (mulF n f g), TM n (mulF n g f), TM n f]), some (0, .int (L : Int)), none] (some m6) =
      .nx [some (0, .raw (.ref m.am)), some (0, .int (n : Int)), some (0, .int most), some (0, TM n f), some (0, TM n g), some (0, TM n h), some (0, TM n (mulF n (mulF n f g) h)), some (0, TM n (mulF n (mulF n f g) h)), some (0, .lst [TM n (mulF n f g), TM n (mulF n g f), TM n f]), some (0, .int (L : Int)), some (0, pwL n f (L + 3 + 1))] (some m6) :=
    sSet_ok (k := 0) (eCall2_ok (d1 := TM n f) (m1 := some m6) (m2 := some m6) (k1 := 0) (k2 := 0) (o := .ok (pwL n f (L + 3 + 1)) (some m6)) rfl (add3 _ rfl) (sp_powers hn xf (L + 3) (by omega) (by omega) _))
  have s8 : sSet 8 (eLst (lCons (eCall 2 r_matrix_power [] (lCons (eVar 3) (lCons (eVar 9) lNil))) (lCons (eCallK 2 r_matrix_power 0 2 gp_matrix_power_length_matrix lNil (lCons (eBinS gAdd (eVar 9) (eC (.int 3))) (lCons (eVar 3) lNil))) (lCons (eCall 2 r_matrix_power [] (lCons (eVar 3) (lCons (eC (.int 0)) lNil))) (lCons (eCall 2 r_matrix_power [] (lCons (eVar 3) (lCons (eC (.int 1)) lNil))) lNil))))) [some (0, .raw (.ref m.am)), some (0, .int (n : Int)), some (0, .int most), some (0, TM n f), some (0, TM n g), some (0, TM n h), some (0, TM n (mulF n (mulF n f g) h)), some (0, TM n (mulF n (mulF n f g) h)), some (0, .lst [TM n (mulF n f g), TM n (mulF n g f), TM n f]), some (0, .int (L : Int)), some (0, pwL n f (L + 3 + 1))] (some m6) =
      .nx [some (0, .raw (.ref m.am)), some (0, .int (n : Int)), some (0, .int most), some (0, TM n f), some (0, TM n g), some (0, TM n h), some (0, TM n (mulF n (mulF n f g) h)), some (0, TM n (mulF n (mulF n f g) h)), some (1, .lst [TM n (powF n f L), TM n (powF n f (L + 3)), TM n (oneF n), TM n f]), some (0, .int (L : Int)), some (0, pwL n f (L + 3 + 1))] (some m6) :=
    sSet_ok (k := 1) (eLst_ok (lCons_ok (k := 0) (eCall2_ok (m1 := some m6) (m2 := some m6) (k1 := 0) (k2 := 0) (o := .ok (TM n (powF n f L)) (some m6)) rfl rfl (sp_matrix_power hn c2 lf L (by omega) _)) (lCons_ok (k := 0) (eCallKw_ok (es := [.int ((L + 3 : Nat) : Int), TM n f]) (m := some m6) (o := .ok (TM n (powF n f (L + 3))) (some m6)) (lCons_ok (add3 _ rfl) (lCons_ok (k := 0) (d := TM n f) (m := some m6) (ds := []) rfl rfl)) rfl rfl (sp_matrix_power hn c2 lf (L + 3) (by omega) _))
      (lCons_ok (k := 0) (eCall2_ok (m1 := some m6) (m2 := some m6) (k1 := 0) (k2 := 0) (o := .ok (TM n (oneF n)) (some m6)) rfl rfl (sp_matrix_power hn c2 lf 0 (by omega) _)) (lCons_ok (k := 0) (eCall2_ok (m1 := some m6) (m2 := some m6) (k1 := 0) (k2 := 0) (o := .ok (TM n f) (some m6)) rfl rfl ((sp_matrix_power hn c2 lf 1 (by omega) _).trans (by rw [pow_one c2]))) rfl)))) (by rw [sizeLine_eq]; show 4 ≤ 16777216; omega))
  have hat : ∀ j, j < L + 3 + 1 → ((List.range (L + 3 + 1)).map fun i => TM n (powF n f i))[j]? = some (TM n (powF n f j)) := fun j hj => range_at _ hj
  have s9 : sFrz 8 (sIf (eNot (eTru (eCall 2 r__law_like [] (lCons (eVar 8) (lCons (eLst (lCons (eBinS gIx (eVar 10) (eVar 9)) (lCons (eBinS gIx (eVar 10) (eBinS gAdd (eVar 9) (eC (.int 3)))) (lCons (eCall 1 r__law_plain [] (lCons (eVar 1) lNil)) (lCons (eVar 3) lNil))))) lNil))))) (sRet (eC (.bl false))) sNil)
      [some (0, .raw (.ref m.am)), some (0, .int (n : Int)), some (0, .int most), some (0, TM n f), some (0, TM n g), some (0, TM n h), some (0, TM n (mulF n (mulF n f g) h)), some (0, TM n (mulF n (mulF n f g) h)), some (1, .lst [TM n (powF n f L), TM n (powF n f (L + 3)), TM n (oneF n), TM n f]), some (0, .int (L : Int)), some (0, pwL n f (L + 3 + 1))] (some m6) =
      .nx [some (0, .raw (.ref m.am)), some (0, .int (n : Int)), some (0, .int most), some (0, TM n f), some (0, TM n g), some (0, TM n h), some (0, TM n (mulF n (mulF n f g) h)), some (0, TM n (mulF n (mulF n f g) h)), some (0, .lst [TM n (powF n f L), TM n (powF n f (L + 3)), TM n (oneF n), TM n f]), some (0, .int (L : Int)), some (0, pwL n f (L + 3 + 1))] (some m6) := by
    refine sIf_skip (fl := .o 0) ?_
    exact eNot_ok (b := true) (fl := .o 0) (eTru_ok (fl := .o 0) (like_ok (m1 := some m6) (k1 := 0) (k2 := 1) (d := .lst [TM n (powF n f L), TM n (powF n f (L + 3)), TM n (oneF n), TM n f]) rfl (eLst_ok (lCons_ok (k := 0) (ix_lst (k := L) (l2 := .o 0) (m1 := some m6) (ds := (List.range (L + 3 + 1)).map fun i => TM n (powF n f i)) rfl rfl (hat L (by omega)))
      (lCons_ok (k := 0) (ix_lst (k := L + 3) (l2 := .o 0) (m1 := some m6) (ds := (List.range (L + 3 + 1)).map fun i => TM n (powF n f i)) rfl (add3 _ rfl) (hat (L + 3) (by omega))) (lCons_ok (k := 0) (eCall1_ok (k1 := 0) (m1 := some m6) (o := .ok (TM n (oneF n)) (some m6)) rfl (sp_lplain hn _)) (lCons_ok (k := 0) (d := TM n f) (m := some m6) (m2 := some m6) (ds := []) rfl rfl)))) (by rw [sizeLine_eq]; show 4 ≤ 16777216; omega))
      (lk_all _ (by simp) fun x hx => by
        simp only [List.mem_cons, List.not_mem_nil, or_false] at hx
        rcases hx with rfl | rfl | rfl | rfl <;> exact lk_tm hn 6 _)))
  have s10 : sRet (eCall 2 r__law_like [] (lCons (eCall 2 r__law_times [] (lCons (eBinS gIx (eVar 8) (eC (.int 0))) (lCons (eCall 2 r_matrix_power [] (lCons (eVar 3) (lCons (eC (.int 3)) lNil))) lNil))) (lCons (eBinS gIx (eVar 8) (eC (.int 1))) lNil)))
      [some (0, .raw (.ref m.am)), some (0, .int (n : Int)), some (0, .int most), some (0, TM n f), some (0, TM n g), some (0, TM n h), some (0, TM n (mulF n (mulF n f g) h)), some (0, TM n (mulF n (mulF n f g) h)), some (0, .lst [TM n (powF n f L), TM n (powF n f (L + 3)), TM n (oneF n), TM n f]), some (0, .int (L : Int)), some (0, pwL n f (L + 3 + 1))] (some m6) = .rt (.bl true) (some m6) := by
    have bp : ∀ j, j ≤ 20 → Bx 300 (powF n f j) := fun j hj => (pow_bx hn xf j).le (by omega)
    exact ret_ok (k := 0) (like_ok (m1 := some m6) (k1 := 0) (k2 := 0) (d := TM n (powF n f (L + 3))) (eCall2_ok (d1 := TM n (powF n f L)) (d2 := TM n (powF n f 3)) (m1 := some m6) (m2 := some m6) (k1 := 0) (k2 := 0) (o := .ok (TM n (powF n f (L + 3))) (some m6)) (ix_lst (k := 0) (l2 := .o 0) (m1 := some m6) (ds := [TM n (powF n f L), TM n (powF n f (L + 3)), TM n (oneF n), TM n f]) rfl rfl rfl)
      (eCall2_ok (m1 := some m6) (m2 := some m6) (k1 := 0) (k2 := 0) (o := .ok (TM n (powF n f 3)) (some m6)) rfl rfl (sp_matrix_power hn c2 lf 3 (by omega) _)) (by rw [← pow_add c2 L 3]; exact sp_times hn (bp L (by omega)) (bp 3 (by omega)) (by omega) _))
      (ix_lst (k := 1) (l2 := .o 0) (m1 := some m6) (ds := [TM n (powF n f L), TM n (powF n f (L + 3)), TM n (oneF n), TM n f]) rfl rfl rfl) (lk_tm hn 7 _))
  unfold r__law_right runD
  rw [e0]
  refine fin_ret ?_
  rw [sSeq_nx s1, sSeq_nx s2, sSeq_nx s3, sSeq_nx s4, sSeq_nx s5, sSeq_nx s6, sSeq_nx s7, sSeq_nx s8, sSeq_nx s9]
  exact s10
theorem tm0 (f : Mx) : TM 0 f = .tup [] := rfl
theorem sp_great {k : Int} {m : MSt} (hm : Mk k m) (hk : k ≤ 2 ^ 44) : ∃ m', r__law_great_right [.raw (.ref m.am)] (some m) = .ok (.bl true) (some m') ∧ Mk (k + 500000) m' ∧ m'.am = m.am := by
  obtain ⟨sd, m1, a1, a2, a3, a4⟩ := sp_of (ds := [.int 1, .int (-1)]) hm (by omega) (by simp) (by simp)
  obtain ⟨s, rfl, hs⟩ : ∃ x : Int, sd = .int x ∧ (x = 1 ∨ x = -1) := by
    simp only [List.mem_cons, List.not_mem_nil, or_false] at a1
    rcases a1 with rfl | rfl
    · exact ⟨1, rfl, .inl rfl⟩
    · exact ⟨-1, rfl, .inr rfl⟩
  obtain ⟨f, m2, b1, b2, b3, b4, b5⟩ := drawn_tm (n := 12) (by omega) (fi1 := fun env ms => ((lCons (eC (.int 12)) lNil) env ms).bindI iR1) (fi2 := fun env ms => ((lCons (eC (.int 12)) lNil) env ms).bindI iR1) (s1 := 5) (s2 := 6)
    (fe := eIf (eBin gEq (eCall 2 r__law_draw [] (lCons (eVar 0) (lCons (eC (.int 3)) lNil))) (eC (.int 0))) (eBinS gMul (eVar 1) (eBin gPow (eC (.int 10)) (eC (.int 12)))) (eC (.int 0)))
    (env := [some (0, .raw (.ref m.am)), some (0, .int s), none, none, none, none, none]) (am := m.am) (k := k + 1) (m := m1) a3 a4 1 (by omega) (by omega) (fun x => -1000000000000 ≤ x ∧ x ≤ 1000000000000) (by omega)
    (fun d => [some (0, .raw (.ref m.am)), some (0, .int s), none, none, none, some (0, d), none]) (fun d d2 => [some (0, .raw (.ref m.am)), some (0, .int s), none, none, none, some (0, d), some (0, d2)])
    (fi_range (n := 12) rfl (by omega)) (fun d => rfl) (fun d m => fi_range (n := 12) rfl (by omega)) (fun d d2 => rfl) (fun d d2 k2 m2 hm2 ha2 hk2 => by
      obtain ⟨v2, m3, p1, p2, p3, p4, p5⟩ := sp_draw (l := 3) hm2 (by omega) (by omega)
      rw [ha2] at p1
      have t1 := eEq_int (fa := eCall 2 r__law_draw [] (lCons (eVar 0) (lCons (eC (.int 3)) lNil))) (fb := eC (.int 0)) (env := [some (0, .raw (.ref m.am)), some (0, .int s), none, none, none, some (0, d), some (0, d2)]) (ms := some m2) (m1 := some m3) (m2 := some m3) (i := v2) (j := 0) (l1 := .o 0) (l2 := .o 0) (eCall2_ok (m1 := some m2) (m2 := some m2) (k1 := 0) (k2 := 0) (o := .ok (.int v2) (some m3)) rfl rfl p1) rfl
      cases z : decide (v2 = 0) with
      | false =>
        rw [z] at t1
        exact ⟨0, m3, 0, (eIf_f t1).trans rfl, by omega, p4, p5.trans ha2⟩
      | true =>
        rw [z] at t1
        have hp : eBin gPow (eC (.int 10)) (eC (.int 12)) [some (0, .raw (.ref m.am)), some (0, .int s), none, none, none, some (0, d), some (0, d2)] (some m3) = .ok (.o 0) (.int 1000000000000) (some m3) := rfl
        refine ⟨s * 1000000000000, m3, 0, (eIf_t t1).trans (mul_ok (l1 := .o 0) (l2 := .o 0) (m1 := some m3) rfl hp (mulOk_l _ (by omega))), by omega, p4, p5.trans ha2⟩)
  obtain ⟨g, m3, c1, c2, c3, c4, c5⟩ := sp_drawn (n := 2) (by omega) (most := 3) (by omega) b4 (by omega)
  rw [b5] at c1
  refine ⟨m3, ?_, c4.le (by omega), by rw [c5, b5]⟩
  have xf := let_bx b3
  have lg := small_let (by omega : (3 : Int) ≤ 40) c3
  have xg := small_bx (by omega : (3 : Int) ≤ 40) c3
  have e0 : startE 7 [D.raw (.ref m.am)] = [some (0, .raw (.ref m.am)), none, none, none, none, none, none] := rfl
  have s1 : sSet 1 (eCall 2 r__law_of [] (lCons (eVar 0) (lCons (eLst (lCons (eC (.int 1)) (lCons (eNeg (eC (.int 1))) lNil))) lNil))) [some (0, .raw (.ref m.am)), none, none, none, none, none, none] (some m) = .nx [some (0, .raw (.ref m.am)), some (0, .int s), none, none, none, none, none] (some m1) :=
    sSet_ok (k := 0) (eCall2_ok (m1 := some m) (m2 := some m) (k1 := 0) (k2 := 1) (o := .ok (.int s) (some m1)) rfl rfl a2)
  have s2 := sSet_ok (i := 2) b1
  have s3 : sIf (eNot (eTru (eCall 2 r__law_like [] (lCons (eCall 2 r_matrix_times [] (lCons (eVar 2) (lCons (eVar 2) lNil))) (lCons (eCall 2 r__law_times [] (lCons (eVar 2) (lCons (eVar 2) lNil))) lNil))))) (sRet (eC (.bl false))) sNil [some (0, .raw (.ref m.am)), some (0, .int s), some (0, TM 12 f), none, none, none, none] (some m2) =
      .nx [some (0, .raw (.ref m.am)), some (0, .int s), some (0, TM 12 f), none, none, none, none] (some m2) :=
    sIf_skip (fl := .o 0) (eNot_ok (b := true) (fl := .o 0) (eTru_ok (fl := .o 0) (like_ok (m1 := some m2) (k1 := 0) (k2 := 0) (d := TM 12 (mulF 12 f f)) (eCall2_ok (m1 := some m2) (m2 := some m2) (k1 := 0) (k2 := 0) (o := .ok (TM 12 (mulF 12 f f)) (some m2)) rfl rfl (sp_matrix_times (by omega) b3 b3 _))
      (eCall2_ok (m1 := some m2) (m2 := some m2) (k1 := 0) (k2 := 0) (o := .ok (TM 12 (mulF 12 f f)) (some m2)) rfl rfl (sp_times (by omega) xf xf (by omega) _)) (lk_tm (by omega) 7 _))))
  have s4 : sSet 3 (eCall 3 r__law_drawn_matrix [] (lCons (eVar 0) (lCons (eC (.int 2)) (lCons (eC (.int 3)) lNil)))) [some (0, .raw (.ref m.am)), some (0, .int s), some (0, TM 12 f), none, none, none, none] (some m2) = .nx [some (0, .raw (.ref m.am)), some (0, .int s), some (0, TM 12 f), some (0, TM 2 g), none, none, none] (some m3) :=
    sSet_ok (k := 0) (eCall3_ok (m1 := some m2) (m2 := some m2) (m3 := some m2) (k1 := 0) (k2 := 0) (k3 := 0) (o := .ok (TM 2 g) (some m3)) rfl rfl rfl c1)
  have hat : ((List.range (100 + 1)).map fun i => TM 2 (powF 2 g i))[100]? = some (TM 2 (powF 2 g 100)) := range_at _ (by omega)
  have s5 : sSet 4 (eBinS gIx (eCall 2 r__law_powers [] (lCons (eVar 3) (lCons (eC (.int 100)) lNil))) (eC (.int 100))) [some (0, .raw (.ref m.am)), some (0, .int s), some (0, TM 12 f), some (0, TM 2 g), none, none, none] (some m3) = .nx [some (0, .raw (.ref m.am)), some (0, .int s), some (0, TM 12 f), some (0, TM 2 g), some (0, TM 2 (powF 2 g 100)), none, none] (some m3) :=
    sSet_ok (k := 0) (ix_lst (k := 100) (l2 := .o 0) (m1 := some m3) (ds := (List.range (100 + 1)).map fun i => TM 2 (powF 2 g i)) (eCall2_ok (d1 := TM 2 g) (d2 := .int ((100 : Nat) : Int)) (m1 := some m3) (m2 := some m3) (k1 := 0) (k2 := 0) (o := .ok (pwL 2 g (100 + 1)) (some m3)) rfl rfl (sp_powers (by omega) xg 100 (by omega) (by omega) _)) rfl hat)
  have b100 : Bx 1001 (powF 2 g 100) := (pow_bx (by omega) xg 100).le (by omega)
  have pw : TM 2 (mulF 2 (powF 2 g 100) (powF 2 g 100)) = TM 2 (powF 2 g 200) := by rw [pow_add c2 100 100]
  have s6 : sRet (eCall 2 r__law_like [] (lCons (eLst (lCons (eCall 2 r_matrix_power [] (lCons (eVar 3) (lCons (eC (.int 200)) lNil))) (lCons (eCall 2 r_matrix_power [] (lCons (eTup lNil) (lCons (eC (.int 200)) lNil))) (lCons (eCall 2 r_matrix_times [] (lCons (eTup lNil) (lCons (eTup lNil) lNil))) lNil)))) (lCons (eLst (lCons (eCall 2 r__law_times [] (lCons (eVar 4) (lCons (eVar 4) lNil))) (lCons (eTup lNil) (lCons (eTup lNil) lNil)))) lNil)))
      [some (0, .raw (.ref m.am)), some (0, .int s), some (0, TM 12 f), some (0, TM 2 g), some (0, TM 2 (powF 2 g 100)), none, none] (some m3) = .rt (.bl true) (some m3) := by
    have l0 : Let (oneF 0) := fun i j => by
      unfold oneF
      split <;> omega
    refine ret_ok (k := 0) (like_ok (m1 := some m3) (k1 := 1) (k2 := 1) (d := .lst [TM 2 (powF 2 g 200), .tup [], .tup []]) (eLst_ok (lCons_ok (k := 0) (eCall2_ok (d1 := TM 2 g) (d2 := .int ((200 : Nat) : Int)) (m1 := some m3) (m2 := some m3) (k1 := 0) (k2 := 0) (o := .ok (TM 2 (powF 2 g 200)) (some m3)) rfl rfl (sp_matrix_power (by omega) c2 lg 200 (by omega) _))
      (lCons_ok (k := 0) (eCall2_ok (d1 := TM 0 (oneF 0)) (d2 := .int ((200 : Nat) : Int)) (m1 := some m3) (m2 := some m3) (k1 := 0) (k2 := 0) (o := .ok (TM 0 (powF 0 (oneF 0) 200)) (some m3)) rfl rfl (sp_matrix_power (by omega) (one_su 0) l0 200 (by omega) _))
      (lCons_ok (k := 0) (eCall2_ok (d1 := TM 0 (oneF 0)) (d2 := TM 0 (oneF 0)) (m1 := some m3) (m2 := some m3) (k1 := 0) (k2 := 0) (o := .ok (TM 0 (mulF 0 (oneF 0) (oneF 0))) (some m3)) rfl rfl (sp_matrix_times (by omega) l0 l0 _)) rfl))) (by rw [sizeLine_eq]; show 3 ≤ 16777216; omega)) ?_ ?_)
    · exact eLst_ok (lCons_ok (k := 0) (eCall2_ok (d1 := TM 2 (powF 2 g 100)) (d2 := TM 2 (powF 2 g 100)) (m1 := some m3) (m2 := some m3) (k1 := 0) (k2 := 0) (o := .ok (TM 2 (powF 2 g 200)) (some m3)) rfl rfl (by rw [← pw]; exact sp_times (by omega) b100 b100 (by omega) _))
        (lCons_ok (k := 0) (d := .tup []) (m := some m3) rfl (lCons_ok (k := 0) (d := .tup []) (m := some m3) (m2 := some m3) (ds := []) rfl rfl))) (by rw [sizeLine_eq]; show 3 ≤ 16777216; omega)
    · exact lk_all _ (by simp) fun x hx => by
        simp only [List.mem_cons, List.not_mem_nil, or_false] at hx
        rcases hx with rfl | rfl | rfl
        · exact lk_tm (by omega) 6 _
        · exact lk_tm (n := 0) (by omega) 6 (oneF 0)
        · exact lk_tm (n := 0) (by omega) 6 (oneF 0)
  unfold r__law_great_right runD
  rw [e0]
  refine fin_ret ?_
  rw [sSeq_nx s1, sSeq_nx s2]
  show sSeq _ _ [some (0, .raw (.ref m.am)), some (0, .int s), some (0, TM 12 f), none, none, none, none] (some m2) = _
  rw [sSeq_nx s3, sSeq_nx s4, sSeq_nx s5]
  exact s6
/-! ### what is heard -/
theorem heard_exc (c t : String) (hc : (c = "BadMatrix" ∧ t = "matrix") ∨ (c = "BadNumber" ∧ t = "number") ∨ (c = "Unalike" ∧ t = "unalike")) {th : Thk} {ms m2 : MS} {d : D} (h : th ms = .exc c d m2) (fa : Addr) : lamRun 4 fT__law_heard th fa ms = .ok (.tup [.str t, d]) m2 := by
  have e0 : startE 4 [D.raw (.ref fa)] = [some (0, .raw (.ref fa)), none, none, none] := rfl
  have h0 : sAsg (gpTup 2 (gpCons (gpN 1) (gpCons (gpN 2) gpNil))) (eTup (lCons (eC .non) (lCons (eC .non) lNil))) [some (0, .raw (.ref fa)), none, none, none] ms = .nx [some (0, .raw (.ref fa)), some (0, .non), some (0, .non), none] ms := rfl
  have h1 : sSet 1 (eThk fa th) [some (0, .raw (.ref fa)), some (0, .non), some (0, .non), none] ms = .ex c d [some (0, .raw (.ref fa)), some (0, .non), some (0, .non), none] m2 := by
    unfold sSet
    show Out.st (if fa = fa then (th ms).e else .bad) _ _ = _
    rw [if_pos rfl, h]
    rfl
  have h2 : sTryT ["BadNumber", "BadMatrix", "Unalike"] (sSet 1 (eThk fa th)) (⟨(fun n => decide (n ∈ ["BadNumber", "BadMatrix", "Unalike"])), some 3, (sSet 2 (eVar 3))⟩ :: []) [some (0, .raw (.ref fa)), some (0, .non), some (0, .non), none] ms =
      .nx [some (0, .raw (.ref fa)), some (0, .non), some (0, .xob c d), none] m2 := by
    unfold sTryT
    rw [h1]
    dsimp only
    rcases hc with ⟨rfl, _⟩ | ⟨rfl, _⟩ | ⟨rfl, _⟩ <;> (rw [if_pos (by decide)]; rfl)
  unfold lamRun fT__law_heard
  rw [e0, sSeq_nx h0, sSeq_nx h2]
  rcases hc with ⟨rfl, rfl⟩ | ⟨rfl, rfl⟩ | ⟨rfl, rfl⟩ <;> rfl
theorem lam_exc (c t : String) (hc : (c = "BadMatrix" ∧ t = "matrix") ∨ (c = "BadNumber" ∧ t = "number") ∨ (c = "Unalike" ∧ t = "unalike")) {fb : EF} {env : Env} {m : MSt} {m2 : MS} {d : D} (h : fb (hideE env) (some m) = .exc c d m2) : eLam 4 fT__law_heard fb env (some m) = .ok (.o 0) (.tup [.str t, d]) m2 := by
  show (lamV 4 fT__law_heard (fun m' => (fb (hideE env) m').fo) (some m)).ne = _
  rw [lamV_eq (o := .ok (.tup [.str t, d]) m2) fun fa => heard_exc c t hc (by rw [h]; rfl) fa]
  rfl
/-! ### refusals -/
theorem mt_bad1 {A B d : D} {c : String} {ms : MS} (h : r_need_matrix [A] ms = .exc c d ms) : r_matrix_times [A, B] ms = .exc c d ms := by
  have c1 : sDrop (eCall 1 r_need_matrix [] (lCons (eVar 0) lNil)) [some (0, A), some (0, B)] ms = .ex c d [some (0, A), some (0, B)] ms := sDrop_ex (eCall1_ok (k1 := 0) (m1 := ms) rfl h)
  rw [mt_unfold, sSeq_ex c1]
  rfl
theorem mt_bad2 {A B d : D} {c : String} {ms : MS} (hA : r_need_matrix [A] ms = .ok A ms) (h : r_need_matrix [B] ms = .exc c d ms) : r_matrix_times [A, B] ms = .exc c d ms := by
  have c1 : sDrop (eCall 1 r_need_matrix [] (lCons (eVar 0) lNil)) [some (0, A), some (0, B)] ms = .nx [some (0, A), some (0, B)] ms := sDrop_ok (fl := .o 0) (d := A) (eCall1_ok (k1 := 0) (m1 := ms) rfl hA)
  have c2 : sDrop (eCall 1 r_need_matrix [] (lCons (eVar 1) lNil)) [some (0, A), some (0, B)] ms = .ex c d [some (0, A), some (0, B)] ms := sDrop_ex (eCall1_ok (k1 := 0) (m1 := ms) rfl h)
  rw [mt_unfold, sSeq_nx c1, sSeq_ex c2]
  rfl
theorem mt_unlike {n p : Nat} {f g : Mx} {ms : MS} (hn : n ≤ 12) (hp : p ≤ 12) (hf : Let f) (hg : Let g) (h : n ≠ p) : r_matrix_times [TM n f, TM p g] ms = .exc "Unalike" (.str "places") ms := by
  have c1 : sDrop (eCall 1 r_need_matrix [] (lCons (eVar 0) lNil)) [some (0, TM n f), some (0, TM p g)] ms = .nx [some (0, TM n f), some (0, TM p g)] ms := sDrop_ok (fl := .o 0) (d := TM n f) (eCall1_ok (k1 := 0) (m1 := ms) rfl (need_tm hn hf ms))
  have c2 : sDrop (eCall 1 r_need_matrix [] (lCons (eVar 1) lNil)) [some (0, TM n f), some (0, TM p g)] ms = .nx [some (0, TM n f), some (0, TM p g)] ms := sDrop_ok (fl := .o 0) (d := TM p g) (eCall1_ok (k1 := 0) (m1 := ms) rfl (need_tm hp hg ms))
  have c3 := eNe_int (env := [some (0, TM n f), some (0, TM p g)]) (ms := ms) (tm_len (n := n) (f := f) (g := eVar 0) (fl := .o 0) (m := ms) rfl) (tm_len (n := p) (f := g) (g := eVar 1) (fl := .o 0) (m := ms) rfl)
  rw [decide_eq_false (by omega)] at c3
  have c4 : sIf (eBin gNe (eC1 gLen (eVar 0)) (eC1 gLen (eVar 1))) (sRaise "Unalike" (eC (.str "places"))) sNil [some (0, TM n f), some (0, TM p g)] ms = .ex "Unalike" (.str "places") [some (0, TM n f), some (0, TM p g)] ms := by
    rw [sIf_t c3]
    rfl
  rw [mt_unfold, sSeq_nx c1, sSeq_nx c2, sSeq_ex c4]
  rfl
theorem mp_bad1 {A L d : D} {c : String} {ms : MS} (h : r_need_matrix [A] ms = .exc c d ms) : r_matrix_power [A, L] ms = .exc c d ms := by
  have c1 : sDrop (eCall 1 r_need_matrix [] (lCons (eVar 0) lNil)) [some (0, A), some (0, L)] ms = .ex c d [some (0, A), some (0, L)] ms := sDrop_ex (eCall1_ok (k1 := 0) (m1 := ms) rfl h)
  rw [mp_unfold, sSeq_ex c1]
  rfl
theorem lCons_exc2 {f fe : EF} {fl : EL} {env : Env} {ms m m2 : MS} {k : Nat} {d e : D} {c : String} (h : f env ms = .ok (.o k) d m) (h2 : fe env m = .exc c e m2) : lCons f (lCons fe fl) env ms = .exc c e m2 := by
  unfold lCons
  rw [h]
  dsimp only
  rw [h2]
theorem mp_bad2 {A L d : D} {c : String} {ms : MS} (hA : r_need_matrix [A] ms = .ok A ms) (h : r_need_power [L] ms = .exc c d ms) : r_matrix_power [A, L] ms = .exc c d ms := by
  have c1 : sDrop (eCall 1 r_need_matrix [] (lCons (eVar 0) lNil)) [some (0, A), some (0, L)] ms = .nx [some (0, A), some (0, L)] ms := sDrop_ok (fl := .o 0) (d := A) (eCall1_ok (k1 := 0) (m1 := ms) rfl hA)
  have c2 : lCons (eVar 0) (lCons (eCall 1 r_need_power [] (lCons (eVar 1) lNil)) lNil) [some (0, A), some (0, L)] ms = .exc c d ms := lCons_exc2 (k := 0) (d := A) (m := ms) rfl (eCall1_ok (k1 := 0) (m1 := ms) (d1 := L) (o := .exc c d ms) rfl h)
  have c3 : sRet (eCall 2 r_power_matrix [] (lCons (eVar 0) (lCons (eCall 1 r_need_power [] (lCons (eVar 1) lNil)) lNil))) [some (0, A), some (0, L)] ms = .ex c d [some (0, A), some (0, L)] ms := by
    unfold sRet eCall OutL.bind
    unfold eCall OutL.bind at c2
    rw [c2]
    rfl
  rw [mp_unfold, sSeq_nx c1, c3]
  rfl
/-! ### slices -/
theorem cutD_take {α : Type} (xs : List α) (k : Nat) : cutD xs none (some (k : Int)) = xs.take k := by
  unfold cutD
  rw [HT.sIx_none, HT.sIx_nat, List.drop_zero, Nat.sub_zero]
  exact (List.take_eq_take_min ..).symm
theorem cutD_drop {α : Type} (xs : List α) (k : Nat) : cutD xs (some (k : Int)) none = xs.drop k := by
  unfold cutD
  rw [HT.sIx_none, HT.sIx_nat]
  rcases Nat.le_total k xs.length with h | h
  · rw [Nat.min_eq_left h]
    exact List.take_of_length_le (by simp)
  · rw [Nat.min_eq_right h, List.drop_eq_nil_of_le (Nat.le_refl _), List.drop_eq_nil_of_le h]
    simp
theorem sl_take {f g : EF} {env : Env} {ms : MS} {ds : List D} {k : Nat} (h : f env ms = .ok (.o 0) (.tup ds) ms) (h2 : g env ms = .ok (.o 0) (.int (k : Int)) ms) : eSl f (eC .non) (eIntO g) env ms = .ok (.o 0) (.tup (ds.take k)) ms := by
  unfold eSl Out.bind
  rw [h]
  show Out.bindR (eIntO g env ms) _ = _
  unfold eIntO Out.bindR Out.bind
  rw [h2]
  show Out.ok (.o 0) (.tup (cutD ds none (some (k : Int)))) ms = _
  rw [cutD_take]
theorem sl_drop {f g : EF} {env : Env} {ms : MS} {ds : List D} {k : Nat} (h : f env ms = .ok (.o 0) (.tup ds) ms) (h2 : g env ms = .ok (.o 0) (.int (k : Int)) ms) : eSl f (eIntO g) (eC .non) env ms = .ok (.o 0) (.tup (ds.drop k)) ms := by
  unfold eSl Out.bind
  rw [h]
  dsimp only
  unfold eIntO Out.bindR Out.bind
  rw [h2]
  show Out.ok (.o 0) (.tup (cutD ds (some (k : Int)) none)) ms = _
  rw [cutD_drop]
theorem add_tup {fa fb : EF} {env : Env} {ms m1 m2 : MS} {as bs : List D} (h1 : fa env ms = .ok (.o 0) (.tup as) m1) (h2 : fb env m1 = .ok (.o 0) (.tup bs) m2) (hl : as.length + bs.length ≤ 1000000) : eBinS gAdd fa fb env ms = .ok (.o 0) (.tup (as ++ bs)) m2 := by
  unfold eBinS Out.bind
  rw [h1]
  dsimp only
  rw [h2]
  show (if (isFz (.o 0) && isFz (.o 0) && decide (as.length + bs.length ≤ sizeLine)) = true then Out.ok (.o 0) (.tup (as ++ bs)) m2 else .bad) = _
  rw [if_pos]
  rw [decide_eq_true (by rw [sizeLine_eq]; omega)]
  rfl
theorem sAsg_ok {gp : GP} {f : EF} {env e : Env} {ms m : MS} {k : Nat} {d : D} (h : f env ms = .ok (.o k) d m) (hg : gp d env = some e) : sAsg gp f env ms = .nx e m := by
  unfold sAsg
  rw [h]
  show (match gp d env with
    | some env' => Fw.nx env' m
    | none => .bad) = _
  rw [hg]
/-! ### odd things -/
theorem odd_row {N e : Nat} (he : e < N) (r : Nat → Int) {odd : D} (ho : Sim odd) (hw : wh (-1000000000000) 1000000000000 odd = false) (n : Nat) (hN : N ≤ 12) : BadR n (.tup (((List.range N).map fun j => D.int (r j)).take e ++ [odd] ++ ((List.range N).map fun j => D.int (r j)).drop (e + 1))) :=
  .inl fun ms => by
    have hs : ∀ d ∈ ((List.range N).map fun j => D.int (r j)).take e ++ [odd] ++ ((List.range N).map fun j => D.int (r j)).drop (e + 1), Sim d := fun d hd => by
      have int : ∀ x ∈ (List.range N).map fun j => D.int (r j), Sim x := fun x hx => by
        obtain ⟨j, _, rfl⟩ := List.mem_map.mp hx
        trivial
      rcases List.mem_append.mp hd with hd | hd
      · rcases List.mem_append.mp hd with hd | hd
        · exact int d (List.mem_of_mem_take hd)
        · rw [List.mem_singleton.mp hd]
          exact ho
      · exact int d (List.mem_of_mem_drop hd)
    rw [sp_wholes_any _ hs _ _ ms (by simp; omega)]
    congr 2
    rw [List.all_append, List.all_append]
    simp [hw]
theorem long_row {n : Nat} {ds : List D} (hs : ∀ d ∈ ds, Sim d) (hl : ds.length ≠ n) (h1 : ds.length ≤ 1000) : BadR n (.tup ds) := .inr ⟨ds, rfl, hl, fun ms => ⟨_, sp_wholes_any ds hs _ _ ms h1⟩⟩
theorem no_row {n : Nat} {d : D} (t : String) (h : tyD d = some t) (hn : isiB t "tuple" = false) : BadR n d := .inl fun ms => sp_wholes_no d t h hn _ _ ms
theorem deq_s1 : deq (.str "matrix") (.str "matrix") = some true := by decide +kernel
theorem deq_s2 : deq (.str "form") (.str "form") = some true := by decide +kernel
theorem deq_s3 : deq (.str "unalike") (.str "unalike") = some true := by decide +kernel
theorem deq_s4 : deq (.str "places") (.str "places") = some true := by decide +kernel
theorem deq_s5 : deq (.str "number") (.str "number") = some true := by decide +kernel
theorem deq_s6 : deq (.str "2") (.str "2") = some true := by decide +kernel
theorem of_list {n : Int} {m : MSt} {f : EL} {env : Env} {ds : List D} {am : Addr} (h : Mk n m) (ha : m.am = am) (hn : n < 2 ^ 50) (hd : ds ≠ []) (hl : ds.length ≤ 1000) (he : env[0]? = some (some (0, .raw (.ref am)))) (hf : f env (some m) = .ok ds (some m)) :
    ∃ d m', d ∈ ds ∧ eCall 2 r__law_of [] (lCons (eVar 0) (lCons (eLst f) lNil)) env (some m) = .ok (.o 0) d (some m') ∧ Mk (n + 1) m' ∧ m'.am = am := by
  obtain ⟨d, m', h1, h2, h3, h4⟩ := sp_of h hn hd (by omega)
  have e0 : eVar 0 env (some m) = .ok (.o 0) (.raw (.ref m.am)) (some m) := by
    unfold eVar
    rw [he, ha]
  exact ⟨d, m', h1, eCall2_ok e0 (eLst_ok hf (by rw [sizeLine_eq]; omega)) h2, h3, h4.trans ha⟩
theorem split_at {α : Type} {xs : List α} {s : Nat} (hs : s < xs.length) (y : α) : xs.take s ++ [y] ++ xs.drop (s + 1) = xs.take s ++ y :: xs.drop (s + 1) := by simp
theorem sp_odd {k : Int} {m : MSt} (hm : Mk k m) (hk : k ≤ 2 ^ 44) : ∃ m', r__law_odd_right [.raw (.ref m.am)] (some m) = .ok (.bl true) (some m') := by
  obtain ⟨v, m1, a1, a2, a3, a4, a5⟩ := sp_draw (l := 4) hm (by omega) (by omega)
  obtain ⟨N, hN⟩ : ∃ N : Nat, 1 + v = (N : Int) := ⟨(1 + v).toNat, by omega⟩
  have hN1 : 1 ≤ N ∧ N ≤ 4 := by omega
  obtain ⟨g, m2, b1, b2, b3, b4, b5⟩ := sp_drawn (n := N) (by omega) (most := 3) (by omega) a4 (by omega)
  obtain ⟨sv, m3, c1, c2, c3, c4, c5⟩ := sp_draw (l := (N : Int)) b4 (by omega) (by omega)
  obtain ⟨S, rfl⟩ : ∃ n : Nat, sv = (n : Int) := ⟨sv.toNat, by omega⟩
  obtain ⟨ev, m4, d1, d2, d3, d4, d5⟩ := sp_draw (l := (N : Int)) c4 (by omega) (by omega)
  obtain ⟨e, rfl⟩ : ∃ n : Nat, ev = (n : Int) := ⟨ev.toNat, by omega⟩
  have hS : S < N := by omega
  have he : e < N := by omega
  rw [a5] at b1
  rw [b5, a5] at c1
  rw [c5, b5, a5] at d1
  have am4 : m4.am = m.am := by rw [d5, c5, b5, a5]
  have lg := small_let (by omega : (3 : Int) ≤ 40) b3
  -- the rows of the good matrix
  have hG : ((List.range N).map fun i => rowD N (g i)).length = N := by simp
  have hR : ((List.range N).map fun j => D.int (g S j)).length = N := by simp
  have hat : ((List.range N).map fun i => rowD N (g i))[S]? = some (rowD N (g S)) := range_at _ hS
  have e0 : startE 17 [D.raw (.ref m.am)] = [some (0, .raw (.ref m.am)), none, none, none, none, none, none, none, none, none, none, none, none, none, none, none, none] := rfl
  have s1 : sSet 1 (eBinS gAdd (eC (.int 1)) (eCall 2 r__law_draw [] (lCons (eVar 0) (lCons (eC (.int 4)) lNil)))) [some (0, .raw (.ref m.am)), none, none, none, none, none, none, none, none, none, none, none, none, none, none, none, none] (some m) =
      .nx [some (0, .raw (.ref m.am)), some (0, .int (N : Int)), none, none, none, none, none, none, none, none, none, none, none, none, none, none, none] (some m1) := by
    rw [← hN]
    exact sSet_ok (k := 0) (add_int (l1 := .o 0) (l2 := .o 0) (m1 := some m) rfl (eCall2_ok (m1 := some m) (m2 := some m) (k1 := 0) (k2 := 0) (o := .ok (.int v) (some m1)) rfl rfl a1))
  have s2 : sFrz 1 (sAsg (gpTup 3 (gpCons (gpN 2) (gpCons (gpN 3) (gpCons (gpN 4) gpNil)))) (eTup (lCons (eCall 3 r__law_drawn_matrix [] (lCons (eVar 0) (lCons (eVar 1) (lCons (eC (.int 3)) lNil)))) (lCons (eCall 2 r__law_draw [] (lCons (eVar 0) (lCons (eVar 1) lNil))) (lCons (eCall 2 r__law_draw [] (lCons (eVar 0) (lCons (eVar 1) lNil))) lNil)))))
      [some (0, .raw (.ref m.am)), some (0, .int (N : Int)), none, none, none, none, none, none, none, none, none, none, none, none, none, none, none] (some m1) =
      .nx [some (0, .raw (.ref m.am)), some (0, .int (N : Int)), some (0, TM N g), some (0, .int (S : Int)), some (0, .int (e : Int)), none, none, none, none, none, none, none, none, none, none, none, none] (some m4) :=
    sAsg_ok (k := 0) (d := .tup [TM N g, .int (S : Int), .int (e : Int)]) (eTup_ok (lCons_ok (k := 0) (eCall3_ok (m1 := some m1) (m2 := some m1) (m3 := some m1) (k1 := 0) (k2 := 0) (k3 := 0) (o := .ok (TM N g) (some m2)) rfl rfl rfl b1) (lCons_ok (k := 0) (eCall2_ok (m1 := some m2) (m2 := some m2) (k1 := 0) (k2 := 0) (o := .ok (.int (S : Int)) (some m3)) rfl rfl c1)
      (lCons_ok (k := 0) (eCall2_ok (m1 := some m3) (m2 := some m3) (k1 := 0) (k2 := 0) (o := .ok (.int (e : Int)) (some m4)) rfl rfl d1) rfl))) (by rw [sizeLine_eq]; show 3 ≤ 16777216; omega)) rfl
  obtain ⟨odd, m5, f1, f2, f3, f4⟩ := of_list (f := (lCons (eBinS gAdd (eBin gPow (eC (.int 10)) (eC (.int 12))) (eC (.int 1))) (lCons (eBin gSub (eNeg (eBin gPow (eC (.int 10)) (eC (.int 12)))) (eC (.int 1))) (lCons (eC (.bl true)) (lCons (eC .non) (lCons (eC (.str "1")) (lCons (eTup (lCons (eC (.int 2)) lNil)) lNil)))))))
    (env := [some (0, .raw (.ref m.am)), some (0, .int (N : Int)), some (0, TM N g), some (0, .int (S : Int)), some (0, .int (e : Int)), none, none, none, none, none, none, none, none, none, none, none, none]) (ds := [.int 1000000000001, .int (-1000000000001), .bl true, .non, .str "1", .tup [.int 2]]) d4 am4 (by omega) (by simp) (by simp) rfl rfl
  have hodd : Sim odd ∧ wh (-1000000000000) 1000000000000 odd = false := by
    simp only [List.mem_cons, List.not_mem_nil, or_false] at f1
    rcases f1 with rfl | rfl | rfl | rfl | rfl | rfl <;> exact ⟨trivial, rfl⟩
  have s3 := sSet_ok (i := 5) f2
  have rowv : ∀ (env : Env) (ms : MS), env[2]? = some (some (0, TM N g)) → env[3]? = some (some (0, .int (S : Int))) → eBinS gIx (eVar 2) (eVar 3) env ms = .ok (.o 0) (rowD N (g S)) ms := fun env ms h2 h3 => by
    refine ix_tup (k := S) (l2 := .o 0) (m1 := ms) (ds := (List.range N).map fun i => rowD N (g i)) ?_ ?_ hat
    · unfold eVar
      rw [h2]
      rfl
    · unfold eVar
      rw [h3]
  have s4 : sSet 6 (eBinS gAdd (eBinS gAdd (eSl (eBinS gIx (eVar 2) (eVar 3)) (eC .non) (eIntO (eVar 4))) (eTup (lCons (eVar 5) lNil))) (eSl (eBinS gIx (eVar 2) (eVar 3)) (eIntO (eBinS gAdd (eVar 4) (eC (.int 1)))) (eC .non)))
      [some (0, .raw (.ref m.am)), some (0, .int (N : Int)), some (0, TM N g), some (0, .int (S : Int)), some (0, .int (e : Int)), some (0, odd), none, none, none, none, none, none, none, none, none, none, none] (some m5) =
      .nx [some (0, .raw (.ref m.am)), some (0, .int (N : Int)), some (0, TM N g), some (0, .int (S : Int)), some (0, .int (e : Int)), some (0, odd), some (0, .tup (((List.range N).map fun j => D.int (g S j)).take e ++ [odd] ++ ((List.range N).map fun j => D.int (g S j)).drop (e + 1))), none, none, none, none, none, none, none, none, none, none] (some m5) :=
    sSet_ok (k := 0) (add_tup (m1 := some m5) (add_tup (m1 := some m5) (sl_take (k := e) (ds := (List.range N).map fun j => D.int (g S j)) (rowv _ _ rfl rfl) rfl) rfl (by simp; omega)) (sl_drop (k := e + 1) (ds := (List.range N).map fun j => D.int (g S j)) (rowv _ _ rfl rfl) (add_int (i := (e : Int)) (j := 1) (l1 := .o 0) (l2 := .o 0) (m1 := some m5) rfl rfl)) (by simp; omega))
  obtain ⟨rows, m6, g1, g2, g3, g4⟩ := of_list (f := (lCons (eVar 6) (lCons (eVar 6) (lCons (eBinS gAdd (eBinS gIx (eVar 2) (eVar 3)) (eTup (lCons (eC (.int 0)) lNil))) (lCons (eSl (eBinS gIx (eVar 2) (eVar 3)) (eIntO (eC (.int 1))) (eC .non)) (lCons (eC1 gList (eBinS gIx (eVar 2) (eVar 3))) (lCons (eC .non) (lCons (eC (.int 7)) lNil))))))))
    (env := [some (0, .raw (.ref m.am)), some (0, .int (N : Int)), some (0, TM N g), some (0, .int (S : Int)), some (0, .int (e : Int)), some (0, odd), some (0, .tup (((List.range N).map fun j => D.int (g S j)).take e ++ [odd] ++ ((List.range N).map fun j => D.int (g S j)).drop (e + 1))), none, none, none, none, none, none, none, none, none, none])
    (ds := [.tup (((List.range N).map fun j => D.int (g S j)).take e ++ [odd] ++ ((List.range N).map fun j => D.int (g S j)).drop (e + 1)), .tup (((List.range N).map fun j => D.int (g S j)).take e ++ [odd] ++ ((List.range N).map fun j => D.int (g S j)).drop (e + 1)), .tup (((List.range N).map fun j => D.int (g S j)) ++ [.int 0]), .tup (((List.range N).map fun j => D.int (g S j)).drop 1), .lst ((List.range N).map fun j => D.int (g S j)), .non, .int 7])
    f3 f4 (by omega) (by simp) (by simp) rfl (by
      refine lCons_ok (k := 0) (m := some m5) rfl (lCons_ok (k := 0) (m := some m5) rfl (lCons_ok (k := 0) (add_tup (m1 := some m5) (as := (List.range N).map fun j => D.int (g S j)) (bs := [.int 0]) (rowv _ _ rfl rfl) rfl (by simp; omega)) (lCons_ok (k := 0) (sl_drop (k := 1) (ds := (List.range N).map fun j => D.int (g S j)) (rowv _ _ rfl rfl) rfl) (lCons_ok (k := 1) (d := .lst ((List.range N).map fun j => D.int (g S j))) (m := some m5) ?_ (lCons_ok (k := 0) (m := some m5) (d := .non) rfl (lCons_ok (k := 0) (m := some m5) (d := .int 7) rfl rfl))))))
      unfold eC1 Out.bind
      rw [rowv _ _ rfl rfl]
      rfl)
  have intS : ∀ x ∈ (List.range N).map fun j => D.int (g S j), Sim x := fun x hx => by
    obtain ⟨j, _, rfl⟩ := List.mem_map.mp hx
    trivial
  have hrows : BadR N rows := by
    simp only [List.mem_cons, List.not_mem_nil, or_false] at g1
    rcases g1 with rfl | rfl | rfl | rfl | rfl | rfl | rfl
    · exact odd_row he (g S) hodd.1 hodd.2 N (by omega)
    · exact odd_row he (g S) hodd.1 hodd.2 N (by omega)
    · refine long_row (fun d hd => ?_) (by simp) (by simp; omega)
      rcases List.mem_append.mp hd with hd | hd
      · exact intS d hd
      · rw [List.mem_singleton.mp hd]
        trivial
    · exact long_row (fun d hd => intS d (List.mem_of_mem_drop hd)) (by simp; omega) (by simp; omega)
    · exact no_row "list" rfl rfl
    · exact no_row "NoneType" rfl rfl
    · exact no_row "int" rfl rfl
  have s5 : sFrz 6 (sSet 7 (eCall 2 r__law_of [] (lCons (eVar 0) (lCons (eLst (lCons (eVar 6) (lCons (eVar 6) (lCons (eBinS gAdd (eBinS gIx (eVar 2) (eVar 3)) (eTup (lCons (eC (.int 0)) lNil))) (lCons (eSl (eBinS gIx (eVar 2) (eVar 3)) (eIntO (eC (.int 1))) (eC .non)) (lCons (eC1 gList (eBinS gIx (eVar 2) (eVar 3))) (lCons (eC .non) (lCons (eC (.int 7)) lNil)))))))) lNil))))
      [some (0, .raw (.ref m.am)), some (0, .int (N : Int)), some (0, TM N g), some (0, .int (S : Int)), some (0, .int (e : Int)), some (0, odd), some (0, .tup (((List.range N).map fun j => D.int (g S j)).take e ++ [odd] ++ ((List.range N).map fun j => D.int (g S j)).drop (e + 1))), none, none, none, none, none, none, none, none, none, none] (some m5) =
      .nx [some (0, .raw (.ref m.am)), some (0, .int (N : Int)), some (0, TM N g), some (0, .int (S : Int)), some (0, .int (e : Int)), some (0, odd), some (0, .tup (((List.range N).map fun j => D.int (g S j)).take e ++ [odd] ++ ((List.range N).map fun j => D.int (g S j)).drop (e + 1))), some (0, rows), none, none, none, none, none, none, none, none, none] (some m6) :=
    sSet_ok (k := 0) g2
  generalize hrow : D.tup (((List.range N).map fun j => D.int (g S j)).take e ++ [odd] ++ ((List.range N).map fun j => D.int (g S j)).drop (e + 1)) = row at s4 s5
  have s6 : sSet 8 (eBinS gAdd (eBinS gAdd (eSl (eVar 2) (eC .non) (eIntO (eVar 3))) (eTup (lCons (eVar 7) lNil))) (eSl (eVar 2) (eIntO (eBinS gAdd (eVar 3) (eC (.int 1)))) (eC .non)))
      [some (0, .raw (.ref m.am)), some (0, .int (N : Int)), some (0, TM N g), some (0, .int (S : Int)), some (0, .int (e : Int)), some (0, odd), some (0, row), some (0, rows), none, none, none, none, none, none, none, none, none] (some m6) =
      .nx [some (0, .raw (.ref m.am)), some (0, .int (N : Int)), some (0, TM N g), some (0, .int (S : Int)), some (0, .int (e : Int)), some (0, odd), some (0, row), some (0, rows), some (0, .tup (((List.range N).map fun i => rowD N (g i)).take S ++ [rows] ++ ((List.range N).map fun i => rowD N (g i)).drop (S + 1))), none, none, none, none, none, none, none, none] (some m6) :=
    sSet_ok (k := 0) (add_tup (m1 := some m6) (add_tup (m1 := some m6) (sl_take (k := S) (ds := (List.range N).map fun i => rowD N (g i)) rfl rfl) rfl (by simp; omega)) (sl_drop (k := S + 1) (ds := (List.range N).map fun i => rowD N (g i)) rfl (add_int (i := (S : Int)) (j := 1) (l1 := .o 0) (l2 := .o 0) (m1 := some m6) rfl rfl)) (by simp; omega))
  have hbad : ∀ ms, r_need_matrix [.tup (((List.range N).map fun i => rowD N (g i)).take S ++ [rows] ++ ((List.range N).map fun i => rowD N (g i)).drop (S + 1))] ms = .exc "BadMatrix" (.int (S : Int)) ms := fun ms => by
    rw [split_at (by simp; exact hS)]
    have h1 := sp_need_bad (as := ((List.range N).map fun i => rowD N (g i)).take S) (bs := ((List.range N).map fun i => rowD N (g i)).drop (S + 1)) (d := rows) (n := N) (by simp; omega) (by omega) (fun x hx => by
      obtain ⟨i, _, rfl⟩ := List.mem_map.mp (List.mem_of_mem_take hx)
      exact let_row lg i) hrows ms
    rw [h1]
    congr 2
    simp
    omega
  generalize D.tup (((List.range N).map fun i => rowD N (g i)).take S ++ [rows] ++ ((List.range N).map fun i => rowD N (g i)).drop (S + 1)) = bad at s6 hbad
  obtain ⟨form, m7, h1, h2, h3, h4⟩ := of_list (f := (lCons (eC1 gList (eVar 2)) (lCons (eC .non) (lCons (eC (.int 3)) (lCons (eC (.str "")) (lCons (eBinS gMul (eTup (lCons (eBinS gMul (eTup (lCons (eC (.int 0)) lNil)) (eC (.int 13))) lNil)) (eC (.int 13))) lNil))))))
    (env := [some (0, .raw (.ref m.am)), some (0, .int (N : Int)), some (0, TM N g), some (0, .int (S : Int)), some (0, .int (e : Int)), some (0, odd), some (0, row), some (0, rows), some (0, bad), none, none, none, none, none, none, none, none])
    (ds := [.lst ((List.range N).map fun i => rowD N (g i)), .non, .int 3, .str "", .tup (List.replicate 13 [D.tup (List.replicate 13 [D.int 0]).flatten]).flatten]) g3 g4 (by omega) (by simp) (by simp) rfl rfl
  have hform : ∀ ms, r_need_matrix [form] ms = .exc "BadMatrix" (.str "form") ms := fun ms => by
    refine sp_need_form ?_ ms
    simp only [List.mem_cons, List.not_mem_nil, or_false] at h1
    rcases h1 with rfl | rfl | rfl | rfl | rfl
    · exact .inl ⟨"list", rfl, rfl⟩
    · exact .inl ⟨"NoneType", rfl, rfl⟩
    · exact .inl ⟨"int", rfl, rfl⟩
    · exact .inl ⟨"str", rfl, rfl⟩
    · exact .inr ⟨_, rfl, by decide⟩
  have s7 := sSet_ok (i := 9) h2
  obtain ⟨o, m8, i1, i2, i3, i4, i5⟩ := sp_drawn (n := N + 1) (by omega) (most := 2) (by omega) h3 (by omega)
  rw [h4] at i1
  have lo := small_let (by omega : (2 : Int) ≤ 40) i3
  obtain ⟨len, m9, j1, j2, j3, j4⟩ := of_list (f := (lCons (eNeg (eC (.int 1))) (lCons (eC (.int 201)) (lCons (eC (.bl true)) (lCons (eC .non) (lCons (eC (.str "2")) lNil))))))
    (env := [some (0, .raw (.ref m.am)), some (0, .int (N : Int)), some (0, TM N g), some (0, .int (S : Int)), some (0, .int (e : Int)), some (0, odd), some (0, row), some (0, rows), some (0, bad), some (0, form), none, none, none, none, none, none, none])
    (ds := [.int (-1), .int 201, .bl true, .non, .str "2"]) i4 (i5.trans h4) (by omega) (by simp) (by simp) rfl rfl
  have hlen : ∀ ms, r_need_power [len] ms = .exc "BadNumber" len ms := fun ms => by
    have hl : Sim len ∧ wh 0 200 len = false := by
      simp only [List.mem_cons, List.not_mem_nil, or_false] at j1
      rcases j1 with rfl | rfl | rfl | rfl | rfl <;> exact ⟨trivial, rfl⟩
    exact sp_need_power_bad hl.1 hl.2 ms
  have lklen : lk 8 len := by
    simp only [List.mem_cons, List.not_mem_nil, or_false] at j1
    rcases j1 with rfl | rfl | rfl | rfl | rfl
    · trivial
    · trivial
    · trivial
    · trivial
    · exact deq_s6
  have s8 : sAsg (gpTup 2 (gpCons (gpN 10) (gpCons (gpN 11) gpNil))) (eTup (lCons (eCall 3 r__law_drawn_matrix [] (lCons (eVar 0) (lCons (eBinS gAdd (eVar 1) (eC (.int 1))) (lCons (eC (.int 2)) lNil)))) (lCons (eCall 2 r__law_of [] (lCons (eVar 0) (lCons (eLst (lCons (eNeg (eC (.int 1))) (lCons (eC (.int 201)) (lCons (eC (.bl true)) (lCons (eC .non) (lCons (eC (.str "2")) lNil)))))) lNil))) lNil)))
      [some (0, .raw (.ref m.am)), some (0, .int (N : Int)), some (0, TM N g), some (0, .int (S : Int)), some (0, .int (e : Int)), some (0, odd), some (0, row), some (0, rows), some (0, bad), some (0, form), none, none, none, none, none, none, none] (some m7) =
      .nx [some (0, .raw (.ref m.am)), some (0, .int (N : Int)), some (0, TM N g), some (0, .int (S : Int)), some (0, .int (e : Int)), some (0, odd), some (0, row), some (0, rows), some (0, bad), some (0, form), some (0, TM (N + 1) o), some (0, len), none, none, none, none, none] (some m9) :=
    sAsg_ok (k := 0) (d := .tup [TM (N + 1) o, len]) (eTup_ok (lCons_ok (k := 0) (eCall3_ok (d2 := .int ((N + 1 : Nat) : Int)) (m1 := some m7) (m2 := some m7) (m3 := some m7) (k1 := 0) (k2 := 0) (k3 := 0) (o := .ok (TM (N + 1) o) (some m8)) rfl (add_int (i := (N : Int)) (j := 1) (l1 := .o 0) (l2 := .o 0) (m1 := some m7) rfl rfl) rfl i1) (lCons_ok (k := 0) j2 rfl)) (by rw [sizeLine_eq]; show 2 ≤ 16777216; omega)) rfl
  -- what is heard
  have here : ∀ {fb : EF} {env : Env} {m : MSt}, fb (hideE env) (some m) = .exc "BadMatrix" (.int (S : Int)) (some m) → eLam 4 fT__law_heard fb env (some m) = .ok (.o 0) (.tup [.str "matrix", .int (S : Int)]) (some m) := fun h => lam_exc "BadMatrix" "matrix" (.inl ⟨rfl, rfl⟩) h
  have head : ∀ {fb : EF} {env : Env} {m : MSt}, fb (hideE env) (some m) = .exc "BadMatrix" (.str "form") (some m) → eLam 4 fT__law_heard fb env (some m) = .ok (.o 0) (.tup [.str "matrix", .str "form"]) (some m) := fun h => lam_exc "BadMatrix" "matrix" (.inl ⟨rfl, rfl⟩) h
  have unl : ∀ {fb : EF} {env : Env} {m : MSt}, fb (hideE env) (some m) = .exc "Unalike" (.str "places") (some m) → eLam 4 fT__law_heard fb env (some m) = .ok (.o 0) (.tup [.str "unalike", .str "places"]) (some m) := fun h => lam_exc "Unalike" "unalike" (.inr (.inr ⟨rfl, rfl⟩)) h
  have num : ∀ {fb : EF} {env : Env} {m : MSt}, fb (hideE env) (some m) = .exc "BadNumber" len (some m) → eLam 4 fT__law_heard fb env (some m) = .ok (.o 0) (.tup [.str "number", len]) (some m) := fun h => lam_exc "BadNumber" "number" (.inr (.inl ⟨rfl, rfl⟩)) h
  have gok : ∀ ms, r_need_matrix [TM N g] ms = .ok (TM N g) ms := fun ms => need_tm (by omega) lg ms
  have l0 : Let (oneF 0) := fun i j => by
    unfold oneF
    split <;> omega
  have s9 : sFrz 8 (sSet 12 (eLst (lCons (eLam 4 fT__law_heard (eCall 1 r_need_matrix [] (lCons (eVar 8) lNil))) (lCons (eLam 4 fT__law_heard (eCall 1 r_need_matrix [] (lCons (eVar 9) lNil))) (lCons (eLam 4 fT__law_heard (eCall 2 r_matrix_times [] (lCons (eVar 8) (lCons (eVar 9) lNil)))) (lCons (eLam 4 fT__law_heard (eCall 2 r_matrix_times [] (lCons (eVar 2) (lCons (eVar 8) lNil)))) (lCons (eLam 4 fT__law_heard (eCall 2 r_matrix_times [] (lCons (eVar 2) (lCons (eVar 9) lNil)))) (lCons (eLam 4 fT__law_heard (eCall 2 r_matrix_times [] (lCons (eVar 2) (lCons (eVar 10) lNil)))) (lCons (eLam 4 fT__law_heard (eCall 2 r_matrix_times [] (lCons (eTup lNil) (lCons (eVar 2) lNil)))) (lCons (eLam 4 fT__law_heard (eCall 2 r_matrix_power [] (lCons (eVar 8) (lCons (eVar 11) lNil)))) (lCons (eLam 4 fT__law_heard (eCall 2 r_matrix_power [] (lCons (eVar 9) (lCons (eC (.int 2)) lNil)))) (lCons (eLam 4 fT__law_heard (eCall 2 r_matrix_power [] (lCons (eVar 2) (lCons (eVar 11) lNil)))) lNil))))))))))))
      [some (0, .raw (.ref m.am)), some (0, .int (N : Int)), some (0, TM N g), some (0, .int (S : Int)), some (0, .int (e : Int)), some (0, odd), some (0, row), some (0, rows), some (0, bad), some (0, form), some (0, TM (N + 1) o), some (0, len), none, none, none, none, none] (some m9) =
      .nx [some (0, .raw (.ref m.am)), some (0, .int (N : Int)), some (0, TM N g), some (0, .int (S : Int)), some (0, .int (e : Int)), some (0, odd), some (0, row), some (0, rows), some (0, bad), some (0, form), some (0, TM (N + 1) o), some (0, len), some (1, .lst [.tup [.str "matrix", .int (S : Int)], .tup [.str "matrix", .str "form"], .tup [.str "matrix", .int (S : Int)], .tup [.str "matrix", .int (S : Int)], .tup [.str "matrix", .str "form"], .tup [.str "unalike", .str "places"], .tup [.str "unalike", .str "places"], .tup [.str "matrix", .int (S : Int)], .tup [.str "matrix", .str "form"], .tup [.str "number", len]]), none, none, none, none] (some m9) :=
    sSet_ok (k := 1) (eLst_ok (lCons_ok (here (eCall1_ok (k1 := 0) (m1 := some m9) (o := .exc "BadMatrix" (.int (S : Int)) (some m9)) rfl (hbad _)))
      (lCons_ok (head (eCall1_ok (k1 := 0) (m1 := some m9) (o := .exc "BadMatrix" (.str "form") (some m9)) rfl (hform _)))
      (lCons_ok (here (eCall2_ok (k1 := 0) (k2 := 0) (m1 := some m9) (m2 := some m9) (o := .exc "BadMatrix" (.int (S : Int)) (some m9)) rfl rfl (mt_bad1 (hbad _))))
      (lCons_ok (here (eCall2_ok (k1 := 0) (k2 := 0) (m1 := some m9) (m2 := some m9) (o := .exc "BadMatrix" (.int (S : Int)) (some m9)) rfl rfl (mt_bad2 (gok _) (hbad _))))
      (lCons_ok (head (eCall2_ok (k1 := 0) (k2 := 0) (m1 := some m9) (m2 := some m9) (o := .exc "BadMatrix" (.str "form") (some m9)) rfl rfl (mt_bad2 (gok _) (hform _))))
      (lCons_ok (unl (eCall2_ok (k1 := 0) (k2 := 0) (m1 := some m9) (m2 := some m9) (o := .exc "Unalike" (.str "places") (some m9)) rfl rfl (mt_unlike (by omega) (by omega) lg lo (by omega))))
      (lCons_ok (unl (eCall2_ok (d1 := TM 0 (oneF 0)) (k1 := 0) (k2 := 0) (m1 := some m9) (m2 := some m9) (o := .exc "Unalike" (.str "places") (some m9)) rfl rfl (mt_unlike (by omega) (by omega) l0 lg (by omega))))
      (lCons_ok (here (eCall2_ok (k1 := 0) (k2 := 0) (m1 := some m9) (m2 := some m9) (o := .exc "BadMatrix" (.int (S : Int)) (some m9)) rfl rfl (mp_bad1 (hbad _))))
      (lCons_ok (head (eCall2_ok (k1 := 0) (k2 := 0) (m1 := some m9) (m2 := some m9) (o := .exc "BadMatrix" (.str "form") (some m9)) rfl rfl (mp_bad1 (hform _))))
      (lCons_ok (num (eCall2_ok (k1 := 0) (k2 := 0) (m1 := some m9) (m2 := some m9) (o := .exc "BadNumber" len (some m9)) rfl rfl (mp_bad2 (gok _) (hlen _)))) rfl)))))))))) (by rw [sizeLine_eq]; show 10 ≤ 16777216; omega))
  have s10 : sPar3 13 14 15 (lCons (eTup (lCons (eC (.str "matrix")) (lCons (eVar 3) lNil))) (lCons (eTup (lCons (eC (.str "matrix")) (lCons (eC (.str "form")) lNil))) (lCons (eTup (lCons (eC (.str "unalike")) (lCons (eC (.str "places")) lNil))) lNil)))
      [some (0, .raw (.ref m.am)), some (0, .int (N : Int)), some (0, TM N g), some (0, .int (S : Int)), some (0, .int (e : Int)), some (0, odd), some (0, row), some (0, rows), some (0, bad), some (0, form), some (0, TM (N + 1) o), some (0, len), some (1, .lst [.tup [.str "matrix", .int (S : Int)], .tup [.str "matrix", .str "form"], .tup [.str "matrix", .int (S : Int)], .tup [.str "matrix", .int (S : Int)], .tup [.str "matrix", .str "form"], .tup [.str "unalike", .str "places"], .tup [.str "unalike", .str "places"], .tup [.str "matrix", .int (S : Int)], .tup [.str "matrix", .str "form"], .tup [.str "number", len]]), none, none, none, none] (some m9) =
      .nx [some (0, .raw (.ref m.am)), some (0, .int (N : Int)), some (0, TM N g), some (0, .int (S : Int)), some (0, .int (e : Int)), some (0, odd), some (0, row), some (0, rows), some (0, bad), some (0, form), some (0, TM (N + 1) o), some (0, len), some (1, .lst [.tup [.str "matrix", .int (S : Int)], .tup [.str "matrix", .str "form"], .tup [.str "matrix", .int (S : Int)], .tup [.str "matrix", .int (S : Int)], .tup [.str "matrix", .str "form"], .tup [.str "unalike", .str "places"], .tup [.str "unalike", .str "places"], .tup [.str "matrix", .int (S : Int)], .tup [.str "matrix", .str "form"], .tup [.str "number", len]]), some (0, .tup [.str "matrix", .int (S : Int)]), some (0, .tup [.str "matrix", .str "form"]), some (0, .tup [.str "unalike", .str "places"]), none] (some m9) :=
    sPar3_ok rfl
  have s11 : sSet 16 (eLst (lCons (eVar 13) (lCons (eVar 14) (lCons (eVar 13) (lCons (eVar 13) (lCons (eVar 14) (lCons (eVar 15) (lCons (eVar 15) (lCons (eVar 13) (lCons (eVar 14) (lCons (eTup (lCons (eC (.str "number")) (lCons (eVar 11) lNil))) lNil)))))))))))
      [some (0, .raw (.ref m.am)), some (0, .int (N : Int)), some (0, TM N g), some (0, .int (S : Int)), some (0, .int (e : Int)), some (0, odd), some (0, row), some (0, rows), some (0, bad), some (0, form), some (0, TM (N + 1) o), some (0, len), some (1, .lst [.tup [.str "matrix", .int (S : Int)], .tup [.str "matrix", .str "form"], .tup [.str "matrix", .int (S : Int)], .tup [.str "matrix", .int (S : Int)], .tup [.str "matrix", .str "form"], .tup [.str "unalike", .str "places"], .tup [.str "unalike", .str "places"], .tup [.str "matrix", .int (S : Int)], .tup [.str "matrix", .str "form"], .tup [.str "number", len]]), some (0, .tup [.str "matrix", .int (S : Int)]), some (0, .tup [.str "matrix", .str "form"]), some (0, .tup [.str "unalike", .str "places"]), none] (some m9) =
      .nx [some (0, .raw (.ref m.am)), some (0, .int (N : Int)), some (0, TM N g), some (0, .int (S : Int)), some (0, .int (e : Int)), some (0, odd), some (0, row), some (0, rows), some (0, bad), some (0, form), some (0, TM (N + 1) o), some (0, len), some (1, .lst [.tup [.str "matrix", .int (S : Int)], .tup [.str "matrix", .str "form"], .tup [.str "matrix", .int (S : Int)], .tup [.str "matrix", .int (S : Int)], .tup [.str "matrix", .str "form"], .tup [.str "unalike", .str "places"], .tup [.str "unalike", .str "places"], .tup [.str "matrix", .int (S : Int)], .tup [.str "matrix", .str "form"], .tup [.str "number", len]]), some (0, .tup [.str "matrix", .int (S : Int)]), some (0, .tup [.str "matrix", .str "form"]), some (0, .tup [.str "unalike", .str "places"]), some (1, .lst [.tup [.str "matrix", .int (S : Int)], .tup [.str "matrix", .str "form"], .tup [.str "matrix", .int (S : Int)], .tup [.str "matrix", .int (S : Int)], .tup [.str "matrix", .str "form"], .tup [.str "unalike", .str "places"], .tup [.str "unalike", .str "places"], .tup [.str "matrix", .int (S : Int)], .tup [.str "matrix", .str "form"], .tup [.str "number", len]])] (some m9) :=
    sSet_ok (k := 1) rfl
  have two : ∀ a b : D, lk 8 a → lk 8 b → lk 9 (.tup [a, b]) := fun a b ha hb => lk_tup _ (by simp) fun x hx => by
    simp only [List.mem_cons, List.not_mem_nil, or_false] at hx
    rcases hx with rfl | rfl
    · exact ha
    · exact hb
  have t1 := two (.str "matrix") (.int (S : Int)) deq_s1 trivial
  have t2 := two (.str "matrix") (.str "form") deq_s1 deq_s2
  have t3 := two (.str "unalike") (.str "places") deq_s3 deq_s4
  have t4 := two (.str "number") len deq_s5 lklen
  have hlk : lk 10 (.lst [.tup [.str "matrix", .int (S : Int)], .tup [.str "matrix", .str "form"], .tup [.str "matrix", .int (S : Int)], .tup [.str "matrix", .int (S : Int)], .tup [.str "matrix", .str "form"], .tup [.str "unalike", .str "places"], .tup [.str "unalike", .str "places"], .tup [.str "matrix", .int (S : Int)], .tup [.str "matrix", .str "form"], .tup [.str "number", len]]) := lk_all _ (by simp) fun x hx => by
    simp only [List.mem_cons, List.not_mem_nil, or_false] at hx
    rcases hx with rfl | rfl | rfl | rfl | rfl | rfl | rfl | rfl | rfl | rfl <;> assumption
  generalize D.lst [.tup [.str "matrix", .int (S : Int)], .tup [.str "matrix", .str "form"], .tup [.str "matrix", .int (S : Int)], .tup [.str "matrix", .int (S : Int)], .tup [.str "matrix", .str "form"], .tup [.str "unalike", .str "places"], .tup [.str "unalike", .str "places"], .tup [.str "matrix", .int (S : Int)], .tup [.str "matrix", .str "form"], .tup [.str "number", len]] = told at s9 s10 s11 hlk
  refine ⟨m9, ?_⟩
  unfold r__law_odd_right runD
  rw [e0]
  refine fin_ret ?_
  rw [sSeq_nx s1, sSeq_nx s2, sSeq_nx s3]
  show sSeq _ _ [some (0, .raw (.ref m.am)), some (0, .int (N : Int)), some (0, TM N g), some (0, .int (S : Int)), some (0, .int (e : Int)), some (0, odd), none, none, none, none, none, none, none, none, none, none, none] (some m5) = _
  rw [sSeq_nx s4, sSeq_nx s5, sSeq_nx s6, sSeq_nx s7]
  show sSeq _ _ [some (0, .raw (.ref m.am)), some (0, .int (N : Int)), some (0, TM N g), some (0, .int (S : Int)), some (0, .int (e : Int)), some (0, odd), some (0, row), some (0, rows), some (0, bad), some (0, form), none, none, none, none, none, none, none] (some m7) = _
  rw [sSeq_nx s8, sSeq_nx s9, sSeq_nx s10, sSeq_nx s11]
  show sRet (eCall 2 r__law_like [] (lCons (eVar 12) (lCons (eVar 16) lNil))) [some (0, .raw (.ref m.am)), some (0, .int (N : Int)), some (0, TM N g), some (0, .int (S : Int)), some (0, .int (e : Int)), some (0, odd), some (0, row), some (0, rows), some (0, bad), some (0, form), some (0, TM (N + 1) o), some (0, len), some (0, told), some (0, .tup [.str "matrix", .int (S : Int)]), some (0, .tup [.str "matrix", .str "form"]), some (0, .tup [.str "unalike", .str "places"]), some (0, told)] (some m9) = _
  exact ret_ok (k := 0) (like_ok (f1 := eVar 12) (f2 := eVar 16) (m1 := some m9) (k1 := 0) (k2 := 0) (d := told) rfl rfl hlk)
theorem law_math : ∀ (ns : List Int) (m : MSt), PPs ns → m.cells = cellsI ns → m.great = greatI ns → m.spot = 0 → ∃ ms', b_law ((startE 3 [.scr ns]).set 1 (some (0, .raw (.ref m.am)))) (some m) = .rt (.bl true) ms' := by
  intro ns m _ h1 h2 h3
  have hm : Mk 0 m := mk_begin h1 h2 h3
  have e0 : (startE 3 [.scr ns]).set 1 (some (0, .raw (.ref m.am))) = [some (0, .scr ns), some (0, .raw (.ref m.am)), none] := rfl
  rw [e0]
  -- three turns
  obtain ⟨env1, ms1, c1, u, m1, rfl, rfl, c2, c3⟩ := forF_inv (gp := gpN 2) (body := sIf (eNot (eTru (eCall 1 r__law_right [] (lCons (eVar 1) lNil)))) (sRet (eC (.bl false))) sNil)
    (fun i env ms => ∃ u m1, env = [some (0, .scr ns), some (0, .raw (.ref m.am)), u] ∧ ms = some m1 ∧ Mk ((i : Int) * 500000) m1 ∧ m1.am = m.am) (rangeD 0 3) 0 [some (0, .scr ns), some (0, .raw (.ref m.am)), none] (some m) ⟨none, m, rfl, rfl, by simpa using hm, rfl⟩ (by
      rintro j d env ms hj ⟨u, m1, rfl, rfl, c2, c3⟩
      have hj3 : j < 3 := by
        have := (List.getElem?_eq_some_iff.mp hj).1
        rw [rangeD_len] at this
        exact this
      obtain ⟨m2, d1, d2, d3⟩ := sp_right c2 (by omega)
      rw [c3] at d1
      refine ⟨[some (0, .scr ns), some (0, .raw (.ref m.am)), some (0, d)], [some (0, .scr ns), some (0, .raw (.ref m.am)), some (0, d)], some m2, rfl, ?_, some (0, d), m2, rfl, rfl, ?_, d3.trans c3⟩
      · exact sIf_skip (eNot_ok (b := true) (eTru_ok (fl := .o 0) (eCall1_ok (k1 := 0) (m1 := some m1) (d1 := .raw (.ref m.am)) (o := .ok (.bl true) (some m2)) rfl d1)))
      · refine d2.le ?_
        push_cast
        omega)
  rw [rangeD_len] at c2
  have s1 : sFor (gpN 2) (fun env ms => ((lCons (eC (.int 3)) lNil) env ms).bindI iR1) (sIf (eNot (eTru (eCall 1 r__law_right [] (lCons (eVar 1) lNil)))) (sRet (eC (.bl false))) sNil) [some (0, .scr ns), some (0, .raw (.ref m.am)), none] (some m) = .nx [some (0, .scr ns), some (0, .raw (.ref m.am)), u] (some m1) := by
    rw [sFor_rng (l := 3) rfl rfl]
    exact c1
  -- the great ones
  obtain ⟨v, m2, a1, a2, a3, a4, a5⟩ := sp_draw (l := 4) c2 (by omega) (by omega)
  rw [c3] at a1
  have h4 : eBin gEq (eCall 2 r__law_draw [] (lCons (eVar 1) (lCons (eC (.int 4)) lNil))) (eC (.int 0)) [some (0, .scr ns), some (0, .raw (.ref m.am)), u] (some m1) = .ok (.o 0) (.bl (decide (v = 0))) (some m2) :=
    eEq_int (l1 := .o 0) (l2 := .o 0) (m1 := some m2) (eCall2_ok (m1 := some m1) (m2 := some m1) (k1 := 0) (k2 := 0) (o := .ok (.int v) (some m2)) rfl rfl a1) rfl
  obtain ⟨m3, s2, b2, b3⟩ : ∃ m3, sIf (eAnd (eBin gEq (eCall 2 r__law_draw [] (lCons (eVar 1) (lCons (eC (.int 4)) lNil))) (eC (.int 0))) (eNot (eTru (eCall 1 r__law_great_right [] (lCons (eVar 1) lNil))))) (sRet (eC (.bl false))) sNil [some (0, .scr ns), some (0, .raw (.ref m.am)), u] (some m1) = .nx [some (0, .scr ns), some (0, .raw (.ref m.am)), u] (some m3) ∧ Mk 5000000 m3 ∧ m3.am = m.am := by
    by_cases hv : v = 0
    · obtain ⟨m3, d1, d2, d3⟩ := sp_great a4 (by omega)
      rw [a5, c3] at d1
      refine ⟨m3, ?_, d2.le (by omega), by rw [d3, a5, c3]⟩
      rw [decide_eq_true hv] at h4
      exact sIf_skip ((eAnd_t h4).trans (eNot_ok (b := true) (eTru_ok (fl := .o 0) (eCall1_ok (k1 := 0) (m1 := some m2) (d1 := .raw (.ref m.am)) (o := .ok (.bl true) (some m3)) rfl d1))))
    · refine ⟨m2, ?_, a4.le (by omega), by rw [a5, c3]⟩
      rw [decide_eq_false hv] at h4
      exact sIf_skip (eAnd_f h4)
  obtain ⟨m4, d1⟩ := sp_odd b2 (by omega)
  rw [b3] at d1
  refine ⟨some m4, ?_⟩
  unfold b_law
  rw [sSeq_nx s1, sSeq_nx s2]
  exact ret_ok (k := 0) (eCall1_ok (k1 := 0) (m1 := some m3) (d1 := .raw (.ref m.am)) (o := .ok (.bl true) (some m4)) rfl d1)
theorem cx_never {P : Program} (w : World) (H : Hp) (s : Shared) (e : Value) (s' : Shared) : L2.CX P w [] H s (fun _ _ _ => False) e s' → False := fun ⟨_, _, _, _, _, _, _, _, _, _, _, _, h⟩ => h
end DL
namespace DL
open PySem PySem.Spec PyProof.Rows L2
theorem shape_BadMatrix : ShapeC PySem.Challenge.pw_endlesswalks_k16_matrices_and_powers (clsDef (topS 3)) "place" "place" := ⟨_, _, _, _, _, _, _, _, _, _, _, _, _, _, rfl, rfl, rfl, by decide, fun _ _ _ _ _ _ _ _ _ _ => rfl, rfl, rfl, rfl, rfl, rfl, rfl, rfl, by decide +kernel, by decide, by decide +kernel, fun env => ⟨_, rfl⟩⟩
theorem shape_BadNumber : ShapeC PySem.Challenge.pw_endlesswalks_k16_matrices_and_powers (clsDef (topS 2)) "value" "value" := ⟨_, _, _, _, _, _, _, _, _, _, _, _, _, _, rfl, rfl, rfl, by decide, fun _ _ _ _ _ _ _ _ _ _ => rfl, rfl, rfl, rfl, rfl, rfl, rfl, rfl, by decide +kernel, by decide, by decide +kernel, fun env => ⟨_, rfl⟩⟩
theorem shape_Unalike : ShapeC PySem.Challenge.pw_endlesswalks_k16_matrices_and_powers (clsDef (topS 4)) "place" "place" := ⟨_, _, _, _, _, _, _, _, _, _, _, _, _, _, rfl, rfl, rfl, by decide, fun _ _ _ _ _ _ _ _ _ _ => rfl, rfl, rfl, rfl, rfl, rfl, rfl, rfl, by decide +kernel, by decide, by decide +kernel, fun env => ⟨_, rfl⟩⟩
theorem sc__law_begun : FnScope ["script", "m", "cell"] ["script"] (defScope (topS 24)) := ⟨rfl, rfl, rfl, by decide +kernel, rfl, by decide +kernel, by decide +kernel⟩
theorem ok__law_begun {P : Program} {w : World} {K : PySem.W.Frag} {mg : Str → Option Value} {base : Heap} {cls : ClT} (c__law_folded_1 : CalF P w K mg base cls "_law_folded" 1 3 [] r__law_folded)  (f : Addr) (fd : FuncData) (Fd : FunD K "_law_begun" "_law_begun" (defArgs (topS 24)) (defBody (topS 24)) (defScope (topS 24)) [] [] f fd) : FnOk P w K mg base (L2.CX P w) 4 f fd ["script"] (spBeg K PPs cellsI greatI) :=
  begun_ok (cls := cls) (nm := "m") (ef := e1_begun) (el := e2_begun) Fd sc__law_begun (by decide) (by decide) rfl rfl (by decide) (by decide) rfl rfl rfl rfl (fun _ _ => rfl) (fun _ _ => rfl) (fun cdv A outer s H E G hG nx hr => by
    subst hG
    have nd := sc__law_begun.nd
    have hu1 := hu_of hr
    have hu64 := hr.units
    have hu0 := hr.units0
    exact ⟨(se_f takes_none5 c__law_folded_1 hr (sa_cons (se_var 0) sa_nil) (hkj := by decide)),
      (se_lc nx rfl nd (own := [("cell", 2)]) (vs := [2]) rfl (si_seq (se_var 0)) (blkOk_by (by rfl)) (fun s H C cl fp => (sg_name 2 nd)) (fun s H C cl fp => pts_yes) (fun s H C cl fp => (se_if (st_cmp op_ge ok_ge (nomark _) (se_var 2) (se_pow se_int se_int)) (se_var 2) se_int)))⟩) g1_begun g2_begun
set_option maxHeartbeats 0 in
theorem all_mk {w : World} {K : PySem.W.Frag} {h : Heap} {mg : Str → Option Value} {fa : Addr} (X : K.In h) (G : h.Ns mainGlobals mg) (hfa : mg "law" = some (.ref fa))
    {f__law_folded : Addr} {oc__law_folded : Value} {od__law_folded an__law_folded : Option Addr} {sl__law_folded : Array (Option Value)} {kV__law_folded doc__law_folded pm__law_folded ct__law_folded : Value}
    {cd__law_folded : Value}
    {f__law_begun : Addr} {oc__law_begun : Value} {od__law_begun an__law_begun : Option Addr} {sl__law_begun : Array (Option Value)} {kV__law_begun doc__law_begun pm__law_begun ct__law_begun : Value}
    {cd__law_begun : Value}
    {f__law_mixed : Addr} {oc__law_mixed : Value} {od__law_mixed an__law_mixed : Option Addr} {sl__law_mixed : Array (Option Value)} {kV__law_mixed doc__law_mixed pm__law_mixed ct__law_mixed : Value}
    {cd__law_mixed : Value}
    {f__law_draw : Addr} {oc__law_draw : Value} {od__law_draw an__law_draw : Option Addr} {sl__law_draw : Array (Option Value)} {kV__law_draw doc__law_draw pm__law_draw ct__law_draw : Value}
    {cd__law_draw : Value}
    {f__law_of : Addr} {oc__law_of : Value} {od__law_of an__law_of : Option Addr} {sl__law_of : Array (Option Value)} {kV__law_of doc__law_of pm__law_of ct__law_of : Value}
    {cd__law_of : Value}
    {f__law_like : Addr} {oc__law_like : Value} {od__law_like an__law_like : Option Addr} {sl__law_like : Array (Option Value)} {kV__law_like doc__law_like pm__law_like ct__law_like : Value}
    {cd__law_like : Value}
    {f__law_drawn_matrix : Addr} {oc__law_drawn_matrix : Value} {od__law_drawn_matrix an__law_drawn_matrix : Option Addr} {sl__law_drawn_matrix : Array (Option Value)} {kV__law_drawn_matrix doc__law_drawn_matrix pm__law_drawn_matrix ct__law_drawn_matrix : Value}
    {cd__law_drawn_matrix : Value}
    {f__law_heard : Addr} {oc__law_heard : Value} {od__law_heard an__law_heard : Option Addr} {sl__law_heard : Array (Option Value)} {kV__law_heard doc__law_heard pm__law_heard ct__law_heard : Value}
    {cd__law_heard : Value}
    {f_is_row : Addr} {oc_is_row : Value} {od_is_row an_is_row : Option Addr} {sl_is_row : Array (Option Value)} {kV_is_row doc_is_row pm_is_row ct_is_row : Value}
    {cd_is_row : Value}
    {T_is_row : Addr} {oct_is_row : Value} {odt_is_row : Option Addr} {its_is_row : List Value} {mt_is_row : Nat} {slt_is_row : Array (Option Value)}
    {f_is_whole : Addr} {oc_is_whole : Value} {od_is_whole an_is_whole : Option Addr} {sl_is_whole : Array (Option Value)} {kV_is_whole doc_is_whole pm_is_whole ct_is_whole : Value}
    {cd_is_whole : Value}
    {T_is_whole : Addr} {oct_is_whole : Value} {odt_is_whole : Option Addr} {its_is_whole : List Value} {mt_is_whole : Nat} {slt_is_whole : Array (Option Value)}
    {f_are_wholes : Addr} {oc_are_wholes : Value} {od_are_wholes an_are_wholes : Option Addr} {sl_are_wholes : Array (Option Value)} {kV_are_wholes doc_are_wholes pm_are_wholes ct_are_wholes : Value}
    {cd_are_wholes : Value}
    {T_are_wholes : Addr} {oct_are_wholes : Value} {odt_are_wholes : Option Addr} {its_are_wholes : List Value} {mt_are_wholes : Nat} {slt_are_wholes : Array (Option Value)}
    {f_need_matrix : Addr} {oc_need_matrix : Value} {od_need_matrix an_need_matrix : Option Addr} {sl_need_matrix : Array (Option Value)} {kV_need_matrix doc_need_matrix pm_need_matrix ct_need_matrix : Value}
    {cd_need_matrix : Value}
    {f_product_of : Addr} {oc_product_of : Value} {od_product_of an_product_of : Option Addr} {sl_product_of : Array (Option Value)} {kV_product_of doc_product_of pm_product_of ct_product_of : Value}
    {cd_product_of : Value}
    {f_matrix_times : Addr} {oc_matrix_times : Value} {od_matrix_times an_matrix_times : Option Addr} {sl_matrix_times : Array (Option Value)} {kV_matrix_times doc_matrix_times pm_matrix_times ct_matrix_times : Value}
    {cd_matrix_times : Value}
    {f_plain_matrix : Addr} {oc_plain_matrix : Value} {od_plain_matrix an_plain_matrix : Option Addr} {sl_plain_matrix : Array (Option Value)} {kV_plain_matrix doc_plain_matrix pm_plain_matrix ct_plain_matrix : Value}
    {cd_plain_matrix : Value}
    {f_power_matrix : Addr} {oc_power_matrix : Value} {od_power_matrix an_power_matrix : Option Addr} {sl_power_matrix : Array (Option Value)} {kV_power_matrix doc_power_matrix pm_power_matrix ct_power_matrix : Value}
    {cd_power_matrix : Value}
    {f_need_power : Addr} {oc_need_power : Value} {od_need_power an_need_power : Option Addr} {sl_need_power : Array (Option Value)} {kV_need_power doc_need_power pm_need_power ct_need_power : Value}
    {cd_need_power : Value}
    {f_matrix_power : Addr} {oc_matrix_power : Value} {od_matrix_power an_matrix_power : Option Addr} {sl_matrix_power : Array (Option Value)} {kV_matrix_power doc_matrix_power pm_matrix_power ct_matrix_power : Value}
    {cd_matrix_power : Value}
    {f__law_odd_right : Addr} {oc__law_odd_right : Value} {od__law_odd_right an__law_odd_right : Option Addr} {sl__law_odd_right : Array (Option Value)} {kV__law_odd_right doc__law_odd_right pm__law_odd_right ct__law_odd_right : Value}
    {c__law_odd_right P__law_odd_right : Addr} {o3__law_odd_right : Value} {d3__law_odd_right : Option Addr} {vv__law_odd_right : Array Value} {s3__law_odd_right : Array (Option Value)}
    {f__law_plain : Addr} {oc__law_plain : Value} {od__law_plain an__law_plain : Option Addr} {sl__law_plain : Array (Option Value)} {kV__law_plain doc__law_plain pm__law_plain ct__law_plain : Value}
    {cd__law_plain : Value}
    {f__law_times : Addr} {oc__law_times : Value} {od__law_times an__law_times : Option Addr} {sl__law_times : Array (Option Value)} {kV__law_times doc__law_times pm__law_times ct__law_times : Value}
    {cd__law_times : Value}
    {f__law_powers : Addr} {oc__law_powers : Value} {od__law_powers an__law_powers : Option Addr} {sl__law_powers : Array (Option Value)} {kV__law_powers doc__law_powers pm__law_powers ct__law_powers : Value}
    {cd__law_powers : Value}
    {f__law_right : Addr} {oc__law_right : Value} {od__law_right an__law_right : Option Addr} {sl__law_right : Array (Option Value)} {kV__law_right doc__law_right pm__law_right ct__law_right : Value}
    {cd__law_right : Value}
    {f__law_great_right : Addr} {oc__law_great_right : Value} {od__law_great_right an__law_great_right : Option Addr} {sl__law_great_right : Array (Option Value)} {kV__law_great_right doc__law_great_right pm__law_great_right ct__law_great_right : Value}
    {cd__law_great_right : Value}
    {f_law : Addr} {oc_law : Value} {od_law an_law : Option Addr} {sl_law : Array (Option Value)} {kV_law doc_law pm_law ct_law : Value}
    {cd_law : Value}
    {t_MOST_ENTRY : Tok}
    {t_MOST_LENGTH : Tok}
    {t_MOST_ROWS : Tok}
    {C_BadMatrix : Addr}
    {C_BadNumber : Addr}
    {C_Unalike : Addr}
    {fI_BadMatrix cc_BadMatrix cda_BadMatrix : Addr} {qu_BadMatrix : Str} {kVi_BadMatrix doci_BadMatrix pmi_BadMatrix cti_BadMatrix o1_BadMatrix o2_BadMatrix : Value} {ani_BadMatrix odi_BadMatrix d1_BadMatrix d2_BadMatrix : Option Addr} {sli_BadMatrix s1_BadMatrix s2_BadMatrix : Array (Option Value)} {vs_BadMatrix : Array Value} {fl_BadMatrix : Str} {tf_BadMatrix : Tok} {cdt_BadMatrix : ClassData}
    {fI_BadNumber cc_BadNumber cda_BadNumber : Addr} {qu_BadNumber : Str} {kVi_BadNumber doci_BadNumber pmi_BadNumber cti_BadNumber o1_BadNumber o2_BadNumber : Value} {ani_BadNumber odi_BadNumber d1_BadNumber d2_BadNumber : Option Addr} {sli_BadNumber s1_BadNumber s2_BadNumber : Array (Option Value)} {vs_BadNumber : Array Value} {fl_BadNumber : Str} {tf_BadNumber : Tok} {cdt_BadNumber : ClassData}
    {fI_Unalike cc_Unalike cda_Unalike : Addr} {qu_Unalike : Str} {kVi_Unalike doci_Unalike pmi_Unalike cti_Unalike o1_Unalike o2_Unalike : Value} {ani_Unalike odi_Unalike d1_Unalike d2_Unalike : Option Addr} {sli_Unalike s1_Unalike s2_Unalike : Array (Option Value)} {vs_Unalike : Array Value} {fl_Unalike : Str} {tf_Unalike : Tok} {cdt_Unalike : ClassData}
    (a__law_folded : PySem.W.nsIn K mainGlobals "_law_folded" = some (some (.ref f__law_folded)))
    (l__law_folded : K.lookup f__law_folded = some ⟨oc__law_folded, od__law_folded, .func (PySem.W.fnOf "_law_folded" "_law_folded" (defArgs (topS 22)) (defBody (topS 22)) (defScope (topS 22)) .none kV__law_folded doc__law_folded pm__law_folded an__law_folded cd__law_folded ct__law_folded), sl__law_folded⟩)
    (c__law_folded : PySem.W.codeIn K cd__law_folded "_law_folded" = true)
    (p__law_folded : PySem.W.keepIn K (.ref f__law_folded) = true)
    (a__law_begun : PySem.W.nsIn K mainGlobals "_law_begun" = some (some (.ref f__law_begun)))
    (l__law_begun : K.lookup f__law_begun = some ⟨oc__law_begun, od__law_begun, .func (PySem.W.fnOf "_law_begun" "_law_begun" (defArgs (topS 24)) (defBody (topS 24)) (defScope (topS 24)) .none kV__law_begun doc__law_begun pm__law_begun an__law_begun cd__law_begun ct__law_begun), sl__law_begun⟩)
    (c__law_begun : PySem.W.codeIn K cd__law_begun "_law_begun" = true)
    (p__law_begun : PySem.W.keepIn K (.ref f__law_begun) = true)
    (a__law_mixed : PySem.W.nsIn K mainGlobals "_law_mixed" = some (some (.ref f__law_mixed)))
    (l__law_mixed : K.lookup f__law_mixed = some ⟨oc__law_mixed, od__law_mixed, .func (PySem.W.fnOf "_law_mixed" "_law_mixed" (defArgs (topS 21)) (defBody (topS 21)) (defScope (topS 21)) .none kV__law_mixed doc__law_mixed pm__law_mixed an__law_mixed cd__law_mixed ct__law_mixed), sl__law_mixed⟩)
    (c__law_mixed : PySem.W.codeIn K cd__law_mixed "_law_mixed" = true)
    (p__law_mixed : PySem.W.keepIn K (.ref f__law_mixed) = true)
    (a__law_draw : PySem.W.nsIn K mainGlobals "_law_draw" = some (some (.ref f__law_draw)))
    (l__law_draw : K.lookup f__law_draw = some ⟨oc__law_draw, od__law_draw, .func (PySem.W.fnOf "_law_draw" "_law_draw" (defArgs (topS 23)) (defBody (topS 23)) (defScope (topS 23)) .none kV__law_draw doc__law_draw pm__law_draw an__law_draw cd__law_draw ct__law_draw), sl__law_draw⟩)
    (c__law_draw : PySem.W.codeIn K cd__law_draw "_law_draw" = true)
    (p__law_draw : PySem.W.keepIn K (.ref f__law_draw) = true)
    (a__law_of : PySem.W.nsIn K mainGlobals "_law_of" = some (some (.ref f__law_of)))
    (l__law_of : K.lookup f__law_of = some ⟨oc__law_of, od__law_of, .func (PySem.W.fnOf "_law_of" "_law_of" (defArgs (topS 25)) (defBody (topS 25)) (defScope (topS 25)) .none kV__law_of doc__law_of pm__law_of an__law_of cd__law_of ct__law_of), sl__law_of⟩)
    (c__law_of : PySem.W.codeIn K cd__law_of "_law_of" = true)
    (p__law_of : PySem.W.keepIn K (.ref f__law_of) = true)
    (a__law_like : PySem.W.nsIn K mainGlobals "_law_like" = some (some (.ref f__law_like)))
    (l__law_like : K.lookup f__law_like = some ⟨oc__law_like, od__law_like, .func (PySem.W.fnOf "_law_like" "_law_like" (defArgs (topS 26)) (defBody (topS 26)) (defScope (topS 26)) .none kV__law_like doc__law_like pm__law_like an__law_like cd__law_like ct__law_like), sl__law_like⟩)
    (c__law_like : PySem.W.codeIn K cd__law_like "_law_like" = true)
    (p__law_like : PySem.W.keepIn K (.ref f__law_like) = true)
    (a__law_drawn_matrix : PySem.W.nsIn K mainGlobals "_law_drawn_matrix" = some (some (.ref f__law_drawn_matrix)))
    (l__law_drawn_matrix : K.lookup f__law_drawn_matrix = some ⟨oc__law_drawn_matrix, od__law_drawn_matrix, .func (PySem.W.fnOf "_law_drawn_matrix" "_law_drawn_matrix" (defArgs (topS 30)) (defBody (topS 30)) (defScope (topS 30)) .none kV__law_drawn_matrix doc__law_drawn_matrix pm__law_drawn_matrix an__law_drawn_matrix cd__law_drawn_matrix ct__law_drawn_matrix), sl__law_drawn_matrix⟩)
    (c__law_drawn_matrix : PySem.W.codeIn K cd__law_drawn_matrix "_law_drawn_matrix" = true)
    (p__law_drawn_matrix : PySem.W.keepIn K (.ref f__law_drawn_matrix) = true)
    (a__law_heard : PySem.W.nsIn K mainGlobals "_law_heard" = some (some (.ref f__law_heard)))
    (l__law_heard : K.lookup f__law_heard = some ⟨oc__law_heard, od__law_heard, .func (PySem.W.fnOf "_law_heard" "_law_heard" (defArgs (topS 31)) (defBody (topS 31)) (defScope (topS 31)) .none kV__law_heard doc__law_heard pm__law_heard an__law_heard cd__law_heard ct__law_heard), sl__law_heard⟩)
    (c__law_heard : PySem.W.codeIn K cd__law_heard "_law_heard" = true)
    (p__law_heard : PySem.W.keepIn K (.ref f__law_heard) = true)
    (a_is_row : PySem.W.nsIn K mainGlobals "is_row" = some (some (.ref f_is_row)))
    (l_is_row : K.lookup f_is_row = some ⟨oc_is_row, od_is_row, .func (PySem.W.fnOf "is_row" "is_row" (defArgs (topS 7)) (defBody (topS 7)) (defScope (topS 7)) (.ref T_is_row) kV_is_row doc_is_row pm_is_row an_is_row cd_is_row ct_is_row), sl_is_row⟩)
    (lt_is_row : K.lookup T_is_row = some ⟨oct_is_row, odt_is_row, .seq its_is_row.toArray mt_is_row, slt_is_row⟩)
    (vt_is_row : Vals [.non] its_is_row)
    (c_is_row : PySem.W.codeIn K cd_is_row "is_row" = true)
    (p_is_row : PySem.W.keepIn K (.ref f_is_row) = true)
    (a_is_whole : PySem.W.nsIn K mainGlobals "is_whole" = some (some (.ref f_is_whole)))
    (l_is_whole : K.lookup f_is_whole = some ⟨oc_is_whole, od_is_whole, .func (PySem.W.fnOf "is_whole" "is_whole" (defArgs (topS 6)) (defBody (topS 6)) (defScope (topS 6)) (.ref T_is_whole) kV_is_whole doc_is_whole pm_is_whole an_is_whole cd_is_whole ct_is_whole), sl_is_whole⟩)
    (lt_is_whole : K.lookup T_is_whole = some ⟨oct_is_whole, odt_is_whole, .seq its_is_whole.toArray mt_is_whole, slt_is_whole⟩)
    (vt_is_whole : Vals [.non, .non] its_is_whole)
    (c_is_whole : PySem.W.codeIn K cd_is_whole "is_whole" = true)
    (p_is_whole : PySem.W.keepIn K (.ref f_is_whole) = true)
    (a_are_wholes : PySem.W.nsIn K mainGlobals "are_wholes" = some (some (.ref f_are_wholes)))
    (l_are_wholes : K.lookup f_are_wholes = some ⟨oc_are_wholes, od_are_wholes, .func (PySem.W.fnOf "are_wholes" "are_wholes" (defArgs (topS 8)) (defBody (topS 8)) (defScope (topS 8)) (.ref T_are_wholes) kV_are_wholes doc_are_wholes pm_are_wholes an_are_wholes cd_are_wholes ct_are_wholes), sl_are_wholes⟩)
    (lt_are_wholes : K.lookup T_are_wholes = some ⟨oct_are_wholes, odt_are_wholes, .seq its_are_wholes.toArray mt_are_wholes, slt_are_wholes⟩)
    (vt_are_wholes : Vals [.non, .non] its_are_wholes)
    (c_are_wholes : PySem.W.codeIn K cd_are_wholes "are_wholes" = true)
    (p_are_wholes : PySem.W.keepIn K (.ref f_are_wholes) = true)
    (a_need_matrix : PySem.W.nsIn K mainGlobals "need_matrix" = some (some (.ref f_need_matrix)))
    (l_need_matrix : K.lookup f_need_matrix = some ⟨oc_need_matrix, od_need_matrix, .func (PySem.W.fnOf "need_matrix" "need_matrix" (defArgs (topS 13)) (defBody (topS 13)) (defScope (topS 13)) .none kV_need_matrix doc_need_matrix pm_need_matrix an_need_matrix cd_need_matrix ct_need_matrix), sl_need_matrix⟩)
    (c_need_matrix : PySem.W.codeIn K cd_need_matrix "need_matrix" = true)
    (p_need_matrix : PySem.W.keepIn K (.ref f_need_matrix) = true)
    (a_product_of : PySem.W.nsIn K mainGlobals "product_of" = some (some (.ref f_product_of)))
    (l_product_of : K.lookup f_product_of = some ⟨oc_product_of, od_product_of, .func (PySem.W.fnOf "product_of" "product_of" (defArgs (topS 15)) (defBody (topS 15)) (defScope (topS 15)) .none kV_product_of doc_product_of pm_product_of an_product_of cd_product_of ct_product_of), sl_product_of⟩)
    (c_product_of : PySem.W.codeIn K cd_product_of "product_of" = true)
    (p_product_of : PySem.W.keepIn K (.ref f_product_of) = true)
    (a_matrix_times : PySem.W.nsIn K mainGlobals "matrix_times" = some (some (.ref f_matrix_times)))
    (l_matrix_times : K.lookup f_matrix_times = some ⟨oc_matrix_times, od_matrix_times, .func (PySem.W.fnOf "matrix_times" "matrix_times" (defArgs (topS 18)) (defBody (topS 18)) (defScope (topS 18)) .none kV_matrix_times doc_matrix_times pm_matrix_times an_matrix_times cd_matrix_times ct_matrix_times), sl_matrix_times⟩)
    (c_matrix_times : PySem.W.codeIn K cd_matrix_times "matrix_times" = true)
    (p_matrix_times : PySem.W.keepIn K (.ref f_matrix_times) = true)
    (a_plain_matrix : PySem.W.nsIn K mainGlobals "plain_matrix" = some (some (.ref f_plain_matrix)))
    (l_plain_matrix : K.lookup f_plain_matrix = some ⟨oc_plain_matrix, od_plain_matrix, .func (PySem.W.fnOf "plain_matrix" "plain_matrix" (defArgs (topS 16)) (defBody (topS 16)) (defScope (topS 16)) .none kV_plain_matrix doc_plain_matrix pm_plain_matrix an_plain_matrix cd_plain_matrix ct_plain_matrix), sl_plain_matrix⟩)
    (c_plain_matrix : PySem.W.codeIn K cd_plain_matrix "plain_matrix" = true)
    (p_plain_matrix : PySem.W.keepIn K (.ref f_plain_matrix) = true)
    (a_power_matrix : PySem.W.nsIn K mainGlobals "power_matrix" = some (some (.ref f_power_matrix)))
    (l_power_matrix : K.lookup f_power_matrix = some ⟨oc_power_matrix, od_power_matrix, .func (PySem.W.fnOf "power_matrix" "power_matrix" (defArgs (topS 17)) (defBody (topS 17)) (defScope (topS 17)) .none kV_power_matrix doc_power_matrix pm_power_matrix an_power_matrix cd_power_matrix ct_power_matrix), sl_power_matrix⟩)
    (c_power_matrix : PySem.W.codeIn K cd_power_matrix "power_matrix" = true)
    (p_power_matrix : PySem.W.keepIn K (.ref f_power_matrix) = true)
    (a_need_power : PySem.W.nsIn K mainGlobals "need_power" = some (some (.ref f_need_power)))
    (l_need_power : K.lookup f_need_power = some ⟨oc_need_power, od_need_power, .func (PySem.W.fnOf "need_power" "need_power" (defArgs (topS 14)) (defBody (topS 14)) (defScope (topS 14)) .none kV_need_power doc_need_power pm_need_power an_need_power cd_need_power ct_need_power), sl_need_power⟩)
    (c_need_power : PySem.W.codeIn K cd_need_power "need_power" = true)
    (p_need_power : PySem.W.keepIn K (.ref f_need_power) = true)
    (a_matrix_power : PySem.W.nsIn K mainGlobals "matrix_power" = some (some (.ref f_matrix_power)))
    (l_matrix_power : K.lookup f_matrix_power = some ⟨oc_matrix_power, od_matrix_power, .func (PySem.W.fnOf "matrix_power" "matrix_power" (defArgs (topS 19)) (defBody (topS 19)) (defScope (topS 19)) .none kV_matrix_power doc_matrix_power pm_matrix_power an_matrix_power cd_matrix_power ct_matrix_power), sl_matrix_power⟩)
    (c_matrix_power : PySem.W.codeIn K cd_matrix_power "matrix_power" = true)
    (p_matrix_power : PySem.W.keepIn K (.ref f_matrix_power) = true)
    (a__law_odd_right : PySem.W.nsIn K mainGlobals "_law_odd_right" = some (some (.ref f__law_odd_right)))
    (l__law_odd_right : K.lookup f__law_odd_right = some ⟨oc__law_odd_right, od__law_odd_right, .func (PySem.W.fnOf "_law_odd_right" "_law_odd_right" (defArgs (topS 34)) (defBody (topS 34)) (defScope (topS 34)) .none kV__law_odd_right doc__law_odd_right pm__law_odd_right an__law_odd_right (.ref c__law_odd_right) ct__law_odd_right), sl__law_odd_right⟩)
    (cc__law_odd_right : PySem.W.codeIn K (.ref c__law_odd_right) "_law_odd_right" = true)
    (p__law_odd_right : PySem.W.keepIn K (.ref f__law_odd_right) = true)
    (zv__law_odd_right : K.lookup c__law_odd_right = some ⟨o3__law_odd_right, d3__law_odd_right, .fields vv__law_odd_right, s3__law_odd_right⟩)
    (zp__law_odd_right : vv__law_odd_right[11]? = some (.ref P__law_odd_right))
    (zc__law_odd_right : PySem.W.codeHdIn K c__law_odd_right P__law_odd_right = true)
    (zt__law_odd_right : K.lookup P__law_odd_right = none)
    (zh__law_odd_right : h.get? P__law_odd_right = some { cls := .none, data := .fields #[] })
    (a__law_plain : PySem.W.nsIn K mainGlobals "_law_plain" = some (some (.ref f__law_plain)))
    (l__law_plain : K.lookup f__law_plain = some ⟨oc__law_plain, od__law_plain, .func (PySem.W.fnOf "_law_plain" "_law_plain" (defArgs (topS 28)) (defBody (topS 28)) (defScope (topS 28)) .none kV__law_plain doc__law_plain pm__law_plain an__law_plain cd__law_plain ct__law_plain), sl__law_plain⟩)
    (c__law_plain : PySem.W.codeIn K cd__law_plain "_law_plain" = true)
    (p__law_plain : PySem.W.keepIn K (.ref f__law_plain) = true)
    (a__law_times : PySem.W.nsIn K mainGlobals "_law_times" = some (some (.ref f__law_times)))
    (l__law_times : K.lookup f__law_times = some ⟨oc__law_times, od__law_times, .func (PySem.W.fnOf "_law_times" "_law_times" (defArgs (topS 27)) (defBody (topS 27)) (defScope (topS 27)) .none kV__law_times doc__law_times pm__law_times an__law_times cd__law_times ct__law_times), sl__law_times⟩)
    (c__law_times : PySem.W.codeIn K cd__law_times "_law_times" = true)
    (p__law_times : PySem.W.keepIn K (.ref f__law_times) = true)
    (a__law_powers : PySem.W.nsIn K mainGlobals "_law_powers" = some (some (.ref f__law_powers)))
    (l__law_powers : K.lookup f__law_powers = some ⟨oc__law_powers, od__law_powers, .func (PySem.W.fnOf "_law_powers" "_law_powers" (defArgs (topS 29)) (defBody (topS 29)) (defScope (topS 29)) .none kV__law_powers doc__law_powers pm__law_powers an__law_powers cd__law_powers ct__law_powers), sl__law_powers⟩)
    (c__law_powers : PySem.W.codeIn K cd__law_powers "_law_powers" = true)
    (p__law_powers : PySem.W.keepIn K (.ref f__law_powers) = true)
    (a__law_right : PySem.W.nsIn K mainGlobals "_law_right" = some (some (.ref f__law_right)))
    (l__law_right : K.lookup f__law_right = some ⟨oc__law_right, od__law_right, .func (PySem.W.fnOf "_law_right" "_law_right" (defArgs (topS 32)) (defBody (topS 32)) (defScope (topS 32)) .none kV__law_right doc__law_right pm__law_right an__law_right cd__law_right ct__law_right), sl__law_right⟩)
    (c__law_right : PySem.W.codeIn K cd__law_right "_law_right" = true)
    (p__law_right : PySem.W.keepIn K (.ref f__law_right) = true)
    (a__law_great_right : PySem.W.nsIn K mainGlobals "_law_great_right" = some (some (.ref f__law_great_right)))
    (l__law_great_right : K.lookup f__law_great_right = some ⟨oc__law_great_right, od__law_great_right, .func (PySem.W.fnOf "_law_great_right" "_law_great_right" (defArgs (topS 33)) (defBody (topS 33)) (defScope (topS 33)) .none kV__law_great_right doc__law_great_right pm__law_great_right an__law_great_right cd__law_great_right ct__law_great_right), sl__law_great_right⟩)
    (c__law_great_right : PySem.W.codeIn K cd__law_great_right "_law_great_right" = true)
    (p__law_great_right : PySem.W.keepIn K (.ref f__law_great_right) = true)
    (a_law : PySem.W.nsIn K mainGlobals "law" = some (some (.ref f_law)))
    (l_law : K.lookup f_law = some ⟨oc_law, od_law, .func (PySem.W.fnOf "law" "law" (defArgs (topS 35)) (defBody (topS 35)) (defScope (topS 35)) .none kV_law doc_law pm_law an_law cd_law ct_law), sl_law⟩)
    (c_law : PySem.W.codeIn K cd_law "law" = true)
    (p_law : PySem.W.keepIn K (.ref f_law) = true)
    (z_all : PySem.W.nsIn K mainGlobals "all" = some none)
    (z_bool : PySem.W.nsIn K mainGlobals "bool" = some none)
    (z_enumerate : PySem.W.nsIn K mainGlobals "enumerate" = some none)
    (z_int : PySem.W.nsIn K mainGlobals "int" = some none)
    (z_isinstance : PySem.W.nsIn K mainGlobals "isinstance" = some none)
    (z_len : PySem.W.nsIn K mainGlobals "len" = some none)
    (z_list : PySem.W.nsIn K mainGlobals "list" = some none)
    (z_range : PySem.W.nsIn K mainGlobals "range" = some none)
    (z_str : PySem.W.nsIn K mainGlobals "str" = some none)
    (z_sum : PySem.W.nsIn K mainGlobals "sum" = some none)
    (z_super : PySem.W.nsIn K mainGlobals "super" = some none)
    (z_tuple : PySem.W.nsIn K mainGlobals "tuple" = some none)
    (z_zip : PySem.W.nsIn K mainGlobals "zip" = some none)
    (zk_MOST_ENTRY : PySem.W.nsIn K mainGlobals "MOST_ENTRY" = some (some (.int 1000000000000 t_MOST_ENTRY)))
    (zk_MOST_LENGTH : PySem.W.nsIn K mainGlobals "MOST_LENGTH" = some (some (.int 200 t_MOST_LENGTH)))
    (zk_MOST_ROWS : PySem.W.nsIn K mainGlobals "MOST_ROWS" = some (some (.int 12 t_MOST_ROWS)))
    (za_BadMatrix : PySem.W.nsIn K mainGlobals "BadMatrix" = some (some (.ref C_BadMatrix)))
    (za_BadNumber : PySem.W.nsIn K mainGlobals "BadNumber" = some (some (.ref C_BadNumber)))
    (za_Unalike : PySem.W.nsIn K mainGlobals "Unalike" = some (some (.ref C_Unalike)))
    (y1_BadMatrix : PySem.W.excInitIn K C_BadMatrix [.type "ValueError", .type "Exception", .type "BaseException", .type "object"] "ValueError.__new__" = true)
    (y2_BadMatrix : PySem.W.excOver K C_BadMatrix [.type "ValueError", .type "Exception", .type "BaseException", .type "object"] = true)
    (y3_BadMatrix : PySem.W.takerIn K C_BadMatrix "place" = some none)
    (y4_BadMatrix : PySem.W.hasDictIn K C_BadMatrix = true)
    (y5_BadMatrix : PySem.W.findIn K (.ref C_BadMatrix) "__setattr__" = some (some (.builtin "object.__setattr__")))
    (y6_BadMatrix : PySem.W.mroIn K C_BadMatrix (.ref C_BadMatrix) = some true)
    (y7_BadMatrix : PySem.W.ks_superIn K C_BadMatrix C_BadMatrix "__init__" = some (some (.builtin "ValueError.__init__")))
    (y8_BadMatrix : PySem.W.subIn K (.ref C_BadMatrix) (.type "ValueError") = some true)
    (y9 : PySem.W.nsIn K cStatics "thirdparty.any" = some none)
    (ya_BadMatrix : PySem.W.subIn K (.ref C_BadMatrix) (.type "BaseException") = some true)
    (yb_BadMatrix : PySem.W.typeIn K (.ref C_BadMatrix) = some (.type "type"))
    (yc_BadMatrix : PySem.W.keepIn K (.ref C_BadMatrix) = true)
    (yd_BadMatrix : PySem.W.clsIn K C_BadMatrix = some cdt_BadMatrix)
    (ye_BadMatrix : PySem.W.findIn K (.ref C_BadMatrix) "__init__" = some (some (.ref fI_BadMatrix)))
    (yf_BadMatrix : K.lookup fI_BadMatrix = some ⟨.type "function", odi_BadMatrix, .func (PySem.W.ksFn "__init__" qu_BadMatrix (defArgs (clsDef (topS 3))) (defBody (clsDef (topS 3))) (defScope (clsDef (topS 3))) .none kVi_BadMatrix doci_BadMatrix pmi_BadMatrix ani_BadMatrix (.ref cda_BadMatrix) cti_BadMatrix cc_BadMatrix), sli_BadMatrix⟩)
    (yg_BadMatrix : PySem.W.codeIn K (.ref cda_BadMatrix) qu_BadMatrix = true)
    (yh_BadMatrix : K.lookup cda_BadMatrix = some ⟨o1_BadMatrix, d1_BadMatrix, .fields vs_BadMatrix, s1_BadMatrix⟩)
    (yi_BadMatrix : vs_BadMatrix[2]? = some (.str fl_BadMatrix tf_BadMatrix))
    (yj_BadMatrix : ((PySem.Challenge.pw_endlesswalks_k16_matrices_and_powers.main.file : Str) == fl_BadMatrix) = true)
    (yk_BadMatrix : K.lookup cc_BadMatrix = some ⟨o2_BadMatrix, d2_BadMatrix, .cell (some (.ref C_BadMatrix)), s2_BadMatrix⟩)
    (y1_BadNumber : PySem.W.excInitIn K C_BadNumber [.type "ValueError", .type "Exception", .type "BaseException", .type "object"] "ValueError.__new__" = true)
    (y2_BadNumber : PySem.W.excOver K C_BadNumber [.type "ValueError", .type "Exception", .type "BaseException", .type "object"] = true)
    (y3_BadNumber : PySem.W.takerIn K C_BadNumber "value" = some none)
    (y4_BadNumber : PySem.W.hasDictIn K C_BadNumber = true)
    (y5_BadNumber : PySem.W.findIn K (.ref C_BadNumber) "__setattr__" = some (some (.builtin "object.__setattr__")))
    (y6_BadNumber : PySem.W.mroIn K C_BadNumber (.ref C_BadNumber) = some true)
    (y7_BadNumber : PySem.W.ks_superIn K C_BadNumber C_BadNumber "__init__" = some (some (.builtin "ValueError.__init__")))
    (y8_BadNumber : PySem.W.subIn K (.ref C_BadNumber) (.type "ValueError") = some true)
    (ya_BadNumber : PySem.W.subIn K (.ref C_BadNumber) (.type "BaseException") = some true)
    (yb_BadNumber : PySem.W.typeIn K (.ref C_BadNumber) = some (.type "type"))
    (yc_BadNumber : PySem.W.keepIn K (.ref C_BadNumber) = true)
    (yd_BadNumber : PySem.W.clsIn K C_BadNumber = some cdt_BadNumber)
    (ye_BadNumber : PySem.W.findIn K (.ref C_BadNumber) "__init__" = some (some (.ref fI_BadNumber)))
    (yf_BadNumber : K.lookup fI_BadNumber = some ⟨.type "function", odi_BadNumber, .func (PySem.W.ksFn "__init__" qu_BadNumber (defArgs (clsDef (topS 2))) (defBody (clsDef (topS 2))) (defScope (clsDef (topS 2))) .none kVi_BadNumber doci_BadNumber pmi_BadNumber ani_BadNumber (.ref cda_BadNumber) cti_BadNumber cc_BadNumber), sli_BadNumber⟩)
    (yg_BadNumber : PySem.W.codeIn K (.ref cda_BadNumber) qu_BadNumber = true)
    (yh_BadNumber : K.lookup cda_BadNumber = some ⟨o1_BadNumber, d1_BadNumber, .fields vs_BadNumber, s1_BadNumber⟩)
    (yi_BadNumber : vs_BadNumber[2]? = some (.str fl_BadNumber tf_BadNumber))
    (yj_BadNumber : ((PySem.Challenge.pw_endlesswalks_k16_matrices_and_powers.main.file : Str) == fl_BadNumber) = true)
    (yk_BadNumber : K.lookup cc_BadNumber = some ⟨o2_BadNumber, d2_BadNumber, .cell (some (.ref C_BadNumber)), s2_BadNumber⟩)
    (y1_Unalike : PySem.W.excInitIn K C_Unalike [.type "ValueError", .type "Exception", .type "BaseException", .type "object"] "ValueError.__new__" = true)
    (y2_Unalike : PySem.W.excOver K C_Unalike [.type "ValueError", .type "Exception", .type "BaseException", .type "object"] = true)
    (y3_Unalike : PySem.W.takerIn K C_Unalike "place" = some none)
    (y4_Unalike : PySem.W.hasDictIn K C_Unalike = true)
    (y5_Unalike : PySem.W.findIn K (.ref C_Unalike) "__setattr__" = some (some (.builtin "object.__setattr__")))
    (y6_Unalike : PySem.W.mroIn K C_Unalike (.ref C_Unalike) = some true)
    (y7_Unalike : PySem.W.ks_superIn K C_Unalike C_Unalike "__init__" = some (some (.builtin "ValueError.__init__")))
    (y8_Unalike : PySem.W.subIn K (.ref C_Unalike) (.type "ValueError") = some true)
    (ya_Unalike : PySem.W.subIn K (.ref C_Unalike) (.type "BaseException") = some true)
    (yb_Unalike : PySem.W.typeIn K (.ref C_Unalike) = some (.type "type"))
    (yc_Unalike : PySem.W.keepIn K (.ref C_Unalike) = true)
    (yd_Unalike : PySem.W.clsIn K C_Unalike = some cdt_Unalike)
    (ye_Unalike : PySem.W.findIn K (.ref C_Unalike) "__init__" = some (some (.ref fI_Unalike)))
    (yf_Unalike : K.lookup fI_Unalike = some ⟨.type "function", odi_Unalike, .func (PySem.W.ksFn "__init__" qu_Unalike (defArgs (clsDef (topS 4))) (defBody (clsDef (topS 4))) (defScope (clsDef (topS 4))) .none kVi_Unalike doci_Unalike pmi_Unalike ani_Unalike (.ref cda_Unalike) cti_Unalike cc_Unalike), sli_Unalike⟩)
    (yg_Unalike : PySem.W.codeIn K (.ref cda_Unalike) qu_Unalike = true)
    (yh_Unalike : K.lookup cda_Unalike = some ⟨o1_Unalike, d1_Unalike, .fields vs_Unalike, s1_Unalike⟩)
    (yi_Unalike : vs_Unalike[2]? = some (.str fl_Unalike tf_Unalike))
    (yj_Unalike : ((PySem.Challenge.pw_endlesswalks_k16_matrices_and_powers.main.file : Str) == fl_Unalike) = true)
    (yk_Unalike : K.lookup cc_Unalike = some ⟨o2_Unalike, d2_Unalike, .cell (some (.ref C_Unalike)), s2_Unalike⟩)
    (xf1_BadNumber : PySem.W.findIn K (.ref C_BadNumber) "__getattribute__" = some (some (.builtin "BaseException.__getattribute__")))
    (xf2_BadNumber : PySem.W.findIn K (.ref C_BadNumber) "__getattr__" = some none)
    (xf3_BadNumber : PySem.W.subIn K (.ref C_BadNumber) (.type "BaseException") = some true)
    (xf4_BadNumber : PySem.W.hasDictIn K C_BadNumber = true)
    (xf5_BadNumber : PySem.W.findIn K (.ref C_BadNumber) (fldOf "BadNumber") = some none)
    (xe1_BadNumber : PySem.W.findIn K (.ref C_BadNumber) "__class__" = some (some (.builtin "object.__class__")))
    (xe2_BadNumber : PySem.W.mroIn K C_BadNumber (.type "object") = some true)
    (xn_BadNumber : nameIn K C_BadNumber = some "BadNumber")
    (xu_BadNumber : uniqB K "BadNumber" C_BadNumber = true)
    (xf1_BadMatrix : PySem.W.findIn K (.ref C_BadMatrix) "__getattribute__" = some (some (.builtin "BaseException.__getattribute__")))
    (xf2_BadMatrix : PySem.W.findIn K (.ref C_BadMatrix) "__getattr__" = some none)
    (xf3_BadMatrix : PySem.W.subIn K (.ref C_BadMatrix) (.type "BaseException") = some true)
    (xf4_BadMatrix : PySem.W.hasDictIn K C_BadMatrix = true)
    (xf5_BadMatrix : PySem.W.findIn K (.ref C_BadMatrix) (fldOf "BadMatrix") = some none)
    (xe1_BadMatrix : PySem.W.findIn K (.ref C_BadMatrix) "__class__" = some (some (.builtin "object.__class__")))
    (xe2_BadMatrix : PySem.W.mroIn K C_BadMatrix (.type "object") = some true)
    (xn_BadMatrix : nameIn K C_BadMatrix = some "BadMatrix")
    (xu_BadMatrix : uniqB K "BadMatrix" C_BadMatrix = true)
    (xf1_Unalike : PySem.W.findIn K (.ref C_Unalike) "__getattribute__" = some (some (.builtin "BaseException.__getattribute__")))
    (xf2_Unalike : PySem.W.findIn K (.ref C_Unalike) "__getattr__" = some none)
    (xf3_Unalike : PySem.W.subIn K (.ref C_Unalike) (.type "BaseException") = some true)
    (xf4_Unalike : PySem.W.hasDictIn K C_Unalike = true)
    (xf5_Unalike : PySem.W.findIn K (.ref C_Unalike) (fldOf "Unalike") = some none)
    (xe1_Unalike : PySem.W.findIn K (.ref C_Unalike) "__class__" = some (some (.builtin "object.__class__")))
    (xe2_Unalike : PySem.W.mroIn K C_Unalike (.type "object") = some true)
    (xn_Unalike : nameIn K C_Unalike = some "Unalike")
    (xu_Unalike : uniqB K "Unalike" C_Unalike = true)
    (xe3 : PySem.W.specialIn K (.builtin "object.__class__") "__get__" = some (some (.builtin "getset_descriptor.__get__")))
    (xe4 : PySem.W.takesIn K (.builtin "object.__class__") = some true)
    (w_BadNumber_BadMatrix_BadNumber_Unalike : PySem.W.exmAny K (.ref C_BadNumber) [.ref C_BadMatrix, .ref C_BadNumber, .ref C_Unalike] = some true)
    (w_BadMatrix_BadMatrix_BadNumber_Unalike : PySem.W.exmAny K (.ref C_BadMatrix) [.ref C_BadMatrix, .ref C_BadNumber, .ref C_Unalike] = some true)
    (w_Unalike_BadMatrix_BadNumber_Unalike : PySem.W.exmAny K (.ref C_Unalike) [.ref C_BadMatrix, .ref C_BadNumber, .ref C_Unalike] = some true)
    (wi_BadNumber_BadMatrix : PySem.W.kitOne K (.ref C_BadNumber) (.ref C_BadMatrix) = some false)
    (wi_BadMatrix_BadMatrix : PySem.W.kitOne K (.ref C_BadMatrix) (.ref C_BadMatrix) = some true)
    (wi_Unalike_BadMatrix : PySem.W.kitOne K (.ref C_Unalike) (.ref C_BadMatrix) = some false)
    (wi_BadNumber_BadNumber : PySem.W.kitOne K (.ref C_BadNumber) (.ref C_BadNumber) = some true)
    (wi_BadMatrix_BadNumber : PySem.W.kitOne K (.ref C_BadMatrix) (.ref C_BadNumber) = some false)
    (wi_Unalike_BadNumber : PySem.W.kitOne K (.ref C_Unalike) (.ref C_BadNumber) = some false) :
    ∃ (fd : FuncData) (cs : List (Addr × Addr)) (sp : Sp), (∀ p ∈ cs, h.get? p.2 = some { cls := .none, data := .fields #[] }) ∧ (∀ p ∈ cs, K.lookup p.2 = none) ∧ (∀ p ∈ cs, PySem.W.CodeHd h p.1 p.2) ∧ (∀ (s : Shared) (v : Value), BindsTo s fd ⟨[v], []⟩ [("script", v)]) ∧
      (∀ (H : Hp) (a : Addr) (ns : List Int), ns.length ≤ 63 → (∀ z ∈ ns, Builtin.Int.intBits z ≤ 1048576) → (∀ p ∈ cs, H p.2 = some (.tbl #[])) → SqL K H a (ns.map V.int) → sp [.ref a] H (fun v _ => v = .bl true) fun _ _ _ => False) ∧
      ∀ base : Heap, K.In base → base.Ns mainGlobals mg → (∀ p ∈ cs, LamX.TabB base mg p.1 p.2) → FnOk PySem.Challenge.pw_endlesswalks_k16_matrices_and_powers w K mg base (L2.CX PySem.Challenge.pw_endlesswalks_k16_matrices_and_powers w) 15 fa fd ["script"] sp := by
  have XX : ∃ h : Heap, K.In h ∧ h.Ns mainGlobals mg := ⟨h, X, G⟩
  obtain ⟨cls, e_BadMatrix, e_BadNumber, e_Unalike, etb⟩ : ∃ cls : ClT, cls "BadMatrix" = C_BadMatrix ∧ cls "BadNumber" = C_BadNumber ∧ cls "Unalike" = C_Unalike ∧ cls.tb = [(P__law_odd_right, ("_law_odd_right.<locals>.<lambda>" : Str))] := ⟨⟨fun s => if s = "BadMatrix" then C_BadMatrix else if s = "BadNumber" then C_BadNumber else C_Unalike, [(P__law_odd_right, ("_law_odd_right.<locals>.<lambda>" : Str))]⟩, by simp, by simp, by simp, rfl⟩
  subst e_BadMatrix
  subst e_BadNumber
  subst e_Unalike
  have b_all := PySem.W.mg_none_of X G z_all
  have b_bool := PySem.W.mg_none_of X G z_bool
  have b_enumerate := PySem.W.mg_none_of X G z_enumerate
  have b_int := PySem.W.mg_none_of X G z_int
  have b_isinstance := PySem.W.mg_none_of X G z_isinstance
  have b_len := PySem.W.mg_none_of X G z_len
  have b_list := PySem.W.mg_none_of X G z_list
  have b_range := PySem.W.mg_none_of X G z_range
  have b_str := PySem.W.mg_none_of X G z_str
  have b_sum := PySem.W.mg_none_of X G z_sum
  have b_super := PySem.W.mg_none_of X G z_super
  have b_tuple := PySem.W.mg_none_of X G z_tuple
  have b_zip := PySem.W.mg_none_of X G z_zip
  have k_MOST_ENTRY := PySem.W.mg_of X G zk_MOST_ENTRY
  have k_MOST_LENGTH := PySem.W.mg_of X G zk_MOST_LENGTH
  have k_MOST_ROWS := PySem.W.mg_of X G zk_MOST_ROWS
  have m_BadMatrix := PySem.W.mg_of X G za_BadMatrix
  have m_BadNumber := PySem.W.mg_of X G za_BadNumber
  have m_Unalike := PySem.W.mg_of X G za_Unalike
  have s_BadMatrix := supc_mk (P := PySem.Challenge.pw_endlesswalks_k16_matrices_and_powers) PySem.F.excBase_ValueError PySem.W.kxs_ValueError PySem.F.store_ValueError shape_BadMatrix y1_BadMatrix y2_BadMatrix y3_BadMatrix y4_BadMatrix y5_BadMatrix y6_BadMatrix y7_BadMatrix y8_BadMatrix y9 ya_BadMatrix yb_BadMatrix yc_BadMatrix yd_BadMatrix ye_BadMatrix yf_BadMatrix yg_BadMatrix yh_BadMatrix yi_BadMatrix yj_BadMatrix yk_BadMatrix
  have s_BadNumber := supc_mk (P := PySem.Challenge.pw_endlesswalks_k16_matrices_and_powers) PySem.F.excBase_ValueError PySem.W.kxs_ValueError PySem.F.store_ValueError shape_BadNumber y1_BadNumber y2_BadNumber y3_BadNumber y4_BadNumber y5_BadNumber y6_BadNumber y7_BadNumber y8_BadNumber y9 ya_BadNumber yb_BadNumber yc_BadNumber yd_BadNumber ye_BadNumber yf_BadNumber yg_BadNumber yh_BadNumber yi_BadNumber yj_BadNumber yk_BadNumber
  have s_Unalike := supc_mk (P := PySem.Challenge.pw_endlesswalks_k16_matrices_and_powers) PySem.F.excBase_ValueError PySem.W.kxs_ValueError PySem.F.store_ValueError shape_Unalike y1_Unalike y2_Unalike y3_Unalike y4_Unalike y5_Unalike y6_Unalike y7_Unalike y8_Unalike y9 ya_Unalike yb_Unalike yc_Unalike yd_Unalike ye_Unalike yf_Unalike yg_Unalike yh_Unalike yi_Unalike yj_Unalike yk_Unalike
  have xo : XobC K cls ["BadNumber", "BadMatrix", "Unalike"] := ⟨(mem_cons2 (xn_BadNumber) (mem_cons2 (xn_BadMatrix) (mem_cons2 (xn_Unalike) mem_nil2))), (mem_cons2 (fun C e => uniq_of xu_BadNumber e) (mem_cons2 (fun C e => uniq_of xu_BadMatrix e) (mem_cons2 (fun C e => uniq_of xu_Unalike e) mem_nil2))), (mem_cons2 (⟨xf1_BadNumber, xf2_BadNumber, xf3_BadNumber, xf4_BadNumber⟩) (mem_cons2 (⟨xf1_BadMatrix, xf2_BadMatrix, xf3_BadMatrix, xf4_BadMatrix⟩) (mem_cons2 (⟨xf1_Unalike, xf2_Unalike, xf3_Unalike, xf4_Unalike⟩) mem_nil2))), (mem_cons2 (xf5_BadNumber) (mem_cons2 (xf5_BadMatrix) (mem_cons2 (xf5_Unalike) mem_nil2))), (mem_cons2 (⟨xf1_BadNumber, xf2_BadNumber, xf3_BadNumber, xf4_BadNumber, xe1_BadNumber, xe3, xe4, xe2_BadNumber⟩) (mem_cons2 (⟨xf1_BadMatrix, xf2_BadMatrix, xf3_BadMatrix, xf4_BadMatrix, xe1_BadMatrix, xe3, xe4, xe2_BadMatrix⟩) (mem_cons2 (⟨xf1_Unalike, xf2_Unalike, xf3_Unalike, xf4_Unalike, xe1_Unalike, xe3, xe4, xe2_Unalike⟩) mem_nil2)))⟩
  have d__law_folded := DefT.mk0 (x := "_law_folded") (st := topS 22) XX a__law_folded l__law_folded c__law_folded p__law_folded
  have d__law_begun := DefT.mk0 (x := "_law_begun") (st := topS 24) XX a__law_begun l__law_begun c__law_begun p__law_begun
  have d__law_mixed := DefT.mk0 (x := "_law_mixed") (st := topS 21) XX a__law_mixed l__law_mixed c__law_mixed p__law_mixed
  have d__law_draw := DefT.mk0 (x := "_law_draw") (st := topS 23) XX a__law_draw l__law_draw c__law_draw p__law_draw
  have d__law_of := DefT.mk0 (x := "_law_of") (st := topS 25) XX a__law_of l__law_of c__law_of p__law_of
  have d__law_like := DefT.mk0 (x := "_law_like") (st := topS 26) XX a__law_like l__law_like c__law_like p__law_like
  have d__law_drawn_matrix := DefT.mk0 (x := "_law_drawn_matrix") (st := topS 30) XX a__law_drawn_matrix l__law_drawn_matrix c__law_drawn_matrix p__law_drawn_matrix
  have d__law_heard := DefT.mk0 (x := "_law_heard") (st := topS 31) XX a__law_heard l__law_heard c__law_heard p__law_heard
  have d_is_row := DefT.mk1 (x := "is_row") (st := topS 7) XX (dvs := [.non]) (by simp) a_is_row l_is_row lt_is_row vt_is_row c_is_row p_is_row
  have d_is_whole := DefT.mk1 (x := "is_whole") (st := topS 6) XX (dvs := [.non, .non]) (by simp) a_is_whole l_is_whole lt_is_whole vt_is_whole c_is_whole p_is_whole
  have d_are_wholes := DefT.mk1 (x := "are_wholes") (st := topS 8) XX (dvs := [.non, .non]) (by simp) a_are_wholes l_are_wholes lt_are_wholes vt_are_wholes c_are_wholes p_are_wholes
  have d_need_matrix := DefT.mk0 (x := "need_matrix") (st := topS 13) XX a_need_matrix l_need_matrix c_need_matrix p_need_matrix
  have d_product_of := DefT.mk0 (x := "product_of") (st := topS 15) XX a_product_of l_product_of c_product_of p_product_of
  have d_matrix_times := DefT.mk0 (x := "matrix_times") (st := topS 18) XX a_matrix_times l_matrix_times c_matrix_times p_matrix_times
  have d_plain_matrix := DefT.mk0 (x := "plain_matrix") (st := topS 16) XX a_plain_matrix l_plain_matrix c_plain_matrix p_plain_matrix
  have d_power_matrix := DefT.mk0 (x := "power_matrix") (st := topS 17) XX a_power_matrix l_power_matrix c_power_matrix p_power_matrix
  have d_need_power := DefT.mk0 (x := "need_power") (st := topS 14) XX a_need_power l_need_power c_need_power p_need_power
  have d_matrix_power := DefT.mk0 (x := "matrix_power") (st := topS 19) XX a_matrix_power l_matrix_power c_matrix_power p_matrix_power
  have d__law_odd_right := DefT.mk0 (x := "_law_odd_right") (st := topS 34) XX a__law_odd_right l__law_odd_right cc__law_odd_right p__law_odd_right
  have d__law_plain := DefT.mk0 (x := "_law_plain") (st := topS 28) XX a__law_plain l__law_plain c__law_plain p__law_plain
  have d__law_times := DefT.mk0 (x := "_law_times") (st := topS 27) XX a__law_times l__law_times c__law_times p__law_times
  have d__law_powers := DefT.mk0 (x := "_law_powers") (st := topS 29) XX a__law_powers l__law_powers c__law_powers p__law_powers
  have d__law_right := DefT.mk0 (x := "_law_right") (st := topS 32) XX a__law_right l__law_right c__law_right p__law_right
  have d__law_great_right := DefT.mk0 (x := "_law_great_right") (st := topS 33) XX a__law_great_right l__law_great_right c__law_great_right p__law_great_right
  have d_law := DefT.mk0 (x := "law") (st := topS 35) XX a_law l_law c_law p_law
  have e := hfa.symm.trans (PySem.W.mg_of X G a_law)
  cases e
  obtain ⟨f0, fd0, F0, hm0⟩ := d_law.ex
  have e2 := hm0.symm.trans hfa
  cases e2
  refine ⟨fd0, [(c__law_odd_right, P__law_odd_right)], spTop K PPs cls.tb, (fun p hp => by
    simp only [List.mem_cons, List.not_mem_nil, or_false] at hp
    subst hp
    exact zh__law_odd_right), (fun p hp => by
    simp only [List.mem_cons, List.not_mem_nil, or_false] at hp
    subst hp
    exact zt__law_odd_right), (fun p hp => by
    simp only [List.mem_cons, List.not_mem_nil, or_false] at hp
    subst hp
    exact PySem.W.codeHd_of_K X zc__law_odd_right), fun s v => F0.bindsA (ps := ["script"]) (fun _ _ _ _ _ _ us hl => match us, hl with | [_], _ => rfl) s [v] rfl, fun H a ns hl hb hT hS => ⟨a, ns, rfl, ⟨hl, hb⟩, hS, ?_, fun _ => rfl⟩, fun base _ _ hTB => ?_⟩
  · rw [etb]
    intro p hp
    simp only [List.mem_cons, List.not_mem_nil, or_false] at hp
    subst hp
    exact hT (c__law_odd_right, P__law_odd_right) (by simp)
  have tb__law_odd_right : LamX.TabB base mg c__law_odd_right P__law_odd_right := hTB (c__law_odd_right, P__law_odd_right) (by simp)
  have i__law_odd_right : (P__law_odd_right, ("_law_odd_right.<locals>.<lambda>" : Str)) ∈ cls.tb := by
    rw [etb]
    simp
  have u__law_odd_right : ∀ p ∈ cls.tb, p.1 = P__law_odd_right → p.2 = ("_law_odd_right.<locals>.<lambda>" : Str) := by
    rw [etb]
    intro p hp he
    simp only [List.mem_cons, List.not_mem_nil, or_false] at hp
    subst hp
    rfl
  have mk__law_odd_right : MkC K mg "_law_odd_right" c__law_odd_right := ⟨_, _, _, PySem.W.mg_of X G a__law_odd_right, l__law_odd_right, rfl, rfl⟩
  have c__law_folded_1 : CalF PySem.Challenge.pw_endlesswalks_k16_matrices_and_powers w K mg base cls "_law_folded" 1 3 [] r__law_folded := CalF.mk0 d__law_folded (ok__law_folded b_enumerate b_int b_range) (fun _ _ _ _ _ _ us hl => match us, hl with | [_], _ => rfl)
  have c__law_mixed_2 : CalF PySem.Challenge.pw_endlesswalks_k16_matrices_and_powers w K mg base cls "_law_mixed" 2 3 [] r__law_mixed := CalF.mk0 d__law_mixed (ok__law_mixed b_int) (fun _ _ _ _ _ _ us hl => match us, hl with | [_, _], _ => rfl)
  have c__law_draw_2 : CalF PySem.Challenge.pw_endlesswalks_k16_matrices_and_powers w K mg base cls "_law_draw" 2 4 [] r__law_draw := CalF.mk0 d__law_draw (ok__law_draw c__law_mixed_2 b_int b_len) (fun _ _ _ _ _ _ us hl => match us, hl with | [_, _], _ => rfl)
  have c__law_of_2 : CalF PySem.Challenge.pw_endlesswalks_k16_matrices_and_powers w K mg base cls "_law_of" 2 5 [] r__law_of := CalF.mk0 d__law_of (ok__law_of c__law_draw_2 b_len) (fun _ _ _ _ _ _ us hl => match us, hl with | [_, _], _ => rfl)
  have c__law_like_2 : CalF PySem.Challenge.pw_endlesswalks_k16_matrices_and_powers w K mg base cls "_law_like" 2 13 [] r__law_like := CalF.mk0 d__law_like (ok__law_like b_bool b_int b_isinstance b_len b_list b_range b_str b_tuple d__law_like (fun _ _ _ _ _ _ us hl => match us, hl with | [_, _], _ => rfl) 10) (fun _ _ _ _ _ _ us hl => match us, hl with | [_, _], _ => rfl)
  have c__law_drawn_matrix_3 : CalF PySem.Challenge.pw_endlesswalks_k16_matrices_and_powers w K mg base cls "_law_drawn_matrix" 3 5 [] r__law_drawn_matrix := CalF.mk0 d__law_drawn_matrix (ok__law_drawn_matrix c__law_draw_2 b_range b_tuple) (fun _ _ _ _ _ _ us hl => match us, hl with | [_, _, _], _ => rfl)
  have h__law_heard_BadMatrix_BadNumber_Unalike : ∀ n ∈ ["BadNumber", "BadMatrix", "Unalike"], PySem.W.exmAny K (.ref (cls n)) [.ref (cls "BadMatrix"), .ref (cls "BadNumber"), .ref (cls "Unalike")] = some (decide (n ∈ ["BadNumber", "BadMatrix", "Unalike"])) := (mem_cons2 (w_BadNumber_BadMatrix_BadNumber_Unalike) (mem_cons2 (w_BadMatrix_BadMatrix_BadNumber_Unalike) (mem_cons2 (w_Unalike_BadMatrix_BadNumber_Unalike) mem_nil2)))
  have v__law_heard_BadMatrix : ∀ n ∈ ["BadNumber", "BadMatrix", "Unalike"], PySem.W.kitOne K (.ref (cls n)) (.ref (cls "BadMatrix")) = some (decide (n ∈ ["BadMatrix"])) := (mem_cons2 (wi_BadNumber_BadMatrix) (mem_cons2 (wi_BadMatrix_BadMatrix) (mem_cons2 (wi_Unalike_BadMatrix) mem_nil2)))
  have v__law_heard_BadNumber : ∀ n ∈ ["BadNumber", "BadMatrix", "Unalike"], PySem.W.kitOne K (.ref (cls n)) (.ref (cls "BadNumber")) = some (decide (n ∈ ["BadNumber"])) := (mem_cons2 (wi_BadNumber_BadNumber) (mem_cons2 (wi_BadMatrix_BadNumber) (mem_cons2 (wi_Unalike_BadNumber) mem_nil2)))
  have g__law_heard : GvF PySem.Challenge.pw_endlesswalks_k16_matrices_and_powers w K mg base cls "_law_heard" (topS 31) ["deed", "found", "error", "e"] 7 "deed" fT__law_heard := gv__law_heard b_isinstance m_BadMatrix m_BadNumber m_Unalike xo h__law_heard_BadMatrix_BadNumber_Unalike v__law_heard_BadMatrix v__law_heard_BadNumber
  have c_is_row_1 : CalF PySem.Challenge.pw_endlesswalks_k16_matrices_and_powers w K mg base cls "is_row" 2 3 [.non] r_is_row := CalF.mk1 1 0 d_is_row (ok_is_row b_isinstance b_len b_tuple) (by simp) (by rfl) (fun _ _ _ _ _ _ _ us its hu hi => match us, hu, its, hi with | [_], _, [_], _ => ⟨_, rfl, rfl⟩) (fun H => ⟨_, _, rfl, rfl, rfl⟩)
  have c_is_whole_3 : CalF PySem.Challenge.pw_endlesswalks_k16_matrices_and_powers w K mg base cls "is_whole" 3 3 [] r_is_whole := CalF.mk1 3 2 d_is_whole (ok_is_whole b_bool b_int b_isinstance) (by simp) (by rfl) (fun _ _ _ _ _ _ _ us its hu hi => match us, hu, its, hi with | [_, _, _], _, [_, _], _ => ⟨_, rfl, rfl⟩) (fun H => rfl)
  have c_are_wholes_3 : CalF PySem.Challenge.pw_endlesswalks_k16_matrices_and_powers w K mg base cls "are_wholes" 3 4 [] r_are_wholes := CalF.mk1 3 2 d_are_wholes (ok_are_wholes c_is_row_1 c_is_whole_3 b_all) (by simp) (by rfl) (fun _ _ _ _ _ _ _ us its hu hi => match us, hu, its, hi with | [_, _, _], _, [_, _], _ => ⟨_, rfl, rfl⟩) (fun H => rfl)
  have c_need_matrix_1 : CalF PySem.Challenge.pw_endlesswalks_k16_matrices_and_powers w K mg base cls "need_matrix" 1 5 [] r_need_matrix := CalF.mk0 d_need_matrix (ok_need_matrix c_are_wholes_3 c_is_row_1 b_enumerate b_len b_super k_MOST_ENTRY k_MOST_ROWS m_BadMatrix s_BadMatrix) (fun _ _ _ _ _ _ us hl => match us, hl with | [_], _ => rfl)
  have q_need_matrix_matrix : CalK PySem.Challenge.pw_endlesswalks_k16_matrices_and_powers w K mg base cls "need_matrix" 1 5 ["matrix"] gp_need_matrix_matrix r_need_matrix := CalK.mk0 d_need_matrix (ok_need_matrix c_are_wholes_3 c_is_row_1 b_enumerate b_len b_super k_MOST_ENTRY k_MOST_ROWS m_BadMatrix s_BadMatrix) (fun _ _ _ _ _ _ ws hl => match ws, hl with | [_], _ => rfl) (fun h1 h2 h0 hl => by cases h1 with | nil => exact natK_need_matrix_matrix h2 hl | cons _ _ => cases h0)
  have c_product_of_2 : CalF PySem.Challenge.pw_endlesswalks_k16_matrices_and_powers w K mg base cls "product_of" 2 3 [] r_product_of := CalF.mk0 d_product_of (ok_product_of b_len b_range b_sum b_tuple b_zip) (fun _ _ _ _ _ _ us hl => match us, hl with | [_, _], _ => rfl)
  have c_matrix_times_2 : CalF PySem.Challenge.pw_endlesswalks_k16_matrices_and_powers w K mg base cls "matrix_times" 2 6 [] r_matrix_times := CalF.mk0 d_matrix_times (ok_matrix_times c_need_matrix_1 c_product_of_2 b_len b_super m_Unalike s_Unalike) (fun _ _ _ _ _ _ us hl => match us, hl with | [_, _], _ => rfl)
  have q_matrix_times_other_matrix : CalK PySem.Challenge.pw_endlesswalks_k16_matrices_and_powers w K mg base cls "matrix_times" 2 6 ["other", "matrix"] gp_matrix_times_other_matrix r_matrix_times := CalK.mk0 d_matrix_times (ok_matrix_times c_need_matrix_1 c_product_of_2 b_len b_super m_Unalike s_Unalike) (fun _ _ _ _ _ _ ws hl => match ws, hl with | [_, _], _ => rfl) (fun h1 h2 h0 hl => by cases h1 with | nil => exact natK_matrix_times_other_matrix h2 hl | cons _ _ => cases h0)
  have c_plain_matrix_1 : CalF PySem.Challenge.pw_endlesswalks_k16_matrices_and_powers w K mg base cls "plain_matrix" 1 3 [] r_plain_matrix := CalF.mk0 d_plain_matrix (ok_plain_matrix b_range b_tuple) (fun _ _ _ _ _ _ us hl => match us, hl with | [_], _ => rfl)
  have c_power_matrix_2 : CalF PySem.Challenge.pw_endlesswalks_k16_matrices_and_powers w K mg base cls "power_matrix" 2 4 [] r_power_matrix := CalF.mk0 d_power_matrix (ok_power_matrix c_plain_matrix_1 c_product_of_2 b_int b_len) (fun _ _ _ _ _ _ us hl => match us, hl with | [_, _], _ => rfl)
  have c_need_power_1 : CalF PySem.Challenge.pw_endlesswalks_k16_matrices_and_powers w K mg base cls "need_power" 1 4 [] r_need_power := CalF.mk0 d_need_power (ok_need_power c_is_whole_3 b_super k_MOST_LENGTH m_BadNumber s_BadNumber) (fun _ _ _ _ _ _ us hl => match us, hl with | [_], _ => rfl)
  have c_matrix_power_2 : CalF PySem.Challenge.pw_endlesswalks_k16_matrices_and_powers w K mg base cls "matrix_power" 2 6 [] r_matrix_power := CalF.mk0 d_matrix_power (ok_matrix_power c_need_matrix_1 c_need_power_1 c_power_matrix_2) (fun _ _ _ _ _ _ us hl => match us, hl with | [_, _], _ => rfl)
  have q_matrix_power_length_matrix : CalK PySem.Challenge.pw_endlesswalks_k16_matrices_and_powers w K mg base cls "matrix_power" 2 6 ["length", "matrix"] gp_matrix_power_length_matrix r_matrix_power := CalK.mk0 d_matrix_power (ok_matrix_power c_need_matrix_1 c_need_power_1 c_power_matrix_2) (fun _ _ _ _ _ _ ws hl => match ws, hl with | [_, _], _ => rfl) (fun h1 h2 h0 hl => by cases h1 with | nil => exact natK_matrix_power_length_matrix h2 hl | cons _ _ => cases h0)
  have c__law_odd_right_1 : CalF PySem.Challenge.pw_endlesswalks_k16_matrices_and_powers w K mg base cls "_law_odd_right" 1 14 [] r__law_odd_right := CalF.mk0M d__law_odd_right (ok__law_odd_right c__law_draw_2 c__law_drawn_matrix_3 c__law_like_2 c__law_of_2 c_matrix_power_2 c_matrix_times_2 c_need_matrix_1 b_list d__law_heard g__law_heard mk__law_odd_right tb__law_odd_right i__law_odd_right u__law_odd_right) (fun _ _ _ _ _ _ us hl => match us, hl with | [_], _ => rfl)
  have c__law_plain_1 : CalF PySem.Challenge.pw_endlesswalks_k16_matrices_and_powers w K mg base cls "_law_plain" 1 3 [] r__law_plain := CalF.mk0 d__law_plain (ok__law_plain b_int b_range b_tuple) (fun _ _ _ _ _ _ us hl => match us, hl with | [_], _ => rfl)
  have c__law_times_2 : CalF PySem.Challenge.pw_endlesswalks_k16_matrices_and_powers w K mg base cls "_law_times" 2 3 [] r__law_times := CalF.mk0 d__law_times (ok__law_times b_len b_list b_range b_sum b_tuple) (fun _ _ _ _ _ _ us hl => match us, hl with | [_, _], _ => rfl)
  have c__law_powers_2 : CalF PySem.Challenge.pw_endlesswalks_k16_matrices_and_powers w K mg base cls "_law_powers" 2 4 [] r__law_powers := CalF.mk0 d__law_powers (ok__law_powers c__law_plain_1 c__law_times_2 b_len b_range) (fun _ _ _ _ _ _ us hl => match us, hl with | [_, _], _ => rfl)
  have c__law_right_1 : CalF PySem.Challenge.pw_endlesswalks_k16_matrices_and_powers w K mg base cls "_law_right" 1 14 [] r__law_right := CalF.mk0 d__law_right (ok__law_right c__law_draw_2 c__law_drawn_matrix_3 c__law_like_2 c__law_of_2 c__law_plain_1 c__law_powers_2 c__law_times_2 c_matrix_power_2 c_matrix_times_2 q_matrix_power_length_matrix q_matrix_times_other_matrix q_need_matrix_matrix) (fun _ _ _ _ _ _ us hl => match us, hl with | [_], _ => rfl)
  have c__law_great_right_1 : CalF PySem.Challenge.pw_endlesswalks_k16_matrices_and_powers w K mg base cls "_law_great_right" 1 14 [] r__law_great_right := CalF.mk0 d__law_great_right (ok__law_great_right c__law_draw_2 c__law_drawn_matrix_3 c__law_like_2 c__law_of_2 c__law_powers_2 c__law_times_2 c_matrix_power_2 c_matrix_times_2 b_range b_tuple) (fun _ _ _ _ _ _ us hl => match us, hl with | [_], _ => rfl)
  obtain ⟨fb, fdb, Fb, hmb⟩ := d__law_begun.ex
  have kbb := ok__law_begun (P := PySem.Challenge.pw_endlesswalks_k16_matrices_and_powers) (w := w) (base := base) (cls := cls) c__law_folded_1  fb fdb Fb
  exact top_ok (cls := cls) (nm := "m") (y := "_law_begun") (F := b_law) F0 sc_law (by decide) (by decide) rfl rfl rfl rfl (by decide) (by decide) (by decide) rfl (kbb.mono (by decide)) hmb Fb.kp (Fb.bindsN (fun _ _ _ _ _ _ us hl => match us, hl with | [_], _ => rfl)) rfl (fun _ _ => rfl) (fun _ => rfl) (fun _ => rfl)
    (fun cdv A outer s H E G hG nx hr => sb_law c__law_draw_2 c__law_great_right_1 c__law_odd_right_1 c__law_right_1 b_range fa cdv A outer s H E G hG nx hr) (fun ns m h1 h2 h3 h4 _ => law_math ns m h1 h2 h3 h4)
end DL
open PySem PySem.W PyProof.Rows
set_option maxHeartbeats 0 in
theorem PySem.Challenge.cw_endlesswalks_k16_matrices_and_powers_holds : PySem.Challenge.rw_endlesswalks_k16_matrices_and_powers.Holds := by
  w_on; o_law; k_head; (case hw => w_witness2)
  k_fill
  refine LamX.walk_ofTs (l := PySem.Challenge.rw_endlesswalks_k16_matrices_and_powers) (n := 63) (k := 15) (x := "script") (CX := fun w => L2.CX PySem.Challenge.pw_endlesswalks_k16_matrices_and_powers w) rfl (by decide) rfl ⟨rfl, by decide, by decide⟩ (fun w h Y => PySem.W.km_in_of Y) ?F DL.cx_never
  case F =>
    intro w mg fa h Y KX G hmg'
    refine' DL.all_mk KX G hmg' ?a__law_folded ?l__law_folded ?c__law_folded ?p__law_folded ?a__law_begun ?l__law_begun ?c__law_begun ?p__law_begun ?a__law_mixed ?l__law_mixed ?c__law_mixed ?p__law_mixed ?a__law_draw ?l__law_draw ?c__law_draw ?p__law_draw ?a__law_of ?l__law_of ?c__law_of ?p__law_of ?a__law_like ?l__law_like ?c__law_like ?p__law_like ?a__law_drawn_matrix ?l__law_drawn_matrix ?c__law_drawn_matrix ?p__law_drawn_matrix ?a__law_heard ?l__law_heard ?c__law_heard ?p__law_heard ?a_is_row ?l_is_row ?lt_is_row ?vt_is_row ?c_is_row ?p_is_row ?a_is_whole ?l_is_whole ?lt_is_whole ?vt_is_whole ?c_is_whole ?p_is_whole ?a_are_wholes ?l_are_wholes ?lt_are_wholes ?vt_are_wholes ?c_are_wholes ?p_are_wholes ?a_need_matrix ?l_need_matrix ?c_need_matrix ?p_need_matrix ?a_product_of ?l_product_of ?c_product_of ?p_product_of ?a_matrix_times ?l_matrix_times ?c_matrix_times ?p_matrix_times ?a_plain_matrix ?l_plain_matrix ?c_plain_matrix ?p_plain_matrix ?a_power_matrix ?l_power_matrix ?c_power_matrix ?p_power_matrix ?a_need_power ?l_need_power ?c_need_power ?p_need_power ?a_matrix_power ?l_matrix_power ?c_matrix_power ?p_matrix_power ?a__law_odd_right ?l__law_odd_right ?cc__law_odd_right ?p__law_odd_right ?zv__law_odd_right ?zp__law_odd_right ?zc__law_odd_right ?zt__law_odd_right ?zh__law_odd_right ?a__law_plain ?l__law_plain ?c__law_plain ?p__law_plain ?a__law_times ?l__law_times ?c__law_times ?p__law_times ?a__law_powers ?l__law_powers ?c__law_powers ?p__law_powers ?a__law_right ?l__law_right ?c__law_right ?p__law_right ?a__law_great_right ?l__law_great_right ?c__law_great_right ?p__law_great_right ?a_law ?l_law ?c_law ?p_law ?z_all ?z_bool ?z_enumerate ?z_int ?z_isinstance ?z_len ?z_list ?z_range ?z_str ?z_sum ?z_super ?z_tuple ?z_zip ?zk_MOST_ENTRY ?zk_MOST_LENGTH ?zk_MOST_ROWS ?za_BadMatrix ?za_BadNumber ?za_Unalike ?y1_BadMatrix ?y2_BadMatrix ?y3_BadMatrix ?y4_BadMatrix ?y5_BadMatrix ?y6_BadMatrix ?y7_BadMatrix ?y8_BadMatrix ?y9 ?ya_BadMatrix ?yb_BadMatrix ?yc_BadMatrix ?yd_BadMatrix ?ye_BadMatrix ?yf_BadMatrix ?yg_BadMatrix ?yh_BadMatrix ?yi_BadMatrix ?yj_BadMatrix ?yk_BadMatrix ?y1_BadNumber ?y2_BadNumber ?y3_BadNumber ?y4_BadNumber ?y5_BadNumber ?y6_BadNumber ?y7_BadNumber ?y8_BadNumber ?ya_BadNumber ?yb_BadNumber ?yc_BadNumber ?yd_BadNumber ?ye_BadNumber ?yf_BadNumber ?yg_BadNumber ?yh_BadNumber ?yi_BadNumber ?yj_BadNumber ?yk_BadNumber ?y1_Unalike ?y2_Unalike ?y3_Unalike ?y4_Unalike ?y5_Unalike ?y6_Unalike ?y7_Unalike ?y8_Unalike ?ya_Unalike ?yb_Unalike ?yc_Unalike ?yd_Unalike ?ye_Unalike ?yf_Unalike ?yg_Unalike ?yh_Unalike ?yi_Unalike ?yj_Unalike ?yk_Unalike ?xf1_BadNumber ?xf2_BadNumber ?xf3_BadNumber ?xf4_BadNumber ?xf5_BadNumber ?xe1_BadNumber ?xe2_BadNumber ?xn_BadNumber ?xu_BadNumber ?xf1_BadMatrix ?xf2_BadMatrix ?xf3_BadMatrix ?xf4_BadMatrix ?xf5_BadMatrix ?xe1_BadMatrix ?xe2_BadMatrix ?xn_BadMatrix ?xu_BadMatrix ?xf1_Unalike ?xf2_Unalike ?xf3_Unalike ?xf4_Unalike ?xf5_Unalike ?xe1_Unalike ?xe2_Unalike ?xn_Unalike ?xu_Unalike ?xe3 ?xe4 ?w_BadNumber_BadMatrix_BadNumber_Unalike ?w_BadMatrix_BadMatrix_BadNumber_Unalike ?w_Unalike_BadMatrix_BadNumber_Unalike ?wi_BadNumber_BadMatrix ?wi_BadMatrix_BadMatrix ?wi_Unalike_BadMatrix ?wi_BadNumber_BadNumber ?wi_BadMatrix_BadNumber ?wi_Unalike_BadNumber
    (case a__law_folded => k_is)
    (case l__law_folded => k_is)
    (case c__law_folded => k_is)
    (case p__law_folded => k_is)
    (case a__law_begun => k_is)
    (case l__law_begun => k_is)
    (case c__law_begun => k_is)
    (case p__law_begun => k_is)
    (case a__law_mixed => k_is)
    (case l__law_mixed => k_is)
    (case c__law_mixed => k_is)
    (case p__law_mixed => k_is)
    (case a__law_draw => k_is)
    (case l__law_draw => k_is)
    (case c__law_draw => k_is)
    (case p__law_draw => k_is)
    (case a__law_of => k_is)
    (case l__law_of => k_is)
    (case c__law_of => k_is)
    (case p__law_of => k_is)
    (case a__law_like => k_is)
    (case l__law_like => k_is)
    (case c__law_like => k_is)
    (case p__law_like => k_is)
    (case a__law_drawn_matrix => k_is)
    (case l__law_drawn_matrix => k_is)
    (case c__law_drawn_matrix => k_is)
    (case p__law_drawn_matrix => k_is)
    (case a__law_heard => k_is)
    (case l__law_heard => k_is)
    (case c__law_heard => k_is)
    (case p__law_heard => k_is)
    (case a_is_row => k_is)
    (case l_is_row => k_is)
    (case lt_is_row => k_is)
    (case vt_is_row => exact (.cons rfl .nil))
    (case c_is_row => k_is)
    (case p_is_row => k_is)
    (case a_is_whole => k_is)
    (case l_is_whole => k_is)
    (case lt_is_whole => k_is)
    (case vt_is_whole => exact (.cons rfl (.cons rfl .nil)))
    (case c_is_whole => k_is)
    (case p_is_whole => k_is)
    (case a_are_wholes => k_is)
    (case l_are_wholes => k_is)
    (case lt_are_wholes => k_is)
    (case vt_are_wholes => exact (.cons rfl (.cons rfl .nil)))
    (case c_are_wholes => k_is)
    (case p_are_wholes => k_is)
    (case a_need_matrix => k_is)
    (case l_need_matrix => k_is)
    (case c_need_matrix => k_is)
    (case p_need_matrix => k_is)
    (case a_product_of => k_is)
    (case l_product_of => k_is)
    (case c_product_of => k_is)
    (case p_product_of => k_is)
    (case a_matrix_times => k_is)
    (case l_matrix_times => k_is)
    (case c_matrix_times => k_is)
    (case p_matrix_times => k_is)
    (case a_plain_matrix => k_is)
    (case l_plain_matrix => k_is)
    (case c_plain_matrix => k_is)
    (case p_plain_matrix => k_is)
    (case a_power_matrix => k_is)
    (case l_power_matrix => k_is)
    (case c_power_matrix => k_is)
    (case p_power_matrix => k_is)
    (case a_need_power => k_is)
    (case l_need_power => k_is)
    (case c_need_power => k_is)
    (case p_need_power => k_is)
    (case a_matrix_power => k_is)
    (case l_matrix_power => k_is)
    (case c_matrix_power => k_is)
    (case p_matrix_power => k_is)
    (case a__law_odd_right => k_is)
    (case l__law_odd_right => k_is)
    (case cc__law_odd_right => k_is)
    (case p__law_odd_right => k_is)
    (case zv__law_odd_right => k_is)
    (case zp__law_odd_right => rfl)
    (case zc__law_odd_right => kernel_rfl)
    (case zt__law_odd_right => kernel_rfl)
    (case zh__law_odd_right => exact PySem.W.km_tabs_of Y _ (by first | decide | simp))
    (case a__law_plain => k_is)
    (case l__law_plain => k_is)
    (case c__law_plain => k_is)
    (case p__law_plain => k_is)
    (case a__law_times => k_is)
    (case l__law_times => k_is)
    (case c__law_times => k_is)
    (case p__law_times => k_is)
    (case a__law_powers => k_is)
    (case l__law_powers => k_is)
    (case c__law_powers => k_is)
    (case p__law_powers => k_is)
    (case a__law_right => k_is)
    (case l__law_right => k_is)
    (case c__law_right => k_is)
    (case p__law_right => k_is)
    (case a__law_great_right => k_is)
    (case l__law_great_right => k_is)
    (case c__law_great_right => k_is)
    (case p__law_great_right => k_is)
    (case a_law => k_is)
    (case l_law => k_is)
    (case c_law => k_is)
    (case p_law => k_is)
    (case z_all => k_is)
    (case z_bool => k_is)
    (case z_enumerate => k_is)
    (case z_int => k_is)
    (case z_isinstance => k_is)
    (case z_len => k_is)
    (case z_list => k_is)
    (case z_range => k_is)
    (case z_str => k_is)
    (case z_sum => k_is)
    (case z_super => k_is)
    (case z_tuple => k_is)
    (case z_zip => k_is)
    (case zk_MOST_ENTRY => k_is)
    (case zk_MOST_LENGTH => k_is)
    (case zk_MOST_ROWS => k_is)
    (case za_BadMatrix => k_is)
    (case za_BadNumber => k_is)
    (case za_Unalike => k_is)
    (case y1_BadMatrix => kernel_rfl)
    (case y2_BadMatrix => kernel_rfl)
    (case y3_BadMatrix => k_is)
    (case y4_BadMatrix => k_is)
    (case y5_BadMatrix => k_is)
    (case y6_BadMatrix => k_is)
    (case y7_BadMatrix => kernel_rfl)
    (case y8_BadMatrix => k_is)
    (case y9 => k_is)
    (case ya_BadMatrix => k_is)
    (case yb_BadMatrix => k_is)
    (case yc_BadMatrix => k_is)
    (case yd_BadMatrix => k_is)
    (case ye_BadMatrix => k_is)
    (case yf_BadMatrix => k_is)
    (case yg_BadMatrix => k_is)
    (case yh_BadMatrix => k_is)
    (case yi_BadMatrix => rfl)
    (case yj_BadMatrix => rfl)
    (case yk_BadMatrix => k_is)
    (case y1_BadNumber => kernel_rfl)
    (case y2_BadNumber => kernel_rfl)
    (case y3_BadNumber => k_is)
    (case y4_BadNumber => k_is)
    (case y5_BadNumber => k_is)
    (case y6_BadNumber => k_is)
    (case y7_BadNumber => kernel_rfl)
    (case y8_BadNumber => k_is)
    (case ya_BadNumber => k_is)
    (case yb_BadNumber => k_is)
    (case yc_BadNumber => k_is)
    (case yd_BadNumber => k_is)
    (case ye_BadNumber => k_is)
    (case yf_BadNumber => k_is)
    (case yg_BadNumber => k_is)
    (case yh_BadNumber => k_is)
    (case yi_BadNumber => rfl)
    (case yj_BadNumber => rfl)
    (case yk_BadNumber => k_is)
    (case y1_Unalike => kernel_rfl)
    (case y2_Unalike => kernel_rfl)
    (case y3_Unalike => k_is)
    (case y4_Unalike => k_is)
    (case y5_Unalike => k_is)
    (case y6_Unalike => k_is)
    (case y7_Unalike => kernel_rfl)
    (case y8_Unalike => k_is)
    (case ya_Unalike => k_is)
    (case yb_Unalike => k_is)
    (case yc_Unalike => k_is)
    (case yd_Unalike => k_is)
    (case ye_Unalike => k_is)
    (case yf_Unalike => k_is)
    (case yg_Unalike => k_is)
    (case yh_Unalike => k_is)
    (case yi_Unalike => rfl)
    (case yj_Unalike => rfl)
    (case yk_Unalike => k_is)
    (case xf1_BadNumber => k_is)
    (case xf2_BadNumber => k_is)
    (case xf3_BadNumber => k_is)
    (case xf4_BadNumber => k_is)
    (case xf5_BadNumber => k_is)
    (case xe1_BadNumber => k_is)
    (case xe2_BadNumber => k_is)
    (case xn_BadNumber => kernel_rfl)
    (case xu_BadNumber => kernel_rfl)
    (case xf1_BadMatrix => k_is)
    (case xf2_BadMatrix => k_is)
    (case xf3_BadMatrix => k_is)
    (case xf4_BadMatrix => k_is)
    (case xf5_BadMatrix => k_is)
    (case xe1_BadMatrix => k_is)
    (case xe2_BadMatrix => k_is)
    (case xn_BadMatrix => kernel_rfl)
    (case xu_BadMatrix => kernel_rfl)
    (case xf1_Unalike => k_is)
    (case xf2_Unalike => k_is)
    (case xf3_Unalike => k_is)
    (case xf4_Unalike => k_is)
    (case xf5_Unalike => k_is)
    (case xe1_Unalike => k_is)
    (case xe2_Unalike => k_is)
    (case xn_Unalike => kernel_rfl)
    (case xu_Unalike => kernel_rfl)
    (case xe3 => k_is)
    (case xe4 => k_is)
    (case w_BadNumber_BadMatrix_BadNumber_Unalike => kernel_rfl)
    (case w_BadMatrix_BadMatrix_BadNumber_Unalike => kernel_rfl)
    (case w_Unalike_BadMatrix_BadNumber_Unalike => kernel_rfl)
    (case wi_BadNumber_BadMatrix => kernel_rfl)
    (case wi_BadMatrix_BadMatrix => kernel_rfl)
    (case wi_Unalike_BadMatrix => kernel_rfl)
    (case wi_BadNumber_BadNumber => kernel_rfl)
    (case wi_BadMatrix_BadNumber => kernel_rfl)
    (case wi_Unalike_BadNumber => kernel_rfl)
