import PyProof.Rows.All
import Wide.All
import OpenK.AllK
import Wide.FinOn
import HandS.ForMost
import HandS.ForExc
import HandS.Style
import HandS.Property
import HandS.Defaults
import HandS.MakeKwOnly
import HandS.Star
import HandS.IsInst
import HandS.TupMul
import HandS.TupAny
import HandS.Conv
import HandS.Deep
import HandS.Walk
import HandS.EndBits
import HandS.Wide
import KE.GoesEnum
import PySem.Challenge.RW_pumphouse_k17_whole_plants
import HandS.Codes
import HandS.ExcOwn
import HandS.Exc
import KE.KExcSuper
import KE.KSuper
import HandS.ExcSuper
import HandS.WordsExc
import HandS.TryOnly
import KE.KExcLine
import KE.RegKTryMore
import KE.RegKSuper
set_option Elab.async false
set_option linter.all false
set_option maxRecDepth 100000
set_option maxHeartbeats 8000000
/-! Plain mathematics: wells, crews, a beat. No program in sight. -/
namespace Pm
structure Wl where
  top : Int
  drain : Int
  on : Int
  off : Int
  run : Int
  rest : Int
  starts : Int
  step : Int
  lag : Int
structure Cr where
  level : Int
  past : List Int
  ages : List Int
  mark : Int
/-- a good well -/
structure Wl.Ok (w : Wl) : Prop where
  top1 : 1 ≤ w.top
  top2 : w.top ≤ 200
  dr1 : 1 ≤ w.drain
  dr2 : w.drain ≤ 50
  on1 : 1 ≤ w.on
  on2 : w.on ≤ w.top
  off1 : 0 ≤ w.off
  off2 : w.off ≤ w.on - 1
  run1 : 1 ≤ w.run
  run2 : w.run ≤ 5
  rest1 : 1 ≤ w.rest
  rest2 : w.rest ≤ 5
  st1 : 1 ≤ w.starts
  st2 : w.starts ≤ 5
  step1 : 1 ≤ w.step
  step2 : w.step ≤ 20
  lag1 : 0 ≤ w.lag
  lag2 : w.lag ≤ 3
/-- a good crew of a well -/
structure Cr.Ok (w : Wl) (t : Bool) (c : Cr) : Prop where
  lv1 : 0 ≤ c.level
  lv2 : c.level ≤ w.top
  pl : (c.past.length : Int) = w.lag
  pv : ∀ x ∈ c.past, 0 ≤ x ∧ x ≤ w.top
  al1 : 1 ≤ c.ages.length
  al2 : c.ages.length ≤ 6
  av : ∀ a ∈ c.ages, -w.rest ≤ a ∧ a ≤ w.run ∧ a ≠ 0
  mk1 : 0 ≤ c.mark
  mk2 : c.mark < (c.ages.length : Int)
  m0 : t = false → c.mark = 0

def seen (w : Wl) (c : Cr) : Int :=
  let f := if 0 < w.lag then c.past.headD 0 else c.level
  f - f % w.step
/-- the names in turn -/
def row (t : Bool) (c : Cr) : List Nat :=
  if t then (List.range c.ages.length).map fun i => (c.mark.toNat + i) % c.ages.length else List.range c.ages.length
def begun (w : Wl) (t : Bool) (c : Cr) : List Nat :=
  if seen w c < w.on then [] else ((row t c).filter fun k => decide (c.ages.getD k 0 = -w.rest)).take w.starts.toNat
def ageAt (w : Wl) (t : Bool) (c : Cr) (k : Nat) : Int :=
  if k ∈ begun w t c then 1
  else if 0 < c.ages.getD k 0 then (if seen w c ≤ w.off ∧ c.ages.getD k 0 = w.run then -1 else if w.run < c.ages.getD k 0 + 1 then w.run else c.ages.getD k 0 + 1)
  else if -w.rest > c.ages.getD k 0 - 1 then -w.rest else c.ages.getD k 0 - 1
def agesAfter (w : Wl) (t : Bool) (c : Cr) : List Int := (List.range c.ages.length).map (ageAt w t c)
def runs (w : Wl) (t : Bool) (c : Cr) : List Nat := (List.range c.ages.length).filter fun k => decide (0 < ageAt w t c k)
def later (w : Wl) (t : Bool) (c : Cr) (q : Int) : Int := c.level + q - w.drain * ((runs w t c).length : Int)
def markAfter (w : Wl) (t : Bool) (c : Cr) : Int :=
  if t = true ∧ begun w t c ≠ [] then ((begun w t c).getLastD 0 + 1 : Int) % (c.ages.length : Int) else c.mark
def nextCr (w : Wl) (t : Bool) (c : Cr) (q : Int) : Cr := ⟨later w t c q, (c.past ++ [c.level]).drop 1, agesAfter w t c, markAfter w t c⟩
/-- a beat: over (inl true), dry (inl false), or the crew behind it -/
def beat (w : Wl) (t : Bool) (c : Cr) (q : Int) : Sum Bool Cr :=
  if w.top < later w t c q then .inl true else if later w t c q < 0 then .inl false else .inr (nextCr w t c q)
/-- a row of beats with one inflow -/
def told (w : Wl) (t : Bool) (q : Int) (c : Cr) : Nat → Sum Bool Cr
  | 0 => .inr c
  | n + 1 => match told w t q c n with
    | .inl b => .inl b
    | .inr d => beat w t d q
def hoursAfter (rs : List Nat) (hs : List Int) : List Int := (List.range hs.length).map fun k => hs.getD k 0 + if k ∈ rs then 1 else 0

theorem told_stay {w : Wl} {t : Bool} {q : Int} {c : Cr} {b : Bool} {n : Nat} (h : told w t q c n = .inl b) : ∀ m, n ≤ m → told w t q c m = .inl b := by
  intro m hm
  induction m with
  | zero =>
    have e : n = 0 := by omega
    rw [e] at h
    exact h
  | succ m ih =>
    by_cases e : n = m + 1
    · rw [← e]
      exact h
    · have := ih (by omega)
      show (match told w t q c m with | .inl b => Sum.inl b | .inr d => beat w t d q) = _
      rw [this]

theorem agesAfter_length (w : Wl) (t : Bool) (c : Cr) : (agesAfter w t c).length = c.ages.length := by
  unfold agesAfter
  rw [List.length_map, List.length_range]
theorem hoursAfter_length (rs : List Nat) (hs : List Int) : (hoursAfter rs hs).length = hs.length := by
  unfold hoursAfter
  rw [List.length_map, List.length_range]
theorem agesAfter_get (w : Wl) (t : Bool) (c : Cr) {k : Nat} (h : k < c.ages.length) : (agesAfter w t c)[k]? = some (ageAt w t c k) := by
  unfold agesAfter
  rw [List.getElem?_map, List.getElem?_range h]
  rfl
theorem getD_mem {l : List Int} {k : Nat} (h : k < l.length) : l.getD k 0 ∈ l := by
  rw [List.getD_eq_getElem?_getD, List.getElem?_eq_getElem h, Option.getD_some]
  exact List.getElem_mem h
theorem row_lt {t : Bool} {c : Cr} (h : 1 ≤ c.ages.length) : ∀ k ∈ row t c, k < c.ages.length := by
  intro k hk
  unfold row at hk
  cases t with
  | true =>
    rw [if_pos rfl] at hk
    obtain ⟨i, _, e⟩ := List.mem_map.mp hk
    rw [← e]
    exact Nat.mod_lt _ (by omega)
  | false =>
    rw [if_neg (by decide)] at hk
    exact List.mem_range.mp hk
theorem row_length (t : Bool) (c : Cr) : (row t c).length = c.ages.length := by
  unfold row
  split
  · rw [List.length_map, List.length_range]
  · rw [List.length_range]
theorem begun_lt {w : Wl} {t : Bool} {c : Cr} (h : 1 ≤ c.ages.length) : ∀ k ∈ begun w t c, k < c.ages.length := by
  intro k hk
  unfold begun at hk
  split at hk
  · cases hk
  · exact row_lt h k (List.mem_filter.mp (List.mem_of_mem_take hk)).1
theorem begun_length (w : Wl) (t : Bool) (c : Cr) : (begun w t c).length ≤ c.ages.length := by
  unfold begun
  split
  · exact Nat.zero_le _
  · rw [← row_length t c]
    exact Nat.le_trans (List.length_take_le' _ _) (List.length_filter_le _ _)
theorem ageAt_ok {w : Wl} {t : Bool} {c : Cr} (hw : w.Ok) (hc : c.Ok w t) {k : Nat} (h : k < c.ages.length) : -w.rest ≤ ageAt w t c k ∧ ageAt w t c k ≤ w.run ∧ ageAt w t c k ≠ 0 := by
  have ha := hc.av _ (getD_mem h)
  have h1 := hw.run1
  have h2 := hw.rest1
  unfold ageAt
  generalize c.ages.getD k 0 = a at ha ⊢
  split
  · omega
  · split
    · split
      · omega
      · split <;> omega
    · split <;> omega
theorem next_ok {w : Wl} {t : Bool} {c : Cr} {q : Int} (hw : w.Ok) (hc : c.Ok w t) (h1 : ¬ w.top < later w t c q) (h2 : ¬ later w t c q < 0) : (nextCr w t c q).Ok w t where
  lv1 := by show 0 ≤ later w t c q; omega
  lv2 := by show later w t c q ≤ w.top; omega
  pl := by
    show (((c.past ++ [c.level]).drop 1).length : Int) = w.lag
    rw [List.length_drop, List.length_append, List.length_singleton, Nat.add_sub_cancel]
    exact hc.pl
  pv := fun x hx => by
    have hx : x ∈ c.past ++ [c.level] := List.mem_of_mem_drop hx
    rcases List.mem_append.mp hx with h | h
    · exact hc.pv x h
    · rw [List.mem_singleton.mp h]
      exact ⟨hc.lv1, hc.lv2⟩
  al1 := by
    show 1 ≤ (agesAfter w t c).length
    rw [agesAfter_length]
    exact hc.al1
  al2 := by
    show (agesAfter w t c).length ≤ 6
    rw [agesAfter_length]
    exact hc.al2
  av := fun a ha => by
    have ha : a ∈ (List.range c.ages.length).map (ageAt w t c) := ha
    obtain ⟨k, hk, e⟩ := List.mem_map.mp ha
    rw [← e]
    exact ageAt_ok hw hc (List.mem_range.mp hk)
  mk1 := by
    show 0 ≤ markAfter w t c
    unfold markAfter
    have := hc.al1
    split
    · exact Int.emod_nonneg _ (by omega)
    · exact hc.mk1
  mk2 := by
    show markAfter w t c < ((agesAfter w t c).length : Int)
    rw [agesAfter_length]
    unfold markAfter
    have := hc.al1
    split
    · exact Int.emod_lt_of_pos _ (by omega)
    · exact hc.mk2
  m0 := fun e => by
    show markAfter w t c = 0
    unfold markAfter
    rw [if_neg (fun z => by rw [e] at z; cases z.1)]
    exact hc.m0 e
theorem beat_ok {w : Wl} {t : Bool} {c d : Cr} {q : Int} (hw : w.Ok) (hc : c.Ok w t) (h : beat w t c q = .inr d) : d.Ok w t := by
  unfold beat at h
  split at h
  · cases h
  · split at h
    · cases h
    · rename_i h1 h2
      cases h
      exact next_ok hw hc h1 h2
theorem beat_len {w : Wl} {t : Bool} {c d : Cr} {q : Int} (h : beat w t c q = .inr d) : d.ages.length = c.ages.length := by
  unfold beat at h
  split at h
  · cases h
  · split at h
    · cases h
    · cases h
      exact agesAfter_length w t c
theorem told_ok {w : Wl} {t : Bool} {c d : Cr} {q : Int} (hw : w.Ok) (hc : c.Ok w t) : ∀ (n : Nat), told w t q c n = .inr d → d.Ok w t
  | 0, h => by
    cases h
    exact hc
  | n + 1, h => by
    have h : (match told w t q c n with | .inl b => Sum.inl b | .inr d => beat w t d q) = .inr d := h
    cases e : told w t q c n with
    | inl b =>
      rw [e] at h
      cases h
    | inr d' =>
      rw [e] at h
      exact beat_ok hw (told_ok hw hc n e) h

/-! ### the law's own forms -/
/-- the names turned round about the mark -/
theorem turn_row : ∀ n : Nat, n ≤ 6 → ∀ m : Nat, m < n → (List.range n).drop m ++ (List.range n).take m = (List.range n).map fun i => (m + i) % n := by decide
theorem row_turned {c : Cr} (h : c.ages.length ≤ 6) (h1 : 0 ≤ c.mark) (h2 : c.mark < (c.ages.length : Int)) :
    (List.range c.ages.length).drop c.mark.toNat ++ (List.range c.ages.length).take c.mark.toNat = row true c := by
  unfold row
  rw [if_pos rfl]
  exact turn_row _ h _ (by omega)
/-- the names that stop -/
def ended (w : Wl) (c : Cr) : List Nat :=
  if seen w c ≥ w.on then [] else if seen w c ≤ w.off then (List.range c.ages.length).filter fun k => decide (c.ages.getD k 0 = w.run) else []
theorem ageAt_law {w : Wl} {t : Bool} {c : Cr} (hw : w.Ok) {k : Nat} (h : k < c.ages.length) :
    ageAt w t c k = if k ∈ begun w t c then 1 else if k ∈ ended w c then -1 else if 0 < c.ages.getD k 0 then (if c.ages.getD k 0 + 1 < w.run then c.ages.getD k 0 + 1 else w.run) else (if c.ages.getD k 0 - 1 > -w.rest then c.ages.getD k 0 - 1 else -w.rest) := by
  have h1 := hw.off2
  have h2 := hw.run1
  have e : k ∈ ended w c ↔ (seen w c ≤ w.off ∧ c.ages.getD k 0 = w.run) := by
    unfold ended
    constructor
    · intro hk
      split at hk
      · cases hk
      · split at hk
        · rename_i h4
          exact ⟨h4, of_decide_eq_true (List.mem_filter.mp hk).2⟩
        · cases hk
    · rintro ⟨h3, h4⟩
      rw [if_neg (by omega), if_pos h3]
      exact List.mem_filter.mpr ⟨List.mem_range.mpr h, decide_eq_true h4⟩
  unfold ageAt
  simp only [e]
  generalize c.ages.getD k 0 = a
  split
  · rfl
  · by_cases h3 : seen w c ≤ w.off ∧ a = w.run
    · rw [if_pos h3, if_pos h3, if_pos (by omega)]
    · rw [if_neg h3, if_neg h3]
      split <;> split <;> split <;> omega
theorem runs_eq (w : Wl) (t : Bool) (c : Cr) : runs w t c = (List.range c.ages.length).filter fun k => decide (0 < (agesAfter w t c).getD k 0) := by
  unfold runs
  refine List.filter_congr fun k hk => ?_
  rw [List.getD_eq_getElem?_getD, agesAfter_get w t c (List.mem_range.mp hk), Option.getD_some]
theorem filter_map_len {f : Nat → Int} : ∀ l : List Nat, ((l.map f).filter fun a => decide (0 < a)).length = (l.filter fun k => decide (0 < f k)).length
  | [] => rfl
  | x :: l => by
    rw [List.map_cons, List.filter_cons, List.filter_cons]
    by_cases h : 0 < f x
    · rw [if_pos (decide_eq_true h), if_pos (decide_eq_true h), List.length_cons, List.length_cons, filter_map_len l]
    · rw [if_neg (by simpa using h), if_neg (by simpa using h), filter_map_len l]
theorem runs_count (w : Wl) (t : Bool) (c : Cr) : ((agesAfter w t c).filter fun a => decide (0 < a)).length = (runs w t c).length := filter_map_len _
theorem past_law {w : Wl} {c : Cr} {t : Bool} (hc : c.Ok w t) (h : 0 < w.lag) : (c.past ++ [c.level]).drop 1 = c.past.drop 1 ++ [c.level] := by
  cases e : c.past with
  | nil =>
    have := hc.pl
    rw [e] at this
    have : (0 : Int) = w.lag := this
    omega
  | cons a r => rfl
theorem past_law0 {w : Wl} {c : Cr} {t : Bool} (hc : c.Ok w t) (h : ¬ 0 < w.lag) : (c.past ++ [c.level]).drop 1 = [] := by
  cases e : c.past with
  | nil => rfl
  | cons a r =>
    have := hc.pl
    rw [e] at this
    have : ((r.length + 1 : Nat) : Int) = w.lag := this
    omega
end Pm
/-! Own rules over the layer: data in a tuple, repr of data, a tuple times one, enumerate of a tuple, methods with keywords, len and in by own methods. -/
namespace Kx
open PySem PySem.Spec PyProof.Rows L2
section
variable {X : Cx}
/-! ### x in t, both data -/
def rInTD (K : PySem.W.Frag) : R2 := fun x y H Q =>
  ∃ d ds, Dp K H x d ∧ Dp K H y (.tuple ds) ∧ SeqAt.shaped d = true ∧ SeqAt.shaped (.tuple ds) = true ∧ Q (.bl (ds.any fun z => PyData.eqv z d)) H
theorem op_inTD (room : X.A.units + 65 < cLine) : OpR X (compareOp .In) (rInTD X.K) := by
  rintro pins s σ H x y v u Q I rx ry ⟨d, ds, hd, he, sd, se, q⟩
  obtain ⟨as, r1⟩ := Dp.reads I d x v hd rx
  obtain ⟨bs, r2⟩ := Dp.reads I (.tuple ds) y u he ry
  exact SeqAt.in_tuple_reads r2 r1 (SeqAt.canLay_of_shaped se) (SeqAt.canLay_of_shaped sd)
    (room_in_shaped sd room) ⟨.bl _, H, I, rfl, q⟩
/-! ### repr of data -/
def rReprD (K : PySem.W.Frag) : List V → Hp → VK → Prop := fun xs H Q =>
  ∃ (x : V) (d : PyData), xs = [x] ∧ (x = .non ∨ (∃ z, x = .str z) ∨ ∃ a, x = .ref a) ∧ Dp K H x d ∧ d.showable = true ∧ d.hasDict = false ∧ d.depth ≤ 40 ∧ d.shown.length ≤ sizeLine ∧ Q (.str d.shown) H
theorem call_reprD (hg : X.A.guards = some []) (room : X.A.units + 64 < cLine) : CallR X (.builtin "repr") (rReprD X.K) := by
  rintro pins s σ H xs us Q I r ⟨x, d, rfl, hx, hd, hs, hn, hdep, hz, q⟩
  obtain ⟨u, rfl, ru⟩ := vals1 r
  rcases hx with rfl | ⟨z, rfl⟩ | ⟨a, rfl⟩
  · cases ru
    cases hd
    exact P.repr_of_none ⟨.str _, H, I.tok _, ⟨_, rfl⟩, q⟩
  · obtain ⟨t, rfl⟩ := ru
    cases hd
    exact P.repr_of_str ⟨.str _, H, I.tok _, ⟨_, rfl⟩, q⟩ hz
  · cases ru
    obtain ⟨as, rd⟩ := Dp.reads I d (.ref a) (.ref a) hd rfl
    refine repr_of_reads' rd hs (fun e => by rw [hn] at e; cases e) hg (by omega) (fun b o e => e) (fun h' w tk k => ?_) hz
    exact ⟨.str _, H, I.kept (t' := tk) k, ⟨w, rfl⟩, q⟩
end
/-! ### a tuple times one is itself -/
open AutoSeq1 (wpAny_loadPart') in
theorem tuple_one (l : Addr) (items : Array Value) (n : Nat) (dd : Option Addr) (sl : Array (Option Value)) (u : Tok) :
    Meets (Builtin.«tuple.__mul__» ⟨[.ref l, .int 1 u], []⟩)
      (fun _ R s => s.heap.get? l = some { cls := .type "tuple", dict := dd, data := .seq items n, slots := sl } ∧ R (.ok (.ret (.ref l))) s) :=
  .of_wp fun prog w A R s h => by
    obtain ⟨hp, g, d, tk, os⟩ := s
    obtain ⟨hl, h⟩ := h
    have f1 := AutoSeq1.idx_int
    have c1 : (items.isEmpty || (1 : Int) == 1) = true := by rw [show ((1 : Int) == 1) = true from rfl, Bool.or_true]
    wp_walk using wpAny_loadPart' hl
    exact ⟨_, rfl, h⟩
/-- t * k, t not empty: itself for one, a new one for more -/
def rRep1 (K : PySem.W.Frag) : R2 := fun x y H Q =>
  ∃ l k xs, x = .ref l ∧ y = .int k ∧ SqT K H l xs ∧ xs ≠ [] ∧ 1 ≤ k ∧ k ≤ 1000 ∧ xs.length ≤ 1000 ∧ (k = 1 → Q (.ref l) H) ∧ (k ≠ 1 → ∀ p, H p = none → Q (.ref p) (upd H p (.tup (List.replicate k.toNat xs).flatten)))
section
variable {X : Cx}
theorem op_rep1 : OpR X (binaryOp .Mult) (rRep1 X.K) := by
  rintro pins s σ H x y v u Q I rx ry ⟨l, k, xs, rfl, rfl, hT, hne, h1, h2, hz, q1, q2⟩
  by_cases hk : k = 1
  · subst hk
    cases rx
    obtain ⟨t, rfl⟩ := ry
    obtain ⟨its, r, ⟨⟨cls, dd, data, sl⟩, ho, hc, n, hd⟩, hs⟩ := I.tuple hT
    simp only at hc hd
    subst hc hd
    refine wpAny_binaryOp_repeat_ref (T := "tuple") (U := "int") (by decide) ⟨_, ho, rfl⟩ (fun s' => typeIs_int s' 1 t) noFill_tuple_mul F.fills_int_mul F.slot_int_rmul repeat_tuple F.slot_int_index.lookup
      (call_meets F.slot_int_rmul (typeIs_int s 1 t) F.entry_int_rmul (F.args_int_rmul_2 _ _) (int_rmul_tuple 1 t l its.toArray n dd sl)
        ⟨ho, rfl, ⟨_, ho, rfl⟩, call_meets F.slot_tuple_mul ⟨_, ho, rfl⟩ F.entry_tuple_mul (F.args_tuple_mul_2 _ _) (tuple_one l its.toArray n dd sl t) ⟨ho, ?_⟩⟩)
    exact ⟨.ref l, H, I, rfl, q1 rfl⟩
  · exact op_repT pins s σ H _ _ v u Q I rx ry ⟨l, k, xs, rfl, rfl, hT, hne, by omega, h2, hz, q2 hk⟩
end

/-! ### enumerate of a tuple -/
set_option maxHeartbeats 4000000 in
theorem meets_enum1 {v : Value} {o : Obj} {Hh : Heap → Prop} (B : Begins v o Hh) :
    Meets (Builtin.«enumerate.__new__» ⟨[.type "enumerate", v], []⟩) (fun _ R s => Hh s.heap ∧
      R (.ok (.ret (.ref (s.heap.push o).objs.size))) { s with heap := (s.heap.push o).push { cls := .type "enumerate", data := .fields #[.none, .bool false, .ref s.heap.objs.size, rawInt 0, .none, .none] } }) :=
  .of_wp fun prog w A R s h => by
    obtain ⟨hp, g, d, tk, os⟩ := s
    obtain ⟨hv, hr⟩ := h
    have hsub := sub_enumerate
    have step : ∀ {A' : Around} {E Q : Value → Shared → Prop}, Q (.ref hp.objs.size) ⟨hp.push o, g, d, tk, os⟩ → wpAny (model prog w) A' (pyIter v) Q E ⟨hp, g, d, tk, os⟩ := fun q => B.iter prog w _ _ ⟨hp, g, d, tk, os⟩ _ hv q
    wp_walk using step
    refine wpAny_stack_any fun st => wpAny_pure ?_
    split
    · rename_i c _ _ _ _ _
      cases (c == Value.type "enumerate") <;> (wp_walk using step; exact ⟨_, rfl, hr⟩)
    · wp_walk using step
      exact ⟨_, rfl, hr⟩
/-- the tuple at a, each item in a new pair -/
def IteT (K : PySem.W.Frag) (a : Addr) : It where
  go := fun i H => ∃ (xs : List V) (x : V), SqT K H a xs ∧ xs[i]? = some x
  yld := fun i H v H' => ∃ T x, v = .ref T ∧ H T = none ∧ H' = upd H T (.tup [.int (i : Nat), x]) ∧ ∀ xs, SqT K H a xs → xs[i]? = some x
  stop := fun i H => ∃ xs : List V, SqT K H a xs ∧ xs.length ≤ i
theorem turn_enumT {P : Program} {w : World} {K : PySem.W.Frag} {elts : List Expr} {kk : Nat} {tpos : Pos} (a e it : Addr) :
    Turn P w K (.Tuple elts kk tpos) (IteT K a) [e, it] e (fun i h => (∃ old, IsEnum h e it ((i : Nat) : Int) old) ∧ h.IsTupleIter it a i ∧ e ≠ it) where
  mem := List.mem_cons_self
  obj := by
    rintro i h ⟨⟨old, he⟩, ⟨o, ho, hc, hd⟩, _⟩ b hb
    rcases List.mem_cons.mp hb with rfl | hb
    · exact ⟨_, he, fun v q => nomatch q⟩
    · obtain rfl := List.mem_singleton.mp hb
      exact ⟨o, ho, fun v q => by rw [hd] at q; cases q⟩
  keep := by
    rintro i h h' ⟨⟨old, he⟩, hi, hne⟩ k
    exact ⟨⟨old, k e (by simp) _ he⟩, hi.at fun o q => k it (by simp) o q, hne⟩
  item := by
    rintro X rfl rfl rfl hc i pins s σ H E I hf ⟨⟨old, he⟩, hit, hne⟩ ⟨xs, x, hq, hx⟩
    obtain ⟨its, rv, p, hz⟩ := I.tuple hq
    obtain ⟨u, hu, ru⟩ := rv.get hx
    have hel : e < s.heap.objs.size := Heap.lt_size he
    have hil : it < s.heap.objs.size := by
      obtain ⟨_, q, _⟩ := hit
      exact Heap.lt_size q
    have ht : s.heap.IsTuple a its.toArray := p
    have hae : e ≠ a := by
      rintro rfl
      obtain ⟨o, ho, hcl, _⟩ := ht
      rw [he] at ho
      cases ho
      have z : Value.type "enumerate" = Value.type "tuple" := hcl
      injection z with z
      exact absurd z (by decide)
    have hai : a ≠ it := by
      rintro rfl
      obtain ⟨o, ho, hcl, _⟩ := ht
      obtain ⟨o2, ho2, hcl2, _⟩ := hit
      rw [ho] at ho2
      cases ho2
      rw [hcl] at hcl2
      injection hcl2 with z
      exact absurd z (by decide)
    have hh : X.A.in1.handled = none := I.ok.hd hc
    have hlt : i < its.toArray.size := by
      rw [List.size_toArray]
      exact (List.getElem?_eq_some_iff.mp hu).1
    refine wpAny_pyNext_enum_itemC (Draws.tuple (prog := X.prog) (w := X.w) hh it a hai its.toArray) he ⟨hit, ht⟩ hlt hne (by simp [hne, hae]) fun y h' tk hy ho hst hT hsz hk => ?_
    have ey : y = u := by
      have hy' : its[i]? = some y := by simpa using hy
      rw [hu] at hy'
      exact (Option.some.inj hy').symm
    subst ey
    refine ⟨_, rfl, wpAny_letOwnedTupleGo_enum (s := { s with heap := h', toks := tk + 1 }) ho fun h2 he2 sb => ?_⟩
    have hT2 : h2.get? s.heap.objs.size = some { cls := .type "tuple", data := .seq #[.int i tk, y] } := (sb.2 _ (Nat.ne_of_gt hel)).trans hT
    have new : ObjOk X.prog X.w (upd H s.heap.objs.size (.tup [.int (i : Nat), x])) h2 s.heap.objs.size (.tup [.int (i : Nat), x]) :=
      ⟨(by show 2 ≤ sizeLine; decide), [.int i tk, y], .cons ⟨_, rfl⟩ (.cons ru .nil), _, hT2, rfl, _, rfl⟩
    have kept : ∀ b o, b ∉ [e, it] → s.heap.get? b = some o → h2.get? b = some o := fun b o hb q =>
      (sb.2 b fun z => hb (by simp [z])).trans (hk b o (fun z => hb (by simp [z])) (fun z => hb (by simp [z])) q)
    have J := I.turnedNew (t' := tk + 1) (ch := [e, it]) kept hf (Nat.le_refl _) new
    refine ⟨.ref s.heap.objs.size, _, J, rfl, ⟨_, x, rfl, I.hok.fresh (Nat.le_refl _), rfl, fun ys hys => by rw [I.tuple_inj hys hq]; exact hx⟩, ⟨⟨y, ?_⟩, hst.1.at fun o q => (sb.2 it (Ne.symm hne)).trans q, hne⟩, fun b hb => ?_⟩
    · rw [show ((i + 1 : Nat) : Int) = (i : Int) + 1 by omega]
      exact he2
    · have hlt : b < s.heap.objs.size := by
        rcases List.mem_cons.mp hb with rfl | hb
        · exact hel
        · obtain rfl := List.mem_singleton.mp hb
          exact hil
      rw [upd_ne (Nat.ne_of_lt hlt)]
      exact (hf b hb).1
  done := by
    rintro X rfl rfl rfl hc i pins s σ H E I hf ⟨⟨old, he⟩, hit, hne⟩ ⟨xs, hq, hx⟩
    obtain ⟨its, rv, p, hz⟩ := I.tuple hq
    have ht : s.heap.IsTuple a its.toArray := p
    obtain ⟨f0, f1, f2, f3, f4, f5⟩ := hf it (by simp)
    have hl := rv.length
    have hh : X.A.in1.handled = none := I.ok.hd hc
    unfold pyNext
    refine wpAny_bind (wpAny_attempt (wpAny_callSpecial?_slot (name := Str.ofString "__next__") (⟨_, he, rfl⟩ : s.TypeIs (.ref e) "enumerate") F.slot_enumerate_next
      (wpAny_call_entry F.slot_enumerate_next ⟨_, he, rfl⟩ F.entry_enumerate_next ?_ (F.args_enumerate_next_1 _))))
    show wpAny _ _ (field (.ref e) 2 >>= _) _ _ _
    refine wpAny_bind (wpAny_field he rfl (x := .ref it) rfl ?_)
    refine wpAny_bind (wpAny_nextOf_tuple_end hh hit ht (by simp; omega) fun h' z hb hz' => ?_)
    obtain ⟨o, ho, hcl⟩ := hz'
    refine wpAny_bind (wpAny_isInstance (T := "StopIteration") (b := true) ⟨o, ho, hcl⟩ isSubtype_stop ?_)
    exact wpAny_pure ⟨rfl, I.turned (t' := s.toks) (fun b o hbi q => hb b o hbi q) f0 f1 f3 f4 f5⟩
  self := fun A i s Q E st h => by
    obtain ⟨⟨_, he⟩, _⟩ := st
    exact wpAny_pyIter_enum he h
def iEnumT (K : PySem.W.Frag) (ta : TA) : TI := fun σ H R => ta σ H fun vs H1 => ∃ a xs, vs = [.ref a] ∧ SqT K H1 a xs ∧ R (IteT K a) H1
theorem pi_enumT {X : Cx} {e : Expr} {ta : TA} {p pos tpos : Pos} {elts : List Expr} {kk : Nat} (hg : Gl X "enumerate") (hm : X.mg "enumerate" = none) (ha : PA X [e] ta)
    (hs : starEach [e] X.env = [(false, eval e X.env)] := by rfl) : PI X (.Tuple elts kk tpos) (.Call (.Name "enumerate" p) [e] [] pos) (iEnumT X.K ta) := by
  refine ⟨fun pins s σ H R I h => Call_ (ld_blt I hg hm boot_enumerate (PyProof.Rows.callWith_type1 (thn (ha.run pos pins s σ H _ I h) fun us s1 w1 => ?_) hs rfl))⟩
  obtain ⟨vs, H1, I1, r1, a, xs, rfl, hq, q⟩ := w1
  obtain ⟨u, rfl, ru⟩ := vals1 r1
  cases ru
  obtain ⟨its, rv, p', hz⟩ := I1.tuple hq
  have ht : s1.heap.IsTuple a its.toArray := p'
  refine callType_new F.called_enumerate (by decide) (F.typeCall_enumerate_1 _) (F.newCall_enumerate_1 _) (fun obj => F.args_object_init_2 obj _) F.entry_enumerate_new (meets_enum1 (begins_tuple a its.toArray)) ⟨ht, ?_⟩
  have hz : (s1.heap.push { cls := .type "tuple_iterator", data := .fields #[.ref a, .int 0 0] }).objs.size = s1.heap.objs.size + 1 := Heap.size_push ..
  show _ ∧ _
  rw [hz]
  have he : IsEnum ((s1.heap.push { cls := .type "tuple_iterator", data := .fields #[.ref a, .int 0 0] }).push { cls := .type "enumerate", data := .fields #[.none, .bool false, .ref s1.heap.objs.size, rawInt 0, .none, .none] })
      (s1.heap.objs.size + 1) s1.heap.objs.size 0 .none := by
    have z := Heap.get?_push_size (s1.heap.push { cls := .type "tuple_iterator", data := .fields #[.ref a, .int 0 0] }) (o := { cls := .type "enumerate", data := .fields #[.none, .bool false, .ref s1.heap.objs.size, rawInt 0, .none, .none] }) rfl
    rw [hz] at z
    exact z
  refine ⟨⟨_, he, rfl⟩, wpAny_pyIter_enum he ?_⟩
  have I2 := I1.kept (h' := (s1.heap.push { cls := .type "tuple_iterator", data := .fields #[.ref a, .int 0 0] }).push { cls := .type "enumerate", data := .fields #[.none, .bool false, .ref s1.heap.objs.size, rawInt 0, .none, .none] }) (t' := s1.toks)
    (fun b o q => Heap.get?_push_of_some _ (Heap.get?_push_of_some _ q))
  refine ⟨s1.heap.objs.size + 1, [s1.heap.objs.size + 1, s1.heap.objs.size], _, _, H1, rfl, I2, turn_enumT a (s1.heap.objs.size + 1) s1.heap.objs.size,
    ⟨⟨.none, he⟩, ⟨_, Heap.get?_push_of_some _ (Heap.get?_push_size _ rfl), rfl, rfl⟩, Nat.succ_ne_self _⟩, fun b hb => ?_, q⟩
  have hle : s1.heap.objs.size ≤ b := by
    rcases List.mem_cons.mp hb with rfl | hb
    · exact Nat.le_add_right _ _
    · rw [List.mem_singleton.mp hb]
      exact Nat.le_refl _
  exact I1.fpOk hle (I1.hok.fresh hle)

/-! ### methods called with keywords -/
def tMethK (C : Addr) (m : Str) (n j : Nat) (sp : Sp) (gV : List V → List V → List V) (E : XK) (ta : TE) (t tk : TA) : TE := fun σ H Q => ta σ H fun x H1 =>
  ∃ a dx fs, x = .ref a ∧ H1 a = some (.ins C dx fs) ∧ fs.lookup m = none ∧ t σ H1 fun vs H2 => tk σ H2 fun zs H3 => vs.length = n ∧ zs.length = j ∧ sp (gV (x :: vs) zs) H3 Q E
section
variable {X : Cx} {CX : CXT} {k n : Nat} {f C : Addr} {fd : FuncData} {ps ks : List Str} {sp : Sp} {E : XK} {m : Str} {pos apos : Pos} {e o : Expr} {es : List Expr} {kws : List Keyword} {ta : TE} {t tk : TA} {g : List Value → List Value → List Value} {gV : List V → List V → List V}
theorem pe_methK {pl : Sem Bool} (he : PE X o ta) (c : Cls X.K C) (hm : Meth X.K C m f) (F : FnOk X.prog X.w X.K X.mg X.base CX k f fd ps sp) (hr : Room k X.A) (hb : KBn X.K fd ps (n + 1) ks g gV) (hx : Passes CX X E) (ha : PA X (e :: es) t) (hkw : PK X kws tk)
    (hall : (backToKw pos (keywordEach kws X.env)).all (·.1.isSome) = true := by rfl) (hks : (backToKw pos (keywordEach kws X.env)).filterMap (·.1) = ks := by rfl)
    (hst : starEach (e :: es) X.env = (false, eval e X.env) :: starEach es X.env := by rfl) (hpl : ((backTo pos (starEach (e :: es) X.env)).any (·.1) || (backToKw pos (keywordEach kws X.env)).any (·.1.isNone)) = false := by rfl)
    (ht : eval (.Call (.Attribute o m apos) (e :: es) kws pos) X.env = (do
      let base ← eval o X.env
      standAt apos.atName
      let (fn, fst) ← holding [base] (getMethod base m pl)
      callWith pos fn fst (backTo pos (starEach (e :: es) X.env)) (backToKw pos (keywordEach kws X.env))) := by rfl) :
    PE X (.Call (.Attribute o m apos) (e :: es) kws pos) (tMethK C m n ks.length sp gV E ta t tk) := by
  refine ⟨fun pins s σ H Q I h => PySem.W.methodCall_KW (pl := pl) (thn (he.run pins s σ H _ I h) fun u s1 w1 => ?_) ht⟩
  obtain ⟨x, H1, I1, rx, a, dx, fs, rfl, ea, l, q⟩ := w1
  obtain rfl : u = Value.ref a := rx
  refine getmeth_ok I1 ea c hm l (PySem.W.callWith_KW (first := [.ref a]) (h₀ := X.base) I.ok.mod.kin hm.kp hall (thn (ha.run pos pins s1 σ H1 _ I1 q) fun us s2 w2 => ?_) hpl hst)
  obtain ⟨vs, H2, I2, r, q2⟩ := w2
  refine thn (hkw.run pos pins s2 σ H2 _ I2 q2) fun ws s3 w3 => ?_
  obtain ⟨zs, H3, I3, rz, l1, l2, q3⟩ := w3
  refine ⟨I3.kIn, ?_⟩
  rw [hks]
  exact run_fnN (us := .ref a :: us) (vs := .ref a :: vs) F hr hb hx I3 (.cons rfl r) rz (by rw [List.length_cons, l1]) l2 q3
theorem pe_methK0 {pl : Sem Bool} (he : PE X o ta) (c : Cls X.K C) (hm : Meth X.K C m f) (F : FnOk X.prog X.w X.K X.mg X.base CX k f fd ps sp) (hr : Room k X.A) (hb : KBn X.K fd ps 1 ks g gV) (hx : Passes CX X E) (hkw : PK X kws tk)
    (hall : (backToKw pos (keywordEach kws X.env)).all (·.1.isSome) = true := by rfl) (hks : (backToKw pos (keywordEach kws X.env)).filterMap (·.1) = ks := by rfl)
    (hpl : ((backTo pos (starEach [] X.env)).any (·.1) || (backToKw pos (keywordEach kws X.env)).any (·.1.isNone)) = false := by rfl)
    (ht : eval (.Call (.Attribute o m apos) [] kws pos) X.env = (do
      let base ← eval o X.env
      standAt apos.atName
      let (fn, fst) ← holding [base] (getMethod base m pl)
      callWith pos fn fst (backTo pos (starEach [] X.env)) (backToKw pos (keywordEach kws X.env))) := by rfl) :
    PE X (.Call (.Attribute o m apos) [] kws pos) (tMethK C m 0 ks.length sp gV E ta tNil tk) := by
  refine ⟨fun pins s σ H Q I h => PySem.W.methodCall_KW (pl := pl) (thn (he.run pins s σ H _ I h) fun u s1 w1 => ?_) ht⟩
  obtain ⟨x, H1, I1, rx, a, dx, fs, rfl, ea, l, q⟩ := w1
  obtain rfl : u = Value.ref a := rx
  refine getmeth_ok I1 ea c hm l (PySem.W.callWith_KW0 (first := [.ref a]) (h₀ := X.base) I.ok.mod.kin hm.kp hall (thn (hkw.run pos pins s1 σ H1 _ I1 q) fun ws s3 w3 => ?_) hpl)
  obtain ⟨zs, H3, I3, rz, l1, l2, q3⟩ := w3
  refine ⟨I3.kIn, ?_⟩
  rw [hks]
  exact run_fnN (us := [.ref a]) (vs := [.ref a]) F hr hb hx I3 (.cons rfl .nil) rz rfl l2 q3

/-! ### len(o), x in o by own methods -/
theorem call_lenO {ps : List Str} (c : Cls X.K C) (at_ : PySem.W.findIn X.K (.ref C) "__len__" = some (some (.ref f))) (fn : PySem.W.isFn X.K (.ref f) = true) (F : FnOk X.prog X.w X.K X.mg X.base CX k f fd ps sp) (hr : Room (k + 1) X.A) (hb : Binds X.K fd ps []) (hx : Passes CX X E) :
    CallR X (.builtin "len") (fun xs H Q => ∃ a dx fs, xs = [.ref a] ∧ H a = some (.ins C dx fs) ∧ sp [.ref a] H (fun v H' => ∃ z : Nat, v = .int (z : Int) ∧ (z : Int) < 2 ^ 63 ∧ Q (.int (z : Int)) H') E) := by
  rintro pins s σ H xs us Q I r ⟨a, dx, fs, rfl, ea, h⟩
  obtain ⟨u, rfl, ru⟩ := vals1 r
  obtain rfl : u = Value.ref a := ru
  obtain ⟨mA, O, _⟩ := ins_get I.hok ea
  obtain ⟨od, J, _⟩ := O.look
  obtain ⟨m, fr⟩ := I.fr
  have hl : ([Value.ref a] ++ []).length = ps.length := (F.len _ _ _ _ h).symm ▸ rfl
  have bd := hb s [.ref a] I.kIn hl
  refine PySem.W.len_K fr I.ok.mod.kin J at_ fn (wpAny_call (codeAny_mono (F.run X.A.in1 X.stack s H ⟨[.ref a], []⟩ [.ref a] [.ref a] _ E hr.in1 I.env0.in1 bd (.cons rfl .nil) h) fun r s' hq => ?_))
  cases r with
  | error er => exact hx pins σ H s er s' I hq
  | ok fl =>
    cases fl with
    | ret w =>
      obtain ⟨v, H', I3, rv, z, rfl, hz, q⟩ := I.after hq
      obtain ⟨t, rfl⟩ := rv
      exact ⟨⟨by omega, hz⟩, .int _, H', I3.tok _, ⟨_, rfl⟩, q⟩
    | next => exact False.elim hq
    | brk => exact False.elim hq
    | cont => exact False.elim hq
theorem op_inO {ps : List Str} (c : Cls X.K C) (at_ : PySem.W.findIn X.K (.ref C) "__contains__" = some (some (.ref f))) (fn : PySem.W.isFn X.K (.ref f) = true) (F : FnOk X.prog X.w X.K X.mg X.base CX k f fd ps sp) (hr : Room k X.A) (hb : Binds X.K fd ps []) (hx : Passes CX X E) :
    OpR X (compareOp .In) (fun x y H Q => ∃ a dx fs, y = .ref a ∧ H a = some (.ins C dx fs) ∧ sp [.ref a, x] H (fun v H' => ∃ b, v = .bl b ∧ Q (.bl b) H') E) := by
  rintro pins s σ H x y v u Q I rx ry ⟨a, dx, fs, rfl, ea, h⟩
  obtain rfl : u = Value.ref a := ry
  obtain ⟨mA, O, _⟩ := ins_get I.hok ea
  obtain ⟨od, J, _⟩ := O.look
  obtain ⟨m, fr⟩ := I.fr
  refine PySem.W.in_K fr I.ok.mod.kin J at_ fn (wpAny_mono (run_fn (us := [.ref a, v]) (vs := [.ref a, x]) (Q := fun w H' => ∃ b, w = .bl b ∧ Q (.bl b) H') F hr hb .nil hx I (.cons rfl (.cons rx .nil)) h) (fun r s' hq => ?_) fun _ _ z => z)
  obtain ⟨w, H', I2, rw', b, rfl, q⟩ := hq
  obtain rfl : r = Value.bool b := rw'
  exact wpAny_truthy_bool ⟨.bl b, H', I2, rfl, q⟩
end
end Kx
/-! Calls that may raise, and defs that want to know that no repr is under way. -/
namespace Kx
open PySem PySem.Spec PyProof.Rows L2
/-! ### a call of an object, in a try -/
section
variable {X : Cx} {CX : CXT} {k : Nat} {f C : Addr} {fd : FuncData} {ps : List Str} {sp : Sp} {E : L2.St → XK} {e fe : Expr} {es : List Expr} {tf : TE} {t : TA} {pos : Pos}
def tCallOS (C : Addr) (sp : Sp) (E : L2.St → XK) (tf : TE) (t : TA) : TE := fun σ H Q => tf σ H fun y H1 => ∃ a, y = V.ref a ∧ t σ H1 fun vs H2 => (∃ dx fs, H2 a = some (.ins C dx fs)) ∧ sp (V.ref a :: vs) H2 Q (E σ)
theorem pe_callOS (hf : PE X fe tf) (c : StX.CallO X.K C f) (F : FnOk X.prog X.w X.K X.mg X.base CX k f fd ps sp) (hr : Room k X.A) (hb : Binds X.K fd ps []) (hx : ∀ σ, PassesAt CX X σ (E σ)) (ha : PA X (e :: es) t)
    (ht : eval (.Call fe (e :: es) [] pos) X.env = (do callWith pos (← eval fe X.env) [] (backTo pos (starEach (e :: es) X.env)) (backToKw pos (keywordEach [] X.env))) := by rfl)
    (he : starEach (e :: es) X.env = (false, eval e X.env) :: starEach es X.env := by rfl) (hpl : (backTo pos (starEach es X.env)).any (·.1) = false := by rfl) : PE X (.Call fe (e :: es) [] pos) (tCallOS C sp E tf t) := by
  refine ⟨fun pins s σ H Q I h => Call_ (thn (hf.run pins s σ H _ I h) fun u s1 w1 => ?_) ht⟩
  obtain ⟨y, H1, I1, ry, a, rfl, q⟩ := w1
  obtain rfl : u = Value.ref a := ry
  refine StX.callO_with (thn (ha.run pos pins s1 σ H1 _ I1 q) fun us s2 w2 => ?_) he hpl
  obtain ⟨vs, H2, I2, r, ⟨dx, fs, hi⟩, q2⟩ := w2
  obtain ⟨ox, od, J, hd⟩ := StX.insC_at I2 (C := C) (.inr ⟨dx, fs, hi⟩)
  refine ⟨⟨C, ox, od, J, hd⟩, wpAny_call (PySem.W.kco_code I2.kIn J hd c.at_ c.fn c.fi ?_)⟩
  have r2 : Vals (V.ref a :: vs) (Value.ref a :: us) := .cons rfl r
  have hl : (Value.ref a :: us).length = ps.length := by
    rw [← r2.length]
    exact F.len _ _ _ _ q2
  have bd := hb s2 (Value.ref a :: us) I2.kIn (by rw [List.append_nil]; exact hl)
  rw [List.append_nil] at bd
  refine codeAny_mono (F.run X.A X.stack s2 H2 ⟨Value.ref a :: us, []⟩ (Value.ref a :: us) (V.ref a :: vs) Q (E σ) hr I2.env0 bd r2 q2) fun r s' hq => ?_
  cases r with
  | error er => exact hx σ pins H2 s2 er s' I2 hq
  | ok fl =>
    cases fl with
    | ret v => exact I2.after hq
    | next => exact False.elim hq
    | brk => exact False.elim hq
    | cont => exact False.elim hq
end

/-! ### a def that runs where no repr is under way -/
structure FnG (P : Program) (w : World) (K : PySem.W.Frag) (mg : Str → Option Value) (base : Heap) (CX : CXT) (k : Nat) (f : Addr) (fd : FuncData) (ps : List Str) (sp : Sp) : Prop where
  len : ∀ vs H Q E, sp vs H Q E → vs.length = ps.length
  run : ∀ (A : Around) (outer : List Env) (s : Shared) (H : Hp) (args : Args) (us : List Value) (vs : List V) (Q : VK) (E : XK), A.guards = some [] → Room k A → Env0 P w K mg base A outer s H →
    BindsTo s fd args (ps.zip us) → Vals vs us → sp vs H Q E → codeAny (model P w) A (.call (.ref f) args) (CR CX outer P w H s Q E) s
section
variable {P : Program} {w : World} {K : PySem.W.Frag} {mg : Str → Option Value} {base : Heap}
theorem okG {x qual : Str} {st : Stmt} {f : Addr} {fd : FuncData} {N ps : List Str} {k : Nat} {sp : Sp} (F : Fun K x qual st f fd) (S : FnScope N ps (defScope st)) (len : ∀ vs H Q E, sp vs H Q E → vs.length = ps.length)
    (body : ∀ (cdv : Value) (A : Around) (outer : List Env) (s : Shared) (H : Hp) (vs : List V) (Q : VK) (E : XK), (A.deeper (envOfC qual (defScope st) s.heap.objs.size f cdv)).guards = some [] →
      Room k (A.deeper (envOfC qual (defScope st) s.heap.objs.size f cdv)) → sp vs H Q E →
      ∃ t, PSs (cxOf CX0 P w K mg base N qual (defScope st) f cdv A outer s H E).nox (defBody st) t ∧ t { nx := fun _ H' => Q .non H', rt := Q } (start N vs) H) :
    FnG P w K mg base CX0 (k + 1) f fd ps sp := by
  obtain ⟨oc, od, kV, doc, pm, an, cdv, ct, osl, rfl, lk, hcd⟩ := F.ex
  refine ⟨len, fun A outer s H args us vs Q E hg hr e0 hb r hsp => ?_⟩
  have KX := e0.mod.kin.keeps fun b o e => (e0.bs b o e).1
  have lim := e0.mod.nolimit.keeps fun b o e => (e0.bs b o e).1
  refine codeAny_call_function hr.depth (KX _ _ lk) rfl S.co S.gen rfl (PySem.W.codeRec_of KX hcd) (hb _ _ _ _ ?_)
  refine wpAny_newFunctionEnv_cells S.kind (fun y hy => ?_) fun env he s1 x => ?_
  · rcases S.par y.1 (List.of_mem_zip (show (y.1, y.2) ∈ ps.zip us from hy)).1 with q | q
    · exact .inl q
    · exact .inr ⟨q, PySem.W.cellsFrom_some _ _ _ (.inl q)⟩
  · subst he
    obtain ⟨t, ht, hq⟩ := body cdv A outer s H vs Q E hg (hr.deeper _) hsp
    have I := inv_start (CX := CX0) (E := E) (N := N) (P := P) (w := w) S hr.hd e0 (len _ _ _ _ hsp) r x
    refine ⟨lim.keeps x.toInCall.keep, codeAny_func (wpAny_mono (ht.nox.run [] s1 (start N vs) H _ I hq) (fun fl s' hs => ?_) fun _ _ z => z)⟩
    cases fl with
    | ret u =>
      obtain ⟨v, _, H', J, rv, q⟩ := hs
      exact ⟨v, H', J.os, J.bare, J.base, J.hok, rv, q⟩
    | next =>
      obtain ⟨_, H', J, q⟩ := hs
      exact ⟨.non, H', J.os, J.bare, J.base, J.hok, rfl, q⟩
    | brk =>
      obtain ⟨_, _, _, q⟩ := hs
      exact False.elim q
    | cont =>
      obtain ⟨_, _, _, q⟩ := hs
      exact False.elim q
end
section
variable {X : Cx} {CX : CXT} {k : Nat} {f : Addr} {fd : FuncData} {ps : List Str} {sp : Sp} {dvs : List V} {ds : List Value} {E : XK} {x : Str} {p pos : Pos} {e : Expr} {es : List Expr} {t : TA}
theorem pe_callG (hG : X.A.guards = some []) (F : FnG X.prog X.w X.K X.mg X.base CX k f fd ps sp) (hr : Room k X.A) (hg : Gl X x) (hm : X.mg x = some (.ref f)) (hk : PySem.W.keepIn X.K (.ref f) = true) (hb : Binds X.K fd ps []) (hx : Passes CX X E)
    (ha : PA X (e :: es) t) (hdb : (x == ("__debug__" : Str)) = false := by decide) (he : starEach (e :: es) X.env = (false, eval e X.env) :: starEach es X.env := by rfl) (hpl : (backTo pos (starEach es X.env)).any (·.1) = false := by rfl) :
    PE X (.Call (.Name x p) (e :: es) [] pos) (tCall sp [] E t) := by
  refine ⟨fun pins s σ H Q I h => wpAny_Call_Name_kw (ld_glob I hg hm ?_ hdb)⟩
  refine PySem.W.callWith_K (h₀ := X.base) I.ok.mod.kin hk (thn (ha.run pos pins s σ H _ I h) fun us s1 w1 => ?_) he hpl
  obtain ⟨vs, H1, I1, r, q⟩ := w1
  rw [List.append_nil] at q
  have hl : us.length = ps.length := by
    rw [← r.length]
    exact F.len _ _ _ _ q
  have bd := hb s1 us I1.kIn (by rw [List.append_nil]; exact hl)
  rw [List.append_nil] at bd
  refine ⟨I1.kIn, wpAny_call (codeAny_mono (F.run X.A X.stack s1 H1 ⟨us, []⟩ us vs Q E hG hr I1.env0 bd r q) fun r s' hq => ?_)⟩
  cases r with
  | error er => exact hx pins σ H1 s1 er s' I1 hq
  | ok fl =>
    cases fl with
    | ret v => exact I1.after hq
    | next => exact False.elim hq
    | brk => exact False.elim hq
    | cont => exact False.elim hq
end
end Kx
/-! The text by places; what stands in the heap; callees by name. -/
namespace Kx
open PySem PySem.Spec PyProof.Rows L2 Pm
/-! ### the text -/
def topS (i : Nat) : Stmt := PySem.Challenge.pw_pumphouse_k17_whole_plants.main.body.getD i (.Pass ⟨0, 0, 0, 0⟩)
/-! ### what stands in the heap -/
def IntsT (H : Hp) (p : Addr) (ns : List Int) : Prop := H p = some (.tup (ns.map V.int))
def wlL (w : Wl) : List Int := [w.top, w.drain, w.on, w.off, w.run, w.rest, w.starts, w.step, w.lag]
def WellT (H : Hp) (p : Addr) (w : Wl) : Prop := IntsT H p (wlL w)
def CrewT (H : Hp) (p : Addr) (c : Cr) : Prop :=
  ∃ a b, H p = some (.tup [.int c.level, .ref a, .ref b, .int c.mark]) ∧ IntsT H a c.past ∧ IntsT H b c.ages
def ruleS (t : Bool) : Str := if t then "turns" else "first"
theorem IntsT.seq {K : PySem.W.Frag} {H : Hp} {p : Addr} {ns : List Int} (h : IntsT H p ns) : SqT K H p (ns.map V.int) := .inl (.inl h)
theorem IntsT.same {H H' : Hp} {p : Addr} {ns : List Int} (s : Same H H') (h : IntsT H p ns) : IntsT H' p ns := s _ _ h
theorem WellT.same {H H' : Hp} {p : Addr} {w : Wl} (s : Same H H') (h : WellT H p w) : WellT H' p w := s _ _ h
theorem CrewT.same {H H' : Hp} {p : Addr} {c : Cr} (s : Same H H') (h : CrewT H p c) : CrewT H' p c := by
  obtain ⟨a, b, h1, h2, h3⟩ := h
  exact ⟨a, b, s _ _ h1, s _ _ h2, s _ _ h3⟩
theorem same_upd {H : Hp} {p : Addr} {o : HO} (h : H p = none) : Same H (upd H p o) := fun b x e => by
  rw [upd_ne (ne_of_none e h)]
  exact e
theorem int_at {ns : List Int} {k : Nat} {i : Int} (h : ns[k]? = some i) : atI (ns.map V.int) (k : Int) = some (.int i) := atI_nat (by rw [List.getElem?_map, h]; rfl)
theorem int_atD {ns : List Int} {k : Nat} (h : k < ns.length) : atI (ns.map V.int) (k : Int) = some (.int (ns.getD k 0)) := int_at (by
  rw [List.getD_eq_getElem?_getD, List.getElem?_eq_getElem h]
  rfl)
theorem seqT {K : PySem.W.Frag} {H : Hp} {p : Addr} {xs : List V} (h : H p = some (.tup xs)) : SqT K H p xs := .inl (.inl h)
theorem seqL {K : PySem.W.Frag} {H : Hp} {p : Addr} {xs : List V} (h : H p = some (.lst xs)) : SqL K H p xs := .inl (.inl h)
/-! ### callees -/
structure Cal (P : Program) (w : World) (K : PySem.W.Frag) (mg : Str → Option Value) (base : Heap) (k : Nat) (x : Str) (sp : Sp) : Prop where
  ex : ∃ (f : Addr) (fd : FuncData) (ps : List Str), FnOk P w K mg base CX0 k f fd ps sp ∧ mg x = some (.ref f) ∧ PySem.W.keepIn K (.ref f) = true ∧ Binds K fd ps []
section
variable {X : Cx} {k j : Nat} {x : Str} {sp : Sp} {p pos : Pos} {e : Expr} {es : List Expr} {t : TA}
theorem pe_c (c : Cal X.prog X.w X.K X.mg X.base k x sp) (hr : Room j X.A) (ha : PA X (e :: es) t) (hk : k ≤ j := by decide) (hg : Gl X x := by rfl) (hdb : (x == ("__debug__" : Str)) = false := by decide)
    (he : starEach (e :: es) X.env = (false, eval e X.env) :: starEach es X.env := by rfl) (hpl : (backTo pos (starEach es X.env)).any (·.1) = false := by rfl) : PE X (.Call (.Name x p) (e :: es) [] pos) (tCall sp [] E0 t) := by
  obtain ⟨f, fd, ps, F, hm, kp, b⟩ := c.ex
  exact pe_call F (hr.mono hk) hg hm kp b .nil pass0 ha hdb he hpl
end
/-- a def of the module -/
structure Df (K : PySem.W.Frag) (mg : Str → Option Value) (x : Str) (st : Stmt) (ps : List Str) (f : Addr) (fd : FuncData) : Prop where
  fn : Fun K x x st f fd
  mgf : mg x = some (.ref f)
  bi : Binds K fd ps []
theorem Df.cal {P : Program} {w : World} {K : PySem.W.Frag} {mg : Str → Option Value} {base : Heap} {k : Nat} {x : Str} {st : Stmt} {ps : List Str} {f : Addr} {fd : FuncData} {sp : Sp} (D : Df K mg x st ps f fd)
    (F : FnOk P w K mg base CX0 k f fd ps sp) : Cal P w K mg base k x sp := ⟨f, fd, ps, F, D.mgf, D.fn.kp, D.bi⟩
/-- the names of built-ins that no def of the module hides -/
structure Blt (mg : Str → Option Value) : Prop where
  isinstance : mg "isinstance" = none
  int : mg "int" = none
  bool : mg "bool" = none
  tuple : mg "tuple" = none
  str : mg "str" = none
  list : mg "list" = none
  len : mg "len" = none
  all : mg "all" = none
  range : mg "range" = none
  enumerate : mg "enumerate" = none
  min : mg "min" = none
  max : mg "max" = none
  sorted : mg "sorted" = none
  repr : mg "repr" = none
section
variable {X : Cx} {pos : Pos}
theorem ty_int (hm : X.mg "int" = none) (hg : Gl X "int" := by rfl) : PE X (.Name "int" pos) (tC (.ty "int")) := pe_bltn hg hm (u := .type "int") (by decide +kernel) rfl
theorem ty_bool (hm : X.mg "bool" = none) (hg : Gl X "bool" := by rfl) : PE X (.Name "bool" pos) (tC (.ty "bool")) := pe_bltn hg hm (u := .type "bool") (by decide +kernel) rfl
theorem ty_tuple (hm : X.mg "tuple" = none) (hg : Gl X "tuple" := by rfl) : PE X (.Name "tuple" pos) (tC (.ty "tuple")) := pe_bltn hg hm (u := .type "tuple") (by decide +kernel) rfl
theorem ty_str (hm : X.mg "str" = none) (hg : Gl X "str" := by rfl) : PE X (.Name "str" pos) (tC (.ty "str")) := pe_bltn hg hm (u := .type "str") (by decide +kernel) rfl
end
/-! ### the module's constants -/
def GV (mg : Str → Option Value) (x : Str) (v : V) : Prop := ∃ u, mg x = some u ∧ RelV v u
theorem pe_gi {X : Cx} {x : Str} {v : V} {pos : Pos} (h : GV X.mg x v) (hg : Gl X x := by rfl) (hd : (x == ("__debug__" : Str)) = false := by decide) : PE X (.Name x pos) (tC v) := by
  obtain ⟨u, h1, h2⟩ := h
  exact pe_glob hg h1 h2 hd
structure Cst (mg : Str → Option Value) : Prop where
  top : GV mg "MOST_TOP" (.int 200)
  drain : GV mg "MOST_DRAIN" (.int 50)
  age : GV mg "MOST_AGE" (.int 5)
  starts : GV mg "MOST_STARTS" (.int 5)
  step : GV mg "MOST_STEP" (.int 20)
  lag : GV mg "MOST_LAG" (.int 3)
  pumps : GV mg "MOST_PUMPS" (.int 6)
  inflow : GV mg "MOST_INFLOW" (.int 300)
  times : GV mg "MOST_TIMES" (.int 1000)
  first : GV mg "FIRST" (.str "first")
  turns : GV mg "TURNS" (.str "turns")
  over : GV mg "OVER" (.str "over")
  dry : GV mg "DRY" (.str "dry")
end Kx
/-! Bounds and wells: what is checked ahead. -/
namespace Kx
open PySem PySem.Spec PyProof.Rows L2 Pm
section
variable {P : Program} {w : World} {K : PySem.W.Frag} {mg : Str → Option Value} {base : Heap}
def bnd : Option Int → V
  | none => .non
  | some i => .int i
def wholeB (i : Int) (l m : Option Int) : Bool :=
  (match l with | none => true | some a => decide (a ≤ i)) && (match m with | none => true | some b => decide (i ≤ b))
def NotInt (H : Hp) (x : V) : Prop := x = .non ∨ (∃ b, x = .bl b) ∨ (∃ z, x = .str z) ∨ ∃ a xs, x = .ref a ∧ H a = some (.tup xs)
def spWhole : Sp := fun vs H Q _ =>
  (∃ (i : Int) (l m : Option Int), vs = [.int i, bnd l, bnd m] ∧ Q (.bl (wholeB i l m)) H) ∨ (∃ x l m : V, vs = [x, l, m] ∧ NotInt H x ∧ Q (.bl false) H)
theorem scWhole : FnScope ["thing", "least", "most"] ["thing", "least", "most"] (defScope (topS 12)) := ⟨rfl, rfl, rfl, by decide +kernel, rfl, by decide +kernel, by decide +kernel⟩
theorem kit_ii : PySem.W.kitOne K (.type "int") (.type "int") = some true := kit_ty (by decide +kernel)
theorem kit_ib : PySem.W.kitOne K (.type "int") (.type "bool") = some false := kit_ty (by decide +kernel)
theorem ok_whole {f : Addr} {fd : FuncData} (D : Df K mg "is_whole" (topS 12) ["thing", "least", "most"] f fd) (B : Blt mg) : Cal P w K mg base 1 "is_whole" spWhole := by
  refine D.cal (D.fn.ok scWhole (fun vs H Q E h => ?_) (fun cdv A outer s H vs Q E hr h => ?_))
  · rcases h with ⟨i, l, m, rfl, _⟩ | ⟨x, l, m, rfl, _⟩ <;> rfl
  · refine ⟨_, pss_cons (ps_if (PW.pt (pw_or (pt_not (pt_val (pe_callB call_isi (by rfl) B.isinstance (by decide +kernel) (pa_cons (pv 0) (pa_cons (ty_int B.int) pa_nil)))))
        (pw_or1 (pt_val (pe_callB call_isi (by rfl) B.isinstance (by decide +kernel) (pa_cons (pv 0) (pa_cons (ty_bool B.bool) pa_nil))))))) (pss_one (ps_ret pe_bl)) pss_nil)
      (pss_one (ps_ret (pe_and (pe_or (pe_cmpR op_isN (pv 1) pe_non (nomark _)) (pe_one (pe_cmpR op_ge (pv 0) (pv 1) (nomark _))))
        (pe_one (pe_or (pe_cmpR op_isN (pv 2) pe_non (nomark _)) (pe_one (pe_cmpR op_le (pv 0) (pv 2) (nomark _)))))))), ?_⟩
    rcases h with ⟨i, l, m, rfl, q⟩ | ⟨x, l, m, rfl, hx, q⟩
    · refine ⟨_, rfl, _, _, _, _, _, rfl, .ty "int", .base (.int i), kit_ii, true, rfl, ?_⟩
      refine iteF ?_
      refine ⟨_, rfl, _, _, _, _, _, rfl, .ty "bool", .base (.int i), kit_ib, false, rfl, ?_⟩
      refine iteF ?_
      refine ⟨_, rfl, rfl, _, rfl, ?_⟩
      cases l with
      | none =>
        refine ⟨_, rfl, iteT ⟨_, rfl, rfl, _, rfl, ?_⟩⟩
        cases m with
        | none => exact q
        | some b => exact iteF ⟨_, rfl, _, rfl, i, b, rfl, rfl, q⟩
      | some a =>
        refine iteF ⟨_, rfl, _, rfl, i, a, rfl, rfl, _, rfl, ?_⟩
        cases m with
        | none =>
          have q : Q (.bl (decide (a ≤ i) && true)) H := q
          by_cases c : a ≤ i
          · rw [decide_eq_true c] at q ⊢
            exact iteT ⟨_, rfl, rfl, _, rfl, iteT q⟩
          · rw [decide_eq_false c] at q ⊢
            exact iteF q
        | some b =>
          have q : Q (.bl (decide (a ≤ i) && decide (i ≤ b))) H := q
          by_cases c : a ≤ i
          · rw [decide_eq_true c] at q ⊢
            exact iteT ⟨_, rfl, rfl, _, rfl, iteF ⟨_, rfl, _, rfl, i, b, rfl, rfl, q⟩⟩
          · rw [decide_eq_false c] at q ⊢
            exact iteF q
    · rcases hx with rfl | ⟨b, rfl⟩ | ⟨z, rfl⟩ | ⟨a, xs, rfl, ha⟩
      · exact ⟨_, rfl, _, _, _, _, _, rfl, .ty "int", .base .non, (kit_ty (by decide +kernel) : PySem.W.kitOne K (.type "NoneType") (.type "int") = some false), false, rfl, iteT q⟩
      · exact ⟨_, rfl, _, _, _, _, _, rfl, .ty "int", .base (.bl b), (kit_ty (by decide +kernel) : PySem.W.kitOne K (.type "bool") (.type "int") = some true), true, rfl,
          iteF ⟨_, rfl, _, _, _, _, _, rfl, .ty "bool", .base (.bl b), (kit_ty (by decide +kernel) : PySem.W.kitOne K (.type "bool") (.type "bool") = some true), true, rfl, iteT q⟩⟩
      · exact ⟨_, rfl, _, _, _, _, _, rfl, .ty "int", .base (.str z), (kit_ty (by decide +kernel) : PySem.W.kitOne K (.type "str") (.type "int") = some false), false, rfl, iteT q⟩
      · exact ⟨_, rfl, _, _, _, _, _, rfl, .ty "int", .base (.tup ha), (kit_ty (by decide +kernel) : PySem.W.kitOne K (.type "tuple") (.type "int") = some false), false, rfl, iteT q⟩
theorem whole_ok {i a b : Int} (h1 : a ≤ i) (h2 : i ≤ b) : wholeB i (some a) (some b) = true := by
  show (decide (a ≤ i) && decide (i ≤ b)) = true
  rw [decide_eq_true h1, decide_eq_true h2]
  rfl
def spWrong : Sp := fun vs H Q _ => ∃ p w, vs = [.ref p] ∧ WellT H p w ∧ w.Ok ∧ Q .non H
theorem scWrong : FnScope ["thing", "top", "drain", "on", "off", "run", "rest", "starts", "step", "lag"] ["thing"] (defScope (topS 13)) := ⟨rfl, rfl, rfl, by decide +kernel, rfl, by decide +kernel, by decide +kernel⟩
theorem ok_wrong {f : Addr} {fd : FuncData} (D : Df K mg "wrong_part" (topS 13) ["thing"] f fd) (C : Cst mg) (cW : Cal P w K mg base 1 "is_whole" spWhole) : Cal P w K mg base 2 "wrong_part" spWrong := by
  refine D.cal (D.fn.ok scWrong (fun vs H Q E h => ?_) (fun cdv A outer s H vs Q E hr h => ?_))
  · obtain ⟨p, w, rfl, _⟩ := h
    rfl
  · obtain ⟨p, wl, rfl, hw, ok, q⟩ := h
    refine ⟨_, pss_cons (ps_asg (pv 0) (pg_tup rfl (pgs_cons (pg_name (i := 1) scWrong.nd rfl (.inl rfl)) (pgs_cons (pg_name (i := 2) scWrong.nd rfl (.inl rfl)) (pgs_cons (pg_name (i := 3) scWrong.nd rfl (.inl rfl))
        (pgs_cons (pg_name (i := 4) scWrong.nd rfl (.inl rfl)) (pgs_cons (pg_name (i := 5) scWrong.nd rfl (.inl rfl)) (pgs_cons (pg_name (i := 6) scWrong.nd rfl (.inl rfl)) (pgs_cons (pg_name (i := 7) scWrong.nd rfl (.inl rfl))
        (pgs_cons (pg_name (i := 8) scWrong.nd rfl (.inl rfl)) (pgs_cons (pg_name (i := 9) scWrong.nd rfl (.inl rfl)) pgs_nil)))))))))))
      (pss_cons (ps_if (pt_not (pt_val (pe_c cW hr (pa_cons (pv 1) (pa_cons pe_int (pa_cons (pe_gi C.top) pa_nil)))))) (pss_one (ps_ret pe_str)) pss_nil)
      (pss_cons (ps_if (pt_not (pt_val (pe_c cW hr (pa_cons (pv 2) (pa_cons pe_int (pa_cons (pe_gi C.drain) pa_nil)))))) (pss_one (ps_ret pe_str)) pss_nil)
      (pss_cons (ps_if (pt_not (pt_val (pe_c cW hr (pa_cons (pv 3) (pa_cons pe_int (pa_cons (pv 1) pa_nil)))))) (pss_one (ps_ret pe_str)) pss_nil)
      (pss_cons (ps_if (pt_not (pt_val (pe_c cW hr (pa_cons (pv 4) (pa_cons pe_int (pa_cons (pe_op op_sub (pv 3) pe_int) pa_nil)))))) (pss_one (ps_ret pe_str)) pss_nil)
      (pss_cons (ps_if (pt_not (pt_val (pe_c cW hr (pa_cons (pv 5) (pa_cons pe_int (pa_cons (pe_gi C.age) pa_nil)))))) (pss_one (ps_ret pe_str)) pss_nil)
      (pss_cons (ps_if (pt_not (pt_val (pe_c cW hr (pa_cons (pv 6) (pa_cons pe_int (pa_cons (pe_gi C.age) pa_nil)))))) (pss_one (ps_ret pe_str)) pss_nil)
      (pss_cons (ps_if (pt_not (pt_val (pe_c cW hr (pa_cons (pv 7) (pa_cons pe_int (pa_cons (pe_gi C.starts) pa_nil)))))) (pss_one (ps_ret pe_str)) pss_nil)
      (pss_cons (ps_if (pt_not (pt_val (pe_c cW hr (pa_cons (pv 8) (pa_cons pe_int (pa_cons (pe_gi C.step) pa_nil)))))) (pss_one (ps_ret pe_str)) pss_nil)
      (pss_one (ps_ret (pe_ifExp (pt_val (pe_c cW hr (pa_cons (pv 9) (pa_cons pe_int (pa_cons (pe_gi C.lag) pa_nil))))) pe_non pe_str))))))))))), ?_⟩
    refine ⟨_, rfl, p, _, rfl, hw.seq, rfl, _, _, rfl, _, _, rfl, _, _, rfl, _, _, rfl, _, _, rfl, _, _, rfl, _, _, rfl, _, _, rfl, _, _, rfl, rfl, ?_⟩
    refine ⟨_, rfl, .inl ⟨wl.top, some 1, some 200, rfl, true, congrArg V.bl (whole_ok ok.top1 ok.top2), iteF ?_⟩⟩
    refine ⟨_, rfl, .inl ⟨wl.drain, some 1, some 50, rfl, true, congrArg V.bl (whole_ok ok.dr1 ok.dr2), iteF ?_⟩⟩
    refine ⟨_, rfl, _, rfl, .inl ⟨wl.on, some 1, some wl.top, rfl, true, congrArg V.bl (whole_ok ok.on1 ok.on2), iteF ?_⟩⟩
    refine ⟨_, rfl, _, rfl, wl.on, 1, rfl, rfl, .inl ⟨wl.off, some 0, some (wl.on - 1), rfl, true, congrArg V.bl (whole_ok ok.off1 ok.off2), iteF ?_⟩⟩
    refine ⟨_, rfl, .inl ⟨wl.run, some 1, some 5, rfl, true, congrArg V.bl (whole_ok ok.run1 ok.run2), iteF ?_⟩⟩
    refine ⟨_, rfl, .inl ⟨wl.rest, some 1, some 5, rfl, true, congrArg V.bl (whole_ok ok.rest1 ok.rest2), iteF ?_⟩⟩
    refine ⟨_, rfl, .inl ⟨wl.starts, some 1, some 5, rfl, true, congrArg V.bl (whole_ok ok.st1 ok.st2), iteF ?_⟩⟩
    refine ⟨_, rfl, .inl ⟨wl.step, some 1, some 20, rfl, true, congrArg V.bl (whole_ok ok.step1 ok.step2), iteF ?_⟩⟩
    exact ⟨_, rfl, .inl ⟨wl.lag, some 0, some 3, rfl, true, congrArg V.bl (whole_ok ok.lag1 ok.lag2), iteT q⟩⟩
end
end Kx
/-! Wells, rules, crews: what is checked ahead of a plant. -/
namespace Kx
open PySem PySem.Spec PyProof.Rows L2 Pm
section
variable {P : Program} {w : World} {K : PySem.W.Frag} {mg : Str → Option Value} {base : Heap}
theorem kit_tt : PySem.W.kitOne K (.type "tuple") (.type "tuple") = some true := kit_ty (by decide +kernel)
theorem kit_ss : PySem.W.kitOne K (.type "str") (.type "str") = some true := kit_ty (by decide +kernel)
/-! ### a well -/
def spNeedWell : Sp := fun vs H Q _ => ∃ p w, vs = [.ref p] ∧ WellT H p w ∧ w.Ok ∧ Q (.ref p) H
theorem scNeedWell : FnScope ["thing", "part"] ["thing"] (defScope (topS 14)) := ⟨rfl, rfl, rfl, by decide +kernel, rfl, by decide +kernel, by decide +kernel⟩
theorem ok_needWell {f : Addr} {fd : FuncData} (D : Df K mg "need_well" (topS 14) ["thing"] f fd) (B : Blt mg) (cW : Cal P w K mg base 2 "wrong_part" spWrong) : Cal P w K mg base 3 "need_well" spNeedWell := by
  refine D.cal (D.fn.ok scNeedWell (fun vs H Q E h => ?_) (fun cdv A outer s H vs Q E hr h => ?_))
  · obtain ⟨p, w, rfl, _⟩ := h
    rfl
  · obtain ⟨p, wl, rfl, hw, ok, q⟩ := h
    refine ⟨_, pss_cons (ps_if (PW.pt (pw_or (pt_not (pt_val (pe_callB call_isi (by rfl) B.isinstance (by decide +kernel) (pa_cons (pv 0) (pa_cons (ty_tuple B.tuple) pa_nil)))))
        (pw_or1 (pt_cmpR op_ne (pe_callB call_len_seq (by rfl) B.len (by decide +kernel) (pa_cons (pv 0) pa_nil)) pe_int (nomark _))))) (pss_one ps_never) pss_nil)
      (pss_cons (ps_set (i := 1) scNeedWell.nd rfl (.inl rfl) (pe_c cW hr (pa_cons (pv 0) pa_nil)))
      (pss_cons (ps_if (pt_cmpR op_notN (pv 1) pe_non (nomark _)) (pss_one ps_never) pss_nil) (pss_one (ps_ret (pv 0))))), ?_⟩
    refine ⟨_, rfl, _, _, _, _, _, rfl, .ty "tuple", .base (.tup hw), kit_tt, true, rfl, iteF ⟨_, rfl, p, _, rfl, .inr hw.seq, rfl, _, rfl, iteNS rfl ?_⟩⟩
    refine ⟨_, rfl, p, wl, rfl, hw, ok, ?_⟩
    exact ⟨_, rfl, rfl, _, rfl, iteNS rfl ⟨_, rfl, q⟩⟩
/-! ### a rule -/
def spNeedRule : Sp := fun vs H Q _ => ∃ t, vs = [.str (ruleS t)] ∧ ∀ H', Same H H' → Q .non H'
theorem scNeedRule : FnScope ["rule"] ["rule"] (defScope (topS 23)) := ⟨rfl, rfl, rfl, by decide +kernel, rfl, by decide +kernel, by decide +kernel⟩
theorem rule_in : ∀ t : Bool, inV (.str (ruleS t)) [.str "first", .str "turns"] = true := by
  intro t
  cases t <;> decide +kernel
theorem ok_needRule {f : Addr} {fd : FuncData} (D : Df K mg "need_rule" (topS 23) ["rule"] f fd) (B : Blt mg) (C : Cst mg) : Cal P w K mg base 1 "need_rule" spNeedRule := by
  refine D.cal (D.fn.ok scNeedRule (fun vs H Q E h => ?_) (fun cdv A outer s H vs Q E hr h => ?_))
  · obtain ⟨t, rfl, _⟩ := h
    rfl
  · obtain ⟨t, rfl, q⟩ := h
    refine ⟨_, pss_one (ps_if (PW.pt (pw_or (pt_not (pt_val (pe_callB call_isi (by rfl) B.isinstance (by decide +kernel) (pa_cons (pv 0) (pa_cons (ty_str B.str) pa_nil)))))
        (pw_or1 (pt_cmpR op_notIn_seq (pv 0) (pe_tup (pa_cons (pe_gi C.first) (pa_cons (pe_gi C.turns) pa_nil))) (by rfl))))) (pss_one ps_never) pss_nil), ?_⟩
    refine ⟨_, rfl, _, _, _, _, _, rfl, .ty "str", .base (.str _), kit_ss, true, rfl, iteF ⟨_, rfl, (by show 2 ≤ sizeLine; decide), fun p hp => ?_⟩⟩
    refine ⟨p, _, rfl, .inr (seqT upd_same), rfl, rfl, false, ?_, iteF (q _ (same_upd hp))⟩
    show V.bl (!inV (.str (ruleS t)) [.str "first", .str "turns"]) = _
    rw [rule_in]
    rfl
/-! ### an age -/
def spAge : Sp := fun vs H Q _ => ∃ p w a, vs = [.ref p, .int a] ∧ WellT H p w ∧ -w.rest ≤ a ∧ a ≤ w.run ∧ a ≠ 0 ∧ Q (.bl true) H
theorem scAge : FnScope ["well", "thing"] ["well", "thing"] (defScope (topS 24)) := ⟨rfl, rfl, rfl, by decide +kernel, rfl, by decide +kernel, by decide +kernel⟩
theorem ok_age {f : Addr} {fd : FuncData} (D : Df K mg "is_age" (topS 24) ["well", "thing"] f fd) (cW : Cal P w K mg base 1 "is_whole" spWhole) : Cal P w K mg base 2 "is_age" spAge := by
  refine D.cal (D.fn.ok scAge (fun vs H Q E h => ?_) (fun cdv A outer s H vs Q E hr h => ?_))
  · obtain ⟨p, w, a, rfl, _⟩ := h
    rfl
  · obtain ⟨p, wl, a, rfl, hw, h1, h2, h3, q⟩ := h
    refine ⟨_, pss_one (ps_ret (pe_and (pe_c cW hr (pa_cons (pv 1) (pa_cons (pe_op op_sub pe_int (pe_ix ix_tup (pv 0) pe_int (fun _ _ => rfl))) (pa_cons (pe_ix ix_tup (pv 0) pe_int (fun _ _ => rfl)) pa_nil))))
      (pe_one (pe_cmpR op_ne (pv 1) pe_int (nomark _))))), ?_⟩
    refine ⟨_, rfl, _, rfl, p, _, _, _, rfl, rfl, hw.seq, rfl, 0, wl.rest, rfl, rfl, _, rfl, p, _, _, _, rfl, rfl, hw.seq, rfl, ?_⟩
    refine .inl ⟨a, some (0 - wl.rest), some wl.run, rfl, true, congrArg V.bl (whole_ok (by omega) h2), iteT ⟨_, rfl, rfl, ?_⟩⟩
    have e : (!decide (V.int a = V.int 0)) = true := by
      rw [decide_eq_false (fun z => h3 (V.int.inj z))]
      rfl
    rw [e]
    exact q
end
end Kx
/-! Crews: what is checked ahead of a plant. -/
namespace Kx
open PySem PySem.Spec PyProof.Rows L2 Pm
theorem yesT {σ : L2.St} {H : Hp} {R : Bool → Hp → Prop} (h : R true H) : tYes σ H R := h
theorem iteD {c A B : Prop} [Decidable c] (hc : c) (h : A) : if decide c = true then A else B := by
  rw [decide_eq_true hc]
  exact iteT h
theorem iteDN {c A B : Prop} [Decidable c] (hc : ¬ c) (h : B) : if decide c = true then A else B := by
  rw [decide_eq_false hc]
  exact iteF h
theorem map_get {ns : List Int} {i : Nat} {x : V} (h : (ns.map V.int)[i]? = some x) : ∃ y, ns[i]? = some y ∧ x = .int y := by
  rw [List.getElem?_map] at h
  cases e : ns[i]? with
  | none =>
    rw [e] at h
    cases h
  | some y =>
    rw [e] at h
    exact ⟨y, rfl, (Option.some.inj h).symm⟩
theorem rep_succ {α : Type} (n : Nat) (a : α) : List.replicate n a ++ [a] = List.replicate (n + 1) a := by
  rw [List.replicate_succ']
theorem len_lt {n m : Nat} (h : n ≤ m) (hm : m ≤ 1000) : n < sizeLine := small1000 (Nat.le_trans h hm)
theorem upd_keep {H H' : Hp} {D : Addr} {o : HO} (s : Same H H') (hD : H D = none) : Same H (upd H' D o) := fun b u e => by
  rw [upd_ne (ne_of_none e hD)]
  exact s b u e
theorem all_true (n : Nat) : (List.replicate n true).all id = true := by
  induction n with
  | zero => rfl
  | succ n ih =>
    rw [List.replicate_succ, List.all_cons, ih]
    rfl
section
variable {P : Program} {w : World} {K : PySem.W.Frag} {mg : Str → Option Value} {base : Heap}
def spPast : Sp := fun vs H Q _ => ∃ p w a ns, vs = [.ref p, .ref a] ∧ WellT H p w ∧ IntsT H a ns ∧ (ns.length : Int) = w.lag ∧ ns.length ≤ 1000 ∧ (∀ x ∈ ns, 0 ≤ x ∧ x ≤ w.top) ∧ ∀ H', Same H H' → Q (.bl true) H'
theorem scPast : FnScope ["well", "thing", "one"] ["well", "thing"] (defScope (topS 25)) := ⟨rfl, rfl, rfl, by decide +kernel, rfl, by decide +kernel, by decide +kernel⟩
theorem ok_past {f : Addr} {fd : FuncData} (D : Df K mg "is_past" (topS 25) ["well", "thing"] f fd) (B : Blt mg) (cW : Cal P w K mg base 1 "is_whole" spWhole) : Cal P w K mg base 2 "is_past" spPast := by
  refine D.cal (D.fn.ok scPast (fun vs H Q E h => ?_) (fun cdv A outer s H vs Q E hr h => ?_))
  · obtain ⟨p, w, a, ns, rfl, _⟩ := h
    rfl
  · obtain ⟨p, wl, a, ns, rfl, hw, ha, hl, hz, hb, q⟩ := h
    refine ⟨_, pss_one (ps_ret (pe_and (pe_callB call_isi (by rfl) B.isinstance (by decide +kernel) (pa_cons (pv 1) (pa_cons (ty_tuple B.tuple) pa_nil)))
      (pe_and (pe_cmpR op_eq (pe_callB call_len_seq (by rfl) B.len (by decide +kernel) (pa_cons (pv 1) pa_nil)) (pe_ix ix_tup (pv 0) pe_int (fun _ _ => rfl)) (nomark _))
        (pe_one (pe_callB (cr_all rfl) (by rfl) B.all (by decide +kernel) (pa_cons
          (pe_lc (own := [("one", 2)]) (g := gName 2) (tt := tYes) rfl scPast.nd (pi_tup (pv 1)) (blkOk_by (own := [("one", 2)]) (N := ["well", "thing", "one"]) (sc := defScope (topS 25)) (by decide +kernel))
            (fun _ _ _ _ _ => pg_name (i := 2) scPast.nd rfl (Or.inl rfl)) (fun _ _ _ _ _ => pts_nil) (fun _ _ _ _ _ => pe_c cW hr (pa_cons (pv 2) (pa_cons pe_int (pa_cons (pe_ix (r := rIxT K) ix_tup (pv 0) pe_int (fun _ _ => rfl)) pa_nil)))))
          pa_nil)))))), ?_⟩
    refine ⟨_, rfl, _, _, _, _, _, rfl, .ty "tuple", .base (.tup ha), kit_tt, true, rfl, iteT ?_⟩
    refine ⟨_, rfl, a, _, rfl, .inr ha.seq, _, rfl, p, _, _, _, rfl, rfl, hw.seq, rfl, rfl, _, rfl, iteD (congrArg V.int (by rw [List.length_map]; exact hl)) ?_⟩
    refine ⟨_, rfl, a, rfl, ⟨_, ha.seq⟩, fun D hD => lc_tup (xs := ns.map V.int) (fun i H' => Same H H' ∧ H' D = some (.lst (List.replicate i (V.bl true)))) ⟨same_upd hD, upd_same⟩ (fun i H' _ h => (ha.same h.1).seq) ?_ ?_⟩
    · rintro i x H' hx ⟨sm, hD'⟩
      obtain ⟨y, hy, rfl⟩ := map_get hx
      have hm := hb y (List.mem_of_getElem? hy)
      refine ⟨rfl, ?_⟩
      refine yesT (iteT ⟨_, rfl, _, rfl, p, _, _, _, rfl, rfl, (hw.same sm).seq, rfl, .inl ⟨y, some 0, some wl.top, rfl, ?_⟩⟩)
      rw [whole_ok hm.1 hm.2]
      refine ⟨_, hD', ?_, upd_keep sm hD, ?_⟩
      · rw [List.length_replicate]
        exact len_lt (Nat.le_of_lt (List.getElem?_eq_some_iff.mp hy).1) hz
      · rw [upd_same, rep_succ]
    · rintro H' ⟨sm, hD'⟩
      refine ⟨D, List.replicate ns.length true, rfl, seqL ?_, ?_⟩
      · rw [List.map_replicate]
        rw [List.length_map] at hD'
        exact hD'
      · rw [all_true]
        exact q H' sm
/-! ### a crew -/
def spCrewOf : Sp := fun vs H Q _ => ∃ p w t a c, vs = [.ref p, .str (ruleS t), .ref a] ∧ WellT H p w ∧ w.Ok ∧ CrewT H a c ∧ c.Ok w t ∧ ∀ H', Same H H' → Q (.bl true) H'
theorem scCrewOf : FnScope ["well", "rule", "thing", "age"] ["well", "rule", "thing"] (defScope (topS 26)) := ⟨rfl, rfl, rfl, by decide +kernel, rfl, by decide +kernel, by decide +kernel⟩
theorem rule_eq (t : Bool) : decide (V.str (ruleS t) = V.str "turns") = t := by
  cases t
  · exact decide_eq_false (fun z => absurd (V.str.inj z) (by decide +kernel))
  · exact decide_eq_true rfl
theorem ok_crewOf {f : Addr} {fd : FuncData} (D : Df K mg "is_crew_of" (topS 26) ["well", "rule", "thing"] f fd) (B : Blt mg) (C : Cst mg) (cW : Cal P w K mg base 1 "is_whole" spWhole) (cP : Cal P w K mg base 2 "is_past" spPast) (cA : Cal P w K mg base 2 "is_age" spAge) :
    Cal P w K mg base 3 "is_crew_of" spCrewOf := by
  refine D.cal (D.fn.ok scCrewOf (fun vs H Q E h => ?_) (fun cdv A outer s H vs Q E hr h => ?_))
  · obtain ⟨p, w, t, a, c, rfl, _⟩ := h
    rfl
  · obtain ⟨p, wl, t, a, c, rfl, hw, okw, ⟨pp, pa, hc, hp, hg⟩, ok, q⟩ := h
    refine ⟨_, pss_cons (ps_if (PW.pt (pw_or (pt_not (pt_val (pe_callB call_isi (by rfl) B.isinstance (by decide +kernel) (pa_cons (pv 2) (pa_cons (ty_tuple B.tuple) pa_nil)))))
        (pw_or (pt_cmpR op_ne (pe_callB call_len_seq (by rfl) B.len (by decide +kernel) (pa_cons (pv 2) pa_nil)) pe_int (nomark _))
        (pw_or1 (pt_not (pt_val (pe_c cW hr (pa_cons (pe_ix ix_tup (pv 2) pe_int (fun _ _ => rfl)) (pa_cons pe_int (pa_cons (pe_ix ix_tup (pv 0) pe_int (fun _ _ => rfl)) pa_nil)))))))))) (pss_one (ps_ret pe_bl)) pss_nil)
      (pss_cons (ps_if (PW.pt (pw_or (pt_not (pt_val (pe_c cP hr (pa_cons (pv 0) (pa_cons (pe_ix ix_tup (pv 2) pe_int (fun _ _ => rfl)) pa_nil)))))
        (pw_or (pt_not (pt_val (pe_callB call_isi (by rfl) B.isinstance (by decide +kernel) (pa_cons (pe_ix ix_tup (pv 2) pe_int (fun _ _ => rfl)) (pa_cons (ty_tuple B.tuple) pa_nil)))))
        (pw_or1 (pt_not (pt_chain op_le op_le pe_int (pe_callB call_len_seq (by rfl) B.len (by decide +kernel) (pa_cons (pe_ix ix_tup (pv 2) pe_int (fun _ _ => rfl)) pa_nil)) (pe_gi C.pumps))))))) (pss_one (ps_ret pe_bl)) pss_nil)
      (pss_cons (ps_if (pt_not (pt_val (pe_callB (cr_all rfl) (by rfl) B.all (by decide +kernel) (pa_cons
          (pe_lc (own := [("age", 3)]) (g := gName 3) (tt := tYes) rfl scCrewOf.nd (pi_tup (pe_ix ix_tup (pv 2) pe_int (fun _ _ => rfl)))
            (blkOk_by (own := [("age", 3)]) (N := ["well", "rule", "thing", "age"]) (sc := defScope (topS 26)) (by decide +kernel))
            (fun _ _ _ _ _ => pg_name (i := 3) scCrewOf.nd rfl (Or.inl rfl)) (fun _ _ _ _ _ => pts_nil) (fun _ _ _ _ _ => pe_c cA hr (pa_cons (pv 0) (pa_cons (pv 3) pa_nil))))
          pa_nil)))) (pss_one (ps_ret pe_bl)) pss_nil)
      (pss_one (ps_ret (pe_c cW hr (pa_cons (pe_ix ix_tup (pv 2) pe_int (fun _ _ => rfl)) (pa_cons pe_int (pa_cons
        (pe_ifExp (pt_cmpR op_eq (pv 1) (pe_gi C.turns) (nomark _)) (pe_op op_sub (pe_callB call_len_seq (by rfl) B.len (by decide +kernel) (pa_cons (pe_ix ix_tup (pv 2) pe_int (fun _ _ => rfl)) pa_nil)) pe_int) pe_int) pa_nil)))))))), ?_⟩
    refine ⟨_, rfl, _, _, _, _, _, rfl, .ty "tuple", .base (.tup hc), kit_tt, true, rfl, iteF ⟨_, rfl, a, _, rfl, .inr (seqT hc), rfl, _, rfl, iteNS rfl ?_⟩⟩
    refine ⟨_, rfl, a, _, _, _, rfl, rfl, seqT hc, rfl, _, rfl, p, _, _, _, rfl, rfl, hw.seq, rfl, .inl ⟨c.level, some 0, some wl.top, rfl, true, congrArg V.bl (whole_ok ok.lv1 ok.lv2), iteF ?_⟩⟩
    refine ⟨_, rfl, _, rfl, a, _, _, _, rfl, rfl, seqT hc, rfl, p, wl, pp, c.past, rfl, hw, hp, ok.pl, (by have := ok.pl; have := okw.lag2; omega), ok.pv, fun H1 s1 => ⟨true, rfl, iteF ?_⟩⟩
    have hc1 := s1 _ _ hc
    have hg1 := hg.same s1
    refine ⟨_, rfl, a, _, _, _, rfl, rfl, seqT hc1, rfl, _, _, _, _, _, rfl, .ty "tuple", .base (.tup hg1), kit_tt, true, rfl, iteF ?_⟩
    refine ⟨_, rfl, a, _, _, _, rfl, rfl, seqT hc1, rfl, pa, _, rfl, .inr hg1.seq, _, _, rfl, rfl, true, ?_, iteT ⟨_, _, rfl, rfl, true, ?_, iteF ?_⟩⟩
    · refine congrArg V.bl (decide_eq_true ?_)
      have := ok.al1
      rw [List.length_map]
      omega
    · refine congrArg V.bl (decide_eq_true ?_)
      have := ok.al2
      rw [List.length_map]
      omega
    refine ⟨_, rfl, a, _, _, _, rfl, rfl, seqT hc1, rfl, pa, rfl, ⟨_, hg1.seq⟩, fun D hD => lc_tup (xs := c.ages.map V.int) (fun i H' => Same H1 H' ∧ H' D = some (.lst (List.replicate i (V.bl true)))) ⟨same_upd hD, upd_same⟩ (fun i H' _ h => (hg1.same h.1).seq) ?_ ?_⟩
    · rintro i x H' hx ⟨sm, hD'⟩
      obtain ⟨y, hy, rfl⟩ := map_get hx
      have hm := ok.av y (List.mem_of_getElem? hy)
      refine ⟨rfl, ?_⟩
      refine yesT (iteT ⟨_, rfl, _, rfl, p, wl, y, rfl, (hw.same (s1.trans sm)), hm.1, hm.2.1, hm.2.2, ?_⟩)
      refine ⟨_, hD', ?_, upd_keep sm hD, ?_⟩
      · rw [List.length_replicate]
        exact len_lt (Nat.le_of_lt (List.getElem?_eq_some_iff.mp hy).1) (Nat.le_trans ok.al2 (by decide))
      · rw [upd_same, rep_succ]
    · rintro H2 ⟨sm, hD'⟩
      have hc2 := sm _ _ hc1
      refine ⟨D, List.replicate c.ages.length true, rfl, seqL ?_, true, congrArg V.bl (all_true _), iteF ?_⟩
      · rw [List.map_replicate]
        rw [List.length_map] at hD'
        exact hD'
      · refine ⟨_, rfl, a, _, _, _, rfl, rfl, seqT hc2, rfl, _, rfl, rfl, t, congrArg V.bl (rule_eq t), ?_⟩
        have h1 := ok.mk1
        have h2 := ok.mk2
        have h3 := ok.m0
        cases t with
        | true =>
          refine iteT ⟨_, rfl, a, _, _, _, rfl, rfl, seqT hc2, rfl, pa, _, rfl, .inr (hg1.same sm).seq, _, _, rfl, rfl, .inl ⟨c.mark, some 0, some ((((c.ages.map V.int).length : Nat) : Int) - 1), rfl, ?_⟩⟩
          rw [whole_ok h1 (by rw [List.length_map]; omega)]
          exact q _ (s1.trans sm)
        | false =>
          refine iteF (.inl ⟨c.mark, some 0, some 0, rfl, ?_⟩)
          rw [whole_ok h1 (by rw [h3 rfl]; decide)]
          exact q _ (s1.trans sm)
def spNeedCrew : Sp := fun vs H Q _ => ∃ p w t a c, vs = [.ref p, .str (ruleS t), .ref a] ∧ WellT H p w ∧ w.Ok ∧ CrewT H a c ∧ c.Ok w t ∧ ∀ H', Same H H' → Q .non H'
theorem scNeedCrew : FnScope ["well", "rule", "crew"] ["well", "rule", "crew"] (defScope (topS 27)) := ⟨rfl, rfl, rfl, by decide +kernel, rfl, by decide +kernel, by decide +kernel⟩
theorem ok_needCrew {f : Addr} {fd : FuncData} (D : Df K mg "need_crew" (topS 27) ["well", "rule", "crew"] f fd) (cN : Cal P w K mg base 3 "need_well" spNeedWell) (cR : Cal P w K mg base 1 "need_rule" spNeedRule) (cC : Cal P w K mg base 3 "is_crew_of" spCrewOf) :
    Cal P w K mg base 4 "need_crew" spNeedCrew := by
  refine D.cal (D.fn.ok scNeedCrew (fun vs H Q E h => ?_) (fun cdv A outer s H vs Q E hr h => ?_))
  · obtain ⟨p, w, t, a, c, rfl, _⟩ := h
    rfl
  · obtain ⟨p, wl, t, a, c, rfl, hw, okw, hc, ok, q⟩ := h
    refine ⟨_, pss_cons (ps_expr (pe_c cN hr (pa_cons (pv 0) pa_nil))) (pss_cons (ps_expr (pe_c cR hr (pa_cons (pv 1) pa_nil)))
      (pss_one (ps_if (pt_not (pt_val (pe_c cC hr (pa_cons (pv 0) (pa_cons (pv 1) (pa_cons (pv 2) pa_nil)))))) (pss_one ps_never) pss_nil))), ?_⟩
    refine ⟨_, rfl, p, wl, rfl, hw, okw, _, rfl, t, rfl, fun H1 s1 => ?_⟩
    exact ⟨_, rfl, _, rfl, _, rfl, p, wl, t, a, c, rfl, hw.same s1, okw, hc.same s1, ok, fun H2 s2 => ⟨true, rfl, iteF (q _ (s1.trans s2))⟩⟩
end
end Kx
/-! Loops over enumerate(tuple); lists of names; what is seen; who starts. -/
namespace Kx
open PySem PySem.Spec PyProof.Rows L2 Pm
theorem for_enumT {K : PySem.W.Frag} {a : Addr} {xs : List V} {g : TG} {tb : TS} {D : Ends} {σ : L2.St} {H : Hp} (Pv : Nat → L2.St → Hp → Prop) (h0 : Pv 0 σ H) (hq : ∀ i σ H, Pv i σ H → SqT K H a xs)
    (hs : ∀ (i : Nat) (x : V) (T : Addr) (σ : L2.St) (H : Hp), xs[i]? = some x → Pv i σ H → H T = none → g (.ref T) σ (upd H T (.tup [.int (i : Nat), x])) fun σ2 H2 => tb { D with nx := Pv (i + 1), ct := Pv (i + 1), bk := D.nx } σ2 H2)
    (hd : ∀ σ H, Pv xs.length σ H → D.nx σ H) :
    ∃ W : Nat → Nat → L2.St → Hp → Prop, (∃ m, W 0 m σ H) ∧ ∀ i m σ H, W i m σ H → ((IteT K a).stop i H ∧ D.nx σ H) ∨
      ((IteT K a).go i H ∧ ∃ N : L2.St → Hp → Prop, (∀ σ' H', N σ' H' → ∃ m', m' < m ∧ W (i + 1) m' σ' H') ∧ ∀ v H', (IteT K a).yld i H v H' → g v σ H' fun σ2 H2 => tb { D with nx := N, ct := N, bk := D.nx } σ2 H2) := by
  refine ⟨fun i m σ H => m = xs.length - i ∧ i ≤ xs.length ∧ Pv i σ H, ⟨_, rfl, Nat.zero_le _, h0⟩, ?_⟩
  rintro i m σ H ⟨rfl, hi, p⟩
  have q := hq i σ H p
  rcases Nat.lt_or_ge i xs.length with hlt | hge
  · have hx : xs[i]? = some xs[i] := List.getElem?_eq_getElem hlt
    refine .inr ⟨⟨xs, _, q, hx⟩, Pv (i + 1), fun σ' H' p' => ⟨_, by omega, rfl, hlt, p'⟩, fun v H' y => ?_⟩
    obtain ⟨T, x, rfl, nT, rfl, f⟩ := y
    exact hs i x T σ H (f xs q) p nT
  · obtain rfl : i = xs.length := by omega
    exact .inl ⟨⟨xs, q, Nat.le_refl _⟩, hd σ H p⟩
theorem lc_enumT {K : PySem.W.Frag} {a : Addr} {xs : List V} {g : TG} {tt : TT} {te : TE} {vs : List Nat} {σ : L2.St} {H1 : Hp} {D : Addr} {Qd : Hp → Prop} (Pv : Nat → Hp → Prop) (h0 : Pv 0 (upd H1 D (.lst []))) (hq : ∀ i H, Pv i H → SqT K H a xs)
    (hs : ∀ (i : Nat) (x : V) (T : Addr) (H : Hp), xs[i]? = some x → Pv i H → H T = none → g (.ref T) (wipe σ vs) (upd H T (.tup [.int (i : Nat), x])) fun σ2 H2 => wipe σ2 vs = wipe σ vs ∧ tt σ2 H2 fun b H3 =>
      if b = true then te σ2 H3 fun y H4 => ∃ acc, H4 D = some (.lst acc) ∧ acc.length < sizeLine ∧ Pv (i + 1) (upd H4 D (.lst (acc ++ [y]))) else Pv (i + 1) H3) (hd : ∀ H, Pv xs.length H → Qd H) :
    ∃ W : Nat → Nat → Hp → Prop, (∃ m, W 0 m (upd H1 D (.lst []))) ∧ ∀ i m H, W i m H → ((IteT K a).stop i H ∧ Qd H) ∨
      ((IteT K a).go i H ∧ ∃ Nx : Hp → Prop, (∀ H', Nx H' → ∃ m', m' < m ∧ W (i + 1) m' H') ∧ ∀ x H', (IteT K a).yld i H x H' → g x (wipe σ vs) H' fun σ2 H2 => wipe σ2 vs = wipe σ vs ∧ tt σ2 H2 fun b H3 =>
        if b = true then te σ2 H3 fun y H4 => ∃ acc, H4 D = some (.lst acc) ∧ acc.length < sizeLine ∧ Nx (upd H4 D (.lst (acc ++ [y]))) else Nx H3) := by
  refine ⟨fun i m H => m = xs.length - i ∧ i ≤ xs.length ∧ Pv i H, ⟨_, rfl, Nat.zero_le _, h0⟩, ?_⟩
  rintro i m H ⟨rfl, hi, p⟩
  have q := hq i H p
  rcases Nat.lt_or_ge i xs.length with hlt | hge
  · have hx : xs[i]? = some xs[i] := List.getElem?_eq_getElem hlt
    refine .inr ⟨⟨xs, _, q, hx⟩, Pv (i + 1), fun H' p' => ⟨_, by omega, rfl, hlt, p'⟩, fun v H' y => ?_⟩
    obtain ⟨T, x, rfl, nT, rfl, f⟩ := y
    exact hs i x T H (f xs q) p nT
  · obtain rfl : i = xs.length := by omega
    exact .inl ⟨⟨xs, q, Nat.le_refl _⟩, hd H p⟩
/-! ### lists of names -/
def natsL (ks : List Nat) : List V := ks.map fun (k : Nat) => V.int (k : Int)
theorem natsL_app (a b : List Nat) : natsL (a ++ b) = natsL a ++ natsL b := List.map_append
theorem natsL_len (a : List Nat) : (natsL a).length = a.length := List.length_map _
theorem natsL_flat (a : List Nat) : (natsL a).all flatV = true := by
  unfold natsL
  rw [List.all_map]
  exact List.all_eq_true.mpr fun _ _ => rfl
theorem natsL_get {a : List Nat} {i : Nat} {x : V} (h : (natsL a)[i]? = some x) : ∃ k, a[i]? = some k ∧ x = .int (k : Int) := by
  unfold natsL at h
  rw [List.getElem?_map] at h
  cases e : a[i]? with
  | none =>
    rw [e] at h
    cases h
  | some k =>
    rw [e] at h
    exact ⟨k, rfl, (Option.some.inj h).symm⟩
theorem inV_nats (k : Nat) (a : List Nat) : inV (.int (k : Int)) (natsL a) = decide (k ∈ a) := by
  unfold inV natsL
  rw [List.any_map]
  induction a with
  | nil => rfl
  | cons x a ih =>
    rw [List.any_cons, ih]
    show (((x : Int) == (k : Int)) || decide (k ∈ a)) = decide (k ∈ x :: a)
    by_cases h : x = k
    · subst h
      simp
    · have h1 : ((x : Int) == (k : Int)) = false := by
        rw [beq_eq_false_iff_ne]
        omega
      have h2 : ¬ k = x := fun e => h e.symm
      rw [h1, Bool.false_or]
      simp [h2]
theorem natsL_range (n : Nat) : rgV 0 (n : Int) = natsL (List.range n) := by
  unfold rgV natsL
  rw [show ((n : Int) - 0).toNat = n by omega]
  refine List.map_congr_left fun i _ => ?_
  rw [Int.zero_add]
theorem cut_to (xs : List V) {z : Int} (h : 0 ≤ z) : cutV xs none (some z) = xs.take z.toNat := by
  have e : z = (z.toNat : Int) := by omega
  rw [e]
  unfold cutV
  rw [HT.sIx_none, HT.sIx_nat, List.drop_zero, Nat.sub_zero, Int.toNat_natCast]
  rcases Nat.le_total z.toNat xs.length with h1 | h1
  · rw [Nat.min_eq_left h1]
  · rw [Nat.min_eq_right h1, List.take_of_length_le (Nat.le_refl _), List.take_of_length_le h1]
theorem cut_from (xs : List V) {z : Int} (h : 0 ≤ z) : cutV xs (some z) none = xs.drop z.toNat := by
  have e : z = (z.toNat : Int) := by omega
  rw [e]
  unfold cutV
  rw [HT.sIx_none, HT.sIx_nat, Int.toNat_natCast]
  rcases Nat.le_total z.toNat xs.length with h1 | h1
  · rw [Nat.min_eq_left h1, List.take_of_length_le (by rw [List.length_drop]; exact Nat.le_refl _)]
  · rw [Nat.min_eq_right h1, List.drop_of_length_le (Nat.le_refl _), List.drop_of_length_le h1, List.take_nil]
theorem natsL_take (a : List Nat) (n : Nat) : natsL (a.take n) = (natsL a).take n := List.map_take
theorem natsL_drop (a : List Nat) (n : Nat) : natsL (a.drop n) = (natsL a).drop n := List.map_drop
theorem take_snoc {α : Type} {a : List α} {i : Nat} {x : α} (h : a[i]? = some x) : a.take (i + 1) = a.take i ++ [x] := by
  rw [List.take_add_one, h]
  rfl
theorem filt_snoc {α : Type} {p : α → Bool} {a : List α} {i : Nat} {x : α} (h : a[i]? = some x) : (a.take (i + 1)).filter p = (a.take i).filter p ++ (if p x = true then [x] else []) := by
  rw [take_snoc h, List.filter_append]
  congr 1
  simp [List.filter_cons]
section
variable {P : Program} {w : World} {K : PySem.W.Frag} {mg : Str → Option Value} {base : Heap}
/-! ### what is seen -/
def spSeen : Sp := fun vs H Q _ => ∃ p w a c, vs = [.ref p, .int c.level, .ref a] ∧ WellT H p w ∧ w.Ok ∧ IntsT H a c.past ∧ (c.past.length : Int) = w.lag ∧ Q (.int (seen w c)) H
theorem scSeen : FnScope ["well", "level", "past", "found"] ["well", "level", "past"] (defScope (topS 15)) := ⟨rfl, rfl, rfl, by decide +kernel, rfl, by decide +kernel, by decide +kernel⟩
theorem ok_seen {f : Addr} {fd : FuncData} (D : Df K mg "seen_of" (topS 15) ["well", "level", "past"] f fd) (B : Blt mg) : Cal P w K mg base 1 "seen_of" spSeen := by
  refine D.cal (D.fn.ok scSeen (fun vs H Q E h => ?_) (fun cdv A outer s H vs Q E hr h => ?_))
  · obtain ⟨p, w, a, c, rfl, _⟩ := h
    rfl
  · obtain ⟨p, wl, a, c, rfl, hw, okw, ha, hl, q⟩ := h
    refine ⟨_, pss_cons (ps_set (i := 3) scSeen.nd rfl (.inl rfl) (pe_ifExp (pt_cmpR op_gt (pe_ix ix_tup (pv 0) pe_int (fun _ _ => rfl)) pe_int (nomark _)) (pe_ix ix_tup (pv 2) pe_int (fun _ _ => rfl)) (pv 1)))
      (pss_one (ps_ret (pe_op op_sub (pv 3) (pe_op op_mod (pe_callTy call_int1 (by rfl) B.int (by decide +kernel) (pa_cons (pv 3) pa_nil)) (pe_ix ix_tup (pv 0) pe_int (fun _ _ => rfl)))))), ?_⟩
    have st := okw.step1
    have fin : ∀ z : Int, z - z % wl.step = seen wl c → Q (.int (z - z % wl.step)) H := fun z e => by
      rw [e]
      exact q
    refine ⟨_, rfl, p, _, _, _, rfl, rfl, hw.seq, rfl, wl.lag, 0, rfl, rfl, _, rfl, ite2 (fun h => ?_) (fun h => ?_)⟩
    · have h := of_decide_eq_true h
      have hne : 0 < c.past.length := by omega
      refine ⟨_, rfl, a, _, _, _, rfl, rfl, ha.seq, int_atD hne, ?_⟩
      refine ⟨_, rfl, _, rfl, .inl ⟨_, rfl, _, rfl, p, _, _, _, rfl, rfl, hw.seq, rfl, _, wl.step, rfl, rfl, by omega, _, _, rfl, rfl, fin _ ?_⟩⟩
      unfold Pm.seen
      rw [if_pos h]
      cases e : c.past with
      | nil =>
        rw [e] at hne
        exact absurd hne (by decide)
      | cons x r => rfl
    · have h : ¬ 0 < wl.lag := fun z => h (decide_eq_true z)
      refine ⟨_, rfl, _, rfl, _, rfl, .inl ⟨_, rfl, _, rfl, p, _, _, _, rfl, rfl, hw.seq, rfl, _, wl.step, rfl, rfl, by omega, _, _, rfl, rfl, fin _ ?_⟩⟩
      unfold Pm.seen
      rw [if_neg h]
end
end Kx
/-! Who starts. -/
namespace Kx
open PySem PySem.Spec PyProof.Rows L2 Pm
section
variable {P : Program} {w : World} {K : PySem.W.Frag} {mg : Str → Option Value} {base : Heap}
/-- len of a list or a tuple, its reading by the written part alone -/
def rLenS (K : PySem.W.Frag) : List V → Hp → VK → Prop := fun xs H Q => ∃ p ys, xs = [.ref p] ∧ (SqL K H p ys ∨ SqT K H p ys) ∧ Q (.int ys.length) H
theorem call_lenS {X : Cx} : CallR X (.builtin "len") (rLenS X.K) := call_len_seq
theorem row_get {t : Bool} {c : Cr} {i : Nat} (ht : t = true) (h : i < c.ages.length) : (row t c)[i]? = some ((c.mark.toNat + i) % c.ages.length) := by
  unfold row
  rw [if_pos ht, List.getElem?_map, List.getElem?_range h]
  rfl
theorem row_false (c : Cr) : row false c = List.range c.ages.length := by
  unfold row
  rw [if_neg (by decide)]
theorem turn_val {m : Int} {n i : Nat} (hm : 0 ≤ m) : (m + (0 + (i : Int))) % (n : Int) = (((m.toNat + i) % n : Nat) : Int) := by
  rw [Int.natCast_emod, Int.natCast_add, Int.toNat_of_nonneg hm, Int.zero_add]
def spBegin : Sp := fun vs H Q _ => ∃ p w t a c, vs = [.ref p, .str (ruleS t), .ref a] ∧ WellT H p w ∧ w.Ok ∧ CrewT H a c ∧ c.Ok w t ∧ ∀ q H', Same H H' → H q = none → H' q = some (.lst (natsL (begun w t c))) → Q (.ref q) H'
theorem scBegin : FnScope ["well", "rule", "crew", "level", "past", "pumps", "mark", "names", "turn", "name"] ["well", "rule", "crew"] (defScope (topS 28)) := ⟨rfl, rfl, rfl, by decide +kernel, rfl, by decide +kernel, by decide +kernel⟩
theorem ok_begin {f : Addr} {fd : FuncData} (D : Df K mg "beginners" (topS 28) ["well", "rule", "crew"] f fd) (B : Blt mg) (C : Cst mg) (cS : Cal P w K mg base 1 "seen_of" spSeen) : Cal P w K mg base 2 "beginners" spBegin := by
  refine D.cal (D.fn.ok scBegin (fun vs H Q E h => ?_) (fun cdv A outer s H vs Q E hr h => ?_))
  · obtain ⟨p, w, t, a, c, rfl, _⟩ := h
    rfl
  · obtain ⟨p, wl, t, a, c, rfl, hw, okw, ⟨pp, pa, hc, hp, hg⟩, ok, q⟩ := h
    refine ⟨_, pss_cons (ps_asg (pv 2) (pg_tup rfl (pgs_cons (pg_name (i := 3) scBegin.nd rfl (.inl rfl)) (pgs_cons (pg_name (i := 4) scBegin.nd rfl (.inl rfl)) (pgs_cons (pg_name (i := 5) scBegin.nd rfl (.inr rfl)) (pgs_cons (pg_name (i := 6) scBegin.nd rfl (.inr rfl)) pgs_nil))))))
      (pss_cons (ps_if (pt_cmpR op_lt (pe_c cS hr (pa_cons (pv 0) (pa_cons (pv 3) (pa_cons (pv 4) pa_nil)))) (pe_ix ix_tup (pv 0) pe_int (fun _ _ => rfl)) (nomark _)) (pss_one (ps_ret (pe_lst pa_nil))) pss_nil)
      (C8.pss_cut (ps_set (i := 7) scBegin.nd rfl (.inl rfl) (pe_ifExp (pt_cmpR op_eq (pv 1) (pe_gi C.turns) (nomark _))
        (pe_lc (own := [("turn", 8)]) (g := gName 8) (tt := tYes) rfl scBegin.nd (pi_range1 (by rfl) B.range (pa_cons (pe_callB call_lenS (by rfl) B.len (by decide +kernel) (pa_cons (pv 5) pa_nil)) pa_nil))
          (blkOk_by (own := [("turn", 8)]) (N := ["well", "rule", "crew", "level", "past", "pumps", "mark", "names", "turn", "name"]) (sc := defScope (topS 28)) (by decide +kernel))
          (fun _ _ _ _ _ => pg_name (i := 8) scBegin.nd rfl (Or.inl rfl)) (fun _ _ _ _ _ => pts_nil)
          (fun _ _ _ _ _ => pe_op op_mod (pe_callTy call_int1 (by rfl) B.int (by decide +kernel) (pa_cons (pe_op op_add (pv 6) (pv 8)) pa_nil)) (pe_callB (r := rLenS K) call_lenS (by rfl) B.len (by decide +kernel) (pa_cons (pv 5) pa_nil))))
        (pe_listRg rfl (by rfl) B.list (prg_1 (by rfl) B.range (pe_callB call_lenS (by rfl) B.len (by decide +kernel) (pa_cons (pv 5) pa_nil))))))
      (pss_one (ps_ret (pe_slice sl_list
        (pe_lc (own := [("name", 9)]) (g := gName 9) rfl scBegin.nd (pi_list (pv 7)) (blkOk_by (own := [("name", 9)]) (N := ["well", "rule", "crew", "level", "past", "pumps", "mark", "names", "turn", "name"]) (sc := defScope (topS 28)) (by decide +kernel))
          (fun _ _ _ _ _ => pg_name (i := 9) scBegin.nd rfl (Or.inl rfl))
          (fun _ _ _ _ _ => pts_one (pt_cmpR op_eq (pe_ix (r := rIxT K) ix_tup (pv 5) (pv 9) (fun _ _ => rfl)) (pe_op op_sub pe_int (pe_ix (r := rIxT K) ix_tup (pv 0) pe_int (fun _ _ => rfl))) (nomark _)))
          (fun _ _ _ _ _ => pv 9))
        po_none (po_some (pe_ix ix_tup (pv 0) pe_int (fun _ _ => rfl)))))))), ?_⟩
    refine ⟨_, rfl, a, _, rfl, seqT hc, rfl, _, _, rfl, _, _, rfl, _, _, rfl, _, _, rfl, rfl, ?_⟩
    refine ⟨_, rfl, _, rfl, _, rfl, p, wl, pp, c, rfl, hw, okw, hp, ok.pl, _, rfl, p, _, _, _, rfl, rfl, hw.seq, rfl, _, wl.on, rfl, rfl, _, rfl, ite2 (fun h => ?_) (fun h => ?_)⟩
    · have h := of_decide_eq_true h
      refine ⟨Nat.zero_le _, fun l hl => q l _ (same_upd hl) hl ?_⟩
      rw [upd_same]
      unfold begun
      rw [if_pos h]
      rfl
    · have h : ¬ Pm.seen wl c < wl.on := fun z => h (decide_eq_true z)
      have ln : (c.ages.map V.int).length = c.ages.length := List.length_map _
      have en : (((c.ages.map V.int).length : Nat) : Int).toNat = c.ages.length := by
        rw [ln]
        exact Int.toNat_natCast _
      have al1 := ok.al1
      have al2 := ok.al2
      refine ⟨fun σ' H' => ∃ nm, σ' = [some (.ref p), some (.str (ruleS t)), some (.ref a), some (.int c.level), some (.ref pp), some (.ref pa), some (.int c.mark), some (.ref nm), none, none] ∧ Same H H' ∧ H' nm = some (.lst (natsL (row t c))), ?_, ?_⟩
      · refine ⟨_, rfl, rfl, t, congrArg V.bl (rule_eq t), ?_⟩
        cases t with
        | true =>
          refine iteT ⟨_, rfl, pa, _, rfl, .inr hg.seq, _, rfl, ?_, ?_, fun D hD => lc_range (lo := 0) (fun i H' => Same H H' ∧ H' D = some (.lst (natsL ((row true c).take i)))) ⟨same_upd hD, upd_same⟩ ?_ ?_⟩
          · rw [ln]
            omega
          · rw [ln]
            omega
          · rintro i H' hi ⟨sm, hD'⟩
            rw [en] at hi
            refine ⟨rfl, yesT (iteT ⟨_, rfl, _, rfl, _, _, rfl, rfl, .inl ⟨_, rfl, _, rfl, pa, _, rfl, .inr (hg.same sm).seq, _, _, rfl, rfl, ?_, ?_⟩⟩)⟩
            · rw [ln]
              omega
            · refine ⟨_, hD', ?_, upd_keep sm hD, ?_⟩
              · rw [natsL_len]
                exact len_lt (Nat.le_trans (List.length_take_le' _ _) (Nat.le_trans (Nat.le_of_eq (row_length _ _)) al2)) (by decide)
              · rw [upd_same, ln]
                show some (HO.lst (_ ++ [V.int ((c.mark + (0 + (i : Int))) % (c.ages.length : Int))])) = _
                rw [turn_val ok.mk1, take_snoc (row_get rfl hi), natsL_app]
                rfl
          · rintro H' ⟨sm, hD'⟩
            rw [en, List.take_of_length_le (Nat.le_of_eq (row_length _ _))] at hD'
            exact ⟨D, rfl, sm, hD'⟩
        | false =>
          refine iteF ⟨_, rfl, pa, _, rfl, .inr hg.seq, _, rfl, RgOk.of_le (by decide) ?_ (by decide) ?_, fun nm hn => ⟨nm, rfl, same_upd hn, ?_⟩⟩
          · rw [ln]
            omega
          · rw [ln]
            omega
          · rw [upd_same, ln, natsL_range, row_false]
      · rintro σ' H1 ⟨nm, rfl, s1, hn⟩
        have p1 := okw.st1
        refine ⟨_, rfl, nm, rfl, ⟨_, seqL hn⟩, fun D hD => lc_list (xs := natsL (row t c)) (fun i H' => Same H1 H' ∧ H' D = some (.lst (natsL (((row t c).take i).filter fun k => decide (c.ages.getD k 0 = -wl.rest))))) ⟨same_upd hD, upd_same⟩ (fun i H' _ h => seqL (h.1 _ _ hn)) ?_ ?_⟩
        · rintro i x H' hx ⟨sm, hD'⟩
          obtain ⟨k, hk, rfl⟩ := natsL_get hx
          have hkl : k < c.ages.length := row_lt al1 k (List.mem_of_getElem? hk)
          have sa := s1.trans sm
          refine ⟨rfl, ⟨_, rfl, _, rfl, pa, _, _, _, rfl, rfl, (hg.same sa).seq, int_atD hkl, _, rfl, p, _, _, _, rfl, rfl, (hw.same sa).seq, rfl, 0, wl.rest, rfl, rfl, rfl, _, rfl, ?_⟩⟩
          have e : decide (V.int (c.ages.getD k 0) = V.int (0 - wl.rest)) = decide (c.ages.getD k 0 = -wl.rest) := by
            rw [Int.zero_sub]
            by_cases z : c.ages.getD k 0 = -wl.rest
            · rw [decide_eq_true z, decide_eq_true (congrArg V.int z)]
            · rw [decide_eq_false z, decide_eq_false (fun y => z (V.int.inj y))]
          rw [e]
          refine ite2 (fun hc => ?_) (fun hc => ?_)
          · refine ⟨_, rfl, _, hD', ?_, upd_keep sm hD, ?_⟩
            · rw [natsL_len]
              exact len_lt (Nat.le_trans (List.length_filter_le _ _) (Nat.le_trans (List.length_take_le' _ _) (Nat.le_trans (Nat.le_of_eq (row_length _ _)) al2))) (by decide)
            · rw [upd_same, filt_snoc hk, if_pos hc, natsL_app]
              rfl
          · refine ⟨sm, ?_⟩
            rw [filt_snoc hk, if_neg hc, List.append_nil]
            exact hD'
        · rintro H2 ⟨sm, hD'⟩
          rw [natsL_len, List.take_length] at hD'
          refine ⟨_, rfl, p, _, _, _, rfl, rfl, (hw.same (s1.trans sm)).seq, rfl, _, rfl, D, _, rfl, seqL hD', fun l hl => q l _ ((s1.trans sm).trans (same_upd hl)) ((s1.trans sm).free hl) ?_⟩
          rw [upd_same, cut_to _ (by omega), ← natsL_take]
          unfold begun
          rw [if_neg h]
end
end Kx
/-! The ages behind a beat; who runs. -/
namespace Kx
open PySem PySem.Spec PyProof.Rows L2 Pm
theorem range_snoc {f : Nat → Int} (i : Nat) : (List.range i).map f ++ [f i] = (List.range (i + 1)).map f := by
  rw [List.range_succ, List.map_append]
  rfl
theorem getD_of {ns : List Int} {i : Nat} {y : Int} (h : ns[i]? = some y) : ns.getD i 0 = y := by
  rw [List.getD_eq_getElem?_getD, h]
  rfl
theorem range_filt {p : Nat → Bool} (i : Nat) : (List.range (i + 1)).filter p = (List.range i).filter p ++ (if p i = true then [i] else []) := by
  rw [List.range_succ, List.filter_append]
  congr 1
  simp [List.filter_cons]
theorem dec_int (x y : Int) : decide (V.int x = V.int y) = decide (x = y) := by
  by_cases z : x = y
  · rw [decide_eq_true z, decide_eq_true (congrArg V.int z)]
  · rw [decide_eq_false z, decide_eq_false (fun h => z (V.int.inj h))]
section
variable {P : Program} {w : World} {K : PySem.W.Frag} {mg : Str → Option Value} {base : Heap}
def spAges : Sp := fun vs H Q _ => ∃ p w t a c, vs = [.ref p, .str (ruleS t), .ref a] ∧ WellT H p w ∧ w.Ok ∧ CrewT H a c ∧ c.Ok w t ∧ ∀ q H', Same H H' → IntsT H' q (agesAfter w t c) → Q (.ref q) H'
theorem scAges : FnScope ["well", "rule", "crew", "level", "past", "pumps", "mark", "begun", "found", "is_low", "name", "age"] ["well", "rule", "crew"] (defScope (topS 29)) := ⟨rfl, rfl, rfl, by decide +kernel, rfl, by decide +kernel, by decide +kernel⟩
theorem ok_ages {f : Addr} {fd : FuncData} (D : Df K mg "ages_after" (topS 29) ["well", "rule", "crew"] f fd) (B : Blt mg) (cS : Cal P w K mg base 1 "seen_of" spSeen) (cB : Cal P w K mg base 2 "beginners" spBegin) : Cal P w K mg base 3 "ages_after" spAges := by
  refine D.cal (D.fn.ok scAges (fun vs H Q E h => ?_) (fun cdv A outer s H vs Q E hr h => ?_))
  · obtain ⟨p, w, t, a, c, rfl, _⟩ := h
    rfl
  · obtain ⟨p, wl, t, a, c, rfl, hw, okw, ⟨pp, pa, hc, hp, hg⟩, ok, q⟩ := h
    refine ⟨_, pss_cons (ps_asg (pv 2) (pg_tup rfl (pgs_cons (pg_name (i := 3) scAges.nd rfl (.inl rfl)) (pgs_cons (pg_name (i := 4) scAges.nd rfl (.inl rfl)) (pgs_cons (pg_name (i := 5) scAges.nd rfl (.inl rfl)) (pgs_cons (pg_name (i := 6) scAges.nd rfl (.inl rfl)) pgs_nil))))))
      (pss_cons (ps_par (i := 7) (j := 8) rfl scAges.nd rfl rfl (by decide) rfl rfl (pa_cons (pe_c cB hr (pa_cons (pv 0) (pa_cons (pv 1) (pa_cons (pv 2) pa_nil)))) (pa_cons (pe_lst pa_nil) pa_nil)) (by rfl))
      (pss_cons (ps_set (i := 9) scAges.nd rfl (.inl rfl) (pe_cmpR op_le (pe_c cS hr (pa_cons (pv 0) (pa_cons (pv 3) (pa_cons (pv 4) pa_nil)))) (pe_ix ix_tup (pv 0) pe_int (fun _ _ => rfl)) (nomark _)))
      (pss_cons (ps_for PassesOwn.never rfl (pi_enumT (by rfl) B.enumerate (pa_cons (pv 5) pa_nil)) (pg_tup rfl (pgs_cons (pg_name (i := 10) scAges.nd rfl (.inl rfl)) (pgs_cons (pg_name (i := 11) scAges.nd rfl (.inl rfl)) pgs_nil)))
        (pss_one (ps_if (pt_cmpR op_in_seq (pv 10) (pv 7) (by rfl))
          (pss_one (ps_expr (pe_bm PySem.F.plainAttrs_list PySem.F.slot_list_append PySem.F.type_list_append mt_append (pv 8) (pa_cons pe_int pa_nil))))
          (pss_one (ps_if (pt_cmpR op_gt (pv 11) pe_int (nomark _))
            (pss_one (ps_expr (pe_bm PySem.F.plainAttrs_list PySem.F.slot_list_append PySem.F.type_list_append mt_append (pv 8) (pa_cons
              (pe_ifExp (PW.pt (pw_and (pt_val (pv 9)) (pw_and1 (pt_cmpR op_eq (pv 11) (pe_ix ix_tup (pv 0) pe_int (fun _ _ => rfl)) (nomark _))))) (pe_un un_neg pe_int)
                (pe_callB (call_min2 rfl) (by rfl) B.min (by decide +kernel) (pa_cons (pe_op op_add (pv 11) pe_int) (pa_cons (pe_ix ix_tup (pv 0) pe_int (fun _ _ => rfl)) pa_nil)))) pa_nil))))
            (pss_one (ps_expr (pe_bm PySem.F.plainAttrs_list PySem.F.slot_list_append PySem.F.type_list_append mt_append (pv 8) (pa_cons
              (pe_callB (call_max2 rfl) (by rfl) B.max (by decide +kernel) (pa_cons (pe_op op_sub (pv 11) pe_int) (pa_cons (pe_op op_sub pe_int (pe_ix ix_tup (pv 0) pe_int (fun _ _ => rfl))) pa_nil))) pa_nil)))))))))
      (pss_one (ps_ret (pe_callTy call_tuple_of (by rfl) B.tuple (by decide +kernel) (pa_cons (pv 8) pa_nil))))))), ?_⟩
    have al1 := ok.al1
    have al2 := ok.al2
    refine ⟨_, rfl, a, _, rfl, seqT hc, rfl, _, _, rfl, _, _, rfl, _, _, rfl, _, _, rfl, rfl, ?_⟩
    refine ⟨_, rfl, _, rfl, _, rfl, p, wl, t, a, c, rfl, hw, okw, ⟨pp, pa, hc, hp, hg⟩, ok, fun bg H1 s1 nb hb => ?_⟩
    refine ⟨Nat.zero_le _, fun fo nf => ⟨_, _, rfl, ?_⟩⟩
    have s2 := s1.trans (same_upd (o := .lst []) nf)
    have hbf : bg ≠ fo := ne_of_none hb nf
    have hb2 : (upd H1 fo (.lst [])) bg = some (.lst (natsL (begun wl t c))) := by
      rw [upd_ne hbf]
      exact hb
    have nfH : H fo = none := s1.free nf
    refine ⟨_, rfl, _, rfl, _, rfl, p, wl, pp, c, rfl, hw.same s2, okw, hp.same s2, ok.pl, _, rfl, p, _, _, _, rfl, rfl, (hw.same s2).seq, rfl, _, wl.off, rfl, rfl, ?_⟩
    refine ⟨_, rfl, pa, _, rfl, (hg.same s2).seq, for_enumT (xs := c.ages.map V.int) (fun i σ H' => ∃ v10 v11, σ = [some (.ref p), some (.str (ruleS t)), some (.ref a), some (.int c.level), some (.ref pp), some (.ref pa), some (.int c.mark), some (.ref bg), some (.ref fo), some (.bl (decide (Pm.seen wl c ≤ wl.off))), v10, v11] ∧
      Same H H' ∧ H' bg = some (.lst (natsL (begun wl t c))) ∧ H' fo = some (.lst (((List.range i).map (ageAt wl t c)).map V.int))) ⟨none, none, rfl, s2, hb2, upd_same⟩ ?_ ?_ ?_⟩
    · rintro i σ H' ⟨v10, v11, rfl, sm, _⟩
      exact (hg.same sm).seq
    · rintro i x T σ H' hx ⟨v10, v11, rfl, sm, hb', hf'⟩ nT
      obtain ⟨y, hy, rfl⟩ := map_get hx
      have hi : i < c.ages.length := (List.getElem?_eq_some_iff.mp hy).1
      have sT : Same H' (upd H' T (.tup [.int (i : Nat), .int y])) := same_upd nT
      have s3 := sm.trans sT
      have hw3 := hw.same s3
      have hfo := sT _ _ hf'
      have hbg := sT _ _ hb'
      refine ⟨T, _, rfl, seqT upd_same, rfl, _, _, rfl, _, _, rfl, rfl, ?_⟩
      -- what is appended, once
      have fin : ∀ z : Int, z = ageAt wl t c i → ∃ (l : Addr) (ys : List V) (v : V), V.ref fo = .ref l ∧ [V.int z] = [v] ∧ (upd H' T (.tup [.int (i : Nat), .int y])) l = some (.lst ys) ∧ ys.length < sizeLine ∧
          ∃ v10 v11, ([some (.ref p), some (.str (ruleS t)), some (.ref a), some (.int c.level), some (.ref pp), some (.ref pa), some (.int c.mark), some (.ref bg), some (.ref fo), some (.bl (decide (Pm.seen wl c ≤ wl.off))), some (.int (i : Nat)), some (.int y)] : L2.St) =
            [some (.ref p), some (.str (ruleS t)), some (.ref a), some (.int c.level), some (.ref pp), some (.ref pa), some (.int c.mark), some (.ref bg), some (.ref fo), some (.bl (decide (Pm.seen wl c ≤ wl.off))), v10, v11] ∧
            Same H (upd (upd H' T (.tup [.int (i : Nat), .int y])) l (.lst (ys ++ [v]))) ∧ (upd (upd H' T (.tup [.int (i : Nat), .int y])) l (.lst (ys ++ [v]))) bg = some (.lst (natsL (begun wl t c))) ∧
            (upd (upd H' T (.tup [.int (i : Nat), .int y])) l (.lst (ys ++ [v]))) fo = some (.lst (((List.range (i + 1)).map (ageAt wl t c)).map V.int)) := by
        rintro z rfl
        refine ⟨fo, _, _, rfl, rfl, hfo, ?_, _, _, rfl, upd_keep s3 nfH, ?_, ?_⟩
        · rw [List.length_map, List.length_map, List.length_range]
          exact len_lt (Nat.le_trans (Nat.le_of_lt hi) al2) (by decide)
        · rw [upd_ne hbf]
          exact hbg
        · rw [upd_same, ← range_snoc, List.map_append]
          rfl
      have ag : c.ages.getD i 0 = y := getD_of hy
      have av : ageAt wl t c i = if i ∈ begun wl t c then 1 else if 0 < y then (if Pm.seen wl c ≤ wl.off ∧ y = wl.run then -1 else if wl.run < y + 1 then wl.run else y + 1) else if -wl.rest > y - 1 then -wl.rest else y - 1 := by
        unfold ageAt
        rw [ag]
      refine ⟨_, rfl, _, rfl, bg, _, rfl, .inl (seqL hbg), rfl, natsL_flat _, _, rfl, ?_⟩
      rw [show inV (V.int ((i : Nat) : Int)) (natsL (begun wl t c)) = decide (i ∈ begun wl t c) from inV_nats _ _]
      refine ite2 (fun h1 => ?_) (fun h1 => ?_)
      · have h1 := of_decide_eq_true h1
        refine ⟨_, rfl, .inl ⟨rfl, _, seqL hfo⟩, ?_⟩
        exact fin 1 (by rw [av, if_pos h1])
      · have h1 : ¬ i ∈ begun wl t c := fun z => h1 (decide_eq_true z)
        refine ⟨_, rfl, _, _, rfl, rfl, _, rfl, ite2 (fun h2 => ?_) (fun h2 => ?_)⟩
        · have h2 := of_decide_eq_true h2
          refine ⟨_, rfl, .inl ⟨rfl, _, seqL hfo⟩, _, rfl, _, rfl, ite2 (fun h3 => ?_) (fun h3 => ?_)⟩
          · have h3 := of_decide_eq_true h3
            refine ⟨_, rfl, _, rfl, p, _, _, _, rfl, rfl, hw3.seq, rfl, rfl, _, rfl, ?_⟩
            rw [show decide (V.int y = V.int wl.run) = decide (y = wl.run) from dec_int _ _]
            refine ite2 (fun h4 => ?_) (fun h4 => ?_)
            · have h4 := of_decide_eq_true h4
              exact ⟨_, rfl, fin (-1) (by rw [av, if_neg h1, if_pos h2, if_pos ⟨h3, h4⟩])⟩
            · have h4 : ¬ y = wl.run := fun z => h4 (decide_eq_true z)
              refine ⟨_, rfl, _, _, rfl, rfl, _, rfl, p, _, _, _, rfl, rfl, hw3.seq, rfl, _, wl.run, rfl, fin _ ?_⟩
              rw [av, if_neg h1, if_pos h2, if_neg (show ¬ (Pm.seen wl c ≤ wl.off ∧ y = wl.run) from fun z => h4 z.2)]
          · have h3 : ¬ Pm.seen wl c ≤ wl.off := fun z => h3 (decide_eq_true z)
            refine iteF ⟨_, rfl, _, _, rfl, rfl, _, rfl, p, _, _, _, rfl, rfl, hw3.seq, rfl, _, wl.run, rfl, fin _ ?_⟩
            rw [av, if_neg h1, if_pos h2, if_neg (show ¬ (Pm.seen wl c ≤ wl.off ∧ y = wl.run) from fun z => h3 z.1)]
        · have h2 : ¬ 0 < y := fun z => h2 (decide_eq_true z)
          refine ⟨_, rfl, .inl ⟨rfl, _, seqL hfo⟩, _, rfl, _, _, rfl, rfl, _, rfl, p, _, _, _, rfl, rfl, hw3.seq, rfl, 0, wl.rest, rfl, rfl, _, _, rfl, fin _ ?_⟩
          rw [av, if_neg h1, if_neg h2, Int.zero_sub]
    · rintro σ H' ⟨v10, v11, rfl, sm, hb', hf'⟩
      rw [List.length_map] at hf'
      exact ⟨_, rfl, fo, _, rfl, .inl ⟨seqL hf', fun l nl => q l _ (sm.trans (same_upd nl)) upd_same⟩⟩
end
end Kx
/-! The crew behind a beat; the inflow; who runs. -/
namespace Kx
open PySem PySem.Spec PyProof.Rows L2 Pm
/-! ### a list of names, compared with the empty one -/
def rNeE (K : PySem.W.Frag) : R2 := fun x y H Q => ∃ a b ns, x = .ref a ∧ y = .ref b ∧ SqL K H a (ns.map V.int) ∧ SqL K H b [] ∧ Q (.bl (decide (ns ≠ []))) H
theorem dpInts {K : PySem.W.Frag} {H : Hp} : ∀ ns : List Int, DpAll K H (ns.map V.int) (ns.map PyData.int)
  | [] => .nil
  | n :: r => .cons (.int n) (dpInts r)
theorem op_neE {X : Cx} (hu : X.A.units + 64 < cLine) : OpR X (compareOp .NotEq) (rNeE X.K) := by
  rintro pins s σ H x y v u Q I rx ry ⟨a, b, ns, rfl, rfl, ha, hb, q⟩
  refine op_neD hu pins s σ H _ _ v u Q I rx ry ⟨.list (ns.map PyData.int), .list [], .lst ha (dpInts ns), .lst hb .nil, PySem.W.shaped_ints ns, PySem.W.shaped_ints [], ?_⟩
  have e : (!PyData.eqv (.list (ns.map PyData.int)) (.list [])) = decide (ns ≠ []) := by
    cases ns with
    | nil => simp [PyData.eqv, PyData.eqvAll]
    | cons n r => simp [PyData.eqv, PyData.eqvAll]
  rw [e]
  exact q
theorem natsL_ints (a : List Nat) : natsL a = (a.map fun k : Nat => (k : Int)).map V.int := by
  unfold natsL
  rw [List.map_map]
  rfl
theorem cut_tail (xs : List V) : cutV xs (some 1) none = xs.drop 1 := cut_from xs (by decide)
theorem sIx_one {xs : List V} (h : 1 ≤ xs.length) : ¬ (HT.sIx xs.length 0 (some 1) = 0 ∧ HT.sIx xs.length xs.length none = xs.length) := fun z => by
  have e : HT.sIx xs.length 0 (some 1) = min 1 xs.length := HT.sIx_nat _ _ 1
  have := z.1
  rw [e] at this
  omega
theorem cat_ints {K : PySem.W.Frag} {H : Hp} {a b : Addr} {xs ys : List Int} {Q : VK} (ha : IntsT H a xs) (hb : IntsT H b ys) (hz : xs.length + ys.length ≤ sizeLine) (q : ∀ z H', Same H H' → IntsT H' z (xs ++ ys) → Q (.ref z) H') :
    rCatA K (.ref a) (.ref b) H Q := by
  refine ⟨a, b, xs.map V.int, ys.map V.int, rfl, rfl, ha.seq, hb.seq, by rw [List.length_map, List.length_map]; exact hz, fun e => ?_, fun _ e => ?_, fun _ _ p np => ?_⟩
  · rw [List.map_eq_nil_iff] at e
    subst e
    exact q b H (fun _ _ h => h) hb
  · rw [List.map_eq_nil_iff] at e
    subst e
    exact q a H (fun _ _ h => h) (by rw [List.append_nil]; exact ha)
  · rw [← List.map_append]
    exact q p _ (same_upd np) upd_same
theorem tail_ints {K : PySem.W.Frag} {H : Hp} {a : Addr} {xs : List Int} {Q : VK} (ha : IntsT H a xs) (h1 : 1 ≤ xs.length) (q : ∀ z H', Same H H' → IntsT H' z (xs.drop 1) → Q (.ref z) H') : rSlA K (.ref a) (some 1) none H Q := by
  have hl : 1 ≤ (xs.map V.int).length := by
    rw [List.length_map]
    exact h1
  refine ⟨a, xs.map V.int, rfl, ha.seq, fun z => absurd z (sIx_one hl), fun _ p np => ?_⟩
  rw [cut_tail, ← List.map_drop]
  exact q p _ (same_upd np) upd_same
/-- what a beat leaves: a word, or a crew -/
def BeatV (H : Hp) (v : V) : Sum Bool Cr → Prop
  | .inl true => v = .str "over"
  | .inl false => v = .str "dry"
  | .inr d => ∃ r, v = .ref r ∧ CrewT H r d
section
variable {P : Program} {w : World} {K : PySem.W.Frag} {mg : Str → Option Value} {base : Heap}
def spCrewIn : Sp := fun vs H Q _ => ∃ p w t a c q, vs = [.ref p, .str (ruleS t), .ref a, .int q] ∧ WellT H p w ∧ w.Ok ∧ CrewT H a c ∧ c.Ok w t ∧ ∀ v H', Same H H' → BeatV H' v (beat w t c q) → Q v H'
theorem scCrewIn : FnScope ["well", "rule", "crew", "inflow", "level", "past", "pumps", "mark", "ages", "begun", "later", "age"] ["well", "rule", "crew", "inflow"] (defScope (topS 30)) := ⟨rfl, rfl, rfl, by decide +kernel, rfl, by decide +kernel, by decide +kernel⟩
theorem ok_crewIn {f : Addr} {fd : FuncData} (D : Df K mg "crew_in" (topS 30) ["well", "rule", "crew", "inflow"] f fd) (B : Blt mg) (C : Cst mg) (cB : Cal P w K mg base 2 "beginners" spBegin) (cA : Cal P w K mg base 3 "ages_after" spAges) : Cal P w K mg base 4 "crew_in" spCrewIn := by
  refine D.cal (D.fn.ok scCrewIn (fun vs H Q E h => ?_) (fun cdv A outer s H vs Q E hr h => ?_))
  · obtain ⟨p, w, t, a, c, q, rfl, _⟩ := h
    rfl
  · obtain ⟨p, wl, t, a, c, iq, rfl, hw, okw, ⟨pp, pa, hc, hp, hg⟩, ok, q⟩ := h
    refine ⟨_, pss_cons (ps_asg (pv 2) (pg_tup rfl (pgs_cons (pg_name (i := 4) scCrewIn.nd rfl (.inl rfl)) (pgs_cons (pg_name (i := 5) scCrewIn.nd rfl (.inl rfl)) (pgs_cons (pg_name (i := 6) scCrewIn.nd rfl (.inl rfl)) (pgs_cons (pg_name (i := 7) scCrewIn.nd rfl (.inl rfl)) pgs_nil))))))
      (pss_cons (ps_par (i := 8) (j := 9) rfl scCrewIn.nd rfl rfl (by decide) rfl rfl (pa_cons (pe_c cA hr (pa_cons (pv 0) (pa_cons (pv 1) (pa_cons (pv 2) pa_nil)))) (pa_cons (pe_c cB hr (pa_cons (pv 0) (pa_cons (pv 1) (pa_cons (pv 2) pa_nil)))) pa_nil)) (by rfl))
      (pss_cons (ps_set (i := 10) scCrewIn.nd rfl (.inl rfl) (pe_op op_sub (pe_op op_add (pv 4) (pv 3)) (pe_op op_mul (pe_ix ix_tup (pv 0) pe_int (fun _ _ => rfl))
        (pe_callB call_lenS (by rfl) B.len (by decide +kernel) (pa_cons
          (pe_lc (own := [("age", 11)]) (g := gName 11) rfl scCrewIn.nd (pi_tup (pv 8)) (blkOk_by (own := [("age", 11)]) (N := ["well", "rule", "crew", "inflow", "level", "past", "pumps", "mark", "ages", "begun", "later", "age"]) (sc := defScope (topS 30)) (by decide +kernel))
            (fun _ _ _ _ _ => pg_name (i := 11) scCrewIn.nd rfl (Or.inl rfl))
            (fun _ _ _ _ _ => pts_one (pt_cmpR op_gt (pv 11) pe_int (nomark _)))
            (fun _ _ _ _ _ => pe_int)) pa_nil)))))
      (pss_cons (ps_if (pt_cmpR op_gt (pv 10) (pe_ix ix_tup (pv 0) pe_int (fun _ _ => rfl)) (nomark _)) (pss_one (ps_ret (pe_gi C.over))) pss_nil)
      (pss_cons (ps_if (pt_cmpR op_lt (pv 10) pe_int (nomark _)) (pss_one (ps_ret (pe_gi C.dry))) pss_nil)
      (C8.pss_cut (ps_if (PW.pt (pw_and (pt_cmpR op_eq (pv 1) (pe_gi C.turns) (nomark _)) (pw_and1 (pt_cmpR (op_neE hr.units) (pv 9) (pe_lst pa_nil) (nomark _)))))
          (pss_one (ps_set (i := 7) scCrewIn.nd rfl (.inl rfl) (pe_op op_mod (pe_callTy call_int1 (by rfl) B.int (by decide +kernel) (pa_cons (pe_op op_add (pe_ix ix_list (pv 9) (pe_un un_neg pe_int) (fun _ _ => rfl)) pe_int) pa_nil)) (pe_callB call_lenS (by rfl) B.len (by decide +kernel) (pa_cons (pv 6) pa_nil))))) pss_nil)
      (pss_one (ps_ret (pe_tup (pa_cons (pv 10) (pa_cons (pe_slice sl_tupA (pe_op op_catA (pv 5) (pe_tup (pa_cons (pv 4) pa_nil))) (po_some pe_int) po_none) (pa_cons (pv 8) (pa_cons (pv 7) pa_nil)))))))))))), ?_⟩
    have al1 := ok.al1
    have al2 := ok.al2
    refine ⟨_, rfl, a, _, rfl, seqT hc, rfl, _, _, rfl, _, _, rfl, _, _, rfl, _, _, rfl, rfl, ?_⟩
    refine ⟨_, rfl, _, rfl, _, rfl, p, wl, t, a, c, rfl, hw, okw, ⟨pp, pa, hc, hp, hg⟩, ok, fun ag H1 s1 ha => ?_⟩
    refine ⟨_, rfl, _, rfl, _, rfl, p, wl, t, a, c, rfl, hw.same s1, okw, ⟨pp, pa, s1 _ _ hc, hp.same s1, hg.same s1⟩, ok, fun bg H2 s2 nb hb => ?_⟩
    have s02 := s1.trans s2
    have ha2 := ha.same s2
    refine ⟨_, _, rfl, ?_⟩
    refine ⟨_, rfl, _, rfl, _, _, rfl, rfl, _, rfl, p, _, _, _, rfl, rfl, (hw.same s02).seq, rfl, _, rfl, ag, rfl, ⟨_, ha2.seq⟩, fun D hD => lc_tup (xs := (agesAfter wl t c).map V.int) (fun i H' => Same H2 H' ∧ H' D = some (.lst (List.replicate (((agesAfter wl t c).take i).filter fun a => decide (0 < a)).length (V.int 1)))) ⟨same_upd hD, upd_same⟩ (fun i H' _ h => (ha2.same h.1).seq) ?_ ?_⟩
    · rintro i x H' hx ⟨sm, hD'⟩
      obtain ⟨y, hy, rfl⟩ := map_get hx
      refine ⟨rfl, ⟨_, rfl, _, _, rfl, rfl, _, rfl, ite2 (fun h1 => ?_) (fun h1 => ?_)⟩⟩
      · have h1 := of_decide_eq_true h1
        refine ⟨_, hD', ?_, upd_keep sm hD, ?_⟩
        · rw [List.length_replicate]
          exact len_lt (Nat.le_trans (List.length_filter_le _ _) (Nat.le_trans (List.length_take_le' _ _) (Nat.le_trans (Nat.le_of_eq (agesAfter_length _ _ _)) al2))) (by decide)
        · rw [upd_same, rep_succ, filt_snoc hy, if_pos (decide_eq_true h1), List.length_append]
          rfl
      · have h1 : ¬ decide (0 < y) = true := h1
        refine ⟨sm, ?_⟩
        rw [filt_snoc hy, if_neg h1, List.append_nil]
        exact hD'
    · rintro H3 ⟨sm3, hD'⟩
      rw [List.length_map, List.take_length, runs_count] at hD'
      have s03 := s02.trans sm3
      have d1 := okw.dr1
      have d2 := okw.dr2
      refine ⟨D, _, rfl, .inl (seqL hD'), _, _, rfl, rfl, .inl ⟨by omega, by omega⟩, _, _, rfl, rfl, ?_⟩
      rw [List.length_replicate]
      refine ⟨_, rfl, _, rfl, p, _, _, _, rfl, rfl, (hw.same s03).seq, rfl, _, wl.top, rfl, rfl, _, rfl, ite2 (fun h1 => ?_) (fun h1 => ?_)⟩
      · have h1 : wl.top < later wl t c iq := of_decide_eq_true h1
        refine q _ H3 s03 ?_
        unfold beat
        rw [if_pos h1]
        rfl
      · have h1 : ¬ wl.top < later wl t c iq := fun z => h1 (decide_eq_true z)
        refine ⟨_, rfl, _, 0, rfl, rfl, _, rfl, ite2 (fun h2 => ?_) (fun h2 => ?_)⟩
        · have h2 : later wl t c iq < 0 := of_decide_eq_true h2
          refine q _ H3 s03 ?_
          unfold beat
          rw [if_neg h1, if_pos h2]
          rfl
        · have h2 : ¬ later wl t c iq < 0 := fun z => h2 (decide_eq_true z)
          have hbe : beat wl t c iq = .inr (nextCr wl t c iq) := by
            unfold beat
            rw [if_neg h1, if_neg h2]
          have hb3 := sm3 _ _ hb
          refine ⟨fun σ' H' => σ' = [some (.ref p), some (.str (ruleS t)), some (.ref a), some (.int iq), some (.int c.level), some (.ref pp), some (.ref pa), some (.int (markAfter wl t c)), some (.ref ag), some (.ref bg), some (.int (later wl t c iq)), none] ∧ Same H3 H', ?_, ?_⟩
          · refine ⟨_, rfl, rfl, t, congrArg V.bl (rule_eq t), ?_⟩
            cases t with
            | true =>
              refine iteT ⟨_, rfl, Nat.zero_le _, fun em nem => ⟨bg, em, (begun wl true c).map fun k : Nat => (k : Int), rfl, rfl, ?_, seqL upd_same, _, rfl, ite2 (fun h3 => ?_) (fun h3 => ?_)⟩⟩
              · rw [← natsL_ints]
                exact seqL (by rw [upd_ne (ne_of_none hb3 nem)]; exact hb3)
              · have h3 := of_decide_eq_true h3
                have h4 : begun wl true c ≠ [] := fun z => h3 (by rw [z]; rfl)
                obtain ⟨ini, la, e⟩ : ∃ ini la, begun wl true c = ini ++ [la] := ⟨_, _, (List.dropLast_concat_getLast h4).symm⟩
                have sE : Same H3 (upd H3 em (.lst [])) := same_upd nem
                refine ⟨_, rfl, 1, rfl, bg, natsL (begun wl true c), _, .int (la : Nat), rfl, rfl, seqL (sE _ _ hb3), ?_, ?_⟩
                · rw [e, natsL_app]
                  exact atI_last _ _
                · refine ⟨_, 1, rfl, rfl, .inl ⟨_, rfl, _, rfl, pa, _, rfl, .inr ((hg.same s03).same sE).seq, _, _, rfl, rfl, ?_, ?_⟩⟩
                  · rw [List.length_map]
                    omega
                  · refine ⟨?_, sE⟩
                    rw [List.length_map]
                    show _ = _
                    unfold markAfter
                    rw [if_pos ⟨rfl, h4⟩, e, List.getLastD_concat]
                    rfl
              · have h3 : begun wl true c = [] := by
                  by_cases z : begun wl true c = []
                  · exact z
                  · exact absurd (decide_eq_true (show (begun wl true c).map (fun k : Nat => (k : Int)) ≠ [] from fun y => z (List.map_eq_nil_iff.mp y))) h3
                refine ⟨?_, same_upd nem⟩
                unfold markAfter
                rw [if_neg (fun z => z.2 h3)]
                rfl
            | false =>
              refine iteF ⟨?_, fun _ _ e => e⟩
              unfold markAfter
              rw [if_neg (fun z => Bool.false_ne_true z.1)]
              rfl
          · rintro σ' H4 ⟨rfl, s4⟩
            have s5 := s03.trans s4
            have pl3 : c.past.length ≤ 3 := by
              have := ok.pl
              have := okw.lag2
              omega
            refine ⟨_, rfl, _, rfl, _, rfl, Nat.le_of_lt (len_lt (m := 1) (Nat.le_refl 1) (by decide)), fun e1 n1 => cat_ints ((hp.same s5).same (same_upd n1)) (show IntsT _ e1 [c.level] from upd_same) (Nat.le_of_lt (len_lt (m := 4) (show c.past.length + 1 ≤ 4 by omega) (by decide))) fun z H6 s6 hz => ?_⟩
            refine ⟨1, rfl, ?_⟩
            delta tNoPart
            refine tail_ints hz (by rw [List.length_append]; exact Nat.le_add_left _ _) fun z2 H7 s7 hz2 => ?_
            have s8 := ((s5.trans (same_upd n1)).trans s6).trans s7
            refine ⟨_, rfl, _, rfl, Nat.le_of_lt (len_lt (m := 4) (Nat.le_refl 4) (by decide)), fun r nr => q _ _ (s8.trans (same_upd nr)) ?_⟩
            rw [hbe]
            have s9 := (((sm3.trans s4).trans (same_upd n1)).trans s6).trans s7
            exact ⟨r, rfl, z2, ag, upd_same, hz2.same (same_upd nr), ha2.same (s9.trans (same_upd nr))⟩
end
end Kx
/-! The inflow; who runs. -/
namespace Kx
open PySem PySem.Spec PyProof.Rows L2 Pm
section
variable {P : Program} {w : World} {K : PySem.W.Frag} {mg : Str → Option Value} {base : Heap}
def spInflow : Sp := fun vs H Q _ => ∃ q : Int, vs = [.int q] ∧ 0 ≤ q ∧ q ≤ 300 ∧ Q .non H
theorem scInflow : FnScope ["inflow"] ["inflow"] (defScope (topS 31)) := ⟨rfl, rfl, rfl, by decide +kernel, rfl, by decide +kernel, by decide +kernel⟩
theorem ok_inflow {f : Addr} {fd : FuncData} (D : Df K mg "need_inflow" (topS 31) ["inflow"] f fd) (C : Cst mg) (cW : Cal P w K mg base 1 "is_whole" spWhole) : Cal P w K mg base 2 "need_inflow" spInflow := by
  refine D.cal (D.fn.ok scInflow (fun vs H Q E h => ?_) (fun cdv A outer s H vs Q E hr h => ?_))
  · obtain ⟨q, rfl, _⟩ := h
    rfl
  · obtain ⟨i, rfl, h1, h2, q⟩ := h
    refine ⟨_, pss_one (ps_if (pt_not (pt_val (pe_c cW hr (pa_cons (pv 0) (pa_cons pe_int (pa_cons (pe_gi C.inflow) pa_nil)))))) (pss_one ps_never) pss_nil), ?_⟩
    exact ⟨_, rfl, .inl ⟨i, some 0, some 300, rfl, true, congrArg V.bl (whole_ok h1 h2), iteF q⟩⟩
def spRunners : Sp := fun vs H Q _ => ∃ p w t a c, vs = [.ref p, .str (ruleS t), .ref a] ∧ WellT H p w ∧ w.Ok ∧ CrewT H a c ∧ c.Ok w t ∧ ∀ q H', Same H H' → H q = none → H' q = some (.lst (natsL (runs w t c))) → Q (.ref q) H'
theorem scRunners : FnScope ["well", "rule", "crew", "name", "age"] ["well", "rule", "crew"] (defScope (topS 32)) := ⟨rfl, rfl, rfl, by decide +kernel, rfl, by decide +kernel, by decide +kernel⟩
theorem runs_take {wl : Wl} {t : Bool} {c : Cr} {i : Nat} {y : Int} (h : (agesAfter wl t c)[i]? = some y) :
    (List.range (i + 1)).filter (fun k => decide (0 < ageAt wl t c k)) = (List.range i).filter (fun k => decide (0 < ageAt wl t c k)) ++ (if decide (0 < y) = true then [i] else []) := by
  have hi : i < c.ages.length := by
    rw [← agesAfter_length wl t c]
    exact (List.getElem?_eq_some_iff.mp h).1
  rw [agesAfter_get wl t c hi] at h
  rw [range_filt, Option.some.inj h]
theorem ok_runners {f : Addr} {fd : FuncData} (D : Df K mg "runners" (topS 32) ["well", "rule", "crew"] f fd) (B : Blt mg) (cA : Cal P w K mg base 3 "ages_after" spAges) : Cal P w K mg base 4 "runners" spRunners := by
  refine D.cal (D.fn.ok scRunners (fun vs H Q E h => ?_) (fun cdv A outer s H vs Q E hr h => ?_))
  · obtain ⟨p, w, t, a, c, rfl, _⟩ := h
    rfl
  · obtain ⟨p, wl, t, a, c, rfl, hw, okw, hc, ok, q⟩ := h
    refine ⟨_, pss_one (ps_ret (pe_lc (own := [("name", 3), ("age", 4)]) (g := gTup K 2 (gCons (gName 3) (gCons (gName 4) gNil))) rfl scRunners.nd
        (pi_enumT (by rfl) B.enumerate (pa_cons (pe_c cA hr (pa_cons (pv 0) (pa_cons (pv 1) (pa_cons (pv 2) pa_nil)))) pa_nil))
        (blkOk_by (own := [("name", 3), ("age", 4)]) (N := ["well", "rule", "crew", "name", "age"]) (sc := defScope (topS 32)) (by decide +kernel))
        (fun _ _ _ _ _ => pg_tup rfl (pgs_cons (pg_name (i := 3) scRunners.nd rfl (Or.inl rfl)) (pgs_cons (pg_name (i := 4) scRunners.nd rfl (Or.inl rfl)) pgs_nil)))
        (fun _ _ _ _ _ => pts_one (pt_cmpR op_gt (pv 4) pe_int (nomark _)))
        (fun _ _ _ _ _ => pv 3))), ?_⟩
    refine ⟨_, rfl, _, rfl, _, rfl, p, wl, t, a, c, rfl, hw, okw, hc, ok, fun ag H1 s1 ha => ?_⟩
    refine ⟨ag, _, rfl, ha.seq, fun D hD => lc_enumT (xs := (agesAfter wl t c).map V.int) (fun i H' => Same H1 H' ∧ H' D = some (.lst (natsL ((List.range i).filter fun k => decide (0 < ageAt wl t c k))))) ⟨same_upd hD, upd_same⟩ (fun i H' h => (ha.same h.1).seq) ?_ ?_⟩
    · rintro i x T H' hx ⟨sm, hD'⟩ nT
      obtain ⟨y, hy, rfl⟩ := map_get hx
      have hi : i < c.ages.length := by
        rw [← agesAfter_length wl t c]
        exact (List.getElem?_eq_some_iff.mp hy).1
      have sT : Same H' (upd H' T (.tup [.int (i : Nat), .int y])) := same_upd nT
      refine ⟨T, _, rfl, seqT upd_same, rfl, _, _, rfl, _, _, rfl, rfl, rfl, _, rfl, _, _, rfl, rfl, _, rfl, ?_⟩
      rw [runs_take hy]
      refine ite2 (fun h1 => ?_) (fun h1 => ?_)
      · refine ⟨_, rfl, _, sT _ _ hD', ?_, upd_keep (sm.trans sT) hD, ?_⟩
        · rw [natsL_len]
          exact len_lt (Nat.le_trans (List.length_filter_le _ _) (Nat.le_trans (Nat.le_of_eq List.length_range) (Nat.le_trans (Nat.le_of_lt hi) ok.al2))) (by decide)
        · rw [upd_same, if_pos h1, natsL_app]
          rfl
      · refine ⟨sm.trans sT, ?_⟩
        rw [if_neg h1, List.append_nil]
        exact sT _ _ hD'
    · rintro H2 ⟨sm, hD'⟩
      rw [List.length_map, agesAfter_length] at hD'
      exact q D H2 (s1.trans sm) (s1.free hD) hD'
end
end Kx
/-! A plant in the heap; its small methods. -/
namespace Kx
open PySem PySem.Spec PyProof.Rows L2 Pm
/-! ### rows of entries -/
abbrev Ent := Cr × List Int
def Ents (R : V → Ent → Prop) (vs : List V) (es : List Ent) : Prop := vs.length = es.length ∧ ∀ (i : Nat) v e, vs[i]? = some v → es[i]? = some e → R v e
theorem Ents.imp {R S : V → Ent → Prop} {vs : List V} {es : List Ent} (h : ∀ v e, R v e → S v e) (x : Ents R vs es) : Ents S vs es := ⟨x.1, fun i v e h1 h2 => h v e (x.2 i v e h1 h2)⟩
theorem Ents.one {R : V → Ent → Prop} {v : V} {e : Ent} (h : R v e) : Ents R [v] [e] := ⟨rfl, fun i v' e' h1 h2 => by
  match i, h1, h2 with
  | 0, h1, h2 =>
    rw [← Option.some.inj h1, ← Option.some.inj h2]
    exact h⟩
theorem Ents.snoc {R : V → Ent → Prop} {vs : List V} {es : List Ent} {v : V} {e : Ent} (x : Ents R vs es) (h : R v e) : Ents R (vs ++ [v]) (es ++ [e]) := by
  refine ⟨by rw [List.length_append, List.length_append, x.1]; rfl, fun i v' e' h1 h2 => ?_⟩
  by_cases hi : i < vs.length
  · rw [List.getElem?_append_left hi] at h1
    rw [List.getElem?_append_left (x.1 ▸ hi)] at h2
    exact x.2 i _ _ h1 h2
  · have hi' : i = vs.length := by
      have := (List.getElem?_eq_some_iff.mp h1).1
      rw [List.length_append, List.length_singleton] at this
      omega
    subst hi'
    rw [List.getElem?_concat_length] at h1
    rw [x.1, List.getElem?_concat_length] at h2
    rw [← Option.some.inj h1, ← Option.some.inj h2]
    exact h
theorem Ents.take {R : V → Ent → Prop} {vs : List V} {es : List Ent} (x : Ents R vs es) (k : Nat) : Ents R (vs.take k) (es.take k) := by
  refine ⟨by rw [List.length_take, List.length_take, x.1], fun i v e h1 h2 => ?_⟩
  rw [List.getElem?_take] at h1 h2
  by_cases hk : i < k
  · rw [if_pos hk] at h1 h2
    exact x.2 i v e h1 h2
  · rw [if_neg hk] at h1
    cases h1
theorem Ents.last {R : V → Ent → Prop} {vs : List V} {es : List Ent} {e : Ent} (x : Ents R vs (es ++ [e])) : ∃ us v, vs = us ++ [v] ∧ Ents R us es ∧ R v e := by
  have hl : vs.length = es.length + 1 := by
    rw [x.1, List.length_append]
    rfl
  have hne : vs ≠ [] := by
    intro z
    rw [z] at hl
    simp at hl
  refine ⟨vs.dropLast, vs.getLast hne, (List.dropLast_concat_getLast hne).symm, ?_, ?_⟩
  · have h := x.take es.length
    rw [List.take_left' rfl] at h
    rw [List.dropLast_eq_take, hl, Nat.add_sub_cancel]
    exact h
  · refine x.2 es.length _ _ ?_ List.getElem?_concat_length
    have e1 : es.length = vs.length - 1 := by omega
    rw [List.getLast_eq_getElem, e1]
    exact List.getElem?_eq_getElem (by omega)
theorem Ents.head {R : V → Ent → Prop} {vs : List V} {es : List Ent} {v : V} {r : List V} (x : Ents R (v :: r) es) : ∃ e, es[0]? = some e ∧ R v e := by
  cases es with
  | nil => exact absurd x.1 (by simp)
  | cons e t => exact ⟨e, rfl, x.2 0 _ _ rfl rfl⟩
/-! ### a plant -/
def EntT (H : Hp) (v : V) (e : Ent) : Prop := ∃ r v0 cr hr, v = .ref r ∧ H r = some (.tup [v0, .ref cr, .ref hr]) ∧ CrewT H cr e.1 ∧ IntsT H hr e.2
theorem EntT.same {H H' : Hp} {v : V} {e : Ent} (s : Same H H') (h : EntT H v e) : EntT H' v e := by
  obtain ⟨r, v0, cr, hr, h1, h2, h3, h4⟩ := h
  exact ⟨r, v0, cr, hr, h1, s _ _ h2, h3.same s, h4.same s⟩
def plF (w : Addr) (t : Bool) (p : Addr) : List (Str × V) := [("own_well", .ref w), ("own_rule", .str (ruleS t)), ("own_past", .ref p)]
theorem plF_w {w : Addr} {t : Bool} {p : Addr} : (plF w t p).lookup ("own_well" : Str) = some (.ref w) := rfl
theorem plF_r {w : Addr} {t : Bool} {p : Addr} : (plF w t p).lookup ("own_rule" : Str) = some (.str (ruleS t)) := rfl
theorem plF_p {w : Addr} {t : Bool} {p : Addr} : (plF w t p).lookup ("own_past" : Str) = some (.ref p) := rfl
theorem plF_put {w : Addr} {t : Bool} {p q : Addr} : putF "own_past" (.ref q) (plF w t p) = plF w t q := rfl
theorem plF_mk {w : Addr} {t : Bool} {p : Addr} : putF "own_past" (.ref p) (putF "own_rule" (.str (ruleS t)) (putF "own_well" (.ref w) [])) = plF w t p := rfl
def PlantAt (C : Addr) (H : Hp) (one : Addr) (wl : Wl) (t : Bool) (es : List Ent) : Prop :=
  ∃ dx wp pp vs, H one = some (.ins C dx (plF wp t pp)) ∧ WellT H wp wl ∧ H pp = some (.tup vs) ∧ Ents (EntT H) vs es
theorem PlantAt.same {C : Addr} {H H' : Hp} {one : Addr} {wl : Wl} {t : Bool} {es : List Ent} (s : Same H H') (h : PlantAt C H one wl t es) : PlantAt C H' one wl t es := by
  obtain ⟨dx, wp, pp, vs, h1, h2, h3, h4⟩ := h
  exact ⟨dx, wp, pp, vs, s _ _ h1, h2.same s, s _ _ h3, h4.imp fun _ _ => EntT.same s⟩
/-- all but one place is kept -/
def SamX (one : Addr) (H H' : Hp) : Prop := ∀ b x, b ≠ one → H b = some x → H' b = some x
theorem SamX.of {one : Addr} {H H' : Hp} (s : Same H H') : SamX one H H' := fun b x _ e => s b x e
theorem SamX.trans {one : Addr} {H H' H'' : Hp} (s : SamX one H H') (t : SamX one H' H'') : SamX one H H'' := fun b x n e => t b x n (s b x n e)
theorem SamX.upd {one : Addr} {H : Hp} {o : HO} : SamX one H (upd H one o) := fun b x n e => by
  rw [upd_ne n]
  exact e
/-- what does not stand at the one place is kept -/
def SameT (H H' : Hp) : Prop := ∀ b xs, H b = some (.tup xs) → H' b = some (.tup xs)
theorem SameT.of {H H' : Hp} (s : Same H H') : SameT H H' := fun b x e => s _ _ e
theorem SameT.trans {H H' H'' : Hp} (s : SameT H H') (t : SameT H' H'') : SameT H H'' := fun b x e => t b x (s b x e)
theorem SamX.tup {one : Addr} {H H' : Hp} {C dx : Addr} {fs : List (Str × V)} (s : SamX one H H') (h : H one = some (.ins C dx fs)) : SameT H H' := fun b xs e => s b _ (fun z => by rw [z, h] at e; cases e) e
theorem IntsT.keep {H H' : Hp} {p : Addr} {ns : List Int} (s : SameT H H') (h : IntsT H p ns) : IntsT H' p ns := s _ _ h
theorem WellT.keep {H H' : Hp} {p : Addr} {w : Wl} (s : SameT H H') (h : WellT H p w) : WellT H' p w := s _ _ h
theorem CrewT.keep {H H' : Hp} {p : Addr} {c : Cr} (s : SameT H H') (h : CrewT H p c) : CrewT H' p c := by
  obtain ⟨a, b, h1, h2, h3⟩ := h
  exact ⟨a, b, s _ _ h1, s _ _ h2, s _ _ h3⟩
theorem EntT.keep {H H' : Hp} {v : V} {e : Ent} (s : SameT H H') (h : EntT H v e) : EntT H' v e := by
  obtain ⟨r, v0, cr, hr, h1, h2, h3, h4⟩ := h
  exact ⟨r, v0, cr, hr, h1, s _ _ h2, h3.keep s, h4.keep s⟩
theorem PlantAt.keep {C : Addr} {H H' : Hp} {one : Addr} {wl : Wl} {t : Bool} {es : List Ent} (s : SameT H H') (so : ∀ x, H one = some x → H' one = some x) (h : PlantAt C H one wl t es) : PlantAt C H' one wl t es := by
  obtain ⟨dx, wp, pp, vs, h1, h2, h3, h4⟩ := h
  exact ⟨dx, wp, pp, vs, so _ h1, h2.keep s, s _ _ h3, h4.imp fun _ _ => EntT.keep s⟩
theorem flat_one {α : Type} (a : α) : ∀ n : Nat, (List.replicate n [a]).flatten = List.replicate n a
  | 0 => rfl
  | n + 1 => by
    rw [List.replicate_succ, List.replicate_succ, List.flatten_cons, flat_one a n]
    rfl
/-- the class -/
structure Pl (K : PySem.W.Frag) (mg : Str → Option Value) (C : Addr) : Prop where
  cl : Cls K C
  nW : NoAttr K C "own_well"
  nR : NoAttr K C "own_rule"
  nP : NoAttr K C "own_past"
abbrev mS (i : Nat) : Stmt := inClass (topS 35) i
section
variable {P : Program} {w : World} {K : PySem.W.Frag} {mg : Str → Option Value} {base : Heap}
/-! ### made -/
def spInit (C : Addr) : Sp := fun vs H Q _ => ∃ one dx p w t a c, vs = [.ref one, .ref p, .str (ruleS t), .ref a] ∧ H one = some (.ins C dx []) ∧ WellT H p w ∧ w.Ok ∧ CrewT H a c ∧ c.Ok w t ∧
  ∀ H', SamX one H H' → PlantAt C H' one w t [(c, List.replicate c.ages.length 0)] → Q .non H'
theorem scInit : FnScope ["self", "well", "rule", "crew"] ["self", "well", "rule", "crew"] (defScope (mS 0)) := ⟨rfl, rfl, rfl, by decide +kernel, rfl, by decide +kernel, by decide +kernel⟩
theorem ok_init {f C : Addr} {fd : FuncData} (F : Fun K "__init__" "Plant.__init__" (mS 0) f fd) (T : Pl K mg C) (B : Blt mg) (cN : Cal P w K mg base 4 "need_crew" spNeedCrew) : FnOk P w K mg base CX0 5 f fd ["self", "well", "rule", "crew"] (spInit C) := by
  refine F.ok scInit (fun vs H Q E h => ?_) (fun cdv A outer s H vs Q E hr h => ?_)
  · obtain ⟨one, dx, p, w, t, a, c, rfl, _⟩ := h
    rfl
  · obtain ⟨one, dx, p, wl, t, a, c, rfl, h1, hw, okw, hc, ok, q⟩ := h
    refine ⟨_, pss_cons (ps_expr (pe_c cN hr (pa_cons (pv 1) (pa_cons (pv 2) (pa_cons (pv 3) pa_nil)))))
      (pss_cons (ps_fld (pv 0) (pv 1) rfl) (pss_cons (ps_fld (pv 0) (pv 2) rfl)
      (pss_one (ps_fld (pv 0) (pe_tup (pa_cons (pe_tup (pa_cons pe_non (pa_cons (pv 3) (pa_cons (pe_op op_rep1 (pe_tup (pa_cons pe_int pa_nil)) (pe_callB call_lenS (by rfl) B.len (by decide +kernel) (pa_cons (pe_ix ix_tup (pv 3) pe_int (fun _ _ => rfl)) pa_nil))) pa_nil)))) pa_nil)) rfl)))), ?_⟩
    refine ⟨_, rfl, _, rfl, _, rfl, p, wl, t, a, c, rfl, hw, okw, hc, ok, fun H1 s1 => ?_⟩
    have h11 := s1 _ _ h1
    refine ⟨_, rfl, _, rfl, one, C, dx, [], rfl, h11, T.cl, T.nW, (by show 0 < 1000; decide), ?_⟩
    refine ⟨_, rfl, _, rfl, one, C, dx, _, rfl, upd_same, T.cl, T.nR, (by show 1 < 1000; decide), ?_⟩
    rw [show putF "own_rule" (V.str (ruleS t)) (putF "own_well" (V.ref p) []) = ([("own_well", V.ref p), ("own_rule", V.str (ruleS t))] : List (Str × V)) from rfl]
    have sG : SamX one H1 (upd (upd H1 one (.ins C dx (putF "own_well" (V.ref p) []))) one (.ins C dx [("own_well", V.ref p), ("own_rule", V.str (ruleS t))])) := SamX.upd.trans SamX.upd
    generalize eG : upd (upd H1 one (.ins C dx (putF "own_well" (V.ref p) []))) one (.ins C dx [("own_well", V.ref p), ("own_rule", V.str (ruleS t))]) = G at sG ⊢
    have hG : G one = some (.ins C dx [("own_well", V.ref p), ("own_rule", V.str (ruleS t))]) := by
      rw [← eG]
      exact upd_same
    have tG := sG.tup h11
    have hwG := (hw.same s1).keep tG
    have hcG := (hc.same s1).keep tG
    have al1 := ok.al1
    have al2 := ok.al2
    -- behind the row of hours
    have fin : ∀ hr G2, Same G G2 → IntsT G2 hr (List.replicate c.ages.length 0) → [V.non, .ref a, .ref hr].length ≤ sizeLine ∧ ∀ e, G2 e = none → 1 ≤ sizeLine ∧ ∀ pp, upd G2 e (.tup [.non, .ref a, .ref hr]) pp = none →
        ∃ x, ([some (.ref one), some (.ref p), some (.str (ruleS t)), some (.ref a)] : L2.St)[0]? = some (some x) ∧ ∃ a' C' dx' fs, x = .ref a' ∧ (upd (upd G2 e (.tup [.non, .ref a, .ref hr])) pp (.tup [.ref e])) a' = some (.ins C' dx' fs) ∧ Cls K C' ∧ NoAttr K C' "own_past" ∧ fs.length < 1000 ∧
          Q .non (upd (upd (upd G2 e (.tup [.non, .ref a, .ref hr])) pp (.tup [.ref e])) a' (.ins C' dx' (putF "own_past" (.ref pp) fs))) := by
      intro hr G2 s2 hh
      refine ⟨Nat.le_of_lt (len_lt (m := 3) (Nat.le_refl 3) (by decide)), fun e ne => ⟨Nat.le_of_lt (len_lt (m := 1) (Nat.le_refl 1) (by decide)), fun pp npp => ?_⟩⟩
      have se : Same G2 (upd G2 e (.tup [.non, .ref a, .ref hr])) := same_upd ne
      have sp : Same (upd G2 e (.tup [.non, .ref a, .ref hr])) (upd (upd G2 e (.tup [.non, .ref a, .ref hr])) pp (.tup [.ref e])) := same_upd npp
      have s3 := (s2.trans se).trans sp
      have h3 := s3 _ _ hG
      refine ⟨_, rfl, one, C, dx, _, rfl, h3, T.cl, T.nP, (by show 2 < 1000; decide), ?_⟩
      have t4 : SameT (upd (upd G2 e (.tup [.non, .ref a, .ref hr])) pp (.tup [.ref e])) (upd (upd (upd G2 e (.tup [.non, .ref a, .ref hr])) pp (.tup [.ref e])) one (.ins C dx (plF p t pp))) := (SamX.upd (one := one)).tup h3
      refine q _ (((SamX.of s1).trans sG).trans ((SamX.of s3).trans SamX.upd)) ⟨dx, p, pp, [.ref e], upd_same, (hwG.same s3).keep t4, t4 _ _ upd_same, Ents.one ?_⟩
      exact ⟨e, .non, a, hr, rfl, t4 _ _ (sp _ _ upd_same), (hcG.same s3).keep t4, (hh.same (se.trans sp)).keep t4⟩
    obtain ⟨pp0, pa, hc0, _, hg0⟩ := hcG
    refine ⟨_, rfl, Nat.le_of_lt (len_lt (m := 1) (Nat.le_refl 1) (by decide)), fun z nz => ⟨_, rfl, a, _, _, _, rfl, rfl, seqT (same_upd nz _ _ hc0), rfl, ?_⟩⟩
    refine ⟨pa, _, rfl, .inr (hg0.same (same_upd nz)).seq, z, _, _, rfl, rfl, seqT upd_same, List.cons_ne_nil _ _, ?_, ?_, (by show 1 ≤ 1000; decide), fun h1 => ?_, fun h1 r nr => ?_⟩
    · rw [List.length_map]
      omega
    · rw [List.length_map]
      omega
    · rw [List.length_map] at h1
      refine fin z _ (same_upd nz) ?_
      have e1 : c.ages.length = 1 := by omega
      rw [e1]
      exact upd_same
    · refine fin r _ ((same_upd nz).trans (same_upd nr)) ?_
      show _ = _
      rw [upd_same, List.length_map, Int.toNat_natCast, flat_one, List.map_replicate]
end
end Kx
/-! What a plant tells. -/
namespace Kx
open PySem PySem.Spec PyProof.Rows L2 Pm
section
variable {P : Program} {w : World} {K : PySem.W.Frag} {mg : Str → Option Value} {base : Heap}
theorem scSelf {st : Stmt} (h1 : (defScope st).kind = .function := by rfl) (h2 : (defScope st).isCoroutine = false := by rfl) (h3 : (defScope st).isGenerator = false := by rfl) : True := trivial
def spWellP (C : Addr) : Sp := fun vs H Q _ => ∃ one wl t es, vs = [.ref one] ∧ PlantAt C H one wl t es ∧ ∀ p, WellT H p wl → Q (.ref p) H
def spRuleP (C : Addr) : Sp := fun vs H Q _ => ∃ one wl t es, vs = [.ref one] ∧ PlantAt C H one wl t es ∧ Q (.str (ruleS t)) H
def spCrewP (C : Addr) : Sp := fun vs H Q _ => ∃ one wl t es e, vs = [.ref one] ∧ PlantAt C H one wl t (es ++ [e]) ∧ ∀ p, CrewT H p e.1 → Q (.ref p) H
def spLevelP (C : Addr) : Sp := fun vs H Q _ => ∃ one wl t es e, vs = [.ref one] ∧ PlantAt C H one wl t (es ++ [e]) ∧ Q (.int e.1.level) H
def spBeatsP (C : Addr) : Sp := fun vs H Q _ => ∃ one wl t es, vs = [.ref one] ∧ PlantAt C H one wl t es ∧ Q (.int ((es.length : Int) - 1)) H
def spHoursP (C : Addr) : Sp := fun vs H Q _ => ∃ one wl t es e, vs = [.ref one] ∧ PlantAt C H one wl t (es ++ [e]) ∧ ∀ p, IntsT H p e.2 → Q (.ref p) H
def spLenP (C : Addr) : Sp := fun vs H Q _ => ∃ one wl t es e, vs = [.ref one] ∧ PlantAt C H one wl t (es ++ [e]) ∧ ∀ H', Same H H' → Q (.int (es.length : Int)) H'
theorem scWellP : FnScope ["self"] ["self"] (defScope (mS 1)) := ⟨rfl, rfl, rfl, by decide +kernel, rfl, by decide +kernel, by decide +kernel⟩
theorem scRuleP : FnScope ["self"] ["self"] (defScope (mS 2)) := ⟨rfl, rfl, rfl, by decide +kernel, rfl, by decide +kernel, by decide +kernel⟩
theorem scCrewP : FnScope ["self"] ["self"] (defScope (mS 3)) := ⟨rfl, rfl, rfl, by decide +kernel, rfl, by decide +kernel, by decide +kernel⟩
theorem scLevelP : FnScope ["self"] ["self"] (defScope (mS 4)) := ⟨rfl, rfl, rfl, by decide +kernel, rfl, by decide +kernel, by decide +kernel⟩
theorem scBeatsP : FnScope ["self"] ["self"] (defScope (mS 5)) := ⟨rfl, rfl, rfl, by decide +kernel, rfl, by decide +kernel, by decide +kernel⟩
theorem scHoursP : FnScope ["self"] ["self"] (defScope (mS 6)) := ⟨rfl, rfl, rfl, by decide +kernel, rfl, by decide +kernel, by decide +kernel⟩
theorem scLenP : FnScope ["self"] ["self"] (defScope (mS 9)) := ⟨rfl, rfl, rfl, by decide +kernel, rfl, by decide +kernel, by decide +kernel⟩
variable {f C : Addr} {fd : FuncData}
theorem ok_wellP (F : Fun K "well" "Plant.well" (mS 1) f fd) (T : Pl K mg C) : FnOk P w K mg base CX0 1 f fd ["self"] (spWellP C) := by
  refine F.ok scWellP (fun vs H Q E h => ?_) (fun cdv A outer s H vs Q E hr h => ?_)
  · obtain ⟨one, wl, t, es, rfl, _⟩ := h
    rfl
  · obtain ⟨one, wl, t, es, rfl, ⟨dx, wp, pp, vs, h1, hw, hp, he⟩, q⟩ := h
    exact ⟨_, pss_one (ps_ret (pe_fld (pv 0) rfl)), _, rfl, one, C, dx, _, _, rfl, h1, T.cl, T.nW, plF_w, q _ hw⟩
theorem ok_ruleP (F : Fun K "rule" "Plant.rule" (mS 2) f fd) (T : Pl K mg C) : FnOk P w K mg base CX0 1 f fd ["self"] (spRuleP C) := by
  refine F.ok scRuleP (fun vs H Q E h => ?_) (fun cdv A outer s H vs Q E hr h => ?_)
  · obtain ⟨one, wl, t, es, rfl, _⟩ := h
    rfl
  · obtain ⟨one, wl, t, es, rfl, ⟨dx, wp, pp, vs, h1, hw, hp, he⟩, q⟩ := h
    exact ⟨_, pss_one (ps_ret (pe_fld (pv 0) rfl)), _, rfl, one, C, dx, _, _, rfl, h1, T.cl, T.nR, plF_r, q⟩
theorem ok_crewP (F : Fun K "crew" "Plant.crew" (mS 3) f fd) (T : Pl K mg C) : FnOk P w K mg base CX0 1 f fd ["self"] (spCrewP C) := by
  refine F.ok scCrewP (fun vs H Q E h => ?_) (fun cdv A outer s H vs Q E hr h => ?_)
  · obtain ⟨one, wl, t, es, e, rfl, _⟩ := h
    rfl
  · obtain ⟨one, wl, t, es, e, rfl, ⟨dx, wp, pp, vs, h1, hw, hp, he⟩, q⟩ := h
    obtain ⟨us, v, rfl, _, ⟨r, v0, cr, hr', rfl, h3, hc, hh⟩⟩ := he.last
    refine ⟨_, pss_one (ps_ret (pe_ix ix_tup (pe_ix ix_tup (pe_fld (pv 0) rfl) (pe_un un_neg pe_int) (fun _ _ => rfl)) pe_int (fun _ _ => rfl))), ?_⟩
    exact ⟨_, rfl, one, C, dx, _, _, rfl, h1, T.cl, T.nP, plF_p, 1, rfl, pp, _, _, _, rfl, rfl, seqT hp, atI_last _ _, r, _, _, _, rfl, rfl, seqT h3, rfl, q _ hc⟩
theorem ok_levelP (F : Fun K "level" "Plant.level" (mS 4) f fd) (T : Pl K mg C) : FnOk P w K mg base CX0 1 f fd ["self"] (spLevelP C) := by
  refine F.ok scLevelP (fun vs H Q E h => ?_) (fun cdv A outer s H vs Q E hr h => ?_)
  · obtain ⟨one, wl, t, es, e, rfl, _⟩ := h
    rfl
  · obtain ⟨one, wl, t, es, e, rfl, ⟨dx, wp, pp, vs, h1, hw, hp, he⟩, q⟩ := h
    obtain ⟨us, v, rfl, _, ⟨r, v0, cr, hr', rfl, h3, ⟨ca, cb, hc, _, _⟩, hh⟩⟩ := he.last
    refine ⟨_, pss_one (ps_ret (pe_ix ix_tup (pe_ix ix_tup (pe_ix ix_tup (pe_fld (pv 0) rfl) (pe_un un_neg pe_int) (fun _ _ => rfl)) pe_int (fun _ _ => rfl)) pe_int (fun _ _ => rfl))), ?_⟩
    exact ⟨_, rfl, one, C, dx, _, _, rfl, h1, T.cl, T.nP, plF_p, 1, rfl, pp, _, _, _, rfl, rfl, seqT hp, atI_last _ _, r, _, _, _, rfl, rfl, seqT h3, rfl, cr, _, _, _, rfl, rfl, seqT hc, rfl, q⟩
theorem ok_beatsP (F : Fun K "beats" "Plant.beats" (mS 5) f fd) (T : Pl K mg C) (B : Blt mg) : FnOk P w K mg base CX0 1 f fd ["self"] (spBeatsP C) := by
  refine F.ok scBeatsP (fun vs H Q E h => ?_) (fun cdv A outer s H vs Q E hr h => ?_)
  · obtain ⟨one, wl, t, es, rfl, _⟩ := h
    rfl
  · obtain ⟨one, wl, t, es, rfl, ⟨dx, wp, pp, vs, h1, hw, hp, he⟩, q⟩ := h
    refine ⟨_, pss_one (ps_ret (pe_op op_sub (pe_callB call_lenS (by rfl) B.len (by decide +kernel) (pa_cons (pe_fld (pv 0) rfl) pa_nil)) pe_int)), ?_⟩
    refine ⟨_, rfl, one, C, dx, _, _, rfl, h1, T.cl, T.nP, plF_p, pp, _, rfl, .inr (seqT hp), _, _, rfl, rfl, ?_⟩
    rw [he.1]
    exact q
theorem ok_hoursP (F : Fun K "hours" "Plant.hours" (mS 6) f fd) (T : Pl K mg C) : FnOk P w K mg base CX0 1 f fd ["self"] (spHoursP C) := by
  refine F.ok scHoursP (fun vs H Q E h => ?_) (fun cdv A outer s H vs Q E hr h => ?_)
  · obtain ⟨one, wl, t, es, e, rfl, _⟩ := h
    rfl
  · obtain ⟨one, wl, t, es, e, rfl, ⟨dx, wp, pp, vs, h1, hw, hp, he⟩, q⟩ := h
    obtain ⟨us, v, rfl, _, ⟨r, v0, cr, hr', rfl, h3, hc, hh⟩⟩ := he.last
    refine ⟨_, pss_one (ps_ret (pe_ix ix_tup (pe_ix ix_tup (pe_fld (pv 0) rfl) (pe_un un_neg pe_int) (fun _ _ => rfl)) pe_int (fun _ _ => rfl))), ?_⟩
    exact ⟨_, rfl, one, C, dx, _, _, rfl, h1, T.cl, T.nP, plF_p, 1, rfl, pp, _, _, _, rfl, rfl, seqT hp, atI_last _ _, r, _, _, _, rfl, rfl, seqT h3, rfl, q _ hh⟩
theorem ok_lenP (F : Fun K "__len__" "Plant.__len__" (mS 9) f fd) (T : Pl K mg C) (B : Blt mg) : FnOk P w K mg base CX0 1 f fd ["self"] (spLenP C) := by
  refine F.ok scLenP (fun vs H Q E h => ?_) (fun cdv A outer s H vs Q E hr h => ?_)
  · obtain ⟨one, wl, t, es, e, rfl, _⟩ := h
    rfl
  · obtain ⟨one, wl, t, es, e, rfl, ⟨dx, wp, pp, vs, h1, hw, hp, he⟩, q⟩ := h
    have hl : vs.length = es.length + 1 := by
      rw [he.1, List.length_append]
      rfl
    refine ⟨_, pss_one (ps_ret (pe_callB call_lenS (by rfl) B.len (by decide +kernel) (pa_cons (pe_slice sl_tupA (pe_fld (pv 0) rfl) (po_some pe_int) po_none) pa_nil))), ?_⟩
    refine ⟨_, rfl, one, C, dx, _, _, rfl, h1, T.cl, T.nP, plF_p, 1, rfl, ?_⟩
    delta tNoPart
    refine ⟨pp, vs, rfl, seqT hp, fun z => absurd z (sIx_one (by omega)), fun _ p np => ⟨p, _, rfl, .inr (seqT upd_same), ?_⟩⟩
    rw [cut_tail, List.length_drop, hl, Nat.add_sub_cancel]
    exact q _ (same_upd np)
/-! ### who runs -/
def spHas (C : Addr) : Sp := fun vs H Q _ => ∃ one wl t es e x, vs = [.ref one, x] ∧ PlantAt C H one wl t (es ++ [e]) ∧
  ((∃ i : Int, x = .int i ∧ Q (.bl (decide (0 ≤ i ∧ i < (e.1.ages.length : Int) ∧ 0 < e.1.ages.getD i.toNat 0))) H) ∨ (NotInt H x ∧ Q (.bl false) H))
theorem scHas : FnScope ["self", "pump", "ages"] ["self", "pump"] (defScope (mS 11)) := ⟨rfl, rfl, rfl, by decide +kernel, rfl, by decide +kernel, by decide +kernel⟩
theorem ok_has (F : Fun K "__contains__" "Plant.__contains__" (mS 11) f fd) (T : Pl K mg C) (B : Blt mg) (cW : Cal P w K mg base 1 "is_whole" spWhole) : FnOk P w K mg base CX0 2 f fd ["self", "pump"] (spHas C) := by
  refine F.ok scHas (fun vs H Q E h => ?_) (fun cdv A outer s H vs Q E hr h => ?_)
  · obtain ⟨one, wl, t, es, e, x, rfl, _⟩ := h
    rfl
  · obtain ⟨one, wl, t, es, e, x, rfl, ⟨dx, wp, pp, vs, h1, hw, hp, he⟩, q⟩ := h
    obtain ⟨us, v, rfl, _, ⟨r, v0, cr, hr', rfl, h3, ⟨ca, cb, hc, _, hg⟩, hh⟩⟩ := he.last
    refine ⟨_, pss_cons (ps_set (i := 2) scHas.nd rfl (.inl rfl) (pe_ix ix_tup (pe_ix ix_tup (pe_ix ix_tup (pe_fld (pv 0) rfl) (pe_un un_neg pe_int) (fun _ _ => rfl)) pe_int (fun _ _ => rfl)) pe_int (fun _ _ => rfl)))
      (pss_one (ps_ret (pe_and (pe_c cW hr (pa_cons (pv 1) (pa_cons pe_int (pa_cons (pe_op op_sub (pe_callB call_lenS (by rfl) B.len (by decide +kernel) (pa_cons (pv 2) pa_nil)) pe_int) pa_nil))))
        (pe_one (pe_cmpR op_gt (pe_ix ix_tup (pv 2) (pv 1) (fun _ _ => rfl)) pe_int (nomark _)))))), ?_⟩
    refine ⟨_, rfl, one, C, dx, _, _, rfl, h1, T.cl, T.nP, plF_p, 1, rfl, pp, _, _, _, rfl, rfl, seqT hp, atI_last _ _, r, _, _, _, rfl, rfl, seqT h3, rfl, cr, _, _, _, rfl, rfl, seqT hc, rfl, ?_⟩
    refine ⟨_, rfl, _, rfl, cb, _, rfl, .inr hg.seq, _, _, rfl, rfl, ?_⟩
    rcases q with ⟨i, rfl, q⟩ | ⟨hx, q⟩
    · refine .inl ⟨i, some 0, some _, rfl, wholeB i (some 0) (some _), rfl, ite2 (fun z => ?_) (fun z => ?_)⟩
      · unfold wholeB at z
        rw [Bool.and_eq_true] at z
        have z1 : 0 ≤ i := of_decide_eq_true z.1
        have z2 : i ≤ _ := of_decide_eq_true z.2
        rw [List.length_map] at z2
        have ei : i = ((i.toNat : Nat) : Int) := by omega
        have hi : i.toNat < e.1.ages.length := by omega
        refine ⟨_, rfl, _, rfl, cb, _, _, .int (e.1.ages.getD i.toNat 0), rfl, rfl, hg.seq, ?_, _, _, rfl, rfl, ?_⟩
        · rw [ei]
          exact int_atD hi
        · have ee : decide (0 ≤ i ∧ i < (e.1.ages.length : Int) ∧ 0 < e.1.ages.getD i.toNat 0) = decide (0 < e.1.ages.getD i.toNat 0) := by
            by_cases h : 0 < e.1.ages.getD i.toNat 0
            · rw [decide_eq_true h, decide_eq_true ⟨z1, by omega, h⟩]
            · rw [decide_eq_false h, decide_eq_false (fun y => h y.2.2)]
          rw [ee] at q
          exact q
      · have zz : ¬ (0 ≤ i ∧ i < (e.1.ages.length : Int)) := fun y => z (by
          unfold wholeB
          rw [Bool.and_eq_true, List.length_map]
          exact ⟨decide_eq_true y.1, decide_eq_true (by omega)⟩)
        rw [decide_eq_false (fun y => zz ⟨y.1, y.2.1⟩)] at q
        exact q
    · exact .inr ⟨x, .int 0, .int _, rfl, hx, false, rfl, iteF q⟩
end
end Kx
/-! Rows of beats; beats taken back. -/
namespace Kx
open PySem PySem.Spec PyProof.Rows L2 Pm
/-! ### crews as data -/
def intsD (ns : List Int) : PyData := .tuple (ns.map PyData.int)
def crewD (c : Cr) : PyData := .tuple [.int c.level, intsD c.past, intsD c.ages, .int c.mark]
def beatD : Sum Bool Cr → PyData
  | .inl true => .str "over"
  | .inl false => .str "dry"
  | .inr d => crewD d
theorem dpT {K : PySem.W.Frag} {H : Hp} {a : Addr} {ns : List Int} (h : IntsT H a ns) : Dp K H (.ref a) (intsD ns) := .tup h.seq (dpInts ns)
theorem dpCrew {K : PySem.W.Frag} {H : Hp} {r : Addr} {c : Cr} (h : CrewT H r c) : Dp K H (.ref r) (crewD c) := by
  obtain ⟨a, b, h1, h2, h3⟩ := h
  exact .tup (seqT h1) (.cons (.int _) (.cons (dpT h2) (.cons (dpT h3) (.cons (.int _) .nil))))
theorem dpBeat {K : PySem.W.Frag} {H : Hp} {v : V} {b : Sum Bool Cr} (h : BeatV H v b) : Dp K H v (beatD b) := by
  match b, h with
  | .inl true, h =>
    cases (show v = _ from h)
    exact .str _
  | .inl false, h =>
    cases (show v = _ from h)
    exact .str _
  | .inr d, h =>
    obtain ⟨r, rfl, hc⟩ := (show ∃ r, v = .ref r ∧ CrewT H r d from h)
    exact dpCrew hc
theorem depthI (ns : List Int) : (intsD ns).depth ≤ 2 := by
  have := PySem.W.depthAll_ints ns
  unfold intsD
  simp only [PyData.depth]
  omega
theorem canI (ns : List Int) : (intsD ns).canLay0 = true := by
  unfold intsD
  simp only [PyData.canLay0]
  exact PySem.W.canLayAll0_ints ns
theorem depthC (c : Cr) : (crewD c).depth ≤ 3 := by
  have h1 := depthI c.past
  have h2 := depthI c.ages
  unfold crewD
  simp only [PyData.depth, PyData.depthAll]
  omega
theorem canC (c : Cr) : (crewD c).canLay0 = true := by
  unfold crewD
  simp only [PyData.canLay0, PyData.canLayAll0, canI]
  rfl
theorem shapedB (b : Sum Bool Cr) : SeqAt.shaped (beatD b) = true := by
  match b with
  | .inl true => decide +kernel
  | .inl false => decide +kernel
  | .inr d =>
    have := depthC d
    show ((crewD d).canLay0 && decide ((crewD d).depth ≤ 64)) = true
    rw [canC, decide_eq_true (by omega)]
    rfl
def isWord : Sum Bool Cr → Bool
  | .inl _ => true
  | .inr _ => false
theorem any_word (b : Sum Bool Cr) : ([PyData.str "over", PyData.str "dry"].any fun z => PyData.eqv z (beatD b)) = isWord b := by
  match b with
  | .inl true => decide +kernel
  | .inl false => decide +kernel
  | .inr d =>
    show ((PyData.eqv (PyData.str "over") (crewD d)) || ((PyData.eqv (PyData.str "dry") (crewD d)) || false)) = false
    unfold crewD
    simp only [PyData.eqv]
    rfl
/-- the two words in a tuple, as data -/
theorem dpWords {K : PySem.W.Frag} {H : Hp} {p : Addr} (h : H p = some (.tup [.str "over", .str "dry"])) : Dp K H (.ref p) (.tuple [.str "over", .str "dry"]) := .tup (seqT h) (.cons (.str _) (.cons (.str _) .nil))
/-- x in (OVER, DRY) -/
theorem in_words {K : PySem.W.Frag} {H : Hp} {v : V} {b : Sum Bool Cr} {Q : VK} (h : BeatV H v b) (q : ∀ H', Same H H' → Q (.bl (isWord b)) H') : ∀ p, H p = none → rInTD K v (.ref p) (upd H p (.tup [.str "over", .str "dry"])) Q := by
  intro p np
  have s : Same H (upd H p (.tup [.str "over", .str "dry"])) := same_upd np
  have h' : BeatV (upd H p (.tup [.str "over", .str "dry"])) v b := by
    match b, h with
    | .inl true, h => exact h
    | .inl false, h => exact h
    | .inr d, h =>
      obtain ⟨r, e, hc⟩ := h
      exact ⟨r, e, hc.same s⟩
  refine ⟨beatD b, [.str "over", .str "dry"], dpBeat h', dpWords upd_same, shapedB b, by decide +kernel, ?_⟩
  rw [any_word]
  exact q _ s
theorem u65 {k : Nat} {A : Around} (hr : Room k A) : A.units + 65 < cLine := by
  have := hr.un
  omega
section
variable {P : Program} {w : World} {K : PySem.W.Frag} {mg : Str → Option Value} {base : Heap} {f C : Addr} {fd : FuncData}
def spTold (C : Addr) : Sp := fun vs H Q _ => ∃ one wl t es e q n, vs = [.ref one, .int q, .int n] ∧ PlantAt C H one wl t (es ++ [e]) ∧ wl.Ok ∧ e.1.Ok wl t ∧ 0 ≤ q ∧ q ≤ 300 ∧ 1 ≤ n ∧ n ≤ 1000 ∧
  ∀ v H', Same H H' → BeatV H' v (told wl t q e.1 n.toNat) → Q v H'
theorem scTold : FnScope ["self", "inflow", "times", "crew", "turn"] ["self", "inflow", "times"] (defScope (mS 8)) := ⟨rfl, rfl, rfl, by decide +kernel, rfl, by decide +kernel, by decide +kernel⟩
theorem ok_told (F : Fun K "told" "Plant.told" (mS 8) f fd) (T : Pl K mg C) (B : Blt mg) (Cs : Cst mg) (cW : Cal P w K mg base 1 "is_whole" spWhole) (cI : Cal P w K mg base 2 "need_inflow" spInflow) (cC : Cal P w K mg base 4 "crew_in" spCrewIn) :
    FnOk P w K mg base CX0 5 f fd ["self", "inflow", "times"] (spTold C) := by
  refine F.ok scTold (fun vs H Q E h => ?_) (fun cdv A outer s H vs Q E hr h => ?_)
  · obtain ⟨one, wl, t, es, e, q, n, rfl, _⟩ := h
    rfl
  · obtain ⟨one, wl, t, es, e, iq, n, rfl, ⟨dx, wp, pp, vs, h1, hw, hp, he⟩, okw, oke, q1, q2, n1, n2, q⟩ := h
    obtain ⟨us, v, rfl, _, ⟨r, v0, cr, hr', rfl, h3, hc, hh⟩⟩ := he.last
    refine ⟨_, pss_cons (ps_expr (pe_c cI hr (pa_cons (pv 1) pa_nil))) (pss_cons (ps_if (pt_not (pt_val (pe_c cW hr (pa_cons (pv 2) (pa_cons pe_int (pa_cons (pe_gi Cs.times) pa_nil)))))) (pss_one ps_never) pss_nil)
      (pss_cons (ps_set (i := 3) scTold.nd rfl (.inl rfl) (pe_ix ix_tup (pe_ix ix_tup (pe_fld (pv 0) rfl) (pe_un un_neg pe_int) (fun _ _ => rfl)) pe_int (fun _ _ => rfl)))
      (pss_cons (ps_for PassesOwn.never rfl (pi_range1 (by rfl) B.range (pa_cons (pv 2) pa_nil)) (pg_name (i := 4) scTold.nd rfl (.inl rfl))
        (pss_cons (ps_set (i := 3) scTold.nd rfl (.inl rfl) (pe_c cC hr (pa_cons (pe_fld (pv 0) rfl) (pa_cons (pe_fld (pv 0) rfl) (pa_cons (pv 3) (pa_cons (pv 1) pa_nil))))))
          (pss_one (ps_if (pt_cmpR (op_inTD (u65 hr)) (pv 3) (pe_tup (pa_cons (pe_gi Cs.over) (pa_cons (pe_gi Cs.dry) pa_nil))) (by rfl)) (pss_one (ps_ret (pv 3))) pss_nil))))
      (pss_one (ps_ret (pv 3)))))), ?_⟩
    refine ⟨_, rfl, iq, rfl, q1, q2, _, rfl, .inl ⟨n, some 1, some 1000, rfl, true, congrArg V.bl (whole_ok n1 n2), iteF ?_⟩⟩
    refine ⟨_, rfl, one, C, dx, _, _, rfl, h1, T.cl, T.nP, plF_p, 1, rfl, pp, _, _, _, rfl, rfl, seqT hp, atI_last _ _, r, _, _, _, rfl, rfl, seqT h3, rfl, ?_⟩
    refine ⟨_, rfl, n, rfl, by omega, by omega, for_range (lo := 0) (fun i σ H' => ∃ d cr' v4, σ = [some (.ref one), some (.int iq), some (.int n), some (.ref cr'), v4] ∧ Same H H' ∧ CrewT H' cr' d ∧ told wl t iq e.1 i = .inr d) ⟨e.1, cr, none, rfl, fun _ _ z => z, hc, rfl⟩ ?_ ?_⟩
    · rintro i σ H' hi ⟨d, cr', v4, rfl, sm, hd, ht⟩
      have h1' := sm _ _ h1
      refine ⟨_, rfl, one, C, dx, _, _, rfl, h1', T.cl, T.nW, plF_w, _, rfl, one, C, dx, _, _, rfl, h1', T.cl, T.nR, plF_r, _, rfl, _, rfl, wp, wl, t, cr', d, iq, rfl, hw.same sm, okw, hd, told_ok okw oke _ ht, fun v H2 s2 hb => ?_⟩
      have hs : told wl t iq e.1 (i + 1) = beat wl t d iq := by
        show (match told wl t iq e.1 i with | .inl b => Sum.inl b | .inr d => beat wl t d iq) = _
        rw [ht]
      refine ⟨_, rfl, Nat.le_of_lt (len_lt (m := 2) (Nat.le_refl 2) (by decide)), in_words hb fun H3 s3 => ⟨_, rfl, ite2 (fun z => ?_) (fun z => ?_)⟩⟩
      · refine ⟨_, rfl, q _ _ ((sm.trans s2).trans s3) ?_⟩
        cases e2 : beat wl t d iq with
        | inl b =>
          rw [e2] at hs hb
          rw [told_stay hs n.toNat (by omega)]
          cases b with
          | true => exact hb
          | false => exact hb
        | inr d2 =>
          rw [e2] at z
          exact absurd z Bool.false_ne_true
      · cases e2 : beat wl t d iq with
        | inl b =>
          rw [e2] at z
          exact absurd rfl z
        | inr d2 =>
          rw [e2] at hb hs
          obtain ⟨r2, rfl, hd2⟩ := hb
          exact ⟨d2, r2, _, rfl, (sm.trans s2).trans s3, hd2.same s3, hs⟩
    · rintro σ H' ⟨d, cr', v4, rfl, sm, hd, ht⟩
      exact ⟨_, rfl, q _ _ sm (by rw [ht]; exact ⟨cr', rfl, hd⟩)⟩
/-! ### back -/
def spBack (C : Addr) : Sp := fun vs H Q _ => ∃ one wl t es m, vs = [.ref one, .int m] ∧ PlantAt C H one wl t es ∧ 1 ≤ m ∧ m < (es.length : Int) ∧
  ∀ H', SamX one H H' → PlantAt C H' one wl t (es.take (es.length - m.toNat)) → Q .non H'
theorem scBack : FnScope ["self", "many"] ["self", "many"] (defScope (mS 12)) := ⟨rfl, rfl, rfl, by decide +kernel, rfl, by decide +kernel, by decide +kernel⟩
theorem ok_back (F : Fun K "back" "Plant.back" (mS 12) f fd) (T : Pl K mg C) (B : Blt mg) (cW : Cal P w K mg base 1 "is_whole" spWhole) : FnOk P w K mg base CX0 2 f fd ["self", "many"] (spBack C) := by
  refine F.ok scBack (fun vs H Q E h => ?_) (fun cdv A outer s H vs Q E hr h => ?_)
  · obtain ⟨one, wl, t, es, m, rfl, _⟩ := h
    rfl
  · obtain ⟨one, wl, t, es, m, rfl, ⟨dx, wp, pp, vs, h1, hw, hp, he⟩, m1, m2, q⟩ := h
    have hl := he.1
    refine ⟨_, pss_cons (ps_if (pt_not (pt_val (pe_c cW hr (pa_cons (pv 1) (pa_cons pe_int (pa_cons pe_non pa_nil)))))) (pss_one ps_never) pss_nil)
      (pss_cons (ps_if (pt_cmpR op_gt (pv 1) (pe_op op_sub (pe_callB call_lenS (by rfl) B.len (by decide +kernel) (pa_cons (pe_fld (pv 0) rfl) pa_nil)) pe_int) (nomark _)) (pss_one ps_never) pss_nil)
      (pss_one (ps_fld (pv 0) (pe_slice sl_tupA (pe_fld (pv 0) rfl) po_none (po_some (pe_op op_sub (pe_callB call_lenS (by rfl) B.len (by decide +kernel) (pa_cons (pe_fld (pv 0) rfl) pa_nil)) (pv 1)))) rfl))), ?_⟩
    have wb : wholeB m (some 1) none = true := by
      show (decide (1 ≤ m) && true) = true
      rw [decide_eq_true m1]
      rfl
    refine ⟨_, rfl, .inl ⟨m, some 1, none, rfl, true, congrArg V.bl wb, iteF ?_⟩⟩
    refine ⟨_, rfl, _, rfl, one, C, dx, _, _, rfl, h1, T.cl, T.nP, plF_p, pp, _, rfl, .inr (seqT hp), _, _, rfl, rfl, _, _, rfl, rfl, false, ?_, iteF ?_⟩
    · refine congrArg V.bl (decide_eq_false ?_)
      rw [hl]
      omega
    refine ⟨_, rfl, one, C, dx, _, _, rfl, h1, T.cl, T.nP, plF_p, ?_⟩
    delta tNoPart
    refine ⟨_, rfl, one, C, dx, _, _, rfl, h1, T.cl, T.nP, plF_p, pp, _, rfl, .inr (seqT hp), _, rfl, _, m, rfl, rfl, _, rfl, pp, vs, rfl, seqT hp, fun z => ?_, fun _ p np => ?_⟩
    · have z2 := z.2
      have e1 : ((vs.length : Nat) : Int) - m = ((vs.length - m.toNat : Nat) : Int) := by
        rw [hl]
        omega
      rw [e1, HT.sIx_nat] at z2
      rw [hl] at z2
      omega
    · rw [cut_to _ (by rw [hl]; omega)]
      have s1 : Same H (upd H p (.tup (vs.take (((vs.length : Nat) : Int) - m).toNat))) := same_upd np
      refine ⟨_, rfl, one, C, dx, _, rfl, s1 _ _ h1, T.cl, T.nP, (by show 3 < 1000; decide), ?_⟩
      have t2 : SameT (upd H p (.tup (vs.take (((vs.length : Nat) : Int) - m).toNat))) (upd (upd H p (.tup (vs.take (((vs.length : Nat) : Int) - m).toNat))) one (.ins C dx (plF wp t p))) := (SamX.upd (one := one)).tup (s1 _ _ h1)
      refine q _ ((SamX.of s1).trans SamX.upd) ⟨dx, wp, p, _, upd_same, (hw.same s1).keep t2, t2 _ _ upd_same, ?_⟩
      have ek : (((vs.length : Nat) : Int) - m).toNat = es.length - m.toNat := by
        rw [hl]
        omega
      rw [ek] at s1 t2 ⊢
      exact (he.take _).imp fun _ _ h => (h.same s1).keep t2
end
end Kx
/-! An own exception whose start says super().__init__(text). -/
namespace Kx
open PySem PySem.Spec PyProof.Rows L2 Pm PySem.W
abbrev sNo : Stmt := inClass (topS 4) 0
/-- what stands behind the top of such a class -/
structure ExS (K : Frag) (mg : Str → Option Value) (C : Addr) : Prop where
  mgC : mg "Nothing" = some (.ref C)
  kp : keepIn K (.ref C) = true
  ini : excInitIn K C [.type "LookupError", .type "Exception", .type "BaseException", .type "object"] "LookupError.__new__" = true
  fn : ∃ fI, findIn K (.ref C) "__init__" = some (some (.ref fI)) ∧ typeIn K (.ref fI) = some (.type "function") ∧
    ∃ (oc kV doc pm ct : Value) (od an : Option Addr) (osl : Array (Option Value)) (cda cc : Addr), K.lookup fI = some ⟨oc, od, .func (ksFn "__init__" "Nothing.__init__" (defArgs sNo) (defBody sNo) (defScope sNo) .none kV doc pm an (.ref cda) ct cc), osl⟩ ∧
    codeIn K (.ref cda) "Nothing.__init__" = true ∧
    (∃ (ccl : Value) (cdd : Option Addr) (vs : Array Value) (ccs : Array (Option Value)) (tf : Tok), K.lookup cda = some ⟨ccl, cdd, .fields vs, ccs⟩ ∧ vs[2]? = some (.str PySem.Challenge.pw_pumphouse_k17_whole_plants.main.file tf)) ∧
    ∃ (cl : Value) (cld : Option Addr) (csl : Array (Option Value)), K.lookup cc = some ⟨cl, cld, .cell (some (.ref C)), csl⟩
  cls : ∃ cd, clsIn K C = some cd
  sub : mroIn K C (.ref C) = some true
  sup : mg "super" = none
  opq : nsIn K cStatics "thirdparty.any" = some none
  meth : ks_superIn K C C "__init__" = some (some (.builtin "LookupError.__init__"))
  base : subIn K (.ref C) (.type "LookupError") = some true
  exc : subIn K (.ref C) (.type "BaseException") = some true
  typ : typeIn K (.ref C) = some (.type "type")
theorem no_cell : ∀ x ∈ (defScope sNo).names, x.2 ≠ .cell := by decide +kernel
theorem no_self : (defScope sNo).names.lookup ("self" : Str) = some .local := by decide +kernel
theorem no_text : (defScope sNo).names.lookup ("text" : Str) = some .local := by decide +kernel
theorem no_ks : (defScope sNo).names.lookup ("super" : Str) = some .globalImplicit := by decide +kernel
theorem no_kc : (defScope sNo).names.lookup ("__class__" : Str) = some .free := by decide +kernel
theorem no_super : (PySem.Challenge.pw_pumphouse_k17_whole_plants.main.scope.names.lookup ("super" : Str)).isSome = false := by decide +kernel
section
variable {X : Cx} {C : Addr}
theorem pmk_no {m : Str} {j : Nat} {p p2 pos : Pos} (hX : X.prog = PySem.Challenge.pw_pumphouse_k17_whole_plants) (T : ExS X.K X.mg C) (hr : Room 1 X.A) (hg : Gl X "Nothing") :
    PMk X (.Call (.Name "Nothing" p) [.Constant (.str m) j p2] [] pos) (fun _ H Q => Q (.ref C) none H) := by
  intro pins s σ H Q I h
  refine wpAny_Call_Name_kw (ld_glob I hg T.mgC ?_ (by decide))
  have ha : PA X [.Constant (.str m) j p2] (tCons (tC (.str m)) tNil) := pa_cons pe_str pa_nil
  refine PySem.W.callWith_K (h₀ := X.base) I.ok.mod.kin T.kp (thn (ha.run pos pins s σ H (fun vs H1 => vs = [V.str m] ∧ H = H1) I ⟨rfl, rfl⟩) fun us s1 hh => ?_)
  obtain ⟨vs, H1, I1, r1, ev, eH⟩ := hh
  subst ev
  rw [← eH] at I1
  refine ⟨I1.kIn, ?_⟩
  cases r1 with
  | cons ru rn =>
    rename_i u us'
    cases rn
    show wpAny _ _ (call (.ref C) [u]) _ _ _
    obtain ⟨fI, iC, tI, oc, kV, doc, pm, ct, od, an, osl, cda, cc, lI, cI, ⟨ccl, cdd, vs, ccs, tf, lC, hvs⟩, ⟨cl, cld, csl, lc⟩⟩ := T.fn
    obtain ⟨cdC, hcd⟩ := T.cls
    obtain ⟨nm, N', qn, bs, bm, hdct, sn, sub, ab, col, dd, k0, k1, k2, k3, k5, hC, hT⟩ := excInit_of I1.kIn T.ini
    have hus : ([u] : List Value).length ≤ sizeLine := Nat.le_of_lt (len_lt (m := 1) (Nat.le_refl 1) (by decide))
    obtain ⟨hp, g, dr, tk, os⟩ := s1
    refine wpAny_call (PySem.HandSPX.call_own PySem.F.excBase_LookupError hT hC (looks_findIn I1.kIn iC) (fun self => bind_fn I1.kIn self tI) hus ?_)
    have K1 : X.K.In hp := I1.kIn
    have up : ∀ b o, hp.get? b = some o → ((hp.push (kdv_tup [u])).push (PySem.HandSPX.excO C hp.objs.size)).get? b = some o := fun b o e => Heap.get?_push_of_some _ (Heap.get?_push_of_some _ e)
    have hget : ((hp.push (kdv_tup [u])).push (PySem.HandSPX.excO C hp.objs.size)).get? (hp.objs.size + 1) = some (PySem.HandSPX.excO C hp.objs.size) := by heap_get
    have hsz : ((hp.push (kdv_tup [u])).push (PySem.HandSPX.excO C hp.objs.size)).objs.size = hp.objs.size + 2 := by rw [Heap.size_push, Heap.size_push]
    generalize ((hp.push (kdv_tup [u])).push (PySem.HandSPX.excO C hp.objs.size)) = h1 at up hget hsz ⊢
    have K2 : X.K.In h1 := K1.keeps up
    have lim : hp.NoLimit := I1.mod.nolimit.keeps I1.bk
    refine ks_codeAny_call_defAt (fd := ksFn "__init__" "Nothing.__init__" (defArgs sNo) (defBody sNo) (defScope sNo) .none kV doc pm an (.ref cda) ct cc) (body := defBody sNo) (binds := [("self", .ref (hp.objs.size + 1)), ("text", u)])
      (hr.make C [u] []).depth (K2 _ _ lI) rfl (lim.keeps up) (codeRec_of K2 cI) rfl (BindsTo.of_eq rfl) no_cell (fun x hx => by
        rcases List.mem_cons.mp hx with rfl | hx
        · exact no_self
        · rw [List.mem_singleton.mp hx]
          exact no_text) (fun h2 hns k2 => ?_) rfl rfl rfl
    have K3 : X.K.In h2 := K2.keeps k2
    have upp : ∀ b o, hp.get? b = some o → h2.get? b = some o := fun b o e => k2 b o (up b o e)
    have F0 : Fr hp h1.objs.size h2 (fun x => ([("self", Value.ref (hp.objs.size + 1)), ("text", u)] : List (Str × Value)).reverse.lookup x) := ⟨hns, upp, by rw [hsz]; omega⟩
    have N0 : News hp h1.objs.size h2 [(hp.objs.size + 1, excObj C hp.objs.size none .none)] := fun q hq => by
      rw [List.mem_singleton.mp hq]
      exact ⟨k2 _ _ hget, by rw [hsz]; exact Nat.ne_of_lt (Nat.lt_succ_self _), Heap.get?_none_of_le (Nat.le_succ _)⟩
    have In0 : InstAt h2 (hp.objs.size + 1) (excObj C hp.objs.size none .none) C none := ⟨k2 _ _ hget, rfl, rfl, trivial⟩
    refine ks_wpAt_execs_cons (ks_wpAt_Expr_any (ks_wpAt_MethodCall ?_))
    obtain ⟨mb, b1, b2⟩ := I1.mod.blt
    have glob : h2.Ns mainGlobals X.mg := (I1.mod.glob.keeps I1.bk).keeps upp
    have blt : h2.Ns builtinsNs mb := (b1.keeps I1.bk).keeps upp
    have hfile : ((X.prog.main.file : Str) == PySem.Challenge.pw_pumphouse_k17_whole_plants.main.file) = true := by
      rw [hX]
      exact beq_self_eq_true _
    have htop : (X.prog.main.scope.names.lookup ("super" : Str)).isSome = false := by
      rw [hX]
      exact no_super
    refine ks_wpAt_super_base (fd := ksFn "__init__" "Nothing.__init__" (defArgs sNo) (defBody sNo) (defScope sNo) .none kV doc pm an (.ref cda) ct cc) (hks := no_ks) (hkc := no_kc) (by decide) rfl (K3 _ _ lI) rfl rfl rfl (K3 _ _ lC) rfl hvs hfile htop ?_
    refine ks_loadName_global rfl no_ks (Calls.loadGlobal_builtin glob T.sup blt ((b2 "super" (by decide)).trans (by first | rfl | decide +kernel)) ⟨rfl, ?_⟩)
    refine wpAny_loadName_free rfl no_kc rfl ⟨_, K3 _ _ lc, rfl⟩ ?_
    refine wpAny_loadName_local rfl no_self F0.ns (v := .ref (hp.objs.size + 1)) rfl ?_
    refine ks_wpAny_isType_cls (upp _ _ hC) rfl ⟨rfl, ?_⟩
    refine ks_wpAny_call_super (upp _ _ hC) rfl (k2 _ _ hget) rfl (fun c e => by cases e) (looks_mroIn K3 T.sub) (fun h3 e3 k3 => ?_)
    obtain ⟨F1, N1, l1⟩ := ks_newsPush (s := ⟨h2, g, dr, tk + 2, os⟩) (h' := h3) F0 N0 rfl e3 k3
    have In1 : InstAt h3 (hp.objs.size + 1) (excObj C hp.objs.size none .none) C none := ⟨k3 _ _ (k2 _ _ hget), rfl, rfl, trivial⟩
    refine kxs_method kxs_LookupError F1 K1 N1 (List.Mem.head _) In1 T.opq T.meth T.base (by decide) (fun q h4 F4 N4 l4 => ?_)
    refine kxs_callWith1 N4 (List.Mem.head _) (args_cons (PySem.ESX.ldL F4.ns (v := u) rfl (args_nil ⟨kxs_at N4 (List.Mem.head _), ?_⟩) rfl no_text (by decide)) rfl)
    have y1 : hp.objs.size + 1 < h2.objs.size := l1 _ (List.Mem.head _)
    have y2 : hp.objs.size + 1 < q := l4 (hp.objs.size + 1, excObj C hp.objs.size none .none) (.tail _ (List.Mem.head _))
    have n1 : h2.objs.size ≠ hp.objs.size + 1 := Nat.ne_of_gt y1
    have n2 : q ≠ hp.objs.size + 1 := Nat.ne_of_gt y2
    refine kxs_call F4 K1 N4 PySem.F.excBase_LookupError T.ini (List.Mem.head _) (.tail n2 (.tail n1 (.head (fun _ h => nomatch h)))) hus (fun t' h5 F5 N5 l5 => ?_)
    refine wpAt_of_wpAny (wpAny_execs_nil ⟨rfl, ?_⟩)
    have g5 := (N5 (hp.objs.size + 1, excObj C t' none .none) (.tail _ (.tail _ (.tail _ (List.Mem.head _))))).1
    exact ⟨hp.objs.size + 1, _, _, ⟨hp, g, dr, tk, os⟩, H, .ref C, none, rfl, I1, F5.keep, Heap.get?_none_of_le (Nat.le_succ _), g5, ⟨rfl, rfl⟩, rfl, rfl, I1.hok.fresh (Nat.le_succ _), rfl, I1.bare, raises_own T.exc T.typ, h⟩
end
end Kx
/-! A beat done by a plant. -/
namespace Kx
open PySem PySem.Spec PyProof.Rows L2 Pm
section
variable {P : Program} {w : World} {K : PySem.W.Frag} {mg : Str → Option Value} {base : Heap} {f C Cn : Addr} {fd : FuncData}
def spCall (C Cn : Addr) : Sp := fun vs H Q E => ∃ one wl t es e q, vs = [.ref one, .int q] ∧ PlantAt C H one wl t (es ++ [e]) ∧ wl.Ok ∧ e.1.Ok wl t ∧ e.2.length = e.1.ages.length ∧ es.length ≤ 500 ∧ 0 ≤ q ∧ q ≤ 300 ∧
  (∀ d, beat wl t e.1 q = .inr d → ∀ r H', SamX one H H' → PlantAt C H' one wl t (es ++ [e] ++ [(d, hoursAfter (runs wl t e.1) e.2)]) → H' r = some (.tup (natsL (runs wl t e.1))) → Q (.ref r) H') ∧
  (∀ b, beat wl t e.1 q = .inl b → ∀ H', Same H H' → E (.ref Cn) none H')
theorem scCall : FnScope ["self", "inflow", "past", "crew", "hours", "some", "fresh", "name", "one"] ["self", "inflow"] (defScope (mS 7)) := ⟨rfl, rfl, rfl, by decide +kernel, rfl, by decide +kernel, by decide +kernel⟩
theorem ok_call (hP : P = PySem.Challenge.pw_pumphouse_k17_whole_plants) (F : Fun K "__call__" "Plant.__call__" (mS 7) f fd) (T : Pl K mg C) (Tn : ExS K mg Cn) (B : Blt mg) (Cs : Cst mg) (cI : Cal P w K mg base 2 "need_inflow" spInflow) (cR : Cal P w K mg base 4 "runners" spRunners) (cC : Cal P w K mg base 4 "crew_in" spCrewIn) :
    FnOk P w K mg base (L2.CX P w) 5 f fd ["self", "inflow"] (spCall C Cn) := by
  refine F.okX scCall (fun vs H Q E h => ?_) (fun cdv A outer s H vs Q E hr h => ?_)
  · obtain ⟨one, wl, t, es, e, q, rfl, _⟩ := h
    rfl
  · obtain ⟨one, wl, t, es, e, iq, rfl, ⟨dx, wp, pp, vs, h1, hw, hp, he⟩, okw, oke, hle, hz, q1, q2, qa, qb⟩ := h
    obtain ⟨us, v, rfl, _, ⟨r, v0, cr, hr', rfl, h3, hc, hh⟩⟩ := he.last
    have tk : Takes (cxOf (L2.CX P w) P w K mg base ["self", "inflow", "past", "crew", "hours", "some", "fresh", "name", "one"] "Plant.__call__" (defScope (mS 7)) f cdv A outer s H E) (fun cls d _ H => E cls d H) := takes_of rfl rfl rfl rfl
    refine ⟨_, pss_cons (ps_expr (pe_c cI hr (pa_cons (pv 1) pa_nil)))
      (pss_cons (ps_asg (pe_ix ix_tup (pe_fld (pv 0) rfl) (pe_un un_neg pe_int) (fun _ _ => rfl)) (pg_tup rfl (pgs_cons (pg_name (i := 2) scCall.nd rfl (.inl rfl)) (pgs_cons (pg_name (i := 3) scCall.nd rfl (.inl rfl)) (pgs_cons (pg_name (i := 4) scCall.nd rfl (.inl rfl)) pgs_nil)))))
      (pss_cons (ps_asg (pe_tup (pa_cons (pe_c cR hr (pa_cons (pe_fld (pv 0) rfl) (pa_cons (pe_fld (pv 0) rfl) (pa_cons (pv 3) pa_nil)))) (pa_cons (pe_c cC hr (pa_cons (pe_fld (pv 0) rfl) (pa_cons (pe_fld (pv 0) rfl) (pa_cons (pv 3) (pa_cons (pv 1) pa_nil))))) pa_nil)))
        (pg_tup rfl (pgs_cons (pg_name (i := 5) scCall.nd rfl (.inr rfl)) (pgs_cons (pg_name (i := 6) scCall.nd rfl (.inl rfl)) pgs_nil))))
      (pss_cons (ps_if (pt_cmpR (op_inTD (u65 hr)) (pv 6) (pe_tup (pa_cons (pe_gi Cs.over) (pa_cons (pe_gi Cs.dry) pa_nil))) (by rfl)) (pss_one (ps_raise rfl tk (pmk_no hP Tn (hr.mono (by decide)) (by rfl)))) pss_nil)
      (pss_cons (ps_set (i := 4) scCall.nd rfl (.inl rfl) (pe_callTy call_tuple_of (by rfl) B.tuple (by decide +kernel) (pa_cons
        (pe_lc (own := [("name", 7), ("one", 8)]) (g := gTup K 2 (gCons (gName 7) (gCons (gName 8) gNil))) (tt := tYes) rfl scCall.nd
          (pi_enumT (by rfl) B.enumerate (pa_cons (pv 4) pa_nil))
          (blkOk_by (own := [("name", 7), ("one", 8)]) (N := ["self", "inflow", "past", "crew", "hours", "some", "fresh", "name", "one"]) (sc := defScope (mS 7)) (by decide +kernel))
          (fun _ _ _ _ _ => pg_tup rfl (pgs_cons (pg_name (i := 7) scCall.nd rfl (Or.inl rfl)) (pgs_cons (pg_name (i := 8) scCall.nd rfl (Or.inl rfl)) pgs_nil)))
          (fun _ _ _ _ _ => pts_nil)
          (fun _ _ _ _ _ => pe_op op_add (pv 8) (pe_callTy call_int1 (by rfl) B.int (by decide +kernel) (pa_cons (pe_cmpR (r := rIn K false) op_in_seq (pv 7) (pv 5) (by rfl)) pa_nil)))) pa_nil)))
      (pss_cons (ps_fld (pv 0) (pe_op op_catA (pe_fld (pv 0) rfl) (pe_tup (pa_cons (pe_tup (pa_cons (pv 1) (pa_cons (pv 6) (pa_cons (pv 4) pa_nil)))) pa_nil))) rfl)
      (pss_one (ps_ret (pe_callTy call_tuple_of (by rfl) B.tuple (by decide +kernel) (pa_cons (pv 5) pa_nil))))))))), ?_⟩
    refine ⟨_, rfl, iq, rfl, q1, q2, ?_⟩
    refine ⟨_, rfl, one, C, dx, _, _, rfl, h1, T.cl, T.nP, plF_p, 1, rfl, pp, _, _, _, rfl, rfl, seqT hp, atI_last _ _, r, _, rfl, seqT h3, rfl, _, _, rfl, _, _, rfl, _, _, rfl, rfl, ?_⟩
    refine ⟨_, rfl, one, C, dx, _, _, rfl, h1, T.cl, T.nW, plF_w, _, rfl, one, C, dx, _, _, rfl, h1, T.cl, T.nR, plF_r, _, rfl, wp, wl, t, cr, e.1, rfl, hw, okw, hc, oke, fun sm H1 s1 nsm hsm => ?_⟩
    have h11 := s1 _ _ h1
    refine ⟨_, rfl, one, C, dx, _, _, rfl, h11, T.cl, T.nW, plF_w, _, rfl, one, C, dx, _, _, rfl, h11, T.cl, T.nR, plF_r, _, rfl, _, rfl, wp, wl, t, cr, e.1, iq, rfl, hw.same s1, okw, hc.same s1, oke, fun fv H2 s2 hb => ?_⟩
    have hsm2 := s2 _ _ hsm
    refine ⟨Nat.le_of_lt (len_lt (m := 2) (Nat.le_refl 2) (by decide)), fun p2 np2 => ?_⟩
    have s3 : Same H2 (upd H2 p2 (.tup [.ref sm, fv])) := same_upd np2
    have hb3 : BeatV (upd H2 p2 (.tup [.ref sm, fv])) fv (beat wl t e.1 iq) := by
      match beat wl t e.1 iq, hb with
      | .inl true, hb => exact hb
      | .inl false, hb => exact hb
      | .inr d, ⟨r, ee, hcd⟩ => exact ⟨r, ee, hcd.same s3⟩
    have s03 := (s1.trans s2).trans s3
    have hsm3 := s3 _ _ hsm2
    refine ⟨p2, _, rfl, seqT upd_same, rfl, _, _, rfl, _, _, rfl, rfl, ?_⟩
    refine ⟨_, rfl, Nat.le_of_lt (len_lt (m := 2) (Nat.le_refl 2) (by decide)), in_words hb3 fun H4 s4 => ⟨_, rfl, ite2 (fun z => ?_) (fun z => ?_)⟩⟩
    · cases e2 : beat wl t e.1 iq with
      | inl b => exact qb b e2 H4 (s03.trans s4)
      | inr d =>
        rw [e2] at z
        exact absurd z Bool.false_ne_true
    · cases e2 : beat wl t e.1 iq with
      | inl b =>
        rw [e2] at z
        exact absurd rfl z
      | inr d =>
        rw [e2] at hb3
        obtain ⟨fr, rfl, hd3⟩ := hb3
        have s04 := s03.trans s4
        have hd4 := hd3.same s4
        have hsm4 := s4 _ _ hsm3
        have hh4 := hh.same s04
        have rl : (runs wl t e.1).length ≤ 6 := Nat.le_trans (List.length_filter_le _ _) (Nat.le_trans (Nat.le_of_eq List.length_range) oke.al2)
        refine ⟨_, rfl, ?_⟩
        refine ⟨hr', _, rfl, hh4.seq, fun D hD => lc_enumT (xs := e.2.map V.int) (fun i H' => Same H4 H' ∧ H' D = some (.lst (((List.range i).map fun k => e.2.getD k 0 + if k ∈ runs wl t e.1 then 1 else 0).map V.int))) ⟨same_upd hD, upd_same⟩ (fun i H' h => (hh4.same h.1).seq) ?_ ?_⟩
        · rintro i x T' H' hx ⟨sm', hD'⟩ nT
          obtain ⟨y, hy, rfl⟩ := map_get hx
          have hi : i < e.2.length := (List.getElem?_eq_some_iff.mp hy).1
          have sT : Same H' (upd H' T' (.tup [.int (i : Nat), .int y])) := same_upd nT
          refine ⟨T', _, rfl, seqT upd_same, rfl, _, _, rfl, _, _, rfl, rfl, rfl, yesT (iteT ?_)⟩
          refine ⟨_, rfl, _, rfl, _, rfl, sm, _, rfl, .inl (seqL ((sm'.trans sT) _ _ hsm4)), rfl, natsL_flat _, .inr ⟨_, rfl, _, _, rfl, rfl, ?_⟩⟩
          rw [show inV (V.int ((i : Nat) : Int)) (natsL (runs wl t e.1)) = decide (i ∈ runs wl t e.1) from inV_nats _ _]
          refine ⟨_, sT _ _ hD', ?_, upd_keep (sm'.trans sT) hD, ?_⟩
          · rw [List.length_map, List.length_map, List.length_range]
            exact len_lt (Nat.le_trans (Nat.le_of_lt hi) (by rw [hle]; exact oke.al2)) (by decide)
          · rw [upd_same, ← range_snoc, List.map_append, getD_of hy]
            have e6 : V.int (y + (if (if false = true then !decide (i ∈ runs wl t e.1) else decide (i ∈ runs wl t e.1)) = true then 1 else 0)) = V.int (y + if i ∈ runs wl t e.1 then 1 else 0) := by
              rw [if_neg Bool.false_ne_true]
              by_cases z6 : i ∈ runs wl t e.1
              · rw [if_pos z6, if_pos (decide_eq_true z6)]
              · rw [if_neg z6, if_neg (fun y => z6 (of_decide_eq_true y))]
            exact congrArg (fun z => some (HO.lst (_ ++ [z]))) e6
        · rintro H5 ⟨s5, hD5⟩
          rw [List.length_map] at hD5
          refine ⟨D, _, rfl, .inl ⟨seqL hD5, fun hn nhn => ?_⟩⟩
          have s6 : Same H5 (upd H5 hn (.tup ((hoursAfter (runs wl t e.1) e.2).map V.int))) := same_upd nhn
          have hh6 : IntsT (upd H5 hn (.tup ((hoursAfter (runs wl t e.1) e.2).map V.int))) hn (hoursAfter (runs wl t e.1) e.2) := upd_same
          show _
          generalize eH6 : upd H5 hn (.tup ((hoursAfter (runs wl t e.1) e.2).map V.int)) = H6 at s6 hh6
          have eH6' : upd H5 hn (.tup (((List.range e.2.length).map fun k => e.2.getD k 0 + if k ∈ runs wl t e.1 then 1 else 0).map V.int)) = H6 := eH6
          rw [eH6']
          have s06 := (s04.trans s5).trans s6
          refine ⟨_, rfl, one, C, dx, _, _, rfl, s06 _ _ h1, T.cl, T.nP, plF_p, _, rfl, _, rfl, _, rfl, Nat.le_of_lt (len_lt (m := 3) (Nat.le_refl 3) (by decide)), fun e1 n1 => ⟨Nat.le_of_lt (len_lt (m := 1) (Nat.le_refl 1) (by decide)), fun e3 n3 => ?_⟩⟩
          have s7 : Same H6 (upd H6 e1 (.tup [.int iq, .ref fr, .ref hn])) := same_upd n1
          have g7 : (upd H6 e1 (.tup [.int iq, .ref fr, .ref hn])) e1 = some (.tup [.int iq, .ref fr, .ref hn]) := upd_same
          generalize upd H6 e1 (.tup [.int iq, .ref fr, .ref hn]) = H7 at s7 g7 n3 ⊢
          have s8 : Same H7 (upd H7 e3 (.tup [.ref e1])) := same_upd n3
          have g8 : (upd H7 e3 (.tup [.ref e1])) e3 = some (.tup [.ref e1]) := upd_same
          generalize upd H7 e3 (.tup [.ref e1]) = H8 at s8 g8 ⊢
          have s08 := (s06.trans s7).trans s8
          refine ⟨pp, e3, _, _, rfl, rfl, seqT (s08 _ _ hp), seqT g8, ?_, fun z => absurd z (by simp), fun _ z => absurd z (by simp), fun _ _ np nnp => ?_⟩
          · have hl := he.1
            rw [hl, List.length_append]
            exact Nat.le_of_lt (len_lt (m := 1000) (show es.length + 1 + 1 ≤ 1000 by omega) (Nat.le_refl _))
          have s9 : Same H8 (upd H8 np (.tup (us ++ [.ref r] ++ [.ref e1]))) := same_upd nnp
          have g9 : (upd H8 np (.tup (us ++ [.ref r] ++ [.ref e1]))) np = some (.tup (us ++ [.ref r] ++ [.ref e1])) := upd_same
          generalize upd H8 np (.tup (us ++ [.ref r] ++ [.ref e1])) = H9 at s9 g9 ⊢
          have s09 := s08.trans s9
          refine ⟨_, rfl, one, C, dx, _, rfl, s09 _ _ h1, T.cl, T.nP, (by show 3 < 1000; decide), ?_⟩
          have t10 : SamX one H9 (upd H9 one (.ins C dx (plF wp t np))) := SamX.upd
          have g10 : (upd H9 one (.ins C dx (plF wp t np))) one = some (.ins C dx (plF wp t np)) := upd_same
          show _
          rw [show putF "own_past" (V.ref np) (plF wp t pp) = plF wp t np from rfl]
          have tt := t10.tup (s09 _ _ h1)
          have ne : sm ≠ one := fun z => by
            have a1 := s1 _ _ h1
            rw [← z, hsm] at a1
            cases a1
          have hsm10 := t10 _ _ ne (s9 _ _ (s8 _ _ (s7 _ _ (s6 _ _ (s5 _ _ hsm4)))))
          generalize upd H9 one (.ins C dx (plF wp t np)) = H10 at t10 g10 tt hsm10 ⊢
          refine ⟨_, rfl, sm, _, rfl, .inl ⟨seqL hsm10, fun l nl => ?_⟩⟩
          have s11 : Same H10 (upd H10 l (.tup (natsL (runs wl t e.1)))) := same_upd nl
          refine qa d e2 l _ (((SamX.of s09).trans t10).trans (SamX.of s11)) ⟨dx, wp, np, _, s11 _ _ g10, ((hw.same s09).keep tt).same s11, s11 _ _ (tt _ _ g9), ?_⟩ upd_same
          refine Ents.snoc (he.imp fun _ _ h => ((h.same s09).keep tt).same s11) ?_
          have s79 := (s7.trans s8).trans s9
          exact ⟨e1, .int iq, fr, hn, rfl, s11 _ _ (tt _ _ (s9 _ _ (s8 _ _ g7))), ((hd4.same ((s5.trans s6).trans s79)).keep tt).same s11, ((hh6.same s79).keep tt).same s11⟩
end
end Kx
/-! The law's draws. -/
namespace Kx
open PySem PySem.Spec PyProof.Rows L2 Pm
def drK (c l : Addr) (k : Int) : List (Key × V) := [(.inr "cells", .ref c), (.inr "left", .ref l), (.inr "at", .int k)]
theorem drK_c (c l : Addr) (k : Int) : valV (drK c l k) (.inr "cells" : Key) = some (.ref c) := rfl
theorem drK_l (c l : Addr) (k : Int) : valV (drK c l k) (.inr "left" : Key) = some (.ref l) := rfl
theorem drK_a (c l : Addr) (k : Int) : valV (drK c l k) (.inr "at" : Key) = some (.int k) := rfl
theorem drK_pl (c l m : Addr) (k : Int) : putK (drK c l k) (.inr "left" : Key) (.ref m) = drK c m k := rfl
theorem drK_pa (c l : Addr) (k j : Int) : putK (drK c l k) (.inr "at" : Key) (.int j) = drK c l j := rfl
structure DrX (H : Hp) (md c l : Addr) (k : Int) (cs ls : List Int) : Prop where
  at_ : H md = some (.dK (drK c l k))
  ne : c ≠ l
  hc : H c = some (.lst (cs.map V.int))
  hl : H l = some (.lst (ls.map V.int))
  cz : cs.length ≤ 63
  lz : ls.length ≤ 63
def Dr (H : Hp) (md : Addr) (n : Nat) : Prop := ∃ c l k cs ls, DrX H md c l k cs ls ∧ 0 ≤ k ∧ k ≤ (n : Int)
def Off (H : Hp) (md b : Addr) : Prop := b ≠ md ∧ ∀ c l k, H md = some (.dK (drK c l k)) → b ≠ l ∧ b ≠ c
def DFr (md : Addr) (H H' : Hp) : Prop := ∀ b o, H b = some o → Off H md b → H' b = some o ∧ Off H' md b
theorem DFr.refl {md : Addr} {H : Hp} : DFr md H H := fun _ _ e o => ⟨e, o⟩
theorem DFr.trans {md : Addr} {H H' H'' : Hp} (s : DFr md H H') (t : DFr md H' H'') : DFr md H H'' := fun b o e f => by
  obtain ⟨e1, f1⟩ := s b o e f
  exact t b o e1 f1
theorem drK_inj {c l c' l' : Addr} {k k' : Int} (h : drK c l k = drK c' l' k') : l = l' ∧ c = c' := by
  unfold drK at h
  injection h with h0 h
  injection h with h _
  injection h with _ h
  injection h0 with _ h0
  injection h with h
  injection h0 with h0
  exact ⟨h, h0⟩
theorem DrX.off {H : Hp} {md c l : Addr} {k : Int} {cs ls : List Int} (D : DrX H md c l k cs ls) {b : Addr} (h1 : b ≠ md) (h2 : b ≠ l) (h3 : b ≠ c) : Off H md b := ⟨h1, fun c' l' k' e => by
  rw [D.at_] at e
  obtain ⟨e1, e2⟩ := drK_inj (HO.dK.inj (Option.some.inj e))
  rw [← e1, ← e2]
  exact ⟨h2, h3⟩⟩
theorem DrX.out {H : Hp} {md c l : Addr} {k : Int} {cs ls : List Int} (D : DrX H md c l k cs ls) {b : Addr} (o : Off H md b) : b ≠ md ∧ b ≠ l ∧ b ≠ c := ⟨o.1, o.2 _ _ _ D.at_⟩
theorem DrX.fr {H H' : Hp} {md c l l' : Addr} {k k' : Int} {cs ls cs' ls' : List Int} (D : DrX H md c l k cs ls) (D' : DrX H' md c l' k' cs' ls') (keep : ∀ b o, b ≠ md → b ≠ l → H b = some o → H' b = some o) (hl : l' = l ∨ H l' = none) : DFr md H H' := fun b o e f => by
  obtain ⟨f1, f2, f3⟩ := D.out f
  refine ⟨keep b o f1 f2 e, D'.off f1 ?_ f3⟩
  rcases hl with h | h
  · rw [h]
    exact f2
  · exact ne_of_none e h
theorem DrX.same {H H' : Hp} {md c l : Addr} {k : Int} {cs ls : List Int} (D : DrX H md c l k cs ls) (s : Same H H') : DrX H' md c l k cs ls := ⟨s _ _ D.at_, D.ne, s _ _ D.hc, s _ _ D.hl, D.cz, D.lz⟩
theorem Dr.same {H H' : Hp} {md : Addr} {n : Nat} (D : Dr H md n) (s : Same H H') : Dr H' md n := by
  obtain ⟨c, l, k, cs, ls, D, h1, h2⟩ := D
  exact ⟨c, l, k, cs, ls, D.same s, h1, h2⟩
theorem Dr.fr {H H' : Hp} {md : Addr} {n : Nat} (D : Dr H md n) (s : Same H H') : DFr md H H' := by
  obtain ⟨c, l, k, cs, ls, D, h1, h2⟩ := D
  exact D.fr (D.same s) (fun b o _ _ e => s b o e) (.inl rfl)
theorem Dr.mono {H : Hp} {md : Addr} {n m : Nat} (D : Dr H md n) (h : n ≤ m) : Dr H md m := by
  obtain ⟨c, l, k, cs, ls, D, h1, h2⟩ := D
  exact ⟨c, l, k, cs, ls, D, h1, by omega⟩
/-- what stands and is no list and no dict of keys -/
theorem Dr.off {H : Hp} {md b : Addr} {n : Nat} {o : HO} (D : Dr H md n) (e : H b = some o) (h1 : ∀ xs, o ≠ .lst xs) (h2 : ∀ ks, o ≠ .dK ks) : Off H md b := by
  obtain ⟨c, l, k, cs, ls, D, _, _⟩ := D
  refine D.off (fun z => ?_) (fun z => ?_) (fun z => ?_)
  · rw [z, D.at_] at e
    exact h2 _ (Option.some.inj e).symm
  · rw [z, D.hl] at e
    exact h1 _ (Option.some.inj e).symm
  · rw [z, D.hc] at e
    exact h1 _ (Option.some.inj e).symm
theorem Dr.offT {H : Hp} {md b : Addr} {n : Nat} {xs : List V} (D : Dr H md n) (e : H b = some (.tup xs)) : Off H md b := D.off e (fun _ z => by cases z) (fun _ z => by cases z)
theorem Dr.offI {H : Hp} {md b : Addr} {n : Nat} {C dx : Addr} {fs : List (Str × V)} (D : Dr H md n) (e : H b = some (.ins C dx fs)) : Off H md b := D.off e (fun _ z => by cases z) (fun _ z => by cases z)
theorem Dr.offN {H H' : Hp} {md b : Addr} {n : Nat} (D : Dr H md n) (s : Same H H') (e : H b = none) : Off H' md b := by
  obtain ⟨c, l, k, cs, ls, D, _, _⟩ := D
  exact (D.same s).off (fun z => by rw [z, D.at_] at e; cases e) (fun z => by rw [z, D.hl] at e; cases e) (fun z => by rw [z, D.hc] at e; cases e)
theorem DFr.tup {md : Addr} {H H' : Hp} {n : Nat} (s : DFr md H H') (D : Dr H md n) : SameT H H' := fun b xs e => (s b _ e (D.offT e)).1
/-- a plant's own change -/
theorem Dr.samX {H H' : Hp} {md one : Addr} {n : Nat} {C dx : Addr} {fs : List (Str × V)} (D : Dr H md n) (s : SamX one H H') (e : H one = some (.ins C dx fs)) : Dr H' md n ∧ ∀ b o, b ≠ one → H b = some o → Off H md b → H' b = some o ∧ Off H' md b := by
  obtain ⟨c, l, k, cs, ls, D, h1, h2⟩ := D
  have n1 : md ≠ one := fun z => by rw [← z, D.at_] at e; cases e
  have n2 : c ≠ one := fun z => by rw [← z, D.hc] at e; cases e
  have n3 : l ≠ one := fun z => by rw [← z, D.hl] at e; cases e
  have D' : DrX H' md c l k cs ls := ⟨s _ _ n1 D.at_, D.ne, s _ _ n2 D.hc, s _ _ n3 D.hl, D.cz, D.lz⟩
  refine ⟨⟨c, l, k, cs, ls, D', h1, h2⟩, fun b o nb e f => ⟨s b o nb e, ?_⟩⟩
  obtain ⟨f1, f2, f3⟩ := D.out f
  exact D'.off f1 f2 f3
/-- another object changed in its place -/
theorem Dr.upd_off {H Hc : Hp} {md b : Addr} {n : Nat} {o : HO} (D : Dr H md n) (f : Off H md b) (hb : Hc b = none) (s : DFr md Hc H) : Dr (upd H b o) md n ∧ DFr md Hc (upd H b o) ∧ Off (upd H b o) md b := by
  obtain ⟨c, l, k, cs, ls, D, h1, h2⟩ := D
  obtain ⟨f1, f2, f3⟩ := D.out f
  have D' : DrX (upd H b o) md c l k cs ls := ⟨(upd_ne (Ne.symm f1)).trans D.at_, D.ne, (upd_ne (Ne.symm f3)).trans D.hc, (upd_ne (Ne.symm f2)).trans D.hl, D.cz, D.lz⟩
  refine ⟨⟨c, l, k, cs, ls, D', h1, h2⟩, fun a x e g => ?_, D'.off f1 f2 f3⟩
  obtain ⟨e1, g1⟩ := s a x e g
  obtain ⟨g1, g2, g3⟩ := D.out g1
  exact ⟨(upd_ne (ne_of_none e hb)).trans e1, D'.off g1 g2 g3⟩
theorem dgC {H : Hp} {md c l : Addr} {k : Int} (h : H md = some (.dK (drK c l k))) : DGet H md (.str "cells") (some (.ref c)) := DGet.k (k := .inr "cells") h
theorem dgL {H : Hp} {md c l : Addr} {k : Int} (h : H md = some (.dK (drK c l k))) : DGet H md (.str "left") (some (.ref l)) := DGet.k (k := .inr "left") h
theorem dgA {H : Hp} {md c l : Addr} {k : Int} (h : H md = some (.dK (drK c l k))) : DGet H md (.str "at") (some (.int k)) := DGet.k (k := .inr "at") h
theorem dpL {H : Hp} {md c l m : Addr} {k : Int} (h : H md = some (.dK (drK c l k))) : DPut H md (.str "left") (.ref m) (upd H md (.dK (drK c m k))) := DPut.k (k := .inr "left") h (len_lt (m := 3) (Nat.le_refl 3) (by decide))
theorem dpA {H : Hp} {md c l : Addr} {k j : Int} (h : H md = some (.dK (drK c l k))) : DPut H md (.str "at") (.int j) (upd H md (.dK (drK c l j))) := DPut.k (k := .inr "at") h (len_lt (m := 3) (Nat.le_refl 3) (by decide))
/-- the list of the left cells exchanged -/
theorem DrX.put {H : Hp} {md c l m : Addr} {k : Int} {cs ls ms : List Int} (D : DrX H md c l k cs ls) (hm : H m = none) (hz : ms.length ≤ 63) : DrX (upd (upd H m (.lst (ms.map V.int))) md (.dK (drK c m k))) md c m k cs ms := by
  have n1 : c ≠ md := fun z => by
    have := D.hc
    rw [z, D.at_] at this
    cases this
  have n2 : c ≠ m := ne_of_none D.hc hm
  have n3 : m ≠ md := fun z => by
    rw [z, D.at_] at hm
    cases hm
  refine ⟨upd_same, n2, ?_, ?_, D.cz, hz⟩
  · rw [upd_ne n1, upd_ne n2]
    exact D.hc
  · rw [upd_ne n3, upd_same]
theorem DrX.put_fr {H : Hp} {md c l m : Addr} {k : Int} {cs ls ms : List Int} (D : DrX H md c l k cs ls) (hm : H m = none) (hz : ms.length ≤ 63) : DFr md H (upd (upd H m (.lst (ms.map V.int))) md (.dK (drK c m k))) :=
  D.fr (D.put hm hz) (fun b o n1 _ e => by
    rw [upd_ne n1, upd_ne (ne_of_none e hm)]
    exact e) (.inr hm)
/-- the first left cell made smaller -/
theorem DrX.set {H : Hp} {md c l : Addr} {k : Int} {cs ls ms : List Int} (D : DrX H md c l k cs ls) (hz : ms.length ≤ 63) : DrX (upd H l (.lst (ms.map V.int))) md c l k cs ms := by
  have n1 : md ≠ l := fun z => by
    have := D.hl
    rw [← z, D.at_] at this
    cases this
  refine ⟨?_, D.ne, ?_, upd_same, D.cz, hz⟩
  · rw [upd_ne n1]
    exact D.at_
  · rw [upd_ne D.ne]
    exact D.hc
theorem DrX.set_fr {H : Hp} {md c l : Addr} {k : Int} {cs ls ms : List Int} (D : DrX H md c l k cs ls) (hz : ms.length ≤ 63) : DFr md H (upd H l (.lst (ms.map V.int))) :=
  D.fr (D.set hz) (fun b o _ n2 e => by
    rw [upd_ne n2]
    exact e) (.inl rfl)
theorem DrX.step {H : Hp} {md c l : Addr} {k j : Int} {cs ls : List Int} (D : DrX H md c l k cs ls) : DrX (upd H md (.dK (drK c l j))) md c l j cs ls := by
  have n1 : c ≠ md := fun z => by
    have := D.hc
    rw [z, D.at_] at this
    cases this
  have n2 : l ≠ md := fun z => by
    have := D.hl
    rw [z, D.at_] at this
    cases this
  refine ⟨upd_same, D.ne, ?_, ?_, D.cz, D.lz⟩
  · rw [upd_ne n1]
    exact D.hc
  · rw [upd_ne n2]
    exact D.hl
theorem DrX.step_fr {H : Hp} {md c l : Addr} {k j : Int} {cs ls : List Int} (D : DrX H md c l k cs ls) : DFr md H (upd H md (.dK (drK c l j))) :=
  D.fr (D.step (j := j)) (fun b o n1 _ e => by
    rw [upd_ne n1]
    exact e) (.inl rfl)
section
variable {P : Program} {w : World} {K : PySem.W.Frag} {mg : Str → Option Value} {base : Heap}
theorem u1 {k : Nat} {A : Around} (hr : Room k A) : A.units + 1 < cLine := by
  have := hr.un
  omega
theorem ix0 {n : Nat} (h : 0 < n) : ixN n 0 = some 0 := by
  unfold ixN
  rw [if_pos (by decide), if_pos (by omega)]
  rfl
/-! ### one draw -/
def spNext : Sp := fun vs H Q _ => ∃ md total n, vs = [.ref md, .int total] ∧ Dr H md n ∧ n ≤ 1000000 ∧ 1 ≤ total ∧ total ≤ 1000 ∧ ∀ r H', 0 ≤ r → r < total → DFr md H H' → Dr H' md (n + 1) → Q (.int r) H'
theorem scNext : FnScope ["_law_m", "_law_total", "_law_rest", "_law_k", "_law_cell", "_law_mixed"] ["_law_m", "_law_total"] (defScope (topS 38)) := ⟨rfl, rfl, rfl, by decide +kernel, rfl, by decide +kernel, by decide +kernel⟩
theorem ok_next {f : Addr} {fd : FuncData} (D : Df K mg "_law_next" (topS 38) ["_law_m", "_law_total"] f fd) (B : Blt mg) : Cal P w K mg base 1 "_law_next" spNext := by
  refine D.cal (D.fn.ok scNext (fun vs H Q E h => ?_) (fun cdv A outer s H vs Q E hr h => ?_))
  · obtain ⟨md, total, n, rfl, _⟩ := h
    rfl
  · obtain ⟨md, total, n, rfl, ⟨c, l, k, cs, ls, Dx, k1, k2⟩, hn, t1, t2, q⟩ := h
    have hu := u1 hr
    refine ⟨_, C8.pss_cut (ps_while PassesOwn.never (PW.pt (pw_and (pt_cmpR (op_neE hr.units) (pe_dget hu (pv 0) pe_str (fun _ _ => rfl)) (pe_lst pa_nil) (nomark _)) (pw_and1 (pt_cmpR op_eq (pe_ix ix_list (pe_dget hu (pv 0) pe_str (fun _ _ => rfl)) pe_int (fun _ _ => rfl)) pe_int (nomark _)))))
        (pss_one (ps_dput hu (pv 0) pe_str (pe_slice sl_list (pe_dget hu (pv 0) pe_str (fun _ _ => rfl)) (po_some pe_int) po_none) rfl)))
      (pss_cons (ps_if (pt_cmpR (op_neE hr.units) (pe_dget hu (pv 0) pe_str (fun _ _ => rfl)) (pe_lst pa_nil) (nomark _))
        (pss_cons (ps_set (i := 2) scNext.nd rfl (.inl rfl) (pe_callTy call_int1 (by rfl) B.int (by decide +kernel) (pa_cons (pe_ix ix_list (pe_dget hu (pv 0) pe_str (fun _ _ => rfl)) pe_int (fun _ _ => rfl)) pa_nil)))
          (pss_cons (ps_asg (pe_op op_fdiv (pv 2) (pv 1)) (pg_sub (pe_dget hu (pv 0) pe_str (fun _ _ => rfl)) pe_int set_list))
          (pss_one (ps_ret (pe_op op_mod (pv 2) (pv 1)))))) pss_nil)
      (pss_cons (ps_set (i := 3) scNext.nd rfl (.inl rfl) (pe_op op_add (pe_dget hu (pv 0) pe_str (fun _ _ => rfl)) pe_int))
      (pss_cons (ps_dput hu (pv 0) pe_str (pv 3) rfl)
      (C8.pss_cut (ps_set (i := 4) scNext.nd rfl (.inl rfl) (pe_ifExp (pt_cmpR (op_neE hr.units) (pe_dget hu (pv 0) pe_str (fun _ _ => rfl)) (pe_lst pa_nil) (nomark _))
        (pe_ix ix_list (pe_dget hu (pv 0) pe_str (fun _ _ => rfl)) (pe_op op_mod (pe_callTy call_int1 (by rfl) B.int (by decide +kernel) (pa_cons (pv 3) pa_nil)) (pe_callB call_lenS (by rfl) B.len (by decide +kernel) (pa_cons (pe_dget hu (pv 0) pe_str (fun _ _ => rfl)) pa_nil))) (fun _ _ => rfl)) pe_int))
      (pss_cons (ps_set (i := 5) scNext.nd rfl (.inl rfl) (pe_op op_mul (pe_callTy call_int1 (by rfl) B.int (by decide +kernel) (pa_cons (pe_op op_add (pe_op op_add (pe_op op_mod (pe_callTy call_int1 (by rfl) B.int (by decide +kernel) (pa_cons (pv 4) pa_nil)) pe_int) (pe_op op_mul pe_int (pv 3))) (pe_op op_mul (pe_op op_mul pe_int (pv 3)) (pv 3))) pa_nil)) pe_int))
      (pss_cons (ps_set (i := 5) scNext.nd rfl (.inl rfl) (pe_op op_mul (pe_callTy call_int1 (by rfl) B.int (by decide +kernel) (pa_cons (pe_op op_add (pe_op op_mod (pe_callTy call_int1 (by rfl) B.int (by decide +kernel) (pa_cons (pv 5) pa_nil)) pe_int) (pe_op op_mul pe_int (pv 3))) pa_nil)) pe_int))
      (pss_one (ps_ret (pe_op op_mod (pe_callTy call_int1 (by rfl) B.int (by decide +kernel) (pa_cons (pe_op op_fdiv (pe_op op_mod (pe_callTy call_int1 (by rfl) B.int (by decide +kernel) (pa_cons (pv 5) pa_nil)) pe_int) pe_int) pa_nil)) (pv 1)))))))))), ?_⟩
    refine ⟨fun σ' H' => σ' = ([some (.ref md), some (.int total), none, none, none, none] : L2.St) ∧ ∃ l ls, DrX H' md c l k cs ls ∧ DFr md H H', ?_, ?_⟩
    · refine ⟨fun m σ' H' => σ' = ([some (.ref md), some (.int total), none, none, none, none] : L2.St) ∧ ∃ l ls, ls.length = m ∧ DrX H' md c l k cs ls ∧ DFr md H H', ⟨ls.length, rfl, l, ls, rfl, Dx, DFr.refl⟩, ?_⟩
      rintro m σ' H' ⟨rfl, l, ls, hm, D1, f1⟩
      refine ⟨_, rfl, md, _, rfl, dgL D1.at_, Nat.zero_le _, fun em nem => ?_⟩
      have s2 : Same H' (upd H' em (.lst [])) := same_upd nem
      have D2 := D1.same s2
      have f2 := f1.trans (D1.fr D2 (fun b o _ _ e => s2 b o e) (.inl rfl))
      refine ⟨l, em, ls, rfl, rfl, seqL D2.hl, seqL upd_same, _, rfl, ite2 (fun z => ?_) (fun z => ?_)⟩
      · have z := of_decide_eq_true z
        cases ls with
        | nil => exact absurd rfl z
        | cons y r =>
          refine ⟨_, rfl, md, _, rfl, dgL D2.at_, l, _, _, .int y, rfl, rfl, seqL D2.hl, int_at (ns := y :: r) (k := 0) rfl, rfl, _, rfl, ite2 (fun z2 => ?_) (fun z2 => ?_)⟩
          · refine ⟨fun σ' H' => σ' = ([some (.ref md), some (.int total), none, none, none, none] : L2.St) ∧ ∃ l ls, ls.length = r.length ∧ DrX H' md c l k cs ls ∧ DFr md H H', fun σ' H' h => ⟨r.length, by rw [← hm]; exact Nat.lt_succ_self _, h⟩, ?_⟩
            refine ⟨_, rfl, md, _, rfl, dgL D2.at_, 1, rfl, ?_⟩
            delta tNoPart
            refine ⟨l, _, rfl, seqL D2.hl, fun p np => ?_⟩
            have er : cutV ((y :: r).map V.int) (some 1) none = r.map V.int := cut_tail _
            rw [er]
            have hz : r.length ≤ 63 := Nat.le_of_succ_le D2.lz
            refine ⟨_, rfl, md, _, rfl, dpL (same_upd np _ _ D2.at_), rfl, p, r, rfl, D2.put np hz, f2.trans (D2.put_fr np hz)⟩
          · exact ⟨rfl, l, _, D2, f2⟩
      · exact iteF ⟨rfl, l, ls, D2, f2⟩
    · rintro σ1 H1 ⟨rfl, l1, ls1, D1, f1⟩
      refine ⟨_, rfl, md, _, rfl, dgL D1.at_, Nat.zero_le _, fun em nem => ?_⟩
      have s2 : Same H1 (upd H1 em (.lst [])) := same_upd nem
      have D2 := D1.same s2
      have f2 := f1.trans (D1.fr D2 (fun b o _ _ e => s2 b o e) (.inl rfl))
      have gem : (upd H1 em (.lst [])) em = some (.lst []) := upd_same
      generalize upd H1 em (.lst []) = H2 at s2 D2 f2 gem ⊢
      refine ⟨l1, em, ls1, rfl, rfl, seqL D2.hl, seqL gem, _, rfl, ite2 (fun z => ?_) (fun z => ?_)⟩
      · have z := of_decide_eq_true z
        cases ls1 with
        | nil => exact absurd rfl z
        | cons y r =>
          refine ⟨_, rfl, md, _, rfl, dgL D2.at_, l1, _, _, .int y, rfl, rfl, seqL D2.hl, int_at (ns := y :: r) (k := 0) rfl, .inl ⟨y, rfl, ?_⟩⟩
          refine ⟨_, rfl, _, rfl, y, total, rfl, rfl, ⟨by omega, by omega⟩, _, rfl, md, _, rfl, dgL D2.at_, l1, _, 0, 0, rfl, rfl, D2.hl, ix0 (Nat.succ_pos _), ?_⟩
          have hz : (y / total :: r).length ≤ 63 := D2.lz
          have D3 := D2.set hz
          have f3 := f2.trans (D2.set_fr hz)
          exact ⟨_, rfl, _, rfl, y, total, rfl, rfl, by omega, q _ _ (Int.emod_nonneg _ (by omega)) (Int.emod_lt_of_pos _ (by omega)) f3 ⟨c, l1, k, cs, _, D3, k1, by omega⟩⟩
      · refine ⟨_, rfl, md, _, rfl, dgA D2.at_, k, 1, rfl, rfl, ?_⟩
        have D3 := D2.step (j := k + 1)
        have f3 := f2.trans (D2.step_fr (j := k + 1))
        refine ⟨_, rfl, _, rfl, md, _, rfl, dpA D2.at_, ?_⟩
        generalize upd H2 md (.dK (drK c l1 (k + 1))) = H3 at D3 f3 ⊢
        refine ⟨fun σ' H' => (∃ ce : Int, σ' = ([some (.ref md), some (.int total), none, some (.int (k + 1)), some (.int ce), none] : L2.St)) ∧ DrX H' md c l1 (k + 1) cs ls1 ∧ DFr md H H', ?_, ?_⟩
        · refine ⟨_, rfl, md, _, rfl, dgC D3.at_, Nat.zero_le _, fun em2 nem2 => ?_⟩
          have s4 : Same H3 (upd H3 em2 (.lst [])) := same_upd nem2
          have D4 := D3.same s4
          have f4 := f3.trans (D3.fr D4 (fun b o _ _ e => s4 b o e) (.inl rfl))
          have gem2 : (upd H3 em2 (.lst [])) em2 = some (.lst []) := upd_same
          generalize upd H3 em2 (.lst []) = H4 at s4 D4 f4 gem2 ⊢
          refine ⟨c, em2, cs, rfl, rfl, seqL D4.hc, seqL gem2, _, rfl, ite2 (fun z => ?_) (fun z => ?_)⟩
          · have z := of_decide_eq_true z
            have hc0 : 0 < cs.length := List.length_pos_iff.mpr z
            have hm0 : 0 ≤ (k + 1) % (cs.length : Int) := Int.emod_nonneg _ (by omega)
            have hm1 : (k + 1) % (cs.length : Int) < (cs.length : Int) := Int.emod_lt_of_pos _ (by omega)
            have hi : ((k + 1) % (cs.length : Int)).toNat < cs.length := by omega
            refine ⟨_, rfl, md, _, rfl, dgC D4.at_, _, rfl, .inl ⟨_, rfl, _, rfl, md, _, rfl, dgC D4.at_, c, _, rfl, .inl (seqL D4.hc), _, _, rfl, rfl, ?_, c, _, _, .int (cs.getD ((k + 1) % (cs.length : Int)).toNat 0), rfl, rfl, seqL D4.hc, ?_, ⟨_, rfl⟩, D4, f4⟩⟩
            · rw [List.length_map]
              omega
            · rw [List.length_map]
              have ei : (k + 1) % (cs.length : Int) = (((k + 1) % (cs.length : Int)).toNat : Int) := by omega
              rw [ei]
              exact int_atD hi
          · exact ⟨⟨3, rfl⟩, D4, f4⟩
        · rintro σ5 H5 ⟨⟨ce, rfl⟩, D5, f5⟩
          have b1 : -(2 ^ 64) < k + 1 := by omega
          have b2 : k + 1 < 2 ^ 64 := by omega
          generalize hj : k + 1 = j at b1 b2 D5 ⊢
          refine ⟨_, rfl, .inl ⟨ce, rfl, _, _, rfl, rfl, (by decide : (0 : Int) < 2147483629), _, rfl, _, _, rfl, rfl, .inr ⟨b1, b2⟩, _, _, rfl, rfl, _, rfl, _, _, rfl, rfl, .inr ⟨b1, b2⟩, _, rfl, _, _, rfl, rfl, .inr ⟨b1, b2⟩, _, _, rfl, rfl, .inl ⟨_, rfl, _, _, rfl, rfl, .inr ⟨by decide, by decide⟩, ?_⟩⟩⟩
          refine ⟨_, rfl, .inl ⟨_, rfl, _, _, rfl, rfl, (by decide : (0 : Int) < 2147483647), _, rfl, _, _, rfl, rfl, .inr ⟨b1, b2⟩, _, _, rfl, rfl, .inl ⟨_, rfl, _, _, rfl, rfl, .inr ⟨by decide, by decide⟩, ?_⟩⟩⟩
          refine ⟨_, rfl, .inl ⟨_, rfl, _, _, rfl, rfl, (by decide : (0 : Int) < 2147483587), _, _, rfl, rfl, ⟨(by decide : (0 : Int) < 11), (by decide : (11 : Int) < 1073741824)⟩, .inl ⟨_, rfl, _, rfl, _, total, rfl, rfl, by omega, ?_⟩⟩⟩
          exact q _ _ (Int.emod_nonneg _ (by omega)) (Int.emod_lt_of_pos _ (by omega)) f5 ⟨c, l1, j, cs, ls1, D5, by omega, by omega⟩
end
end Kx
/-! The draws' begin; wells and crews drawn. -/
namespace Kx
open PySem PySem.Spec PyProof.Rows L2 Pm
section
variable {P : Program} {w : World} {K : PySem.W.Frag} {mg : Str → Option Value} {base : Heap}
def spBegun (K : PySem.W.Frag) : Sp := fun vs H Q _ => ∃ (a : Addr) (ns : List Int), vs = [.ref a] ∧ SqL K H a (ns.map V.int) ∧ ns.length ≤ 63 ∧ ∀ md H', Same H H' → Dr H' md 0 → Q (.ref md) H'
theorem scBegun : FnScope ["_law_script", "_law_cell"] ["_law_script"] (defScope (topS 37)) := ⟨rfl, rfl, rfl, by decide +kernel, rfl, by decide +kernel, by decide +kernel⟩
theorem ok_begun {f : Addr} {fd : FuncData} (D : Df K mg "_law_begun" (topS 37) ["_law_script"] f fd) (B : Blt mg) : Cal P w K mg base 1 "_law_begun" (spBegun K) := by
  refine D.cal (D.fn.ok scBegun (fun vs H Q E h => ?_) (fun cdv A outer s H vs Q E hr h => ?_))
  · obtain ⟨a, ns, rfl, _⟩ := h
    rfl
  · obtain ⟨a, ns, rfl, hS, hz, q⟩ := h
    refine ⟨_, pss_one (ps_ret (pe_disp (pps_cons pe_str (pe_callTy call_list_of (by rfl) B.list (by decide +kernel) (pa_cons (pv 0) pa_nil))
      (pps_cons pe_str (pe_lc (own := [("_law_cell", 1)]) (g := gName 1) rfl scBegun.nd (pi_list (pv 0)) (blkOk_by (own := [("_law_cell", 1)]) (N := ["_law_script", "_law_cell"]) (sc := defScope (topS 37)) (by decide +kernel))
          (fun _ _ _ _ _ => pg_name (i := 1) scBegun.nd rfl (Or.inl rfl))
          (fun _ _ _ _ _ => pts_one (pt_cmpR op_ge (pv 1) (pe_op op_pow pe_int pe_int) (nomark _)))
          (fun _ _ _ _ _ => pv 1))
        (pps_cons pe_str pe_int pps_nil))) rfl rfl (by decide) (by decide))), ?_⟩
    intro md nmd
    have s1 : Same H (upd H md (.dK [])) := same_upd nmd
    have g1 : (upd H md (.dK [])) md = some (.dK []) := upd_same
    generalize upd H md (.dK []) = H1 at s1 g1 ⊢
    refine ⟨_, rfl, a, _, rfl, .inl (s1.seq hS), fun c nc => ?_⟩
    have s2 : Same H1 (upd H1 c (.lst (ns.map V.int))) := same_upd nc
    have g2 : (upd H1 c (.lst (ns.map V.int))) c = some (.lst (ns.map V.int)) := upd_same
    generalize upd H1 c (.lst (ns.map V.int)) = H2 at s2 g2 ⊢
    have s02 := s1.trans s2
    refine ⟨_, rfl, a, rfl, ⟨_, s02.seq hS⟩, fun l nl => lc_list (xs := ns.map V.int) (fun i H' => Same H2 H' ∧ H' l = some (.lst (((ns.take i).filter fun x => decide (1000000000000000000 ≤ x)).map V.int))) ⟨same_upd nl, upd_same⟩ (fun i H' _ h => (s02.trans h.1).seq hS) ?_ ?_⟩
    · rintro i x H' hx ⟨sm, hD'⟩
      obtain ⟨y, hy, rfl⟩ := map_get hx
      refine ⟨rfl, _, rfl, _, _, rfl, rfl, ⟨by decide, by decide, by decide⟩, _, _, rfl, rfl, _, rfl, ?_⟩
      show (if decide (1000000000000000000 ≤ y) = true then _ else _)
      refine ite2 (fun h1 => ?_) (fun h1 => ?_)
      · refine ⟨_, rfl, _, hD', ?_, upd_keep sm nl, ?_⟩
        · rw [List.length_map]
          exact len_lt (Nat.le_trans (List.length_filter_le _ _) (Nat.le_trans (List.length_take_le' _ _) hz)) (by decide)
        · rw [upd_same, filt_snoc hy, if_pos h1, List.map_append]
          rfl
      · refine ⟨sm, ?_⟩
        rw [filt_snoc hy, if_neg h1, List.append_nil]
        exact hD'
    · rintro H3 ⟨s3, g3⟩
      rw [List.length_map, List.take_length] at g3
      have g13 := s3 _ _ (s2 _ _ g1)
      refine ⟨g13, [(.inr "cells", .ref c), (.inr "left", .ref l), (.inr "at", .int 0)], rfl, (show 3 ≤ 15 by decide), ?_⟩
      show Q (.ref md) (upd H3 md (.dK (drK c l 0)))
      have s03 := s02.trans s3
      have n1 : c ≠ md := fun z => by
        rw [z] at g2
        rw [s2 _ _ g1] at g2
        cases g2
      have n2 : l ≠ md := fun z => by
        rw [z, g13] at g3
        cases g3
      have n3 : c ≠ l := ne_of_none g2 nl
      refine q md _ (upd_keep s03 nmd) ⟨c, l, 0, ns, ns.filter fun x => decide (1000000000000000000 ≤ x), ⟨upd_same, n3, ?_, ?_, hz, Nat.le_trans (List.length_filter_le _ _) hz⟩, by decide, by decide⟩
      · rw [upd_ne n1]
        exact s3 _ _ g2
      · rw [upd_ne n2]
        exact g3
/-! ### a drawn well -/
def spWell : Sp := fun vs H Q _ => ∃ md n, vs = [.ref md, .int 8] ∧ Dr H md n ∧ n ≤ 999000 ∧ ∀ p w H', DFr md H H' → Dr H' md (n + 9) → WellT H' p w → w.Ok → w.top ≤ 8 → Q (.ref p) H'
theorem scWell : FnScope ["_law_m", "_law_top", "_law_size", "_law_high", "_law_low", "_law_more_here"] ["_law_m", "_law_top"] (defScope (topS 39)) := ⟨rfl, rfl, rfl, by decide +kernel, rfl, by decide +kernel, by decide +kernel⟩
theorem ok_well {f : Addr} {fd : FuncData} (D : Df K mg "_law_well" (topS 39) ["_law_m", "_law_top"] f fd) (cN : Cal P w K mg base 1 "_law_next" spNext) : Cal P w K mg base 2 "_law_well" spWell := by
  refine D.cal (D.fn.ok scWell (fun vs H Q E h => ?_) (fun cdv A outer s H vs Q E hr h => ?_))
  · obtain ⟨md, n, rfl, _⟩ := h
    rfl
  · obtain ⟨md, n, rfl, D0, hn, q⟩ := h
    refine ⟨_, pss_cons (ps_set (i := 2) scWell.nd rfl (.inl rfl) (pe_op op_add pe_int (pe_c cN hr (pa_cons (pv 0) (pa_cons (pe_op op_sub (pv 1) pe_int) pa_nil)))))
      (pss_cons (ps_set (i := 3) scWell.nd rfl (.inl rfl) (pe_op op_add pe_int (pe_c cN hr (pa_cons (pv 0) (pa_cons (pv 2) pa_nil)))))
      (pss_cons (ps_set (i := 4) scWell.nd rfl (.inl rfl) (pe_c cN hr (pa_cons (pv 0) (pa_cons (pv 3) pa_nil))))
      (C8.pss_cut (ps_set (i := 5) scWell.nd rfl (.inl rfl) (pe_tup (pa_cons (pe_op op_add pe_int (pe_c cN hr (pa_cons (pv 0) (pa_cons pe_int pa_nil)))) (pa_cons (pe_op op_add pe_int (pe_c cN hr (pa_cons (pv 0) (pa_cons pe_int pa_nil))))
        (pa_cons (pe_op op_add pe_int (pe_c cN hr (pa_cons (pv 0) (pa_cons pe_int pa_nil)))) (pa_cons (pe_op op_add pe_int (pe_c cN hr (pa_cons (pv 0) (pa_cons pe_int pa_nil)))) (pa_cons (pe_c cN hr (pa_cons (pv 0) (pa_cons pe_int pa_nil))) pa_nil)))))))
      (pss_one (ps_ret (pe_op op_catA (pe_tup (pa_cons (pv 2) (pa_cons (pe_op op_add pe_int (pe_c cN hr (pa_cons (pv 0) (pa_cons pe_int pa_nil)))) (pa_cons (pv 3) (pa_cons (pv 4) pa_nil))))) (pv 5))))))), ?_⟩
    refine ⟨_, rfl, _, rfl, _, _, rfl, rfl, md, 7, n, rfl, D0, by omega, by omega, by omega, fun r1 H1 a1 b1 f1 D1 => ⟨_, _, rfl, rfl, ?_⟩⟩
    refine ⟨_, rfl, _, rfl, md, _, _, rfl, D1, by omega, by omega, by omega, fun r2 H2 a2 b2 f2 D2 => ⟨_, _, rfl, rfl, ?_⟩⟩
    refine ⟨_, rfl, _, rfl, md, _, _, rfl, D2, by omega, by omega, by omega, fun r3 H3 a3 b3 f3 D3 => ?_⟩
    refine ⟨fun σ' H' => ∃ m r4 r5 r6 r7 r8, (0 ≤ r4 ∧ r4 < 3) ∧ (0 ≤ r5 ∧ r5 < 3) ∧ (0 ≤ r6 ∧ r6 < 2) ∧ (0 ≤ r7 ∧ r7 < 2) ∧ (0 ≤ r8 ∧ r8 < 3) ∧ σ' = ([some (.ref md), some (.int 8), some (.int (2 + r1)), some (.int (1 + r2)), some (.int r3), some (.ref m)] : L2.St) ∧
      IntsT H' m [1 + r4, 1 + r5, 1 + r6, 1 + r7, r8] ∧ Dr H' md (n + 8) ∧ DFr md H H', ?_, ?_⟩
    · refine ⟨_, rfl, md, 3, _, rfl, D3, by omega, by omega, by omega, fun r4 H4 a4 b4 f4 D4 => ⟨_, _, rfl, rfl, ?_⟩⟩
      refine ⟨_, rfl, md, 3, _, rfl, D4, by omega, by omega, by omega, fun r5 H5 a5 b5 f5 D5 => ⟨_, _, rfl, rfl, ?_⟩⟩
      refine ⟨_, rfl, md, 2, _, rfl, D5, by omega, by omega, by omega, fun r6 H6 a6 b6 f6 D6 => ⟨_, _, rfl, rfl, ?_⟩⟩
      refine ⟨_, rfl, md, 2, _, rfl, D6, by omega, by omega, by omega, fun r7 H7 a7 b7 f7 D7 => ⟨_, _, rfl, rfl, ?_⟩⟩
      refine ⟨_, rfl, md, 3, _, rfl, D7, by omega, by omega, by omega, fun r8 H8 a8 b8 f8 D8 => ?_⟩
      refine ⟨Nat.le_of_lt (len_lt (m := 5) (Nat.le_refl 5) (by decide)), fun m nm => ?_⟩
      exact ⟨m, r4, r5, r6, r7, r8, ⟨a4, b4⟩, ⟨a5, b5⟩, ⟨a6, b6⟩, ⟨a7, b7⟩, ⟨a8, b8⟩, rfl, upd_same, D8.same (same_upd nm), (((((((f1.trans f2).trans f3).trans f4).trans f5).trans f6).trans f7).trans f8).trans (D8.fr (same_upd nm))⟩
    rintro σ' H9 ⟨m, r4, r5, r6, r7, r8, ⟨a4, b4⟩, ⟨a5, b5⟩, ⟨a6, b6⟩, ⟨a7, b7⟩, ⟨a8, b8⟩, rfl, g9, D9, f9⟩
    refine ⟨_, rfl, _, rfl, md, 3, _, rfl, D9, by omega, by omega, by omega, fun r9 Ha a9 b9 fa Da => ⟨_, _, rfl, rfl, _, rfl, _, rfl, ?_⟩⟩
    refine ⟨Nat.le_of_lt (len_lt (m := 4) (Nat.le_refl 4) (by decide)), fun m2 nm2 => ⟨_, rfl, ?_⟩⟩
    have sb : Same Ha (upd Ha m2 (.tup [.int (2 + r1), .int (1 + r9), .int (1 + r2), .int r3])) := same_upd nm2
    have gb : IntsT (upd Ha m2 (.tup [.int (2 + r1), .int (1 + r9), .int (1 + r2), .int r3])) m2 [2 + r1, 1 + r9, 1 + r2, r3] := upd_same
    have Db := Da.same sb
    have fb := Da.fr sb
    have g9b := (g9.keep (fa.tup D9)).same sb
    refine cat_ints gb g9b (Nat.le_of_lt (len_lt (m := 9) (Nat.le_refl 9) (by decide))) fun z Hc sc hc => ?_
    refine q z ⟨2 + r1, 1 + r9, 1 + r2, r3, 1 + r4, 1 + r5, 1 + r6, 1 + r7, r8⟩ Hc ?_ ?_ hc ?_ (by show 2 + r1 ≤ 8; omega)
    · exact ((f9.trans fa).trans fb).trans (Db.fr sc)
    · exact (Db.same sc).mono (by omega)
    · constructor <;> simp only <;> omega
end
end Kx
/-! Crews drawn. -/
namespace Kx
open PySem PySem.Spec PyProof.Rows L2 Pm
section
variable {P : Program} {w : World} {K : PySem.W.Frag} {mg : Str → Option Value} {base : Heap}
def spCrewD : Sp := fun vs H Q _ => ∃ md wp wl t n, vs = [.ref md, .ref wp, .str (ruleS t), .int 4] ∧ Dr H md n ∧ n ≤ 990000 ∧ WellT H wp wl ∧ wl.Ok ∧ ∀ p c H', DFr md H H' → Dr H' md (n + 10) → CrewT H' p c → c.Ok wl t → Q (.ref p) H'
theorem scCrewD : FnScope ["_law_m", "_law_well_here", "_law_rule", "_law_total", "_law_ages", "_law_k", "_law_age", "_law_past", "_law_mark"] ["_law_m", "_law_well_here", "_law_rule", "_law_total"] (defScope (topS 40)) := ⟨rfl, rfl, rfl, by decide +kernel, rfl, by decide +kernel, by decide +kernel⟩
theorem ok_crewD {f : Addr} {fd : FuncData} (D : Df K mg "_law_crew" (topS 40) ["_law_m", "_law_well_here", "_law_rule", "_law_total"] f fd) (B : Blt mg) (cN : Cal P w K mg base 1 "_law_next" spNext) : Cal P w K mg base 2 "_law_crew" spCrewD := by
  refine D.cal (D.fn.ok scCrewD (fun vs H Q E h => ?_) (fun cdv A outer s H vs Q E hr h => ?_))
  · obtain ⟨md, wp, wl, t, n, rfl, _⟩ := h
    rfl
  · obtain ⟨md, wp, wl, t, n, rfl, D0, hn, hw, ok, q⟩ := h
    refine ⟨_, pss_cons (ps_set (i := 4) scCrewD.nd rfl (.inl rfl) (pe_lst pa_nil))
      (pss_cons (ps_for PassesOwn.never rfl (pi_range1 (by rfl) B.range (pa_cons (pe_op op_add pe_int (pe_c cN hr (pa_cons (pv 0) (pa_cons (pv 3) pa_nil)))) pa_nil)) (pg_name (i := 5) scCrewD.nd rfl (.inl rfl))
        (pss_cons (ps_set (i := 6) scCrewD.nd rfl (.inl rfl) (pe_c cN hr (pa_cons (pv 0) (pa_cons (pe_op op_add (pe_ix ix_tup (pv 1) pe_int (fun _ _ => rfl)) (pe_ix ix_tup (pv 1) pe_int (fun _ _ => rfl))) pa_nil))))
        (pss_one (ps_expr (pe_bm PySem.F.plainAttrs_list PySem.F.slot_list_append PySem.F.type_list_append mt_append (pv 4) (pa_cons
          (pe_ifExp (pt_cmpR op_lt (pv 6) (pe_ix ix_tup (pv 1) pe_int (fun _ _ => rfl)) (nomark _)) (pe_op op_add (pv 6) pe_int) (pe_op op_sub (pe_op op_sub (pe_ix ix_tup (pv 1) pe_int (fun _ _ => rfl)) (pv 6)) pe_int)) pa_nil))))))
      (C8.pss_cut (ps_set (i := 7) scCrewD.nd rfl (.inl rfl) (pe_callTy call_tuple_of (by rfl) B.tuple (by decide +kernel) (pa_cons
        (pe_lc (own := [("_law_k", 5)]) (g := gName 5) (tt := tYes) rfl scCrewD.nd (pi_range1 (by rfl) B.range (pa_cons (pe_ix ix_tup (pv 1) pe_int (fun _ _ => rfl)) pa_nil))
          (blkOk_by (own := [("_law_k", 5)]) (N := ["_law_m", "_law_well_here", "_law_rule", "_law_total", "_law_ages", "_law_k", "_law_age", "_law_past", "_law_mark"]) (sc := defScope (topS 40)) (by decide +kernel))
          (fun _ _ _ _ _ => pg_name (i := 5) scCrewD.nd rfl (Or.inl rfl)) (fun _ _ _ _ _ => pts_nil)
          (fun _ _ _ _ _ => pe_c cN hr (pa_cons (pv 0) (pa_cons (pe_op op_add (pe_ix (r := rIxT K) ix_tup (pv 1) pe_int (fun _ _ => rfl)) pe_int) pa_nil)))) pa_nil)))
      (C8.pss_cut (ps_set (i := 8) scCrewD.nd rfl (.inl rfl) (pe_ifExp (pt_cmpR op_eq (pv 2) pe_str (nomark _)) (pe_c cN hr (pa_cons (pv 0) (pa_cons (pe_callB call_lenS (by rfl) B.len (by decide +kernel) (pa_cons (pv 4) pa_nil)) pa_nil))) pe_int))
      (pss_one (ps_ret (pe_tup (pa_cons (pe_c cN hr (pa_cons (pv 0) (pa_cons (pe_op op_add (pe_ix ix_tup (pv 1) pe_int (fun _ _ => rfl)) pe_int) pa_nil))) (pa_cons (pv 7) (pa_cons (pe_callTy call_tuple_of (by rfl) B.tuple (by decide +kernel) (pa_cons (pv 4) pa_nil)) (pa_cons (pv 8) pa_nil)))))))))), ?_⟩
    have hrest := ok.rest1
    have hrest2 := ok.rest2
    have hrun := ok.run1
    have hrun2 := ok.run2
    have htop := ok.top1
    have htop2 := ok.top2
    have hlag := ok.lag1
    have hlag2 := ok.lag2
    refine ⟨Nat.zero_le _, fun ag nag => ?_⟩
    have s1 : Same H (upd H ag (.lst [])) := same_upd nag
    have g1 : (upd H ag (.lst [])) ag = some (.lst []) := upd_same
    have D1 := D0.same s1
    have f1 := D0.fr s1
    have o1 := D0.offN s1 nag
    generalize upd H ag (.lst []) = H1 at s1 g1 D1 f1 o1 ⊢
    refine ⟨_, rfl, _, rfl, md, 4, n, rfl, D1, by omega, by omega, by omega, fun r0 H2 a0 b0 f2 D2 => ⟨_, _, rfl, rfl, 1 + r0, rfl, by omega, by omega, ?_⟩⟩
    obtain ⟨g2, o2⟩ := f2 _ _ g1 o1
    refine for_range (lo := 0) (fun i σ H' => ∃ (as : List Int) (v5 v6 : Option V), σ = ([some (.ref md), some (.ref wp), some (.str (ruleS t)), some (.int 4), some (.ref ag), v5, v6, none, none] : L2.St) ∧ as.length = i ∧ (∀ a ∈ as, -wl.rest ≤ a ∧ a ≤ wl.run ∧ a ≠ 0) ∧
      H' ag = some (.lst (as.map V.int)) ∧ Off H' md ag ∧ Dr H' md (n + 1 + i) ∧ DFr md H H') ⟨[], none, none, rfl, rfl, (fun _ h => nomatch h), g2, o2, D2, f1.trans f2⟩ ?_ ?_
    · rintro i σ H' hi ⟨as, v5, v6, rfl, ha, hav, ga, oa, Da, fa⟩
      have hwa := hw.keep (fa.tup D0)
      have hi4 : i < 4 := by omega
      refine ⟨_, rfl, _, rfl, wp, _, _, _, rfl, rfl, hwa.seq, rfl, _, rfl, wp, _, _, _, rfl, rfl, hwa.seq, rfl, wl.run, wl.rest, rfl, rfl, md, _, _, rfl, Da, by omega, by omega, by omega, fun r H3 a3 b3 f3 D3 => ?_⟩
      obtain ⟨g3, o3⟩ := f3 _ _ ga oa
      have hw3 := hwa.keep (f3.tup Da)
      refine ⟨_, rfl, .inl ⟨rfl, _, seqL g3⟩, ?_⟩
      have fin : ∀ z : Int, (-wl.rest ≤ z ∧ z ≤ wl.run ∧ z ≠ 0) → ∃ (l : Addr) (ys : List V) (v : V), V.ref ag = .ref l ∧ [V.int z] = [v] ∧ H3 l = some (.lst ys) ∧ ys.length < sizeLine ∧
          ∃ (as : List Int) (v5 v6 : Option V), ([some (.ref md), some (.ref wp), some (.str (ruleS t)), some (.int 4), some (.ref ag), some (.int (0 + (i : Int))), some (.int r), none, none] : L2.St) = [some (.ref md), some (.ref wp), some (.str (ruleS t)), some (.int 4), some (.ref ag), v5, v6, none, none] ∧ as.length = i + 1 ∧ (∀ a ∈ as, -wl.rest ≤ a ∧ a ≤ wl.run ∧ a ≠ 0) ∧
            (upd H3 l (.lst (ys ++ [v]))) ag = some (.lst (as.map V.int)) ∧ Off (upd H3 l (.lst (ys ++ [v]))) md ag ∧ Dr (upd H3 l (.lst (ys ++ [v]))) md (n + 1 + (i + 1)) ∧ DFr md H (upd H3 l (.lst (ys ++ [v]))) := by
        intro z hz
        obtain ⟨u1, u2, u3⟩ := D3.upd_off (o := .lst (as.map V.int ++ [.int z])) o3 nag (fa.trans f3)
        refine ⟨ag, _, _, rfl, rfl, g3, ?_, as ++ [z], _, _, rfl, ?_, ?_, ?_, u3, u1, u2⟩
        · rw [List.length_map, ha]
          exact len_lt (m := 4) (Nat.le_of_lt hi4) (by decide)
        · rw [List.length_append, ha]
          rfl
        · intro a h
          rcases List.mem_append.mp h with h | h
          · exact hav a h
          · rw [List.mem_singleton.mp h]
            exact hz
        · rw [upd_same, List.map_append]
          rfl
      refine ⟨_, rfl, _, rfl, wp, _, _, _, rfl, rfl, hw3.seq, rfl, r, wl.run, rfl, rfl, _, rfl, ite2 (fun h => ?_) (fun h => ?_)⟩
      · have h := of_decide_eq_true h
        exact ⟨_, rfl, r, 1, rfl, rfl, fin _ ⟨by omega, by omega, by omega⟩⟩
      · have h : ¬ r < wl.run := fun z => h (decide_eq_true z)
        exact ⟨_, rfl, wp, _, _, _, rfl, rfl, hw3.seq, rfl, _, rfl, wl.run, r, rfl, rfl, _, 1, rfl, rfl, fin _ ⟨by omega, by omega, by omega⟩⟩
    · rintro σ H' ⟨as, v5, v6, rfl, ha, hav, ga, oa, Da, fa⟩
      have hal : (as.length : Int) = 1 + r0 := by omega
      have hwa := hw.keep (fa.tup D0)
      refine ⟨fun σ' H2 => ∃ (pt : Addr) (ps : List Int), σ' = ([some (.ref md), some (.ref wp), some (.str (ruleS t)), some (.int 4), some (.ref ag), v5, v6, some (.ref pt), none] : L2.St) ∧ (ps.length : Int) = wl.lag ∧ (∀ x ∈ ps, 0 ≤ x ∧ x ≤ wl.top) ∧ IntsT H2 pt ps ∧
        Dr H2 md (n + 1 + as.length + ps.length) ∧ DFr md H' H2, ?_, ?_⟩
      · refine ⟨_, rfl, wp, _, _, _, rfl, rfl, hwa.seq, rfl, wl.lag, rfl, by omega, by omega, fun D' nD => ?_⟩
        have s3 : Same H' (upd H' D' (.lst [])) := same_upd nD
        have g3 : (upd H' D' (.lst [])) D' = some (.lst []) := upd_same
        have D3 := Da.same s3
        have f3 := Da.fr s3
        have o3 := Da.offN s3 nD
        refine lc_range (lo := 0) (fun i H2 => ∃ ps : List Int, ps.length = i ∧ (∀ x ∈ ps, 0 ≤ x ∧ x ≤ wl.top) ∧ H2 D' = some (.lst (ps.map V.int)) ∧ Off H2 md D' ∧ Dr H2 md (n + 1 + as.length + i) ∧ DFr md H' H2) ⟨[], rfl, (fun _ h => nomatch h), g3, o3, by rw [ha]; exact D3, f3⟩ ?_ ?_
        · rintro i H2 hi ⟨ps, hp, hpv, gp, op, Dp, fp⟩
          have hwp := hwa.keep (fp.tup Da)
          refine ⟨rfl, yesT (iteT ⟨_, rfl, _, rfl, wp, _, _, _, rfl, rfl, hwp.seq, rfl, wl.top, 1, rfl, rfl, md, _, _, rfl, Dp, by omega, by omega, by omega, fun r H3 a3 b3 f4 D4 => ?_⟩)⟩
          obtain ⟨g4, o4⟩ := f4 _ _ gp op
          obtain ⟨u1, u2, u3⟩ := D4.upd_off (o := .lst (ps.map V.int ++ [.int r])) o4 nD (fp.trans f4)
          refine ⟨_, g4, ?_, ps ++ [r], ?_, ?_, ?_, u3, u1, u2⟩
          · rw [List.length_map, hp]
            exact len_lt (m := 3) (by omega) (by decide)
          · rw [List.length_append, hp]
            rfl
          · intro a h
            rcases List.mem_append.mp h with h | h
            · exact hpv a h
            · rw [List.mem_singleton.mp h]
              exact ⟨a3, by omega⟩
          · rw [upd_same, List.map_append]
            rfl
        · rintro H2 ⟨ps, hp, hpv, gp, op, Dp, fp⟩
          refine ⟨D', _, rfl, .inl ⟨seqL gp, fun pt npt => ⟨pt, ps, rfl, by omega, hpv, upd_same, ?_, fp.trans (Dp.fr (same_upd npt))⟩⟩⟩
          rw [hp]
          exact Dp.same (same_upd npt)
      · rintro σ2 H2 ⟨pt, ps, rfl, hpl, hpv, hpt, D2', f2'⟩
        obtain ⟨ga2, oa2⟩ := f2' _ _ ga oa
        refine ⟨fun σ' H3 => ∃ mk : Int, σ' = ([some (.ref md), some (.ref wp), some (.str (ruleS t)), some (.int 4), some (.ref ag), v5, v6, some (.ref pt), some (.int mk)] : L2.St) ∧ 0 ≤ mk ∧ mk < (as.length : Int) ∧ (t = false → mk = 0) ∧ Dr H3 md (n + 1 + as.length + ps.length + 1) ∧ DFr md H2 H3, ?_, ?_⟩
        · refine ⟨_, rfl, rfl, t, congrArg V.bl (rule_eq t), ?_⟩
          cases t with
          | true =>
            refine iteT ⟨_, rfl, _, rfl, ag, _, rfl, .inl (seqL ga2), md, _, _, rfl, D2', by omega, ?_, ?_, fun r H3 a3 b3 f3 D3 => ⟨r, rfl, a3, ?_, (fun z => by cases z), D3, f3⟩⟩
            · rw [List.length_map]
              omega
            · rw [List.length_map]
              omega
            · rw [List.length_map] at b3
              exact b3
          | false => exact iteF ⟨0, rfl, by omega, by omega, fun _ => rfl, D2'.mono (Nat.le_succ _), DFr.refl⟩
        · rintro σ3 H3 ⟨mk, rfl, m1, m2, m3, D3, f3⟩
          obtain ⟨ga3, oa3⟩ := f3 _ _ ga2 oa2
          have hw3 := (hwa.keep (f2'.tup Da)).keep (f3.tup D2')
          refine ⟨_, rfl, _, rfl, wp, _, _, _, rfl, rfl, hw3.seq, rfl, wl.top, 1, rfl, rfl, md, _, _, rfl, D3, by omega, by omega, by omega, fun lv H4 a4 b4 f4 D4 => ?_⟩
          obtain ⟨ga4, oa4⟩ := f4 _ _ ga3 oa3
          have hpt4 := (hpt.keep (f3.tup D2')).keep (f4.tup D3)
          refine ⟨_, rfl, _, rfl, ag, _, rfl, .inl ⟨seqL ga4, fun at_ nat_ => ⟨_, rfl, Nat.le_of_lt (len_lt (m := 4) (Nat.le_refl 4) (by decide)), fun p np => ?_⟩⟩⟩
          have s5 : Same H4 (upd H4 at_ (.tup (as.map V.int))) := same_upd nat_
          have g5 : IntsT (upd H4 at_ (.tup (as.map V.int))) at_ as := upd_same
          have s6 : Same (upd H4 at_ (.tup (as.map V.int))) (upd (upd H4 at_ (.tup (as.map V.int))) p (.tup [.int lv, .ref pt, .ref at_, .int mk])) := same_upd np
          have s46 := s5.trans s6
          refine q p ⟨lv, ps, as, mk⟩ _ ((((fa.trans f2').trans f3).trans f4).trans (D4.fr s46)) ((D4.same s46).mono (by omega)) ⟨pt, at_, upd_same, hpt4.same s46, g5.same s6⟩ ?_
          exact {
            lv1 := a4
            lv2 := (by show lv ≤ wl.top; omega)
            pl := hpl
            pv := hpv
            al1 := (by show 1 ≤ as.length; omega)
            al2 := (by show as.length ≤ 6; omega)
            av := hav
            mk1 := m1
            mk2 := m2
            m0 := m3 }
end
end Kx
/-! The law's own pumps: who starts, who stops. -/
namespace Kx
open PySem PySem.Spec PyProof.Rows L2 Pm
section
variable {P : Program} {w : World} {K : PySem.W.Frag} {mg : Str → Option Value} {base : Heap}
def spTurned : Sp := fun vs H Q _ => ∃ p w t a c, vs = [.ref p, .str (ruleS t), .ref a] ∧ WellT H p w ∧ w.Ok ∧ CrewT H a c ∧ c.Ok w t ∧
  ∀ z b e H', Same H H' → H' z = some (.tup [.ref b, .ref e]) → H b = none → H e = none → H' b = some (.lst (natsL (begun w t c))) → H' e = some (.lst (natsL (ended w c))) → Q (.ref z) H'
theorem scTurned : FnScope ["_law_well_here", "_law_rule", "_law_crew_here", "_law_level", "_law_past", "_law_ages", "_law_mark", "_law_seen", "_law_names", "_law_row", "_law_k"] ["_law_well_here", "_law_rule", "_law_crew_here"] (defScope (topS 41)) := ⟨rfl, rfl, rfl, by decide +kernel, rfl, by decide +kernel, by decide +kernel⟩
theorem ok_turned {f : Addr} {fd : FuncData} (D : Df K mg "_law_turned" (topS 41) ["_law_well_here", "_law_rule", "_law_crew_here"] f fd) (B : Blt mg) : Cal P w K mg base 1 "_law_turned" spTurned := by
  refine D.cal (D.fn.ok scTurned (fun vs H Q E h => ?_) (fun cdv A outer s H vs Q E hr h => ?_))
  · obtain ⟨p, w, t, a, c, rfl, _⟩ := h
    rfl
  · obtain ⟨p, wl, t, a, c, rfl, hw, okw, ⟨pp, pa, hc, hp, hg⟩, ok, q⟩ := h
    refine ⟨_, pss_cons (ps_asg (pv 2) (pg_tup rfl (pgs_cons (pg_name (i := 3) scTurned.nd rfl (.inl rfl)) (pgs_cons (pg_name (i := 4) scTurned.nd rfl (.inl rfl)) (pgs_cons (pg_name (i := 5) scTurned.nd rfl (.inr rfl)) (pgs_cons (pg_name (i := 6) scTurned.nd rfl (.inl rfl)) pgs_nil))))))
      (C8.pss_cut (ps_set (i := 7) scTurned.nd rfl (.inl rfl) (pe_ifExp (pt_cmpR op_gt (pe_ix ix_tup (pv 0) pe_int (fun _ _ => rfl)) pe_int (nomark _)) (pe_ix ix_tup (pv 4) pe_int (fun _ _ => rfl)) (pv 3)))
      (pss_cons (ps_set (i := 7) scTurned.nd rfl (.inl rfl) (pe_op op_sub (pv 7) (pe_op op_mod (pe_callTy call_int1 (by rfl) B.int (by decide +kernel) (pa_cons (pv 7) pa_nil)) (pe_ix ix_tup (pv 0) pe_int (fun _ _ => rfl)))))
      (pss_cons (ps_set (i := 8) scTurned.nd rfl (.inl rfl) (pe_listRg rfl (by rfl) B.list (prg_1 (by rfl) B.range (pe_callB call_lenS (by rfl) B.len (by decide +kernel) (pa_cons (pv 5) pa_nil)))))
      (pss_cons (ps_if (pt_cmpR op_ge (pv 7) (pe_ix ix_tup (pv 0) pe_int (fun _ _ => rfl)) (nomark _))
        (C8.pss_cut (ps_set (i := 9) scTurned.nd rfl (.inl rfl) (pe_ifExp (pt_cmpR op_eq (pv 1) pe_str (nomark _)) (pe_op op_cat (pe_slice sl_list (pv 8) (po_some (pv 6)) po_none) (pe_slice sl_list (pv 8) po_none (po_some (pv 6)))) (pv 8)))
        (pss_one (ps_ret (pe_tup (pa_cons (pe_slice sl_list
          (pe_lc (own := [("_law_k", 10)]) (g := gName 10) rfl scTurned.nd (pi_list (pv 9)) (blkOk_by (own := [("_law_k", 10)]) (N := ["_law_well_here", "_law_rule", "_law_crew_here", "_law_level", "_law_past", "_law_ages", "_law_mark", "_law_seen", "_law_names", "_law_row", "_law_k"]) (sc := defScope (topS 41)) (by decide +kernel))
            (fun _ _ _ _ _ => pg_name (i := 10) scTurned.nd rfl (Or.inl rfl))
            (fun _ _ _ _ _ => pts_one (pt_cmpR op_eq (pe_ix (r := rIxT K) ix_tup (pv 5) (pv 10) (fun _ _ => rfl)) (pe_op op_sub pe_int (pe_ix (r := rIxT K) ix_tup (pv 0) pe_int (fun _ _ => rfl))) (nomark _)))
            (fun _ _ _ _ _ => pv 10))
          po_none (po_some (pe_ix ix_tup (pv 0) pe_int (fun _ _ => rfl)))) (pa_cons (pe_lst pa_nil) pa_nil)))))) pss_nil)
      (pss_one (ps_ret (pe_tup (pa_cons (pe_lst pa_nil) (pa_cons (pe_ifExp (pt_cmpR op_le (pv 7) (pe_ix ix_tup (pv 0) pe_int (fun _ _ => rfl)) (nomark _))
          (pe_lc (own := [("_law_k", 10)]) (g := gName 10) rfl scTurned.nd (pi_list (pv 8)) (blkOk_by (own := [("_law_k", 10)]) (N := ["_law_well_here", "_law_rule", "_law_crew_here", "_law_level", "_law_past", "_law_ages", "_law_mark", "_law_seen", "_law_names", "_law_row", "_law_k"]) (sc := defScope (topS 41)) (by decide +kernel))
            (fun _ _ _ _ _ => pg_name (i := 10) scTurned.nd rfl (Or.inl rfl))
            (fun _ _ _ _ _ => pts_one (pt_cmpR op_eq (pe_ix (r := rIxT K) ix_tup (pv 5) (pv 10) (fun _ _ => rfl)) (pe_ix (r := rIxT K) ix_tup (pv 0) pe_int (fun _ _ => rfl)) (nomark _)))
            (fun _ _ _ _ _ => pv 10))
          (pe_lst pa_nil)) pa_nil))))))))), ?_⟩
    have al1 := ok.al1
    have al2 := ok.al2
    have p1 := okw.st1
    have hstep := okw.step1
    refine ⟨_, rfl, a, _, rfl, seqT hc, rfl, _, _, rfl, _, _, rfl, _, _, rfl, _, _, rfl, rfl, ?_⟩
    refine ⟨fun σ' H' => H' = H ∧ σ' = ([some (.ref p), some (.str (ruleS t)), some (.ref a), some (.int c.level), some (.ref pp), some (.ref pa), some (.int c.mark), some (.int (if 0 < wl.lag then c.past.headD 0 else c.level)), none, none, none] : L2.St), ?_, ?_⟩
    · refine ⟨_, rfl, p, _, _, _, rfl, rfl, hw.seq, rfl, wl.lag, 0, rfl, rfl, _, rfl, ite2 (fun h => ?_) (fun h => ?_)⟩
      · have h := of_decide_eq_true h
        have hpl := ok.pl
        have hne : 0 < c.past.length := by omega
        refine ⟨_, rfl, pp, _, _, _, rfl, rfl, hp.seq, int_atD hne, rfl, ?_⟩
        rw [if_pos h]
        cases e : c.past with
        | nil =>
          rw [e] at hne
          exact absurd hne (by decide)
        | cons x r => rfl
      · have h : ¬ 0 < wl.lag := fun z => h (decide_eq_true z)
        refine ⟨_, rfl, rfl, ?_⟩
        rw [if_neg h]
        rfl
    rintro σ1 H1 ⟨rfl, rfl⟩
    refine ⟨_, rfl, _, rfl, .inl ⟨_, rfl, _, rfl, p, _, _, _, rfl, rfl, hw.seq, rfl, _, wl.step, rfl, rfl, by omega, _, _, rfl, rfl, ?_⟩⟩
    show _
    have es : (if 0 < wl.lag then c.past.headD 0 else c.level) - (if 0 < wl.lag then c.past.headD 0 else c.level) % wl.step = Pm.seen wl c := rfl
    refine ⟨_, rfl, pa, _, rfl, .inr hg.seq, _, rfl, RgOk.of_le (by decide) ?_ (by decide) ?_, fun nm nnm => ?_⟩
    · rw [List.length_map]
      omega
    · rw [List.length_map]
      omega
    have s2 : Same H1 (upd H1 nm (.lst (rgV 0 ((((c.ages.map V.int).length : Nat)) : Int)))) := same_upd nnm
    have g2 : (upd H1 nm (.lst (rgV 0 ((((c.ages.map V.int).length : Nat)) : Int)))) nm = some (.lst (natsL (List.range c.ages.length))) := by
      rw [upd_same, List.length_map, natsL_range]
    generalize upd H1 nm (.lst (rgV 0 ((((c.ages.map V.int).length : Nat)) : Int))) = H2 at s2 g2 ⊢
    have fr2 : ∀ b, H2 b = none → H1 b = none := fun b hb => s2.free hb
    refine ⟨_, rfl, _, rfl, p, _, _, _, rfl, rfl, (hw.same s2).seq, rfl, Pm.seen wl c, wl.on, rfl, rfl, _, rfl, ite2 (fun h => ?_) (fun h => ?_)⟩
    · have h : wl.on ≤ Pm.seen wl c := of_decide_eq_true h
      refine ⟨fun σ' H3 => ∃ rw', σ' = ([some (.ref p), some (.str (ruleS t)), some (.ref a), some (.int c.level), some (.ref pp), some (.ref pa), some (.int c.mark), some (.int (Pm.seen wl c)), some (.ref nm), some (.ref rw'), none] : L2.St) ∧ Same H2 H3 ∧ H3 rw' = some (.lst (natsL (row t c))), ?_, ?_⟩
      · refine ⟨_, rfl, rfl, t, congrArg V.bl (rule_eq t), ?_⟩
        cases t with
        | true =>
          have m1 := ok.mk1
          have m2 := ok.mk2
          refine iteT ⟨_, rfl, _, rfl, c.mark, rfl, ?_⟩
          delta tNoPart
          refine ⟨nm, _, rfl, seqL g2, fun x1 nx1 => ⟨_, rfl, ?_⟩⟩
          rw [cut_from _ m1, ← natsL_drop]
          have sa : Same H2 (upd H2 x1 (.lst (natsL ((List.range c.ages.length).drop c.mark.toNat)))) := same_upd nx1
          have ga : (upd H2 x1 (.lst (natsL ((List.range c.ages.length).drop c.mark.toNat)))) x1 = some (.lst (natsL ((List.range c.ages.length).drop c.mark.toNat))) := upd_same
          generalize upd H2 x1 (.lst (natsL ((List.range c.ages.length).drop c.mark.toNat))) = Ha at sa ga ⊢
          refine ⟨_, rfl, c.mark, rfl, nm, _, rfl, seqL (sa _ _ g2), fun x2 nx2 => ?_⟩
          rw [cut_to _ m1, ← natsL_take]
          have sb : Same Ha (upd Ha x2 (.lst (natsL ((List.range c.ages.length).take c.mark.toNat)))) := same_upd nx2
          have gb : (upd Ha x2 (.lst (natsL ((List.range c.ages.length).take c.mark.toNat)))) x2 = some (.lst (natsL ((List.range c.ages.length).take c.mark.toNat))) := upd_same
          generalize upd Ha x2 (.lst (natsL ((List.range c.ages.length).take c.mark.toNat))) = Hb at sb gb ⊢
          refine ⟨x1, x2, _, _, rfl, rfl, sb _ _ ga, gb, ?_, fun x3 nx3 => ⟨x3, rfl, (sa.trans sb).trans (same_upd nx3), ?_⟩⟩
          · rw [natsL_len, natsL_len, List.length_drop, List.length_take, List.length_range]
            exact Nat.le_of_lt (len_lt (m := 12) (by omega) (by decide))
          · rw [upd_same, ← natsL_app, row_turned al2 m1 m2]
        | false =>
          refine iteF ⟨_, rfl, nm, rfl, fun _ _ e => e, ?_⟩
          rw [row_false]
          exact g2
      · rintro σ3 H3 ⟨rw', rfl, s3, g3⟩
        have s13 := s2.trans s3
        have ef : ∀ k : Nat, decide (V.int (c.ages.getD k 0) = V.int (0 - wl.rest)) = decide (c.ages.getD k 0 = -wl.rest) := fun k => by
          rw [Int.zero_sub]
          exact dec_int _ _
        refine ⟨_, rfl, rw', rfl, ⟨_, seqL g3⟩, fun D' hD => lc_list (xs := natsL (row t c)) (fun i H' => Same H3 H' ∧ H' D' = some (.lst (natsL (((row t c).take i).filter fun k => decide (c.ages.getD k 0 = -wl.rest))))) ⟨same_upd hD, upd_same⟩ (fun i H' _ h => seqL (h.1 _ _ g3)) ?_ ?_⟩
        · rintro i x H' hx ⟨sm, hD'⟩
          obtain ⟨k, hk, rfl⟩ := natsL_get hx
          have hkl : k < c.ages.length := row_lt al1 k (List.mem_of_getElem? hk)
          have sx := s13.trans sm
          refine ⟨rfl, _, rfl, _, rfl, pa, _, _, _, rfl, rfl, (hg.same sx).seq, int_atD hkl, _, rfl, p, _, _, _, rfl, rfl, (hw.same sx).seq, rfl, 0, wl.rest, rfl, rfl, rfl, _, rfl, ?_⟩
          rw [ef]
          refine ite2 (fun hc => ?_) (fun hc => ?_)
          · refine ⟨_, rfl, _, hD', ?_, upd_keep sm hD, ?_⟩
            · rw [natsL_len]
              exact len_lt (Nat.le_trans (List.length_filter_le _ _) (Nat.le_trans (List.length_take_le' _ _) (Nat.le_trans (Nat.le_of_eq (row_length _ _)) al2))) (by decide)
            · rw [upd_same, filt_snoc hk, if_pos hc, natsL_app]
              rfl
          · refine ⟨sm, ?_⟩
            rw [filt_snoc hk, if_neg hc, List.append_nil]
            exact hD'
        · rintro H4 ⟨s4, g4⟩
          rw [natsL_len, List.take_length] at g4
          have s14 := s13.trans s4
          refine ⟨_, rfl, p, _, _, _, rfl, rfl, (hw.same s14).seq, rfl, wl.starts, rfl, D', _, rfl, seqL g4, fun b nb => ?_⟩
          rw [cut_to _ (by omega), ← natsL_take]
          have eb : ((row t c).filter fun k => decide (c.ages.getD k 0 = -wl.rest)).take wl.starts.toNat = begun wl t c := by
            unfold begun
            rw [if_neg (by omega)]
          rw [eb]
          have s5 : Same H4 (upd H4 b (.lst (natsL (begun wl t c)))) := same_upd nb
          have g5 : (upd H4 b (.lst (natsL (begun wl t c)))) b = some (.lst (natsL (begun wl t c))) := upd_same
          generalize upd H4 b (.lst (natsL (begun wl t c))) = H5 at s5 g5 ⊢
          refine ⟨Nat.zero_le _, fun e ne => ⟨Nat.le_of_lt (len_lt (m := 2) (Nat.le_refl 2) (by decide)), fun z nz => ?_⟩⟩
          have s6 : Same H5 (upd H5 e (.lst [])) := same_upd ne
          have ee : ended wl c = [] := by
            unfold ended
            rw [if_pos h]
          refine q z b e _ ((((s14.trans s5).trans s6)).trans (same_upd nz)) upd_same (s14.free nb) ((s14.trans s5).free ne) ?_ ?_
          · exact same_upd nz _ _ (s6 _ _ g5)
          · rw [ee]
            exact same_upd nz _ _ upd_same
    · have h : ¬ wl.on ≤ Pm.seen wl c := fun z => h (decide_eq_true z)
      have eb : begun wl t c = [] := by
        unfold begun
        rw [if_pos (by omega)]
      refine ⟨Nat.zero_le _, fun b nb => ?_⟩
      have s3 : Same H2 (upd H2 b (.lst [])) := same_upd nb
      have g3 : (upd H2 b (.lst [])) b = some (.lst []) := upd_same
      generalize upd H2 b (.lst []) = H3 at s3 g3 ⊢
      have s13 := s2.trans s3
      have fin : ∀ e H4, Same H3 H4 → H3 e = none → H4 e = some (.lst (natsL (ended wl c))) → [V.ref b, .ref e].length ≤ sizeLine ∧ ∀ z, H4 z = none → Q (.ref z) (upd H4 z (.tup [V.ref b, .ref e])) := fun e H4 s4 ne g4 => by
        refine ⟨Nat.le_of_lt (len_lt (m := 2) (Nat.le_refl 2) (by decide)), fun z nz => ?_⟩
        refine q z b e _ ((s13.trans s4).trans (same_upd nz)) upd_same (s2.free nb) (s13.free ne) ?_ (same_upd nz _ _ g4)
        rw [eb]
        exact same_upd nz _ _ (s4 _ _ g3)
      refine ⟨_, rfl, _, rfl, p, _, _, _, rfl, rfl, (hw.same s13).seq, rfl, Pm.seen wl c, wl.off, rfl, rfl, _, rfl, ite2 (fun h5 => ?_) (fun h5 => ?_)⟩
      · have h5 := of_decide_eq_true h5
        have ee : ended wl c = (List.range c.ages.length).filter fun k => decide (c.ages.getD k 0 = wl.run) := by
          unfold ended
          rw [if_neg (show ¬ Pm.seen wl c ≥ wl.on from h), if_pos h5]
        have gn := s3 _ _ g2
        refine ⟨_, rfl, nm, rfl, ⟨_, seqL gn⟩, fun D' hD => lc_list (xs := natsL (List.range c.ages.length)) (fun i H' => Same H3 H' ∧ H' D' = some (.lst (natsL (((List.range c.ages.length).take i).filter fun k => decide (c.ages.getD k 0 = wl.run))))) ⟨same_upd hD, upd_same⟩ (fun i H' _ h => seqL (h.1 _ _ gn)) ?_ ?_⟩
        · rintro i x H' hx ⟨sm, hD'⟩
          obtain ⟨k, hk, rfl⟩ := natsL_get hx
          have hkl : k < c.ages.length := List.mem_range.mp (List.mem_of_getElem? hk)
          have sx := s13.trans sm
          refine ⟨rfl, _, rfl, _, rfl, pa, _, _, _, rfl, rfl, (hg.same sx).seq, int_atD hkl, _, rfl, p, _, _, _, rfl, rfl, (hw.same sx).seq, rfl, rfl, _, rfl, ?_⟩
          rw [show decide (V.int (c.ages.getD k 0) = V.int wl.run) = decide (c.ages.getD k 0 = wl.run) from dec_int _ _]
          refine ite2 (fun hc => ?_) (fun hc => ?_)
          · refine ⟨_, rfl, _, hD', ?_, upd_keep sm hD, ?_⟩
            · rw [natsL_len]
              exact len_lt (Nat.le_trans (List.length_filter_le _ _) (Nat.le_trans (List.length_take_le' _ _) (Nat.le_trans (Nat.le_of_eq List.length_range) al2))) (by decide)
            · rw [upd_same, filt_snoc hk, if_pos hc, natsL_app]
              rfl
          · refine ⟨sm, ?_⟩
            rw [filt_snoc hk, if_neg hc, List.append_nil]
            exact hD'
        · rintro H4 ⟨s4, g4⟩
          rw [natsL_len, List.take_length, ← ee] at g4
          exact fin D' H4 s4 hD g4
      · have h5 : ¬ Pm.seen wl c ≤ wl.off := fun z => h5 (decide_eq_true z)
        have ee : ended wl c = [] := by
          unfold ended
          rw [if_neg (show ¬ Pm.seen wl c ≥ wl.on from h), if_neg h5]
        refine ⟨Nat.zero_le _, fun e ne => fin e _ (same_upd ne) ne ?_⟩
        rw [ee]
        exact upd_same
end
end Kx
/-! The law's own pumps: a beat. -/
namespace Kx
open PySem PySem.Spec PyProof.Rows L2 Pm
section
variable {P : Program} {w : World} {K : PySem.W.Frag} {mg : Str → Option Value} {base : Heap}
def spBeat : Sp := fun vs H Q _ => ∃ p w t a c q, vs = [.ref p, .str (ruleS t), .ref a, .int q] ∧ WellT H p w ∧ w.Ok ∧ CrewT H a c ∧ c.Ok w t ∧
  ∀ z v r b H', Same H H' → H' z = some (.tup [v, .ref r, b]) → BeatV H' v (beat w t c q) → H' r = some (.tup (natsL (runs w t c))) → Q (.ref z) H'
abbrev nBeat : List Str := ["_law_well_here", "_law_rule", "_law_crew_here", "_law_inflow", "_law_level", "_law_past", "_law_ages", "_law_mark", "_law_begun_now", "_law_ended_now", "_law_fresh", "_law_k", "_law_age", "_law_runs", "_law_height", "_law_behind_it"]
theorem scBeat : FnScope nBeat ["_law_well_here", "_law_rule", "_law_crew_here", "_law_inflow"] (defScope (topS 42)) := ⟨rfl, rfl, rfl, by decide +kernel, rfl, by decide +kernel, by decide +kernel⟩
theorem ok_beatL {f : Addr} {fd : FuncData} (D : Df K mg "_law_beat" (topS 42) ["_law_well_here", "_law_rule", "_law_crew_here", "_law_inflow"] f fd) (B : Blt mg) (cT : Cal P w K mg base 1 "_law_turned" spTurned) : Cal P w K mg base 2 "_law_beat" spBeat := by
  refine D.cal (D.fn.ok scBeat (fun vs H Q E h => ?_) (fun cdv A outer s H vs Q E hr h => ?_))
  · obtain ⟨p, w, t, a, c, q, rfl, _⟩ := h
    rfl
  · obtain ⟨p, wl, t, a, c, iq, rfl, hw, okw, ⟨pp, pa, hc, hp, hg⟩, ok, q⟩ := h
    refine ⟨_, pss_cons (ps_asg (pv 2) (pg_tup rfl (pgs_cons (pg_name (i := 4) scBeat.nd rfl (.inl rfl)) (pgs_cons (pg_name (i := 5) scBeat.nd rfl (.inl rfl)) (pgs_cons (pg_name (i := 6) scBeat.nd rfl (.inl rfl)) (pgs_cons (pg_name (i := 7) scBeat.nd rfl (.inl rfl)) pgs_nil))))))
      (pss_cons (ps_asg (pe_c cT hr (pa_cons (pv 0) (pa_cons (pv 1) (pa_cons (pv 2) pa_nil)))) (pg_tup rfl (pgs_cons (pg_name (i := 8) scBeat.nd rfl (.inl rfl)) (pgs_cons (pg_name (i := 9) scBeat.nd rfl (.inl rfl)) pgs_nil))))
      (pss_cons (ps_set (i := 10) scBeat.nd rfl (.inr rfl) (pe_lst pa_nil))
      (C8.pss_cut (ps_for PassesOwn.never rfl (pi_enumT (by rfl) B.enumerate (pa_cons (pv 6) pa_nil)) (pg_tup rfl (pgs_cons (pg_name (i := 11) scBeat.nd rfl (.inl rfl)) (pgs_cons (pg_name (i := 12) scBeat.nd rfl (.inl rfl)) pgs_nil)))
        (pss_one (ps_if (pt_cmpR op_in_seq (pv 11) (pv 8) (by rfl))
          (pss_one (ps_expr (pe_bm PySem.F.plainAttrs_list PySem.F.slot_list_append PySem.F.type_list_append mt_append (pv 10) (pa_cons pe_int pa_nil))))
          (pss_one (ps_if (pt_cmpR op_in_seq (pv 11) (pv 9) (by rfl))
            (pss_one (ps_expr (pe_bm PySem.F.plainAttrs_list PySem.F.slot_list_append PySem.F.type_list_append mt_append (pv 10) (pa_cons (pe_un un_neg pe_int) pa_nil))))
            (pss_one (ps_expr (pe_bm PySem.F.plainAttrs_list PySem.F.slot_list_append PySem.F.type_list_append mt_append (pv 10) (pa_cons
              (pe_ifExp (pt_cmpR op_gt (pv 12) pe_int (nomark _))
                (pe_callB (call_min2 rfl) (by rfl) B.min (by decide +kernel) (pa_cons (pe_ix ix_tup (pv 0) pe_int (fun _ _ => rfl)) (pa_cons (pe_op op_add (pv 12) pe_int) pa_nil)))
                (pe_callB (call_max2 rfl) (by rfl) B.max (by decide +kernel) (pa_cons (pe_op op_sub pe_int (pe_ix ix_tup (pv 0) pe_int (fun _ _ => rfl))) (pa_cons (pe_op op_sub (pv 12) pe_int) pa_nil)))) pa_nil)))))))))
      (C8.pss_cut (ps_setLc (i := 13) (own := [("_law_k", 11)]) (g := gName 11) rfl scBeat.nd rfl rfl (sw_true rfl rfl rfl (by decide +kernel)) (pi_range1 (by rfl) B.range (pa_cons (pe_callB call_lenS (by rfl) B.len (by decide +kernel) (pa_cons (pv 6) pa_nil)) pa_nil)) (blkOk_by (own := [("_law_k", 11)]) (N := nBeat) (sc := defScope (topS 42)) (by decide +kernel))
            (fun _ _ _ _ _ => pg_name (i := 11) scBeat.nd rfl (Or.inl rfl))
            (fun _ _ _ _ _ => pts_one (pt_cmpR op_gt (pe_ix (r := rIxL K) ix_list (pv 10) (pv 11) (fun _ _ => rfl)) pe_int (nomark _)))
            (fun _ _ _ _ _ => pv 11))
      (pss_cons (ps_set (i := 14) scBeat.nd rfl (.inl rfl) (pe_op op_sub (pe_op op_add (pv 4) (pv 3)) (pe_op op_mul (pe_ix ix_tup (pv 0) pe_int (fun _ _ => rfl)) (pe_callB call_lenS (by rfl) B.len (by decide +kernel) (pa_cons (pv 13) pa_nil)))))
      (C8.pss_cut (ps_if (PW.pt (pw_and (pt_cmpR op_eq (pv 1) pe_str (nomark _)) (pw_and1 (pt_cmpR (op_neE hr.units) (pv 8) (pe_lst pa_nil) (nomark _)))))
          (pss_one (ps_set (i := 7) scBeat.nd rfl (.inl rfl) (pe_op op_mod (pe_callTy call_int1 (by rfl) B.int (by decide +kernel) (pa_cons (pe_op op_add (pe_ix ix_list (pv 8) (pe_un un_neg pe_int) (fun _ _ => rfl)) pe_int) pa_nil)) (pe_callB call_lenS (by rfl) B.len (by decide +kernel) (pa_cons (pv 6) pa_nil))))) pss_nil)
      (C8.pss_cut (ps_set (i := 15) scBeat.nd rfl (.inl rfl) (pe_tup (pa_cons (pv 14) (pa_cons
          (pe_ifExp (pt_cmpR op_gt (pe_ix ix_tup (pv 0) pe_int (fun _ _ => rfl)) pe_int (nomark _)) (pe_op op_catA (pe_slice sl_tupA (pv 5) (po_some pe_int) po_none) (pe_tup (pa_cons (pv 4) pa_nil))) (pe_tup pa_nil))
          (pa_cons (pe_callTy call_tuple_of (by rfl) B.tuple (by decide +kernel) (pa_cons (pv 10) pa_nil)) (pa_cons (pv 7) pa_nil))))))
      (C8.pss_cut (ps_if (pt_cmpR op_gt (pv 14) (pe_ix ix_tup (pv 0) pe_int (fun _ _ => rfl)) (nomark _)) (pss_one (ps_set (i := 15) scBeat.nd rfl (.inl rfl) pe_str))
          (pss_one (ps_if (pt_cmpR op_lt (pv 14) pe_int (nomark _)) (pss_one (ps_set (i := 15) scBeat.nd rfl (.inl rfl) pe_str)) pss_nil)))
      (pss_one (ps_ret (pe_tup (pa_cons (pv 15) (pa_cons (pe_callTy call_tuple_of (by rfl) B.tuple (by decide +kernel) (pa_cons (pv 13) pa_nil))
        (pa_cons (pe_callTy call_tuple_of (by rfl) B.tuple (by decide +kernel) (pa_cons (pe_callB cr_sorted (by rfl) B.sorted (by decide +kernel) (pa_cons (pv 8) pa_nil)) pa_nil)) pa_nil)))))))))))))), ?_⟩
    have al1 := ok.al1
    have al2 := ok.al2
    refine ⟨_, rfl, a, _, rfl, seqT hc, rfl, _, _, rfl, _, _, rfl, _, _, rfl, _, _, rfl, rfl, ?_⟩
    refine ⟨_, rfl, _, rfl, _, rfl, p, wl, t, a, c, rfl, hw, okw, ⟨pp, pa, hc, hp, hg⟩, ok, fun z1 bg en H1 s1 g1 nb ne hb he => ?_⟩
    refine ⟨z1, _, rfl, seqT g1, rfl, _, _, rfl, _, _, rfl, rfl, ?_⟩
    refine ⟨Nat.zero_le _, fun fo nf => ?_⟩
    have s2 : Same H1 (upd H1 fo (.lst [])) := same_upd nf
    have g2 : (upd H1 fo (.lst [])) fo = some (.lst []) := upd_same
    generalize upd H1 fo (.lst []) = H2 at s2 g2 ⊢
    have hb2 := s2 _ _ hb
    have he2 := s2 _ _ he
    have s02 := s1.trans s2
    have nfH : H fo = none := s1.free nf
    have rlen : (runs wl t c).length ≤ 6 := Nat.le_trans (List.length_filter_le _ _) (Nat.le_trans (Nat.le_of_eq List.length_range) al2)
    refine ⟨fun σ' H' => ∃ v11 v12, σ' = ([some (.ref p), some (.str (ruleS t)), some (.ref a), some (.int iq), some (.int c.level), some (.ref pp), some (.ref pa), some (.int c.mark), some (.ref bg), some (.ref en), some (.ref fo), v11, v12, none, none, none] : L2.St) ∧
      Same H H' ∧ H' bg = some (.lst (natsL (begun wl t c))) ∧ H' fo = some (.lst ((agesAfter wl t c).map V.int)), ?_, ?_⟩
    · refine ⟨_, rfl, pa, _, rfl, (hg.same s02).seq, for_enumT (xs := c.ages.map V.int) (fun i σ H' => ∃ v11 v12, σ = ([some (.ref p), some (.str (ruleS t)), some (.ref a), some (.int iq), some (.int c.level), some (.ref pp), some (.ref pa), some (.int c.mark), some (.ref bg), some (.ref en), some (.ref fo), v11, v12, none, none, none] : L2.St) ∧
        Same H H' ∧ H' bg = some (.lst (natsL (begun wl t c))) ∧ H' en = some (.lst (natsL (ended wl c))) ∧ H' fo = some (.lst (((List.range i).map (ageAt wl t c)).map V.int))) ⟨none, none, rfl, s02, hb2, he2, g2⟩ ?_ ?_ ?_⟩
      · rintro i σ H' ⟨v10, v11, rfl, sm, _⟩
        exact (hg.same sm).seq
      · rintro i x T σ H' hx ⟨v10, v11, rfl, sm, hb', he', hf'⟩ nT
        obtain ⟨y, hy, rfl⟩ := map_get hx
        have hi : i < c.ages.length := (List.getElem?_eq_some_iff.mp hy).1
        have sT : Same H' (upd H' T (.tup [.int (i : Nat), .int y])) := same_upd nT
        have gT : (upd H' T (.tup [.int (i : Nat), .int y])) T = some (.tup [.int (i : Nat), .int y]) := upd_same
        have s3 := sm.trans sT
        have hw3 := hw.same s3
        have hfo := sT _ _ hf'
        have hbg := sT _ _ hb'
        have hen := sT _ _ he'
        have hbf : bg ≠ fo := ne_of_none hb nf
        have hef : en ≠ fo := ne_of_none he nf
        generalize upd H' T (.tup [.int (i : Nat), .int y]) = H3 at sT gT s3 hw3 hfo hbg hen ⊢
        refine ⟨T, _, rfl, seqT gT, rfl, _, _, rfl, _, _, rfl, rfl, ?_⟩
        -- what is appended, once
        have fin : ∀ z : Int, z = ageAt wl t c i → ∃ (l : Addr) (ys : List V) (v : V), V.ref fo = .ref l ∧ [V.int z] = [v] ∧ H3 l = some (.lst ys) ∧ ys.length < sizeLine ∧
            ∃ v11 v12, ([some (.ref p), some (.str (ruleS t)), some (.ref a), some (.int iq), some (.int c.level), some (.ref pp), some (.ref pa), some (.int c.mark), some (.ref bg), some (.ref en), some (.ref fo), some (.int (i : Nat)), some (.int y), none, none, none] : L2.St) =
              [some (.ref p), some (.str (ruleS t)), some (.ref a), some (.int iq), some (.int c.level), some (.ref pp), some (.ref pa), some (.int c.mark), some (.ref bg), some (.ref en), some (.ref fo), v11, v12, none, none, none] ∧
              Same H (upd H3 l (.lst (ys ++ [v]))) ∧ (upd H3 l (.lst (ys ++ [v]))) bg = some (.lst (natsL (begun wl t c))) ∧ (upd H3 l (.lst (ys ++ [v]))) en = some (.lst (natsL (ended wl c))) ∧
              (upd H3 l (.lst (ys ++ [v]))) fo = some (.lst (((List.range (i + 1)).map (ageAt wl t c)).map V.int)) := by
          rintro z rfl
          refine ⟨fo, _, _, rfl, rfl, hfo, ?_, _, _, rfl, upd_keep s3 nfH, ?_, ?_, ?_⟩
          · rw [List.length_map, List.length_map, List.length_range]
            exact len_lt (Nat.le_trans (Nat.le_of_lt hi) al2) (by decide)
          · rw [upd_ne hbf]
            exact hbg
          · rw [upd_ne hef]
            exact hen
          · rw [upd_same, ← range_snoc, List.map_append]
            rfl
        have ag : c.ages.getD i 0 = y := getD_of hy
        have av := ageAt_law (t := t) okw hi
        rw [ag] at av
        refine ⟨_, rfl, _, rfl, bg, _, rfl, .inl (seqL hbg), rfl, natsL_flat _, _, rfl, ?_⟩
        rw [show inV (V.int ((i : Nat) : Int)) (natsL (begun wl t c)) = decide (i ∈ begun wl t c) from inV_nats _ _]
        refine ite2 (fun h1 => ?_) (fun h1 => ?_)
        · have h1 := of_decide_eq_true h1
          exact ⟨_, rfl, .inl ⟨rfl, _, seqL hfo⟩, fin 1 (by rw [av, if_pos h1])⟩
        · have h1 : ¬ i ∈ begun wl t c := fun z => h1 (decide_eq_true z)
          refine ⟨_, rfl, _, rfl, en, _, rfl, .inl (seqL hen), rfl, natsL_flat _, _, rfl, ?_⟩
          rw [show inV (V.int ((i : Nat) : Int)) (natsL (ended wl c)) = decide (i ∈ ended wl c) from inV_nats _ _]
          refine ite2 (fun h2 => ?_) (fun h2 => ?_)
          · have h2 := of_decide_eq_true h2
            exact ⟨_, rfl, .inl ⟨rfl, _, seqL hfo⟩, _, rfl, fin (-1) (by rw [av, if_neg h1, if_pos h2])⟩
          · have h2 : ¬ i ∈ ended wl c := fun z => h2 (decide_eq_true z)
            refine ⟨_, rfl, .inl ⟨rfl, _, seqL hfo⟩, _, rfl, y, 0, rfl, rfl, _, rfl, ite2 (fun h3 => ?_) (fun h3 => ?_)⟩
            · have h3 := of_decide_eq_true h3
              refine ⟨_, rfl, p, _, _, _, rfl, rfl, hw3.seq, rfl, _, rfl, y, 1, rfl, rfl, wl.run, y + 1, rfl, fin _ ?_⟩
              rw [av, if_neg h1, if_neg h2, if_pos h3]
            · have h3 : ¬ 0 < y := fun z => h3 (decide_eq_true z)
              refine ⟨_, rfl, p, _, _, _, rfl, rfl, hw3.seq, rfl, 0, wl.rest, rfl, rfl, _, rfl, y, 1, rfl, rfl, _, y - 1, rfl, fin _ ?_⟩
              rw [av, if_neg h1, if_neg h2, if_neg h3, Int.zero_sub]
      · rintro σ H' ⟨v10, v11, rfl, sm, hb', he', hf'⟩
        rw [List.length_map] at hf'
        exact ⟨v10, v11, rfl, sm, hb', hf'⟩
    rintro σ3 H3 ⟨v11, v12, rfl, s3, hb3, hf3⟩
    have ln : (c.ages.map V.int).length = c.ages.length := List.length_map _
    have en' : (((c.ages.map V.int).length : Nat) : Int).toNat = c.ages.length := by
      rw [ln]
      exact Int.toNat_natCast _
    refine ⟨fun σ' H' => ∃ ru, σ' = ([some (.ref p), some (.str (ruleS t)), some (.ref a), some (.int iq), some (.int c.level), some (.ref pp), some (.ref pa), some (.int c.mark), some (.ref bg), some (.ref en), some (.ref fo), v11, v12, some (.ref ru), none, none] : L2.St) ∧ Same H3 H' ∧ H' ru = some (.lst (natsL (runs wl t c))), ?_, ?_⟩
    · refine ⟨_, rfl, pa, _, rfl, .inr (hg.same s3).seq, _, rfl, ?_, ?_, fun D hD => lc_range (lo := 0) (fun i H' => Same H3 H' ∧ H' D = some (.lst (natsL ((List.range i).filter fun k => decide (0 < ageAt wl t c k))))) ⟨same_upd hD, upd_same⟩ ?_ ?_⟩
      · rw [ln]
        omega
      · rw [ln]
        omega
      · rintro i H' hi ⟨sm, hD'⟩
        rw [en'] at hi
        have hfi : ((agesAfter wl t c)[i]?) = some (ageAt wl t c i) := agesAfter_get wl t c hi
        refine ⟨rfl, _, rfl, _, rfl, fo, _, _, .int (ageAt wl t c i), rfl, rfl, seqL (sm _ _ hf3), ?_, _, 0, rfl, rfl, _, rfl, ?_⟩
        · rw [Int.zero_add]
          exact int_at hfi
        · rw [runs_take hfi]
          refine ite2 (fun h1 => ?_) (fun h1 => ?_)
          · refine ⟨_, rfl, _, hD', ?_, upd_keep sm hD, ?_⟩
            · rw [natsL_len]
              exact len_lt (Nat.le_trans (List.length_filter_le _ _) (Nat.le_trans (Nat.le_of_eq List.length_range) (Nat.le_trans (Nat.le_of_lt hi) al2))) (by decide)
            · rw [upd_same, if_pos h1, natsL_app, Int.zero_add]
              rfl
          · refine ⟨sm, ?_⟩
            rw [if_neg h1, List.append_nil]
            exact hD'
      · rintro H4 ⟨sm, hD'⟩
        rw [en'] at hD'
        exact ⟨D, rfl, sm, hD'⟩
    rintro σ4 H4 ⟨ru, rfl, s4, hr4⟩
    have s04 := s3.trans s4
    have hb4 := s4 _ _ hb3
    have hf4 := s4 _ _ hf3
    have d1 := okw.dr1
    have d2 := okw.dr2
    refine ⟨_, rfl, _, rfl, _, _, rfl, rfl, _, rfl, p, _, _, _, rfl, rfl, (hw.same s04).seq, rfl, _, rfl, ru, _, rfl, .inl (seqL hr4), wl.drain, _, rfl, rfl, .inl ⟨by omega, by omega⟩, _, _, rfl, rfl, ?_⟩
    rw [natsL_len]
    -- the mark
    refine ⟨fun σ' H' => σ' = ([some (.ref p), some (.str (ruleS t)), some (.ref a), some (.int iq), some (.int c.level), some (.ref pp), some (.ref pa), some (.int (markAfter wl t c)), some (.ref bg), some (.ref en), some (.ref fo), v11, v12, some (.ref ru), some (.int (later wl t c iq)), none] : L2.St) ∧ Same H4 H', ?_, ?_⟩
    · refine ⟨_, rfl, rfl, t, congrArg V.bl (rule_eq t), ?_⟩
      cases t with
      | true =>
        refine iteT ⟨_, rfl, Nat.zero_le _, fun em nem => ⟨bg, em, (begun wl true c).map fun k : Nat => (k : Int), rfl, rfl, ?_, seqL upd_same, _, rfl, ite2 (fun h3 => ?_) (fun h3 => ?_)⟩⟩
        · rw [← natsL_ints]
          exact seqL (by rw [upd_ne (ne_of_none hb4 nem)]; exact hb4)
        · have h3 := of_decide_eq_true h3
          have h4 : begun wl true c ≠ [] := fun z => h3 (by rw [z]; rfl)
          obtain ⟨ini, la, e⟩ : ∃ ini la, begun wl true c = ini ++ [la] := ⟨_, _, (List.dropLast_concat_getLast h4).symm⟩
          have sE : Same H4 (upd H4 em (.lst [])) := same_upd nem
          refine ⟨_, rfl, 1, rfl, bg, natsL (begun wl true c), _, .int (la : Nat), rfl, rfl, seqL (sE _ _ hb4), ?_, ?_⟩
          · rw [e, natsL_app]
            exact atI_last _ _
          · refine ⟨_, 1, rfl, rfl, .inl ⟨_, rfl, _, rfl, pa, _, rfl, .inr ((hg.same s04).same sE).seq, _, _, rfl, rfl, ?_, ?_⟩⟩
            · rw [List.length_map]
              omega
            · refine ⟨?_, sE⟩
              rw [List.length_map]
              show _ = _
              unfold markAfter
              rw [if_pos ⟨rfl, h4⟩, e, List.getLastD_concat]
              rfl
        · have h3 : begun wl true c = [] := by
            by_cases z : begun wl true c = []
            · exact z
            · exact absurd (decide_eq_true (show (begun wl true c).map (fun k : Nat => (k : Int)) ≠ [] from fun y => z (List.map_eq_nil_iff.mp y))) h3
          refine ⟨?_, same_upd nem⟩
          unfold markAfter
          rw [if_neg (fun z => z.2 h3)]
          rfl
      | false =>
        refine iteF ⟨?_, fun _ _ e => e⟩
        unfold markAfter
        rw [if_neg (fun z => Bool.false_ne_true z.1)]
        rfl
    rintro σ5 H5 ⟨rfl, s5⟩
    have s05 := s04.trans s5
    have hb5 := s5 _ _ hb4
    have hf5 := s5 _ _ hf4
    have hr5 := s5 _ _ hr4
    refine ⟨fun σ' H' => ∃ bb, σ' = ([some (.ref p), some (.str (ruleS t)), some (.ref a), some (.int iq), some (.int c.level), some (.ref pp), some (.ref pa), some (.int (markAfter wl t c)), some (.ref bg), some (.ref en), some (.ref fo), v11, v12, some (.ref ru), some (.int (later wl t c iq)), some (.ref bb)] : L2.St) ∧ Same H5 H' ∧ CrewT H' bb (nextCr wl t c iq), ?_, ?_⟩
    · have fin : ∀ z H6 at' bb, Same H5 H6 → IntsT H6 z ((c.past ++ [c.level]).drop 1) → H6 at' = none → (upd H6 at' (.tup ((agesAfter wl t c).map V.int))) bb = none →
          Same H5 (upd (upd H6 at' (.tup ((agesAfter wl t c).map V.int))) bb (.tup [.int (later wl t c iq), .ref z, .ref at', .int (markAfter wl t c)])) ∧
          CrewT (upd (upd H6 at' (.tup ((agesAfter wl t c).map V.int))) bb (.tup [.int (later wl t c iq), .ref z, .ref at', .int (markAfter wl t c)])) bb (nextCr wl t c iq) := fun z H6 at' bb s6 hz n1 n2 => by
        have sa : Same H6 (upd H6 at' (.tup ((agesAfter wl t c).map V.int))) := same_upd n1
        have ga : IntsT (upd H6 at' (.tup ((agesAfter wl t c).map V.int))) at' (agesAfter wl t c) := upd_same
        exact ⟨(s6.trans sa).trans (same_upd n2), z, at', upd_same, (hz.same sa).same (same_upd n2), ga.same (same_upd n2)⟩
      refine ⟨_, rfl, _, rfl, p, _, _, _, rfl, rfl, (hw.same s05).seq, rfl, wl.lag, 0, rfl, rfl, _, rfl, ite2 (fun h => ?_) (fun h => ?_)⟩
      · have h := of_decide_eq_true h
        have hpl := ok.pl
        have hlag2 := okw.lag2
        refine ⟨_, rfl, 1, rfl, ?_⟩
        delta tNoPart
        refine tail_ints (hp.same s05) (by omega) fun z0 H6 s6 hz0 => ⟨_, rfl, Nat.le_of_lt (len_lt (m := 1) (Nat.le_refl 1) (by decide)), fun e1 n1 => ?_⟩
        refine cat_ints (hz0.same (same_upd n1)) (show IntsT _ e1 [c.level] from upd_same) (Nat.le_of_lt (len_lt (m := 4) (show (c.past.drop 1).length + 1 ≤ 4 by rw [List.length_drop]; omega) (by decide))) fun z H7 s7 hz => ?_
        rw [← past_law ok h] at hz
        have s57 := (s6.trans (same_upd n1)).trans s7
        refine ⟨_, rfl, fo, _, rfl, .inl ⟨seqL (s57 _ _ hf5), fun at' na => ⟨_, rfl, Nat.le_of_lt (len_lt (m := 4) (Nat.le_refl 4) (by decide)), fun bb nbb => ?_⟩⟩⟩
        obtain ⟨x1, x2⟩ := fin z H7 at' bb s57 hz na nbb
        exact ⟨bb, rfl, x1, x2⟩
      · have h : ¬ 0 < wl.lag := fun z => h (decide_eq_true z)
        refine ⟨Nat.zero_le _, fun z nz => ?_⟩
        have hz : IntsT (upd H5 z (.tup [])) z ((c.past ++ [c.level]).drop 1) := by
          rw [past_law0 ok h]
          exact upd_same
        have s57 : Same H5 (upd H5 z (.tup [])) := same_upd nz
        refine ⟨_, rfl, fo, _, rfl, .inl ⟨seqL (s57 _ _ hf5), fun at' na => ⟨_, rfl, Nat.le_of_lt (len_lt (m := 4) (Nat.le_refl 4) (by decide)), fun bb nbb => ?_⟩⟩⟩
        obtain ⟨x1, x2⟩ := fin z _ at' bb s57 hz na nbb
        exact ⟨bb, rfl, x1, x2⟩
    rintro σ6 H6 ⟨bb, rfl, s6, hc6⟩
    have s06 := s05.trans s6
    have hb6 := s6 _ _ hb5
    have hr6 := s6 _ _ hr5
    refine ⟨fun σ' H' => ∃ v, σ' = ([some (.ref p), some (.str (ruleS t)), some (.ref a), some (.int iq), some (.int c.level), some (.ref pp), some (.ref pa), some (.int (markAfter wl t c)), some (.ref bg), some (.ref en), some (.ref fo), v11, v12, some (.ref ru), some (.int (later wl t c iq)), some v] : L2.St) ∧ H' = H6 ∧ BeatV H6 v (beat wl t c iq), ?_, ?_⟩
    · refine ⟨_, rfl, _, rfl, p, _, _, _, rfl, rfl, (hw.same s06).seq, rfl, _, wl.top, rfl, rfl, _, rfl, ite2 (fun h1 => ?_) (fun h1 => ?_)⟩
      · have h1 := of_decide_eq_true h1
        refine ⟨_, rfl, rfl, ?_⟩
        unfold beat
        rw [if_pos h1]
        rfl
      · have h1 : ¬ wl.top < later wl t c iq := fun z => h1 (decide_eq_true z)
        refine ⟨_, rfl, _, 0, rfl, rfl, _, rfl, ite2 (fun h2 => ?_) (fun h2 => ?_)⟩
        · have h2 := of_decide_eq_true h2
          refine ⟨_, rfl, rfl, ?_⟩
          unfold beat
          rw [if_neg h1, if_pos h2]
          rfl
        · have h2 : ¬ later wl t c iq < 0 := fun z => h2 (decide_eq_true z)
          refine ⟨_, rfl, rfl, ?_⟩
          unfold beat
          rw [if_neg h1, if_neg h2]
          exact ⟨bb, rfl, hc6⟩
    rintro σ7 H7 ⟨v, rfl, rfl, hv⟩
    refine ⟨_, rfl, _, rfl, ru, _, rfl, .inl ⟨seqL hr6, fun rt nrt => ?_⟩⟩
    have s8 : Same H7 (upd H7 rt (.tup (natsL (runs wl t c)))) := same_upd nrt
    have g8 : (upd H7 rt (.tup (natsL (runs wl t c)))) rt = some (.tup (natsL (runs wl t c))) := upd_same
    generalize upd H7 rt (.tup (natsL (runs wl t c))) = H8 at s8 g8 ⊢
    have bl : (begun wl t c).length ≤ 6 := Nat.le_trans (begun_length wl t c) al2
    refine ⟨_, rfl, bg, (begun wl t c).map (fun k : Nat => (k : Int)), rfl, ?_, ?_, fun ns' so _ _ nso => ⟨so, _, rfl, .inl ⟨seqL upd_same, fun st nst => ?_⟩⟩⟩
    · rw [← natsL_ints]
      exact seqL (s8 _ _ hb6)
    · rw [List.length_map]
      omega
    refine ⟨Nat.le_of_lt (len_lt (m := 3) (Nat.le_refl 3) (by decide)), fun z nz => ?_⟩
    have s88 := (same_upd nso : Same H8 (upd H8 so (.lst (ns'.map V.int)))).trans (same_upd (o := .tup (ns'.map V.int)) nst)
    refine q z v rt (.ref st) _ (((s06.trans s8).trans s88).trans (same_upd nz)) upd_same ?_ (same_upd nz _ _ (s88 _ _ g8))
    match beat wl t c iq, hv with
    | .inl true, hv => exact hv
    | .inl false, hv => exact hv
    | .inr d, ⟨r, e, hd⟩ => exact ⟨r, e, (hd.same (s8.trans s88)).same (same_upd nz)⟩
end
end Kx
/-! What is told, and shown. -/
namespace Kx
open PySem PySem.Spec PyProof.Rows L2 Pm
/-! ### data that may be shown -/
structure Nice (d : PyData) (p b : Nat) : Prop where
  sh : d.showable = true
  nd : d.hasDict = false
  lv : d.leavesShort 13 = true
  de : d.depth ≤ p
  bu : d.bulk ≤ b
structure NiceAll (ds : List PyData) (p b : Nat) : Prop where
  sh : PyData.showableAll ds = true
  nd : PyData.hasDictAll ds = false
  lv : PyData.leavesShortAll 13 ds = true
  de : PyData.depthAll ds ≤ p
  bu : PyData.bulkAll ds ≤ b
theorem NiceAll.nil {p : Nat} : NiceAll [] p 0 := ⟨by simp [PyData.showableAll], by simp [PyData.hasDictAll], by simp [PyData.leavesShortAll], by simp [PyData.depthAll], by simp [PyData.bulkAll]⟩
theorem NiceAll.cons {d : PyData} {ds : List PyData} {p b c : Nat} (h : Nice d p b) (t : NiceAll ds p c) : NiceAll (d :: ds) p (b + 1 + c) := by
  have h1 := h.de
  have h2 := t.de
  have h3 := h.bu
  have h4 := t.bu
  refine ⟨?_, ?_, ?_, ?_, ?_⟩
  · simp only [PyData.showableAll, h.sh, t.sh, Bool.and_self]
  · simp only [PyData.hasDictAll, h.nd, t.nd, Bool.or_self]
  · simp only [PyData.leavesShortAll, h.lv, t.lv, Bool.and_self]
  · simp only [PyData.depthAll]
    omega
  · simp only [PyData.bulkAll]
    omega
theorem NiceAll.tup {ds : List PyData} {p b : Nat} (t : NiceAll ds p b) : Nice (.tuple ds) (p + 1) b := by
  have h2 := t.de
  have h4 := t.bu
  refine ⟨?_, ?_, ?_, ?_, ?_⟩
  · simp only [PyData.showable, t.sh]
  · simp only [PyData.hasDict, t.nd]
  · simp only [PyData.leavesShort, t.lv]
  · simp only [PyData.depth]
    omega
  · simp only [PyData.bulk]
    omega
theorem NiceAll.lst {ds : List PyData} {p b : Nat} (t : NiceAll ds p b) : Nice (.list ds) (p + 1) b := by
  have h2 := t.de
  have h4 := t.bu
  refine ⟨?_, ?_, ?_, ?_, ?_⟩
  · simp only [PyData.showable, t.sh]
  · simp only [PyData.hasDict, t.nd]
  · simp only [PyData.leavesShort, t.lv]
  · simp only [PyData.depth]
    omega
  · simp only [PyData.bulk]
    omega
theorem Nice.mono {d : PyData} {p b q c : Nat} (h : Nice d p b) (h1 : p ≤ q) (h2 : b ≤ c) : Nice d q c := ⟨h.sh, h.nd, h.lv, Nat.le_trans h.de h1, Nat.le_trans h.bu h2⟩
def Sm (i : Int) : Prop := -20 ≤ i ∧ i ≤ 1000
theorem sm_tab : ∀ n : Fin 1021, (PyData.leavesShort 13 (.int ((n.val : Int) - 20)) && PyData.showable (.int ((n.val : Int) - 20))) = true := by decide +kernel
theorem niceI {i : Int} {p : Nat} (h : Sm i) : Nice (.int i) p 0 := by
  have h1 := h.1
  have h2 := h.2
  have e := sm_tab ⟨(i + 20).toNat, by omega⟩
  have e2 : (((⟨(i + 20).toNat, by omega⟩ : Fin 1021).val : Int) - 20) = i := by
    show (((i + 20).toNat : Nat) : Int) - 20 = i
    omega
  rw [e2, Bool.and_eq_true] at e
  exact ⟨e.2, by simp [PyData.hasDict], e.1, by simp [PyData.depth], by simp [PyData.bulk]⟩
theorem niceS {x : Str} {p : Nat} (h : (PyData.leavesShort 13 (.str x)) = true) (h2 : x.cps.size ≤ 10) : Nice (.str x) p 10 := ⟨by simp [PyData.showable], by simp [PyData.hasDict], h, by simp [PyData.depth], by simp only [PyData.bulk]; exact h2⟩
theorem niceN {p : Nat} : Nice .none p 0 := ⟨by simp [PyData.showable], by simp [PyData.hasDict], by simp [PyData.leavesShort], by simp [PyData.depth], by simp [PyData.bulk]⟩
theorem niceInts {p : Nat} : ∀ {ns : List Int}, (∀ x ∈ ns, Sm x) → NiceAll (ns.map PyData.int) p ns.length
  | [], _ => NiceAll.nil
  | n :: r, h => by
    have := NiceAll.cons (niceI (p := p) (h n (List.mem_cons_self ..))) (niceInts (p := p) (ns := r) fun x hx => h x (List.mem_cons_of_mem _ hx))
    rw [List.length_cons]
    exact ⟨this.sh, this.nd, this.lv, this.de, by have := this.bu; show PyData.bulkAll (PyData.int n :: r.map PyData.int) ≤ _; omega⟩
theorem niceIs {ns : List Int} (h : ∀ x ∈ ns, Sm x) : Nice (intsD ns) 1 ns.length := (niceInts (p := 0) h).tup
theorem smCr {w : Wl} {t : Bool} {c : Cr} (hw : w.Ok) (hc : c.Ok w t) : Sm c.level ∧ (∀ x ∈ c.past, Sm x) ∧ (∀ x ∈ c.ages, Sm x) ∧ Sm c.mark := by
  have a1 := hw.top2
  have a2 := hc.lv1
  have a3 := hc.lv2
  have a4 := hc.mk1
  have a5 := hc.mk2
  have a6 := hc.al2
  have a7 := hw.run2
  have a8 := hw.rest2
  refine ⟨⟨by omega, by omega⟩, fun x hx => ?_, fun x hx => ?_, ⟨by omega, by omega⟩⟩
  · have := hc.pv x hx
    exact ⟨by omega, by omega⟩
  · have := hc.av x hx
    exact ⟨by omega, by omega⟩
theorem niceCr {w : Wl} {t : Bool} {c : Cr} (hw : w.Ok) (hc : c.Ok w t) : Nice (crewD c) 3 13 := by
  obtain ⟨h1, h2, h3, h4⟩ := smCr hw hc
  have a1 := hc.pl
  have a2 := hw.lag2
  have a3 := hc.al2
  have n := (NiceAll.cons (niceI h1) (NiceAll.cons ((niceIs h2).mono (q := 2) (by decide) (Nat.le_refl _)) (NiceAll.cons ((niceIs h3).mono (q := 2) (by decide) (Nat.le_refl _)) (NiceAll.cons (niceI h4) NiceAll.nil)))).tup
  exact n.mono (Nat.le_refl _) (by omega)
theorem niceBeat {w : Wl} {t : Bool} {b : Sum Bool Cr} (hw : w.Ok) (hb : ∀ d, b = .inr d → d.Ok w t) : Nice (beatD b) 3 13 := by
  match b, hb with
  | .inl true, _ => exact (niceS (p := 0) (by decide +kernel) (by decide +kernel)).mono (by decide) (by decide)
  | .inl false, _ => exact (niceS (p := 0) (by decide +kernel) (by decide +kernel)).mono (by decide) (by decide)
  | .inr d, hb => exact niceCr hw (hb d rfl)
theorem niceWl {w : Wl} (hw : w.Ok) : Nice (intsD (wlL w)) 1 9 := by
  have := hw.top1
  have := hw.top2
  have := hw.dr1
  have := hw.dr2
  have := hw.on1
  have := hw.on2
  have := hw.off1
  have := hw.off2
  have := hw.run1
  have := hw.run2
  have := hw.rest1
  have := hw.rest2
  have := hw.st1
  have := hw.st2
  have := hw.step1
  have := hw.step2
  have := hw.lag1
  have := hw.lag2
  refine niceIs fun x hx => ?_
  simp only [wlL, List.mem_cons, List.not_mem_nil, or_false] at hx
  rcases hx with rfl | rfl | rfl | rfl | rfl | rfl | rfl | rfl | rfl <;> exact ⟨by omega, by omega⟩
theorem niceRule (t : Bool) {p : Nat} : Nice (.str (ruleS t)) p 10 := by
  cases t
  · exact niceS (by decide +kernel) (by decide +kernel)
  · exact niceS (by decide +kernel) (by decide +kernel)
theorem repr_nice {K : PySem.W.Frag} {H : Hp} {x : V} {d : PyData} {Q : VK} {p b : Nat} (hx : x = .non ∨ (∃ z, x = .str z) ∨ ∃ a, x = .ref a) (hd : Dp K H x d) (n : Nice d p b) (hp : p ≤ 40) (hb : b ≤ 1000) (q : Q (.str d.shown) H) : rReprD K [x] H Q := by
  refine ⟨x, d, rfl, hx, hd, n.sh, n.nd, Nat.le_trans n.de hp, ?_, q⟩
  have h := PyData.shown_le_bulk 13 (by decide) d n.lv
  have h2 := n.bu
  rw [sizeLine_eq]
  omega
/-! ### what is told -/
def TellT (H : Hp) (q : Addr) (wl : Wl) (t : Bool) (e : Ent) (n : Int) : Prop :=
  ∃ p cr hr, H q = some (.lst [.ref p, .str (ruleS t), .ref cr, .int e.1.level, .int n, .ref hr, .int n]) ∧ WellT H p wl ∧ CrewT H cr e.1 ∧ IntsT H hr e.2
def tellD (wl : Wl) (t : Bool) (e : Ent) (n : Int) : PyData := .list [intsD (wlL wl), .str (ruleS t), crewD e.1, .int e.1.level, .int n, intsD e.2, .int n]
theorem dpTell {K : PySem.W.Frag} {H : Hp} {q : Addr} {wl : Wl} {t : Bool} {e : Ent} {n : Int} (h : TellT H q wl t e n) : Dp K H (.ref q) (tellD wl t e n) := by
  obtain ⟨p, cr, hr, h1, h2, h3, h4⟩ := h
  exact .lst (seqL h1) (.cons (dpT h2) (.cons (.str _) (.cons (dpCrew h3) (.cons (.int _) (.cons (.int _) (.cons (dpT h4) (.cons (.int _) .nil)))))))
theorem niceTell {wl : Wl} {t : Bool} {e : Ent} {n : Int} (hw : wl.Ok) (hc : e.1.Ok wl t) (hl : e.2.length ≤ 6) (hh : ∀ x ∈ e.2, Sm x) (hn : Sm n) : Nice (tellD wl t e n) 4 100 := by
  have n1 := (niceWl hw).mono (q := 3) (by decide) (Nat.le_refl _)
  have n2 := (niceIs hh).mono (q := 3) (by decide) (Nat.le_refl _)
  have n3 := niceCr hw hc
  have n4 := (NiceAll.cons n1 (NiceAll.cons (niceRule t) (NiceAll.cons n3 (NiceAll.cons (niceI (smCr hw hc).1) (NiceAll.cons (niceI hn) (NiceAll.cons n2 (NiceAll.cons (niceI hn) NiceAll.nil))))))).lst
  exact n4.mono (Nat.le_refl _) (by omega)
theorem TellT.keep {H H' : Hp} {q : Addr} {wl : Wl} {t : Bool} {e : Ent} {n : Int} (s : SameT H H') (k : ∀ x, H q = some x → H' q = some x) (h : TellT H q wl t e n) : TellT H' q wl t e n := by
  obtain ⟨p, cr, hr, h1, h2, h3, h4⟩ := h
  exact ⟨p, cr, hr, k _ h1, h2.keep s, h3.keep s, h4.keep s⟩
/-! ### the law's past -/
def PairT (H : Hp) (v : V) (e : Ent) : Prop := ∃ r cr hr, v = .ref r ∧ H r = some (.tup [.ref cr, .ref hr]) ∧ CrewT H cr e.1 ∧ IntsT H hr e.2
theorem PairT.keep {H H' : Hp} {v : V} {e : Ent} (s : SameT H H') (h : PairT H v e) : PairT H' v e := by
  obtain ⟨r, cr, hr, h1, h2, h3, h4⟩ := h
  exact ⟨r, cr, hr, h1, s _ _ h2, h3.keep s, h4.keep s⟩
def PastL (H : Hp) (p : Addr) (es : List Ent) : Prop := ∃ vs, H p = some (.lst vs) ∧ Ents (PairT H) vs es
theorem PastL.keep {H H' : Hp} {p : Addr} {es : List Ent} (s : SameT H H') (k : ∀ x, H p = some x → H' p = some x) (h : PastL H p es) : PastL H' p es := by
  obtain ⟨vs, h1, h2⟩ := h
  exact ⟨vs, k _ h1, h2.imp fun _ _ => PairT.keep s⟩
end Kx
/-! The law's looks at a plant. -/
namespace Kx
open PySem PySem.Spec PyProof.Rows L2 Pm
/-! ### a plant's class, all together -/
def Prp (P : Program) (w : World) (K : PySem.W.Frag) (mg : Str → Option Value) (base : Heap) (C : Addr) (x : Str) (sp : Sp) : Prop :=
  ∃ p g fd, PropOf K C x p g ∧ FnOk P w K mg base CX0 1 g fd ["self"] sp ∧ Binds K fd ["self"] []
structure PlA (P : Program) (w : World) (K : PySem.W.Frag) (mg : Str → Option Value) (base : Heap) (C Cn : Addr) : Prop where
  T : Pl K mg C
  mgC : mg "Plant" = some (.ref C)
  make : ∃ f fd, Mk K C f ∧ FnOk P w K mg base CX0 5 f fd ["self", "well", "rule", "crew"] (spInit C) ∧ Binds K fd ["self", "well", "rule", "crew"] []
  well : Prp P w K mg base C "well" (spWellP C)
  rule : Prp P w K mg base C "rule" (spRuleP C)
  crew : Prp P w K mg base C "crew" (spCrewP C)
  level : Prp P w K mg base C "level" (spLevelP C)
  beats : Prp P w K mg base C "beats" (spBeatsP C)
  hours : Prp P w K mg base C "hours" (spHoursP C)
  len : ∃ f fd, PySem.W.findIn K (.ref C) "__len__" = some (some (.ref f)) ∧ PySem.W.isFn K (.ref f) = true ∧ FnOk P w K mg base CX0 1 f fd ["self"] (spLenP C) ∧ Binds K fd ["self"] []
  has : ∃ f fd, PySem.W.findIn K (.ref C) "__contains__" = some (some (.ref f)) ∧ PySem.W.isFn K (.ref f) = true ∧ FnOk P w K mg base CX0 2 f fd ["self", "pump"] (spHas C) ∧ Binds K fd ["self", "pump"] []
  call : ∃ f fd, StX.CallO K C f ∧ FnOk P w K mg base (L2.CX P w) 5 f fd ["self", "inflow"] (spCall C Cn) ∧ Binds K fd ["self", "inflow"] []
  told : ∃ f fd, Meth K C "told" f ∧ FnOk P w K mg base CX0 5 f fd ["self", "inflow", "times"] (spTold C) ∧ KBn K fd ["self", "inflow", "times"] 2 ["times"] (fun us ws => us ++ ws) (fun vs zs => vs ++ zs)
  back : ∃ f fd, Meth K C "back" f ∧ FnOk P w K mg base CX0 2 f fd ["self", "many"] (spBack C) ∧ KBn K fd ["self", "many"] 1 ["many"] (fun us ws => us ++ ws) (fun vs zs => vs ++ zs)
section
variable {X : Cx} {C : Addr} {j : Nat} {x : Str} {sp : Sp} {e : Expr} {ta : TE} {pos : Pos}
theorem pe_pr (c : Cls X.K C) (h : Prp X.prog X.w X.K X.mg X.base C x sp) (hr : Room j X.A) (he : PE X e ta) (hk : 2 ≤ j := by decide) (hab : attributeBase e x X.env (eval e X.env) = eval e X.env := by rfl) : PE X (.Attribute e x pos) (tProp C sp [] E0 ta) := by
  obtain ⟨p, g, fd, hp, F, b⟩ := h
  exact pe_prop he c hp F (hr.mono hk) b .nil pass0 hab
def rLenO (C : Addr) : List V → Hp → VK → Prop := fun xs H Q => ∃ a dx fs, xs = [.ref a] ∧ H a = some (.ins C dx fs) ∧ spLenP C [.ref a] H (fun v H' => ∃ z : Nat, v = .int (z : Int) ∧ (z : Int) < 2 ^ 63 ∧ Q (.int (z : Int)) H') E0
def rInO (C : Addr) : R2 := fun x y H Q => ∃ a dx fs, y = .ref a ∧ H a = some (.ins C dx fs) ∧ spHas C [.ref a, x] H (fun v H' => ∃ b, v = .bl b ∧ Q (.bl b) H') E0
theorem call_lenP {Cn : Addr} (A : PlA X.prog X.w X.K X.mg X.base C Cn) (hr : Room j X.A) (hk : 2 ≤ j := by decide) : CallR X (.builtin "len") (rLenO C) := by
  obtain ⟨f, fd, at_, fn, F, b⟩ := A.len
  exact call_lenO A.T.cl at_ fn F (hr.mono hk) b pass0
theorem op_inP {Cn : Addr} (A : PlA X.prog X.w X.K X.mg X.base C Cn) (hr : Room j X.A) (hk : 2 ≤ j := by decide) : OpR X (compareOp .In) (rInO C) := by
  obtain ⟨f, fd, at_, fn, F, b⟩ := A.has
  exact op_inO A.T.cl at_ fn F (hr.mono hk) b pass0
end
section
variable {P : Program} {w : World} {K : PySem.W.Frag} {mg : Str → Option Value} {base : Heap}
/-! ### what is due -/
def spDue : Sp := fun vs H Q _ => ∃ p wl t l es e, vs = [.ref p, .str (ruleS t), .ref l] ∧ WellT H p wl ∧ PastL H l (es ++ [e]) ∧ ∀ q H', H q = none → Same H H' → TellT H' q wl t e es.length → Q (.ref q) H'
theorem scDue : FnScope ["_law_well_here", "_law_rule", "_law_past", "_law_crew_here", "_law_worked"] ["_law_well_here", "_law_rule", "_law_past"] (defScope (topS 43)) := ⟨rfl, rfl, rfl, by decide +kernel, rfl, by decide +kernel, by decide +kernel⟩
theorem ok_due {f : Addr} {fd : FuncData} (D : Df K mg "_law_due" (topS 43) ["_law_well_here", "_law_rule", "_law_past"] f fd) (B : Blt mg) : Cal P w K mg base 1 "_law_due" spDue := by
  refine D.cal (D.fn.ok scDue (fun vs H Q E h => ?_) (fun cdv A outer s H vs Q E hr h => ?_))
  · obtain ⟨p, wl, t, l, es, e, rfl, _⟩ := h
    rfl
  · obtain ⟨p, wl, t, l, es, e, rfl, hw, ⟨vs, hl, he⟩, q⟩ := h
    obtain ⟨us, v, rfl, _, ⟨r, cr, hr', rfl, h3, hc, hh⟩⟩ := he.last
    have hn : ((us ++ [V.ref r]).length : Int) - 1 = es.length := by
      rw [he.1, List.length_append, List.length_singleton]
      omega
    refine ⟨_, pss_cons (ps_asg (pe_ix ix_list (pv 2) (pe_un un_neg pe_int) (fun _ _ => rfl)) (pg_tup rfl (pgs_cons (pg_name (i := 3) scDue.nd rfl (.inl rfl)) (pgs_cons (pg_name (i := 4) scDue.nd rfl (.inl rfl)) pgs_nil))))
      (pss_one (ps_ret (pe_lst (pa_cons (pv 0) (pa_cons (pv 1) (pa_cons (pv 3) (pa_cons (pe_ix ix_tup (pv 3) pe_int (fun _ _ => rfl))
        (pa_cons (pe_op op_sub (pe_callB call_lenS (by rfl) B.len (by decide +kernel) (pa_cons (pv 2) pa_nil)) pe_int) (pa_cons (pv 4) (pa_cons (pe_op op_sub (pe_callB call_lenS (by rfl) B.len (by decide +kernel) (pa_cons (pv 2) pa_nil)) pe_int) pa_nil)))))))))), ?_⟩
    refine ⟨_, rfl, 1, rfl, l, _, _, _, rfl, rfl, seqL hl, atI_last _ _, r, _, rfl, seqT h3, rfl, _, _, rfl, _, _, rfl, rfl, ?_⟩
    have hc' := hc
    obtain ⟨ca, cb, hc0, _, _⟩ := hc
    refine ⟨_, rfl, _, rfl, _, rfl, _, rfl, cr, _, _, _, rfl, rfl, seqT hc0, rfl, _, rfl, l, _, rfl, .inl (seqL hl), _, _, rfl, rfl, _, rfl, _, rfl, l, _, rfl, .inl (seqL hl), _, _, rfl, rfl, Nat.le_of_lt (len_lt (m := 7) (Nat.le_refl 7) (by decide)), fun z nz => q z _ nz (same_upd nz) ⟨p, cr, hr', ?_, hw.same (same_upd nz), hc'.same (same_upd nz), hh.same (same_upd nz)⟩⟩
    rw [upd_same]
    show some (HO.lst [V.ref p, V.str (ruleS t), V.ref cr, V.int e.1.level, V.int (((us ++ [V.ref r]).length : Int) - 1), V.ref hr', V.int (((us ++ [V.ref r]).length : Int) - 1)]) = _
    rw [hn]
/-! ### what is told -/
def spTells (C : Addr) : Sp := fun vs H Q _ => ∃ one wl t es e, vs = [.ref one] ∧ PlantAt C H one wl t (es ++ [e]) ∧ es.length ≤ 1000 ∧ ∀ q H', H q = none → Same H H' → TellT H' q wl t e es.length → Q (.ref q) H'
theorem scTells : FnScope ["_law_one"] ["_law_one"] (defScope (topS 44)) := ⟨rfl, rfl, rfl, by decide +kernel, rfl, by decide +kernel, by decide +kernel⟩
theorem ok_tells {C Cn : Addr} {f : Addr} {fd : FuncData} (D : Df K mg "_law_tells" (topS 44) ["_law_one"] f fd) (B : Blt mg) (A : PlA P w K mg base C Cn) : Cal P w K mg base 3 "_law_tells" (spTells C) := by
  refine D.cal (D.fn.ok scTells (fun vs H Q E h => ?_) (fun cdv A' outer s H vs Q E hr h => ?_))
  · obtain ⟨one, wl, t, es, e, rfl, _⟩ := h
    rfl
  · obtain ⟨one, wl, t, es, e, rfl, hp, hz, q⟩ := h
    refine ⟨_, pss_one (ps_ret (pe_lst (pa_cons (pe_pr A.T.cl A.well hr (pv 0)) (pa_cons (pe_pr A.T.cl A.rule hr (pv 0)) (pa_cons (pe_pr A.T.cl A.crew hr (pv 0)) (pa_cons (pe_pr A.T.cl A.level hr (pv 0)) (pa_cons (pe_pr A.T.cl A.beats hr (pv 0))
      (pa_cons (pe_pr A.T.cl A.hours hr (pv 0)) (pa_cons (pe_callB (call_lenP A hr) (by rfl) B.len (by decide +kernel) (pa_cons (pv 0) pa_nil)) pa_nil))))))))), ?_⟩
    have hp' := hp
    obtain ⟨dx, wp, pp, vs, h1, hw, hpp, he⟩ := hp
    have hle : (es ++ [e]).length = es.length + 1 := by
      rw [List.length_append]
      rfl
    refine ⟨_, rfl, one, dx, _, rfl, h1, one, wl, t, _, rfl, hp', fun p hwp => ?_⟩
    refine ⟨_, rfl, one, dx, _, rfl, h1, one, wl, t, _, rfl, hp', ?_⟩
    refine ⟨_, rfl, one, dx, _, rfl, h1, one, wl, t, es, e, rfl, hp', fun cr hcr => ?_⟩
    refine ⟨_, rfl, one, dx, _, rfl, h1, one, wl, t, es, e, rfl, hp', ?_⟩
    refine ⟨_, rfl, one, dx, _, rfl, h1, one, wl, t, _, rfl, hp', ?_⟩
    refine ⟨_, rfl, one, dx, _, rfl, h1, one, wl, t, es, e, rfl, hp', fun hr' hhr => ?_⟩
    refine ⟨_, rfl, one, dx, _, rfl, h1, one, wl, t, es, e, rfl, hp', fun H' s' => ⟨es.length, rfl, by omega, Nat.le_of_lt (len_lt (m := 7) (Nat.le_refl 7) (by decide)), fun z nz => ?_⟩⟩
    refine q z _ (s'.free nz) (s'.trans (same_upd nz)) ⟨p, cr, hr', ?_, (hwp.same s').same (same_upd nz), (hcr.same s').same (same_upd nz), (hhr.same s').same (same_upd nz)⟩
    rw [upd_same, show (((es ++ [e]).length : Int) - 1) = es.length by rw [hle]; omega]
end
end Kx
/-! Hours counted on; the plant's `in`. -/
namespace Kx
open PySem PySem.Spec PyProof.Rows L2 Pm
section
variable {P : Program} {w : World} {K : PySem.W.Frag} {mg : Str → Option Value} {base : Heap}
def spMore : Sp := fun vs H Q _ => ∃ h r hs rs, vs = [.ref h, .ref r] ∧ IntsT H h hs ∧ H r = some (.tup (natsL rs)) ∧ hs.length ≤ 1000 ∧ ∀ q H', Same H H' → IntsT H' q (hoursAfter rs hs) → Q (.ref q) H'
theorem scMore : FnScope ["_law_worked", "_law_runs", "_law_k"] ["_law_worked", "_law_runs"] (defScope (topS 47)) := ⟨rfl, rfl, rfl, by decide +kernel, rfl, by decide +kernel, by decide +kernel⟩
theorem ok_more {f : Addr} {fd : FuncData} (D : Df K mg "_law_more" (topS 47) ["_law_worked", "_law_runs"] f fd) (B : Blt mg) : Cal P w K mg base 1 "_law_more" spMore := by
  refine D.cal (D.fn.ok scMore (fun vs H Q E h => ?_) (fun cdv A outer s H vs Q E hr h => ?_))
  · obtain ⟨h, r, hs, rs, rfl, _⟩ := h
    rfl
  · obtain ⟨h, r, hs, rs, rfl, hh, hrs, hz, q⟩ := h
    refine ⟨_, pss_one (ps_ret (pe_callTy call_tuple_of (by rfl) B.tuple (by decide +kernel) (pa_cons
      (pe_lc (own := [("_law_k", 2)]) (g := gName 2) (tt := tYes) rfl scMore.nd (pi_range1 (by rfl) B.range (pa_cons (pe_callB call_lenS (by rfl) B.len (by decide +kernel) (pa_cons (pv 0) pa_nil)) pa_nil))
        (blkOk_by (own := [("_law_k", 2)]) (N := ["_law_worked", "_law_runs", "_law_k"]) (sc := defScope (topS 47)) (by decide +kernel))
        (fun _ _ _ _ _ => pg_name (i := 2) scMore.nd rfl (Or.inl rfl)) (fun _ _ _ _ _ => pts_nil)
        (fun _ _ _ _ _ => pe_op op_add (pe_ix (r := rIxT K) ix_tup (pv 0) (pv 2) (fun _ _ => rfl)) (pe_ifExp (pt_cmpR (r := rIn K false) op_in_seq (pv 2) (pv 1) (by rfl)) pe_int pe_int))) pa_nil))), ?_⟩
    have ln : (hs.map V.int).length = hs.length := List.length_map _
    have en' : (((hs.map V.int).length : Nat) : Int).toNat = hs.length := by
      rw [ln]
      exact Int.toNat_natCast _
    refine ⟨_, rfl, h, _, rfl, .inr hh.seq, _, rfl, ?_, ?_, fun D hD => lc_range (lo := 0) (fun i H' => Same H H' ∧ H' D = some (.lst (((List.range i).map fun k => hs.getD k 0 + if k ∈ rs then 1 else 0).map V.int))) ⟨same_upd hD, upd_same⟩ ?_ ?_⟩
    · rw [ln]
      omega
    · rw [ln]
      omega
    · rintro i H' hi ⟨sm, hD'⟩
      rw [en'] at hi
      refine ⟨rfl, yesT (iteT ?_)⟩
      refine ⟨_, rfl, _, rfl, h, _, _, .int (hs.getD i 0), rfl, rfl, (hh.same sm).seq, ?_, _, rfl, _, rfl, r, _, rfl, .inr (seqT (sm _ _ hrs)), rfl, natsL_flat _, _, rfl, ?_⟩
      · rw [Int.zero_add]
        exact int_atD hi
      have ein : inV (V.int (0 + (i : Int))) (natsL rs) = decide (i ∈ rs) := by
        rw [Int.zero_add]
        exact inV_nats _ _
      rw [ein]
      have fin : ∀ z : Int, z = hs.getD i 0 + (if i ∈ rs then 1 else 0) → ∃ acc, H' D = some (.lst acc) ∧ acc.length < sizeLine ∧ Same H (upd H' D (.lst (acc ++ [V.int z]))) ∧ (upd H' D (.lst (acc ++ [V.int z]))) D = some (.lst (((List.range (i + 1)).map fun k => hs.getD k 0 + if k ∈ rs then 1 else 0).map V.int)) := by
        rintro z rfl
        refine ⟨_, hD', ?_, upd_keep sm hD, ?_⟩
        · rw [List.length_map, List.length_map, List.length_range]
          exact len_lt (Nat.le_trans (Nat.le_of_lt hi) hz) (Nat.le_refl _)
        · rw [upd_same, ← range_snoc, List.map_append]
          rfl
      refine ite2 (fun z => ?_) (fun z => ?_)
      · have z : i ∈ rs := of_decide_eq_true z
        exact ⟨_, 1, rfl, rfl, fin _ (by rw [if_pos z])⟩
      · have z : ¬ i ∈ rs := fun y => z (decide_eq_true y)
        exact ⟨_, 0, rfl, rfl, fin _ (by rw [if_neg z])⟩
    · rintro H2 ⟨s2, hD2⟩
      rw [en'] at hD2
      exact ⟨D, _, rfl, .inl ⟨seqL hD2, fun l nl => q l _ (s2.trans (same_upd nl)) upd_same⟩⟩
/-! ### the plant's in -/
def spInR (C : Addr) : Sp := fun vs H Q _ => ∃ one a wl t es e, vs = [.ref one, .ref a] ∧ PlantAt C H one wl t (es ++ [e]) ∧ CrewT H a e.1 ∧ e.1.ages.length ≤ 6 ∧ ∀ H', Same H H' → Q (.bl true) H'
abbrev nInR : List Str := ["_law_one", "_law_crew_here", "_law_some", "_law_k", "_law_odd"]
theorem scInR : FnScope nInR ["_law_one", "_law_crew_here"] (defScope (topS 48)) := ⟨rfl, rfl, rfl, by decide +kernel, rfl, by decide +kernel, by decide +kernel⟩
theorem ok_inR {C Cn : Addr} {f : Addr} {fd : FuncData} (D : Df K mg "_law_in_right" (topS 48) ["_law_one", "_law_crew_here"] f fd) (B : Blt mg) (A : PlA P w K mg base C Cn) : Cal P w K mg base 3 "_law_in_right" (spInR C) := by
  refine D.cal (D.fn.ok scInR (fun vs H Q E h => ?_) (fun cdv A' outer s H vs Q E hr h => ?_))
  · obtain ⟨one, a, wl, t, es, e, rfl, _⟩ := h
    rfl
  · obtain ⟨one, a, wl, t, es, e, rfl, hp, ⟨pp, pa, hc, hpp, hg⟩, al2, q⟩ := h
    refine ⟨_, C8.pss_cut (ps_setLc (i := 2) (own := [("_law_k", 3)]) (g := gName 3) rfl scInR.nd rfl rfl (sw_true rfl rfl rfl (by decide +kernel)) (pi_range1 (by rfl) B.range (pa_cons (pe_op op_add (pe_callB call_lenS (by rfl) B.len (by decide +kernel) (pa_cons (pe_ix ix_tup (pv 1) pe_int (fun _ _ => rfl)) pa_nil)) pe_int) pa_nil))
          (blkOk_by (own := [("_law_k", 3)]) (N := nInR) (sc := defScope (topS 48)) (by decide +kernel))
          (fun _ _ _ _ _ => pg_name (i := 3) scInR.nd rfl (Or.inl rfl))
          (fun _ _ _ _ _ => pts_one (pt_cmpR (r := rInO C) (op_inP A hr) (pv 3) (pv 0) (by rfl)))
          (fun _ _ _ _ _ => pv 3))
      (pss_cons (ps_if (pt_cmpR (op_neD hr.units) (pv 2)
          (pe_lc (own := [("_law_k", 3)]) (g := gName 3) rfl scInR.nd (pi_range1 (by rfl) B.range (pa_cons (pe_callB call_lenS (by rfl) B.len (by decide +kernel) (pa_cons (pe_ix ix_tup (pv 1) pe_int (fun _ _ => rfl)) pa_nil)) pa_nil))
            (blkOk_by (own := [("_law_k", 3)]) (N := nInR) (sc := defScope (topS 48)) (by decide +kernel))
            (fun _ _ _ _ _ => pg_name (i := 3) scInR.nd rfl (Or.inl rfl))
            (fun _ _ _ _ _ => pts_one (pt_cmpR op_gt (pe_ix (r := rIxT K) ix_tup (pe_ix (r := rIxT K) ix_tup (pv 1) pe_int (fun _ _ => rfl)) (pv 3) (fun _ _ => rfl)) pe_int (nomark _)))
            (fun _ _ _ _ _ => pv 3)) (by rfl)) (pss_one (ps_ret pe_bl)) pss_nil)
      (pss_one (ps_ret (pe_cmpR (op_eqD hr.units)
          (pe_lc (own := [("_law_odd", 4)]) (g := gName 4) rfl scInR.nd (pi_tup (pe_tup (pa_cons pe_non (pa_cons (pe_un un_neg pe_int) (pa_cons pe_bl (pa_cons pe_str (pa_cons (pe_tup (pa_cons pe_int pa_nil)) pa_nil)))))))
            (blkOk_by (own := [("_law_odd", 4)]) (N := nInR) (sc := defScope (topS 48)) (by decide +kernel))
            (fun _ _ _ _ _ => pg_name (i := 4) scInR.nd rfl (Or.inl rfl))
            (fun _ _ _ _ _ => pts_one (pt_cmpR (r := rInO C) (op_inP A hr) (pv 4) (pv 0) (by rfl)))
            (fun _ _ _ _ _ => pv 4)) (pe_lst pa_nil) (nomark _))))), ?_⟩
    have hp' := hp
    obtain ⟨dx, wp, ppp, vs, h1, _, _, _⟩ := hp
    have ln : (e.1.ages.map V.int).length = e.1.ages.length := List.length_map _
    have e2 : (((e.1.ages.map V.int).length : Nat) : Int).toNat = e.1.ages.length := by
      rw [ln]
      exact Int.toNat_natCast _
    have e3 : ((((e.1.ages.map V.int).length : Nat) : Int) + 1).toNat = e.1.ages.length + 1 := by
      rw [ln]
      omega
    refine ⟨fun σ' H' => ∃ s1, σ' = ([some (.ref one), some (.ref a), some (.ref s1), none, none] : L2.St) ∧ Same H H' ∧ H' s1 = some (.lst (natsL ((List.range e.1.ages.length).filter fun k => decide (0 < e.1.ages.getD k 0)))), ?_, ?_⟩
    · refine ⟨_, rfl, a, _, _, _, rfl, rfl, seqT hc, rfl, pa, _, rfl, .inr hg.seq, _, 1, rfl, rfl, _, rfl, ?_, ?_, fun D hD => lc_range (lo := 0) (fun i H' => Same H H' ∧ H' D = some (.lst (natsL ((List.range i).filter fun k => decide (0 ≤ (k : Int) ∧ (k : Int) < (e.1.ages.length : Int) ∧ 0 < e.1.ages.getD k 0))))) ⟨same_upd hD, upd_same⟩ ?_ ?_⟩
      · rw [ln]
        omega
      · rw [ln]
        omega
      · rintro i H' hi ⟨sm, hD'⟩
        rw [e3] at hi
        refine ⟨rfl, _, rfl, _, rfl, one, dx, _, rfl, sm _ _ h1, one, wl, t, es, e, _, rfl, hp'.same sm, .inl ⟨_, rfl, _, rfl, _, rfl, ?_⟩⟩
        have ec : decide (0 ≤ (0 + (i : Int)) ∧ (0 + (i : Int)) < (e.1.ages.length : Int) ∧ 0 < e.1.ages.getD (0 + (i : Int)).toNat 0) = decide (0 ≤ (i : Int) ∧ (i : Int) < (e.1.ages.length : Int) ∧ 0 < e.1.ages.getD i 0) := by
          rw [Int.zero_add, Int.toNat_natCast]
        rw [ec, range_filt]
        refine ite2 (fun h1 => ?_) (fun h1 => ?_)
        · refine ⟨_, rfl, _, hD', ?_, upd_keep sm hD, ?_⟩
          · rw [natsL_len]
            exact len_lt (Nat.le_trans (List.length_filter_le _ _) (Nat.le_trans (Nat.le_of_eq List.length_range) (show i ≤ 6 by omega))) (by decide)
          · rw [upd_same, if_pos h1, natsL_app, Int.zero_add]
            rfl
        · refine ⟨sm, ?_⟩
          rw [if_neg h1, List.append_nil]
          exact hD'
      · rintro H2 ⟨sm, hD'⟩
        rw [e3, range_filt, if_neg (fun z => absurd (of_decide_eq_true z).2.1 (by omega)), List.append_nil] at hD'
        refine ⟨D, rfl, sm, ?_⟩
        rw [hD']
        congr 3
        refine List.filter_congr fun k hk => ?_
        have hk := List.mem_range.mp hk
        by_cases z : 0 < e.1.ages.getD k 0
        · rw [decide_eq_true z, decide_eq_true ⟨by omega, by omega, z⟩]
        · rw [decide_eq_false z, decide_eq_false (fun y => z y.2.2)]
    rintro σ1 H1 ⟨s1, rfl, sm1, g1⟩
    have ha1 := sm1 _ _ hc
    have hg1 := hg.same sm1
    refine ⟨_, rfl, _, rfl, a, _, _, _, rfl, rfl, seqT ha1, rfl, pa, _, rfl, .inr hg1.seq, _, rfl, ?_, ?_, fun D hD => lc_range (lo := 0) (fun i H' => Same H1 H' ∧ H' D = some (.lst (natsL ((List.range i).filter fun k => decide (0 < e.1.ages.getD k 0))))) ⟨same_upd hD, upd_same⟩ ?_ ?_⟩
    · rw [ln]
      omega
    · rw [ln]
      omega
    · rintro i H' hi ⟨sm, hD'⟩
      rw [e2] at hi
      refine ⟨rfl, _, rfl, a, _, _, _, rfl, rfl, seqT (sm _ _ ha1), rfl, _, rfl, pa, _, _, .int (e.1.ages.getD i 0), rfl, rfl, (hg1.same sm).seq, ?_, _, 0, rfl, rfl, _, rfl, ?_⟩
      · rw [Int.zero_add]
        exact int_atD hi
      rw [range_filt]
      refine ite2 (fun h1 => ?_) (fun h1 => ?_)
      · refine ⟨_, rfl, _, hD', ?_, upd_keep sm hD, ?_⟩
        · rw [natsL_len]
          exact len_lt (Nat.le_trans (List.length_filter_le _ _) (Nat.le_trans (Nat.le_of_eq List.length_range) (show i ≤ 6 by omega))) (by decide)
        · rw [upd_same, if_pos h1, natsL_app, Int.zero_add]
          rfl
      · refine ⟨sm, ?_⟩
        rw [if_neg h1, List.append_nil]
        exact hD'
    · rintro H2 ⟨sm2, g2⟩
      rw [e2] at g2
      have s02 := sm1.trans sm2
      have d1 : ∀ (H' : Hp) (b : Addr) (ks : List Nat), H' b = some (.lst (natsL ks)) → Dp K H' (.ref b) (.list ((ks.map fun k : Nat => (k : Int)).map PyData.int)) := fun H' b ks h => .lst (seqL h) (by rw [natsL_ints]; exact dpInts _)
      refine ⟨_, _, d1 H2 s1 _ (sm2 _ _ g1), d1 H2 D _ g2, PySem.W.shaped_ints _, PySem.W.shaped_ints _, false, ?_, iteF ?_⟩
      · refine congrArg V.bl ?_
        rw [SeqAt.eqv_refl _ (SeqAt.canLay_of_shaped (PySem.W.shaped_ints _))]
        rfl
      refine ⟨1, rfl, Nat.le_of_lt (len_lt (m := 1) (Nat.le_refl 1) (by decide)), fun t0 n0 => ⟨Nat.le_of_lt (len_lt (m := 5) (Nat.le_refl 5) (by decide)), fun tt ntt => ?_⟩⟩
      have s3 : Same H2 (upd H2 t0 (.tup [.int 0])) := same_upd n0
      have g3 : (upd H2 t0 (.tup [.int 0])) t0 = some (.tup [.int 0]) := upd_same
      generalize upd H2 t0 (.tup [.int 0]) = H3 at s3 g3 ntt ⊢
      have s4 : Same H3 (upd H3 tt (.tup [.non, .int (-1), .bl true, .str "0", .ref t0])) := same_upd ntt
      have g4 : (upd H3 tt (.tup [.non, .int (-1), .bl true, .str "0", .ref t0])) tt = some (.tup [.non, .int (-1), .bl true, .str "0", .ref t0]) := upd_same
      generalize upd H3 tt (.tup [.non, .int (-1), .bl true, .str "0", .ref t0]) = H4 at s4 g4 ⊢
      have s14 := (s02.trans s3).trans s4
      refine ⟨tt, rfl, ⟨_, seqT g4⟩, fun D2 hD2 => lc_tup (xs := [.non, .int (-1), .bl true, .str "0", .ref t0]) (fun i H' => Same H4 H' ∧ H' D2 = some (.lst [])) ⟨same_upd hD2, upd_same⟩ (fun i H' _ h => seqT (h.1 _ _ g4)) ?_ ?_⟩
      · rintro i x H' hx ⟨sm, hD'⟩
        have sx := s14.trans sm
        have hm := List.mem_of_getElem? hx
        refine ⟨rfl, _, rfl, _, rfl, one, dx, _, rfl, sx _ _ h1, one, wl, t, es, e, _, rfl, hp'.same sx, ?_⟩
        simp only [List.mem_cons, List.not_mem_nil, or_false] at hm
        rcases hm with rfl | rfl | rfl | rfl | rfl
        · exact .inr ⟨.inl rfl, _, rfl, _, rfl, sm, hD'⟩
        · refine .inl ⟨-1, rfl, _, rfl, false, ?_, sm, hD'⟩
          exact congrArg V.bl (decide_eq_false (fun z => absurd z.1 (by decide)))
        · exact .inr ⟨.inr (.inl ⟨_, rfl⟩), _, rfl, _, rfl, sm, hD'⟩
        · exact .inr ⟨.inr (.inr (.inl ⟨_, rfl⟩)), _, rfl, _, rfl, sm, hD'⟩
        · exact .inr ⟨.inr (.inr (.inr ⟨_, _, rfl, sm _ _ (s4 _ _ g3)⟩)), _, rfl, _, rfl, sm, hD'⟩
      · rintro H5 ⟨s5, g5⟩
        refine ⟨Nat.zero_le _, fun z nz => ⟨.list [], .list [], .lst (seqL (same_upd nz _ _ g5)) .nil, .lst (seqL upd_same) .nil, PySem.W.shaped_ints [], PySem.W.shaped_ints [], ?_⟩⟩
        have e5 : PyData.eqv (.list []) (.list []) = true := by simp [PyData.eqv, PyData.eqvAll]
        rw [e5]
        exact q _ ((s14.trans s5).trans (same_upd nz))
end
end Kx
/-! A beat tried; rows of beats compared. -/
namespace Kx
open PySem PySem.Spec PyProof.Rows L2 Pm
section
variable {P : Program} {w : World} {K : PySem.W.Frag} {mg : Str → Option Value} {base : Heap}
def spDeed (C : Addr) : Sp := fun vs H Q _ => ∃ one wl t es e q, vs = [.ref one, .int q] ∧ PlantAt C H one wl t (es ++ [e]) ∧ wl.Ok ∧ e.1.Ok wl t ∧ e.2.length = e.1.ages.length ∧ es.length ≤ 500 ∧ 0 ≤ q ∧ q ≤ 300 ∧
  (∀ d, beat wl t e.1 q = .inr d → ∀ r H', SamX one H H' → PlantAt C H' one wl t (es ++ [e] ++ [(d, hoursAfter (runs wl t e.1) e.2)]) → H' r = some (.tup (natsL (runs wl t e.1))) → Q (.ref r) H') ∧
  (∀ b, beat wl t e.1 q = .inl b → ∀ H', Same H H' → Q .non H')
theorem scDeed : FnScope ["_law_one", "_law_inflow", "_law_found"] ["_law_one", "_law_inflow"] (defScope (topS 46)) := ⟨rfl, rfl, rfl, by decide +kernel, rfl, by decide +kernel, by decide +kernel⟩
theorem ok_deed {C Cn : Addr} {f : Addr} {fd : FuncData} (D : Df K mg "_law_deed" (topS 46) ["_law_one", "_law_inflow"] f fd) (A : PlA P w K mg base C Cn) (gN : mg "Nothing" = some (.ref Cn)) (ex : PySem.W.exmOne K (.ref Cn) (.ref Cn) = some true) : Cal P w K mg base 6 "_law_deed" (spDeed C) := by
  refine D.cal (D.fn.ok scDeed (fun vs H Q E h => ?_) (fun cdv A' outer s H vs Q E hr h => ?_))
  · obtain ⟨one, wl, t, es, e, q, rfl, _⟩ := h
    rfl
  · obtain ⟨one, wl, t, es, e, iq, rfl, hp, okw, oke, hle, hz, q1, q2, qa, qb⟩ := h
    obtain ⟨fc, fdc, co, F, b⟩ := A.call
    refine ⟨_, pss_cons (ps_set (i := 2) scDeed.nd rfl (.inl rfl) pe_non)
      (pss_cons (ps_try_only (x := "Nothing") (c := .ref Cn) (Wout := fun _ _ _ _ => False) (ts := fun _ _ _ => tAsg (tC .non) (gName 2)) rfl rfl ⟨rfl, by decide, .inl gN⟩ takes0
        (fun W pn xe tk _ => pss_one (ps_set (i := 2) scDeed.nd rfl (.inl rfl) (pe_callOS (pv 0) co F hr b (passAt tk) (pa_cons (pv 1) pa_nil))))
        (fun a oe cls d pn _ _ => pss_one (ps_set (i := 2) scDeed.nd rfl (.inl rfl) pe_non)))
      (pss_one (ps_ret (pv 2)))), ?_⟩
    have hp' := hp
    obtain ⟨dx, wp, pp, vs, h1, _, _, _⟩ := hp
    refine ⟨_, rfl, one, rfl, _, rfl, ⟨dx, _, h1⟩, one, wl, t, es, e, iq, rfl, hp', okw, oke, hle, hz, q1, q2, fun d hd r H' sx hp2 hr2 => ⟨_, rfl, qa d hd r H' sx hp2 hr2⟩, fun b hb H' s2 => ⟨true, ex, fun _ a na => ⟨_, rfl, qb b hb H' s2⟩, fun z => by cases z⟩⟩
theorem PlantAt.dfr {C : Addr} {H H' : Hp} {md one : Addr} {wl : Wl} {t : Bool} {es : List Ent} {n : Nat} (s : DFr md H H') (D : Dr H md n) (h : PlantAt C H one wl t es) : PlantAt C H' one wl t es := by
  have h' := h
  obtain ⟨dx, wp, pp, vs, h1, _, _, _⟩ := h'
  refine h.keep (s.tup D) (fun x e => ?_)
  rw [h1] at e
  rw [← e]
  exact (s _ _ h1 (D.offI h1)).1
theorem BeatV.same {H H' : Hp} {v : V} {b : Sum Bool Cr} (h : BeatV H v b) (s : Same H H') : BeatV H' v b := by
  match b, h with
  | .inl true, h => exact h
  | .inl false, h => exact h
  | .inr d, h =>
    obtain ⟨r, e, hd⟩ := (show ∃ r, v = .ref r ∧ CrewT H r d from h)
    exact ⟨r, e, hd.same s⟩
theorem beatV_kind {H : Hp} {v : V} {b : Sum Bool Cr} (h : BeatV H v b) : v = .non ∨ (∃ z, v = .str z) ∨ ∃ a, v = .ref a := by
  match b, h with
  | .inl true, h => exact .inr (.inl ⟨_, h⟩)
  | .inl false, h => exact .inr (.inl ⟨_, h⟩)
  | .inr d, h =>
    obtain ⟨r, e, hd⟩ := (show ∃ r, v = .ref r ∧ CrewT H r d from h)
    exact .inr (.inr ⟨r, e⟩)
/-! ### rows of beats -/
theorem kit_ts : PySem.W.kitOne K (.type "tuple") (.type "str") = some false := kit_ty (by decide +kernel)
def spToldR (C : Addr) : Sp := fun vs H Q _ => ∃ md one wp wl t cr es e n, vs = [.ref md, .ref one, .ref wp, .str (ruleS t), .ref cr] ∧ Dr H md n ∧ n ≤ 990000 ∧ PlantAt C H one wl t (es ++ [e]) ∧ WellT H wp wl ∧ wl.Ok ∧ CrewT H cr e.1 ∧ e.1.Ok wl t ∧
  ∀ H', DFr md H H' → Dr H' md (n + 2) → Q (.bl true) H'
abbrev nToldR : List Str := ["_law_m", "_law_one", "_law_well_here", "_law_rule", "_law_crew_here", "_law_inflow", "_law_turns", "_law_count"]
theorem scToldR : FnScope nToldR ["_law_m", "_law_one", "_law_well_here", "_law_rule", "_law_crew_here"] (defScope (topS 45)) := ⟨rfl, rfl, rfl, by decide +kernel, rfl, by decide +kernel, by decide +kernel⟩
theorem u64 {k : Nat} {A : Around} (hr : Room k A) : A.units + 64 < cLine := hr.units
theorem ok_toldR {C Cn : Addr} {f : Addr} {fd : FuncData} (D : Df K mg "_law_told_right" (topS 45) ["_law_m", "_law_one", "_law_well_here", "_law_rule", "_law_crew_here"] f fd) (B : Blt mg) (A : PlA P w K mg base C Cn)
    (cN : Cal P w K mg base 1 "_law_next" spNext) (cB : Cal P w K mg base 2 "_law_beat" spBeat) : FnG P w K mg base CX0 6 f fd ["_law_m", "_law_one", "_law_well_here", "_law_rule", "_law_crew_here"] (spToldR C) := by
  refine okG D.fn scToldR (fun vs H Q E h => ?_) (fun cdv A' outer s H vs Q E hgd hr h => ?_)
  · obtain ⟨md, one, wp, wl, t, cr, es, e, n, rfl, _⟩ := h
    rfl
  · obtain ⟨md, one, wp, wl, t, cr, es, e, n, rfl, D0, hn, hp, hw, okw, hc, oke, q⟩ := h
    obtain ⟨ft, fdt, mt, Ft, bt⟩ := A.told
    refine ⟨_, pss_cons (ps_par (i := 5) (j := 6) rfl scToldR.nd rfl rfl (by decide) rfl rfl (pa_cons (pe_c cN hr (pa_cons (pv 0) (pa_cons pe_int pa_nil))) (pa_cons (pe_op op_add pe_int (pe_c cN hr (pa_cons (pv 0) (pa_cons pe_int pa_nil)))) pa_nil)) (by rfl))
      (pss_cons (ps_for PassesOwn.never rfl (pi_range1 (by rfl) B.range (pa_cons (pv 6) pa_nil)) (pg_name (i := 7) scToldR.nd rfl (.inl rfl))
        (pss_one (ps_if (pt_not (pt_val (pe_callB call_isi (by rfl) B.isinstance (by decide +kernel) (pa_cons (pv 4) (pa_cons (ty_str B.str) pa_nil)))))
          (pss_one (ps_set (i := 4) scToldR.nd rfl (.inl rfl) (pe_ix ix_tup (pe_c cB hr (pa_cons (pv 2) (pa_cons (pv 3) (pa_cons (pv 4) (pa_cons (pv 5) pa_nil))))) pe_int (fun _ _ => rfl)))) pss_nil)))
      (pss_one (ps_ret (pe_cmpR op_eq (pe_callB (call_reprD hgd (u64 hr)) (by rfl) B.repr (by decide +kernel) (pa_cons (pe_methK (pv 1) A.T.cl mt Ft hr bt pass0 (pa_cons (pv 5) pa_nil) (pk_cons (pv 6) pk_nil)) pa_nil))
        (pe_callB (call_reprD hgd (u64 hr)) (by rfl) B.repr (by decide +kernel) (pa_cons (pv 4) pa_nil)) (by rfl))))), ?_⟩
    refine ⟨_, rfl, md, 6, n, rfl, D0, by omega, by omega, by omega, fun q1 H1 a1 b1 f1 D1 => ⟨_, rfl, md, 5, _, rfl, D1, by omega, by omega, by omega, fun r2 H2 a2 b2 f2 D2 => ⟨_, _, rfl, rfl, _, _, rfl, ?_⟩⟩⟩
    have f12 := f1.trans f2
    have hp2 := hp.dfr f12 D0
    have hw2 := hw.keep (f12.tup D0)
    have hc2 := hc.keep (f12.tup D0)
    refine ⟨_, rfl, 1 + r2, rfl, by omega, by omega, for_range (lo := 0) (fun i σ H' => ∃ v v7, σ = ([some (.ref md), some (.ref one), some (.ref wp), some (.str (ruleS t)), some v, some (.int q1), some (.int (1 + r2)), v7] : L2.St) ∧ Same H2 H' ∧ BeatV H' v (told wl t q1 e.1 i)) ⟨.ref cr, none, rfl, fun _ _ e => e, cr, rfl, hc2⟩ ?_ ?_⟩
    · rintro i σ H' hi ⟨v, v7, rfl, sm, hb⟩
      cases e2 : told wl t q1 e.1 i with
      | inl b =>
        rw [e2] at hb
        have e3 := told_stay e2 (i + 1) (Nat.le_succ _)
        cases b with
        | true =>
          cases (show v = .str "over" from hb)
          exact ⟨_, rfl, _, _, _, _, _, rfl, .ty "str", .base (.str _), kit_ss, true, rfl, iteF ⟨_, _, rfl, sm, by rw [e3]; rfl⟩⟩
        | false =>
          cases (show v = .str "dry" from hb)
          exact ⟨_, rfl, _, _, _, _, _, rfl, .ty "str", .base (.str _), kit_ss, true, rfl, iteF ⟨_, _, rfl, sm, by rw [e3]; rfl⟩⟩
      | inr d =>
        rw [e2] at hb
        obtain ⟨r, rfl, hd⟩ := (show ∃ r, v = .ref r ∧ CrewT H' r d from hb)
        have hs : told wl t q1 e.1 (i + 1) = beat wl t d q1 := by
          show (match told wl t q1 e.1 i with | .inl b => Sum.inl b | .inr d => beat wl t d q1) = _
          rw [e2]
        have hd' := hd
        obtain ⟨ca, cb, hd0, _, _⟩ := hd
        refine ⟨_, rfl, _, _, _, _, _, rfl, .ty "str", .base (.tup hd0), kit_ts, false, rfl, iteT ?_⟩
        refine ⟨_, rfl, _, rfl, _, rfl, _, rfl, wp, wl, t, r, d, q1, rfl, hw2.same sm, okw, hd', told_ok okw oke _ e2, fun z v' r' b' H3 s3 gz hb3 _ => ⟨z, _, _, _, rfl, rfl, seqT gz, rfl, v', _, rfl, sm.trans s3, ?_⟩⟩
        rw [hs]
        exact hb3
    · rintro σ H' ⟨v, v7, rfl, sm, hb⟩
      have hp' := hp2.same sm
      have hp0 := hp'
      obtain ⟨dx, _, _, _, h1, _, _, _⟩ := hp0
      have en : (1 + r2).toNat = (1 + r2).toNat := rfl
      have nice := niceBeat (t := t) (b := told wl t q1 e.1 (1 + r2).toNat) okw (fun d hd => told_ok okw oke _ hd)
      refine ⟨_, rfl, one, dx, _, rfl, h1, rfl, _, rfl, _, rfl, rfl, rfl, one, wl, t, es, e, q1, 1 + r2, rfl, hp', okw, oke, by omega, by omega, by omega, by omega, fun v' H4 s4 hb4 => ?_⟩
      delta tNil
      refine repr_nice (beatV_kind hb4) (dpBeat hb4) nice (by decide) (by decide) ?_
      refine ⟨_, rfl, ?_⟩
      have hb' := hb.same s4
      refine repr_nice (beatV_kind hb') (dpBeat hb') nice (by decide) (by decide) ?_
      refine ⟨rfl, ?_⟩
      have ed : decide (V.str (beatD (told wl t q1 e.1 (1 + r2).toNat)).shown = V.str (beatD (told wl t q1 e.1 (1 + r2).toNat)).shown) = true := decide_eq_true rfl
      rw [ed]
      exact q _ (f12.trans (D2.fr (sm.trans s4))) (D2.same (sm.trans s4))
end
end Kx
/-! The law. -/
namespace Kx
open PySem PySem.Spec PyProof.Rows L2 Pm
/-! ### what is kept of all but the objects of a class -/
def Fm (md : Addr) (H H' : Hp) : Prop := ∀ b o, H b = some o → Off H md b → (∀ C dx fs, o ≠ .ins C dx fs) → H' b = some o ∧ Off H' md b
theorem Fm.of {md : Addr} {H H' : Hp} (s : DFr md H H') : Fm md H H' := fun b o e f _ => s b o e f
theorem Fm.trans {md : Addr} {H H' H'' : Hp} (s : Fm md H H') (t : Fm md H' H'') : Fm md H H'' := fun b o e f n => by
  obtain ⟨e1, f1⟩ := s b o e f n
  exact t b o e1 f1 n
theorem Fm.ofX {H H' : Hp} {md one : Addr} {n : Nat} {C dx : Addr} {fs : List (Str × V)} (D : Dr H md n) (s : SamX one H H') (e : H one = some (.ins C dx fs)) : Fm md H H' := fun b o eb f hn =>
  (D.samX s e).2 b o (fun z => by rw [z, e] at eb; exact hn _ _ _ (Option.some.inj eb).symm) eb f
theorem Fm.tup {md : Addr} {H H' : Hp} {n : Nat} (s : Fm md H H') (D : Dr H md n) : SameT H H' := fun b xs e => (s b _ e (D.offT e) (fun _ _ _ z => by cases z)).1
theorem Fm.lst {md : Addr} {H H' : Hp} {b : Addr} {xs : List V} (s : Fm md H H') (e : H b = some (.lst xs)) (o : Off H md b) : H' b = some (.lst xs) ∧ Off H' md b := s b _ e o (fun _ _ _ z => by cases z)
theorem PastL.fm {md : Addr} {H H' : Hp} {n : Nat} {p : Addr} {es : List Ent} (s : Fm md H H') (D : Dr H md n) (o : Off H md p) (h : PastL H p es) : PastL H' p es ∧ Off H' md p := by
  obtain ⟨vs, h1, h2⟩ := h
  obtain ⟨e1, o1⟩ := s.lst h1 o
  exact ⟨⟨vs, e1, h2.imp fun _ _ => PairT.keep (s.tup D)⟩, o1⟩
theorem TellT.fm {md : Addr} {H H' : Hp} {n : Nat} {q : Addr} {wl : Wl} {t : Bool} {e : Ent} {m : Int} (s : Fm md H H') (D : Dr H md n) (o : Off H md q) (h : TellT H q wl t e m) : TellT H' q wl t e m ∧ Off H' md q := by
  obtain ⟨p, cr, hr, h1, h2, h3, h4⟩ := h
  obtain ⟨e1, o1⟩ := s.lst h1 o
  exact ⟨⟨p, cr, hr, e1, h2.keep (s.tup D), h3.keep (s.tup D), h4.keep (s.tup D)⟩, o1⟩
/-! ### the entries, good -/
def EsOk (wl : Wl) (t : Bool) (j : Nat) (es : List Ent) : Prop := es.length ≤ j + 1 ∧ ∀ e ∈ es, e.1.Ok wl t ∧ e.2.length = e.1.ages.length ∧ ∀ x ∈ e.2, 0 ≤ x ∧ x ≤ (j : Int)
theorem EsOk.up {wl : Wl} {t : Bool} {j : Nat} {es : List Ent} (h : EsOk wl t j es) : EsOk wl t (j + 1) es := ⟨Nat.le_succ_of_le h.1, fun e he => ⟨(h.2 e he).1, (h.2 e he).2.1, fun x hx => by
  have := (h.2 e he).2.2 x hx
  omega⟩⟩
theorem EsOk.take {wl : Wl} {t : Bool} {j : Nat} {es : List Ent} (h : EsOk wl t j es) (k : Nat) : EsOk wl t j (es.take k) := ⟨Nat.le_trans (List.length_take_le' _ _) h.1, fun e he => h.2 e (List.mem_of_mem_take he)⟩
theorem EsOk.last {wl : Wl} {t : Bool} {j : Nat} {es : List Ent} {e : Ent} (h : EsOk wl t j (es ++ [e])) : e.1.Ok wl t ∧ e.2.length = e.1.ages.length ∧ ∀ x ∈ e.2, 0 ≤ x ∧ x ≤ (j : Int) := h.2 e (List.mem_append_right _ (List.mem_singleton_self _))
theorem EsOk.snoc {wl : Wl} {t : Bool} {j : Nat} {es : List Ent} {e : Ent} {d : Cr} {q : Int} (h : EsOk wl t j (es ++ [e])) (hw : wl.Ok) (hb : beat wl t e.1 q = .inr d) : EsOk wl t (j + 1) (es ++ [e] ++ [(d, hoursAfter (runs wl t e.1) e.2)]) := by
  obtain ⟨h1, h2, h3⟩ := h.last
  have u := h.up
  refine ⟨?_, fun x hx => ?_⟩
  · rw [List.length_append]
    exact Nat.succ_le_succ h.1
  · rcases List.mem_append.mp hx with hx | hx
    · exact u.2 x hx
    · rw [List.mem_singleton.mp hx]
      refine ⟨beat_ok hw h1 hb, ?_, fun y hy => ?_⟩
      · show (hoursAfter (runs wl t e.1) e.2).length = d.ages.length
        rw [hoursAfter_length, h2, beat_len hb]
      · have hy : y ∈ (List.range e.2.length).map fun k => e.2.getD k 0 + if k ∈ runs wl t e.1 then 1 else 0 := hy
        obtain ⟨k, hk, rfl⟩ := List.mem_map.mp hy
        have := h3 _ (Pm.getD_mem (List.mem_range.mp hk))
        split <;> omega
theorem take_snoc_ex {es : List Ent} {k : Nat} (h1 : 1 ≤ k) (h2 : k ≤ es.length) : ∃ fs f, es.take k = fs ++ [f] := by
  have hl : (es.take k).length = k := by
    rw [List.length_take]
    omega
  have hne : es.take k ≠ [] := fun z => by
    rw [z] at hl
    have : 0 = k := hl
    omega
  exact ⟨_, _, (List.dropLast_concat_getLast hne).symm⟩
/-! ### the state of a turn -/
structure Sl (C : Addr) (H : Hp) (md one wp pl : Addr) (wl : Wl) (t : Bool) (es : List Ent) (e : Ent) (n j : Nat) : Prop where
  dr : Dr H md n
  pt : PlantAt C H one wl t (es ++ [e])
  ps : PastL H pl (es ++ [e])
  off : Off H md pl
  we : WellT H wp wl
  ow : wl.Ok
  ok : EsOk wl t j (es ++ [e])
theorem Sl.dfr {C : Addr} {H H' : Hp} {md one wp pl : Addr} {wl : Wl} {t : Bool} {es : List Ent} {e : Ent} {n m j : Nat} (h : Sl C H md one wp pl wl t es e n j) (s : DFr md H H') (D : Dr H' md m) : Sl C H' md one wp pl wl t es e m j := by
  obtain ⟨p1, p2⟩ := h.ps.fm (Fm.of s) h.dr h.off
  exact ⟨D, h.pt.dfr s h.dr, p1, p2, h.we.keep (s.tup h.dr), h.ow, h.ok⟩
theorem Sl.same {C : Addr} {H H' : Hp} {md one wp pl : Addr} {wl : Wl} {t : Bool} {es : List Ent} {e : Ent} {n j : Nat} (h : Sl C H md one wp pl wl t es e n j) (s : Same H H') : Sl C H' md one wp pl wl t es e n j := h.dfr (h.dr.fr s) (h.dr.same s)
theorem Sl.up {C : Addr} {H : Hp} {md one wp pl : Addr} {wl : Wl} {t : Bool} {es : List Ent} {e : Ent} {n m j k : Nat} (h : Sl C H md one wp pl wl t es e n j) (h1 : n ≤ m) (h2 : j ≤ k) : Sl C H md one wp pl wl t es e m k :=
  ⟨h.dr.mono h1, h.pt, h.ps, h.off, h.we, h.ow, ⟨by have := h.ok.1; omega, fun e he => ⟨(h.ok.2 e he).1, (h.ok.2 e he).2.1, fun x hx => by
    have := (h.ok.2 e he).2.2 x hx
    omega⟩⟩⟩
structure Kp (H : Hp) (md bf kp : Addr) (wl : Wl) (t : Bool) (es : List Ent) (e : Ent) : Prop where
  tl : TellT H bf wl t e es.length
  o1 : Off H md bf
  ps : PastL H kp (es ++ [e])
  o2 : Off H md kp
theorem Kp.fm {H H' : Hp} {md bf kp : Addr} {wl : Wl} {t : Bool} {es : List Ent} {e : Ent} {n : Nat} (h : Kp H md bf kp wl t es e) (s : Fm md H H') (D : Dr H md n) : Kp H' md bf kp wl t es e := by
  obtain ⟨p1, p2⟩ := h.ps.fm s D h.o2
  obtain ⟨p3, p4⟩ := h.tl.fm s D h.o1
  exact ⟨p3, p4, p1, p2⟩
theorem Kp.same {H H' : Hp} {md bf kp : Addr} {wl : Wl} {t : Bool} {es : List Ent} {e : Ent} {n : Nat} (h : Kp H md bf kp wl t es e) (D : Dr H md n) (s : Same H H') : Kp H' md bf kp wl t es e := h.fm (Fm.of (D.fr s)) D
theorem ifS_els {c : TT} {a b : TS} {D : Ends} {σ : L2.St} {H : Hp} (Pv : Hp → Prop) (he : ∀ H2, Pv H2 → b D σ H2) (h : (∀ H2, Pv H2 → b D σ H2) → tIfS c a b D σ H) : tIfS c a b D σ H := h he
theorem niceTl {wl : Wl} {t : Bool} {es : List Ent} {e : Ent} {j : Nat} (ow : wl.Ok) (h : EsOk wl t j (es ++ [e])) (hj : j ≤ 100) : Nice (tellD wl t e es.length) 4 100 := by
  obtain ⟨h1, h2, h3⟩ := h.last
  have hl := h.1
  rw [List.length_append, List.length_singleton] at hl
  refine niceTell ow h1 (by rw [h2]; exact h1.al2) (fun x hx => ?_) ⟨by omega, by omega⟩
  have := h3 x hx
  exact ⟨by omega, by omega⟩
structure CalG (P : Program) (w : World) (K : PySem.W.Frag) (mg : Str → Option Value) (base : Heap) (k : Nat) (x : Str) (ps : List Str) (sp : Sp) : Prop where
  ex : ∃ (f : Addr) (fd : FuncData), FnG P w K mg base CX0 k f fd ps sp ∧ mg x = some (.ref f) ∧ PySem.W.keepIn K (.ref f) = true ∧ Binds K fd ps []
section
variable {P : Program} {w : World} {K : PySem.W.Frag} {mg : Str → Option Value} {base : Heap}
abbrev nLaw : List Str := ["_law_script", "_law_m", "_law_turn", "_law_well_here", "_law_rule", "_law_crew_here", "_law_one", "_law_past", "_law_count", "_law_before", "_law_kept", "_law_inflow", "_law_gone", "_law_behind_it", "_law_runs", "_law_begun_now"]
def spLaw (K : PySem.W.Frag) : Sp := fun vs H Q _ => ∃ (a : Addr) (ns : List Int), vs = [.ref a] ∧ SqL K H a (ns.map V.int) ∧ ns.length ≤ 63 ∧ ∀ H', Q (.bl true) H'
theorem scLaw : FnScope nLaw ["_law_script"] (defScope (topS 49)) := ⟨rfl, rfl, rfl, by decide +kernel, rfl, by decide +kernel, by decide +kernel⟩
theorem ok_law {C Cn : Addr} {f : Addr} {fd : FuncData} (D : Fun K "law" "law" (topS 49) f fd) (B : Blt mg) (A : PlA P w K mg base C Cn)
    (cG : Cal P w K mg base 1 "_law_begun" (spBegun K)) (cN : Cal P w K mg base 1 "_law_next" spNext) (cW : Cal P w K mg base 2 "_law_well" spWell) (cC : Cal P w K mg base 2 "_law_crew" spCrewD) (cB : Cal P w K mg base 2 "_law_beat" spBeat)
    (cD : Cal P w K mg base 1 "_law_due" spDue) (cT : Cal P w K mg base 3 "_law_tells" (spTells C)) (cE : Cal P w K mg base 6 "_law_deed" (spDeed C)) (cM : Cal P w K mg base 1 "_law_more" spMore) (cI : Cal P w K mg base 3 "_law_in_right" (spInR C))
    (cR : CalG P w K mg base 6 "_law_told_right" ["_law_m", "_law_one", "_law_well_here", "_law_rule", "_law_crew_here"] (spToldR C)) : FnG P w K mg base CX0 8 f fd ["_law_script"] (spLaw K) := by
  refine okG D scLaw (fun vs H Q E h => ?_) (fun cdv A' outer s H vs Q E hgd hr h => ?_)
  · obtain ⟨a, ns, rfl, _⟩ := h
    rfl
  · obtain ⟨a, ns, rfl, hS, hz, q⟩ := h
    obtain ⟨fi, fdi, mk, Fi, bi⟩ := A.make
    obtain ⟨fb, fdb, mb, Fb, bb⟩ := A.back
    obtain ⟨fr, fdr, Fr, mr, kr, br⟩ := cR.ex
    have hr6 : Room 6 _ := hr.mono (by decide)
    refine ⟨_, pss_cons (ps_set (i := 1) scLaw.nd rfl (.inl rfl) (pe_c cG hr (pa_cons (pv 0) pa_nil)))
      (pss_cons (ps_for PassesOwn.never rfl (pi_range1 (by rfl) B.range (pa_cons (pe_op op_add pe_int (pe_callB (call_min2 rfl) (by rfl) B.min (by decide +kernel) (pa_cons (pe_callB call_lenS (by rfl) B.len (by decide +kernel) (pa_cons (pv 0) pa_nil)) (pa_cons pe_int pa_nil)))) pa_nil)) (pg_name (i := 2) scLaw.nd rfl (.inl rfl))
        (pss_cons (ps_par (i := 3) (j := 4) rfl scLaw.nd rfl rfl (by decide) rfl rfl (pa_cons (pe_c cW hr (pa_cons (pv 1) (pa_cons pe_int pa_nil))) (pa_cons (pe_ix ix_list (pe_lst (pa_cons pe_str (pa_cons pe_str pa_nil))) (pe_c cN hr (pa_cons (pv 1) (pa_cons pe_int pa_nil))) (fun _ _ => rfl)) pa_nil)) (by rfl))
        (pss_cons (ps_set (i := 5) scLaw.nd rfl (.inl rfl) (pe_c cC hr (pa_cons (pv 1) (pa_cons (pv 3) (pa_cons (pv 4) (pa_cons pe_int pa_nil))))))
        (C8.pss_cut (ps_par (i := 6) (j := 7) rfl scLaw.nd rfl rfl (by decide) rfl rfl (pa_cons (pe_make mk Fi hr6 (by rfl) A.mgC bi .nil pass0 (pa_cons (pv 3) (pa_cons (pv 4) (pa_cons (pv 5) pa_nil))))
            (pa_cons (pe_lst (pa_cons (pe_tup (pa_cons (pv 5) (pa_cons (pe_op op_rep1 (pe_tup (pa_cons pe_int pa_nil)) (pe_callB call_lenS (by rfl) B.len (by decide +kernel) (pa_cons (pe_ix ix_tup (pv 5) pe_int (fun _ _ => rfl)) pa_nil))) pa_nil))) pa_nil)) pa_nil)) (by rfl))
        (C8.pss_cut (ps_for PassesOwn.never rfl (pi_range1 (by rfl) B.range (pa_cons (pe_op op_add pe_int (pe_c cN hr (pa_cons (pv 1) (pa_cons pe_int pa_nil)))) pa_nil)) (pg_name (i := 8) scLaw.nd rfl (.inl rfl))
          (C8.pss_cut (ps_par3 (i := 9) (j := 10) (l := 11) rfl scLaw.nd rfl rfl rfl (by decide) (by decide) (by decide) rfl rfl rfl (pa_cons (pe_c cT hr (pa_cons (pv 6) pa_nil)) (pa_cons (pe_callTy call_list_of (by rfl) B.list (by decide +kernel) (pa_cons (pv 7) pa_nil)) (pa_cons (pe_c cN hr (pa_cons (pv 1) (pa_cons pe_int pa_nil))) pa_nil))) (by rfl))
          (C8.pss_cut (ps_if (PW.pt (pw_and (pt_cmpR op_gt (pe_callB call_lenS (by rfl) B.len (by decide +kernel) (pa_cons (pv 7) pa_nil)) pe_int (nomark _)) (pw_and1 (pt_cmpR op_eq (pe_c cN hr (pa_cons (pv 1) (pa_cons pe_int pa_nil))) pe_int (nomark _)))))
            (pss_cons (ps_set (i := 12) scLaw.nd rfl (.inl rfl) (pe_op op_add pe_int (pe_c cN hr (pa_cons (pv 1) (pa_cons (pe_op op_sub (pe_callB call_lenS (by rfl) B.len (by decide +kernel) (pa_cons (pv 7) pa_nil)) pe_int) pa_nil)))))
            (pss_cons (ps_if (pt_cmpR op_notN (pe_methK0 (pv 6) A.T.cl mb Fb (hr.mono (by decide)) bb pass0 (pk_cons (pv 12) pk_nil)) pe_non (nomark _)) (pss_one (ps_ret pe_bl)) pss_nil)
            (pss_one (ps_set (i := 7) scLaw.nd rfl (.inl rfl) (pe_slice sl_list (pv 7) po_none (po_some (pe_op op_sub (pe_callB call_lenS (by rfl) B.len (by decide +kernel) (pa_cons (pv 7) pa_nil)) (pv 12))))))))
            (pss_cons (ps_asg (pe_c cB hr (pa_cons (pv 3) (pa_cons (pv 4) (pa_cons (pe_ix ix_tup (pe_ix ix_list (pv 7) (pe_un un_neg pe_int) (fun _ _ => rfl)) pe_int (fun _ _ => rfl)) (pa_cons (pv 11) pa_nil)))))
              (pg_tup rfl (pgs_cons (pg_name (i := 13) scLaw.nd rfl (.inl rfl)) (pgs_cons (pg_name (i := 14) scLaw.nd rfl (.inl rfl)) (pgs_cons (pg_name (i := 15) scLaw.nd rfl (.inl rfl)) pgs_nil)))))
            (pss_cons (ps_if (pt_cmpR op_ne (pe_callB (call_reprD hgd (u64 hr)) (by rfl) B.repr (by decide +kernel) (pa_cons (pe_c cE hr (pa_cons (pv 6) (pa_cons (pv 11) pa_nil))) pa_nil))
                (pe_callB (call_reprD hgd (u64 hr)) (by rfl) B.repr (by decide +kernel) (pa_cons (pe_ifExp (pt_val (pe_callB call_isi (by rfl) B.isinstance (by decide +kernel) (pa_cons (pv 13) (pa_cons (ty_str B.str) pa_nil)))) pe_non (pv 14)) pa_nil)) (by rfl)) (pss_one (ps_ret pe_bl)) pss_nil)
            (pss_one (ps_if (pt_not (pt_val (pe_callB call_isi (by rfl) B.isinstance (by decide +kernel) (pa_cons (pv 13) (pa_cons (ty_str B.str) pa_nil)))))
              (pss_one (ps_set (i := 7) scLaw.nd rfl (.inl rfl) (pe_op op_cat (pv 7) (pe_lst (pa_cons (pe_tup (pa_cons (pv 13) (pa_cons (pe_c cM hr (pa_cons (pe_ix ix_tup (pe_ix ix_list (pv 7) (pe_un un_neg pe_int) (fun _ _ => rfl)) pe_int (fun _ _ => rfl)) (pa_cons (pv 14) pa_nil))) pa_nil))) pa_nil))))) pss_nil)))))
          (pss_cons (ps_if (pt_cmpR op_ne (pe_callB (call_reprD hgd (u64 hr)) (by rfl) B.repr (by decide +kernel) (pa_cons (pe_c cT hr (pa_cons (pv 6) pa_nil)) pa_nil))
              (pe_callB (call_reprD hgd (u64 hr)) (by rfl) B.repr (by decide +kernel) (pa_cons (pe_c cD hr (pa_cons (pv 3) (pa_cons (pv 4) (pa_cons (pv 7) pa_nil)))) pa_nil)) (by rfl)) (pss_one (ps_ret pe_bl)) pss_nil)
          (pss_cons (ps_if (pt_cmpR op_ne (pe_callB (call_reprD hgd (u64 hr)) (by rfl) B.repr (by decide +kernel) (pa_cons (pv 9) pa_nil))
              (pe_callB (call_reprD hgd (u64 hr)) (by rfl) B.repr (by decide +kernel) (pa_cons (pe_c cD hr (pa_cons (pv 3) (pa_cons (pv 4) (pa_cons (pv 10) pa_nil)))) pa_nil)) (by rfl)) (pss_one (ps_ret pe_bl)) pss_nil)
          (pss_one (ps_if (pt_not (pt_val (pe_callG hgd Fr hr6 (by rfl) mr kr br pass0 (pa_cons (pv 1) (pa_cons (pv 6) (pa_cons (pv 3) (pa_cons (pv 4) (pa_cons (pe_ix ix_tup (pe_ix ix_list (pv 7) (pe_un un_neg pe_int) (fun _ _ => rfl)) pe_int (fun _ _ => rfl)) pa_nil)))))))) (pss_one (ps_ret pe_bl)) pss_nil)))))))
        (pss_one (ps_if (pt_not (pt_val (pe_c cI hr (pa_cons (pv 6) (pa_cons (pe_ix ix_tup (pe_ix ix_list (pv 7) (pe_un un_neg pe_int) (fun _ _ => rfl)) pe_int (fun _ _ => rfl)) pa_nil))))) (pss_one (ps_ret pe_bl)) pss_nil)))))))
      (pss_one (ps_ret pe_bl))), ?_⟩
    refine ⟨_, rfl, a, ns, rfl, hS, hz, fun md H1 s1 D1 => ?_⟩
    have hmin : (2 + if (4 : Int) < (((ns.map V.int).length : Nat) : Int) then 4 else (((ns.map V.int).length : Nat) : Int)) ≤ 6 := by
      split <;> omega
    have hmin0 : 0 ≤ (2 + if (4 : Int) < (((ns.map V.int).length : Nat) : Int) then 4 else (((ns.map V.int).length : Nat) : Int)) := by
      split <;> omega
    refine ⟨_, rfl, a, _, rfl, .inl (s1.seq hS), _, 4, rfl, _, _, rfl, rfl, _, rfl, by omega, by omega, ?_⟩
    generalize (2 + if (4 : Int) < (((ns.map V.int).length : Nat) : Int) then 4 else (((ns.map V.int).length : Nat) : Int)) = nt at hmin hmin0 ⊢
    refine for_range (lo := 0) (fun i σ H' => (∃ v2 v3 v4 v5 v6 v7 v8 v9 v10 v11 v12 v13 v14 v15, σ = ([some (.ref a), some (.ref md), v2, v3, v4, v5, v6, v7, v8, v9, v10, v11, v12, v13, v14, v15] : L2.St)) ∧ Dr H' md (300 * i)) ⟨⟨_, _, _, _, _, _, _, _, _, _, _, _, _, _, rfl⟩, D1⟩ ?_ ?_
    · rintro i σ H' hi ⟨⟨v2, v3, v4, v5, v6, v7, v8, v9, v10, v11, v12, v13, v14, v15, rfl⟩, Di⟩
      have hi6 : i < 6 := by omega
      generalize hN : 300 * i = N at Di
      have hN2 : N ≤ 1500 := by omega
      -- the well and the rule
      refine ⟨_, rfl, md, N, rfl, Di, by omega, fun wp wl H2 f2 D2 hw2 okw htop => ?_⟩
      refine ⟨Nat.le_of_lt (len_lt (m := 2) (Nat.le_refl 2) (by decide)), fun lr nlr => ?_⟩
      have s3 : Same H2 (upd H2 lr (.lst [.str "first", .str "turns"])) := same_upd nlr
      have g3 : (upd H2 lr (.lst [.str "first", .str "turns"])) lr = some (.lst [.str "first", .str "turns"]) := upd_same
      have D3 := D2.same s3
      have f3 := D2.fr s3
      have o3 := D2.offN s3 nlr
      generalize upd H2 lr (.lst [.str "first", .str "turns"]) = H3 at s3 g3 D3 f3 o3 ⊢
      refine ⟨_, rfl, md, 2, _, rfl, D3, by omega, by omega, by omega, fun r H4 r0 r1 f4 D4 => ?_⟩
      obtain ⟨g4, o4⟩ := f4 _ _ g3 o3
      obtain ⟨t, ht⟩ : ∃ t, atI [V.str "first", V.str "turns"] r = some (.str (ruleS t)) := by
        rcases (show r = 0 ∨ r = 1 by omega) with rfl | rfl
        · exact ⟨false, rfl⟩
        · exact ⟨true, rfl⟩
      have hw4 := (hw2.keep (f3.tup D2)).keep (f4.tup D3)
      refine ⟨lr, _, _, _, rfl, rfl, seqL g4, ht, _, _, rfl, ?_⟩
      -- the crew
      refine ⟨_, rfl, _, rfl, _, rfl, md, wp, wl, t, _, rfl, D4, by omega, hw4, okw, fun cr c H5 f5 D5 hc5 okc => ?_⟩
      have hw5 := hw4.keep (f5.tup D4)
      have al1 := okc.al1
      have al2 := okc.al2
      refine ⟨fun σ' H' => ∃ one pl, σ' = ([some (.ref a), some (.ref md), some (.int (0 + (i : Int))), some (.ref wp), some (.str (ruleS t)), some (.ref cr), some (.ref one), some (.ref pl), v8, v9, v10, v11, v12, v13, v14, v15] : L2.St) ∧
        Sl C H' md one wp pl wl t [] (c, List.replicate c.ages.length 0) (N + 20) 0, ?_, ?_⟩
      · refine ⟨_, rfl, _, rfl, _, rfl, fun one dx n1 n2 ne => ?_⟩
        have s6 : Same H5 (upd (upd H5 dx (.own one)) one (.ins C dx [])) := fun b o e => by
          rw [upd_ne (ne_of_none e n1), upd_ne (ne_of_none e n2)]
          exact e
        have g6 : (upd (upd H5 dx (.own one)) one (.ins C dx [])) one = some (.ins C dx []) := upd_same
        have D6 := D5.same s6
        generalize upd (upd H5 dx (.own one)) one (.ins C dx []) = H6 at s6 g6 D6 ⊢
        refine ⟨one, dx, wp, wl, t, cr, c, rfl, g6, hw5.same s6, okw, hc5.same s6, okc, fun H7 sx hp7 => ⟨rfl, ?_⟩⟩
        obtain ⟨D7, _⟩ := D6.samX sx g6
        have t7 := sx.tup g6
        have hw7 := (hw5.same s6).keep t7
        have hc7 := (hc5.same s6).keep t7
        have fin : ∀ hr' G2 pr pl, Same H7 G2 → IntsT G2 hr' (List.replicate c.ages.length 0) → G2 pr = none → (upd G2 pr (.tup [.ref cr, .ref hr'])) pl = none →
            Sl C (upd (upd G2 pr (.tup [.ref cr, .ref hr'])) pl (.lst [.ref pr])) md one wp pl wl t [] (c, List.replicate c.ages.length 0) (N + 20) 0 := fun hr' G2 pr pl s8 hh npr npl => by
          have sp : Same G2 (upd G2 pr (.tup [.ref cr, .ref hr'])) := same_upd npr
          have gp : (upd G2 pr (.tup [.ref cr, .ref hr'])) pr = some (.tup [.ref cr, .ref hr']) := upd_same
          generalize upd G2 pr (.tup [.ref cr, .ref hr']) = G3 at sp gp npl ⊢
          have sl : Same G3 (upd G3 pl (.lst [.ref pr])) := same_upd npl
          have s78 := (s8.trans sp).trans sl
          have D8 := (D7.mono (m := N + 20) (by omega)).same (s8.trans sp)
          refine ⟨D8.same sl, hp7.same s78, ⟨[.ref pr], upd_same, Ents.one ⟨pr, cr, hr', rfl, sl _ _ gp, hc7.same s78, hh.same (sp.trans sl)⟩⟩, D8.offN sl npl, hw7.same s78, okw, ?_, fun e he => ?_⟩
          · exact Nat.le_refl 1
          · have he : e = (c, List.replicate c.ages.length 0) := List.mem_singleton.mp he
            rw [he]
            refine ⟨okc, List.length_replicate, fun x hx => ?_⟩
            rw [(List.mem_replicate.mp hx).2]
            exact ⟨by decide, by decide⟩
        have hc7' := hc7
        obtain ⟨ca, cb, hc0, _, hg0⟩ := hc7'
        refine ⟨_, rfl, Nat.le_of_lt (len_lt (m := 1) (Nat.le_refl 1) (by decide)), fun z nz => ⟨_, rfl, cr, _, _, _, rfl, rfl, seqT (same_upd nz _ _ hc0), rfl, ?_⟩⟩
        refine ⟨cb, _, rfl, .inr (hg0.same (same_upd nz)).seq, z, _, _, rfl, rfl, seqT upd_same, List.cons_ne_nil _ _, ?_, ?_, (by show 1 ≤ 1000; decide), fun h1 => ?_, fun h1 r nr => ?_⟩
        · rw [List.length_map]
          omega
        · rw [List.length_map]
          omega
        · rw [List.length_map] at h1
          have e1 : c.ages.length = 1 := by omega
          refine ⟨Nat.le_of_lt (len_lt (m := 2) (Nat.le_refl 2) (by decide)), fun pr npr => ⟨Nat.le_of_lt (len_lt (m := 1) (Nat.le_refl 1) (by decide)), fun pl npl => ⟨_, _, rfl, one, pl, rfl, fin z _ pr pl (same_upd nz) ?_ npr npl⟩⟩⟩
          rw [e1]
          exact upd_same
        · refine ⟨Nat.le_of_lt (len_lt (m := 2) (Nat.le_refl 2) (by decide)), fun pr npr => ⟨Nat.le_of_lt (len_lt (m := 1) (Nat.le_refl 1) (by decide)), fun pl npl => ⟨_, _, rfl, one, pl, rfl, fin r _ pr pl ((same_upd nz).trans (same_upd nr)) ?_ npr npl⟩⟩⟩
          show _ = _
          rw [upd_same, List.length_map, Int.toNat_natCast, flat_one, List.map_replicate]
      · rintro σ6 H6 ⟨one, pl, rfl, Q6⟩
        refine ⟨fun σ' H' => ∃ pl es e v8 v9 v10 v11 v12 v13 v14 v15, σ' = ([some (.ref a), some (.ref md), some (.int (0 + (i : Int))), some (.ref wp), some (.str (ruleS t)), some (.ref cr), some (.ref one), some (.ref pl), v8, v9, v10, v11, v12, v13, v14, v15] : L2.St) ∧
          Sl C H' md one wp pl wl t es e (N + 200) 20, ?_, ?_⟩
        · refine ⟨_, rfl, md, 12, _, rfl, Q6.dr, by omega, by omega, by omega, fun r H7 r0 r1 f7 D7 => ⟨_, _, rfl, rfl, _, rfl, by omega, by omega, ?_⟩⟩
          have Q7 := Q6.dfr f7 D7
          have hr16 : (5 + r).toNat ≤ 16 := by omega
          refine for_range (lo := 0) (fun j σ H' => ∃ pl es e v8 v9 v10 v11 v12 v13 v14 v15, σ = ([some (.ref a), some (.ref md), some (.int (0 + (i : Int))), some (.ref wp), some (.str (ruleS t)), some (.ref cr), some (.ref one), some (.ref pl), v8, v9, v10, v11, v12, v13, v14, v15] : L2.St) ∧
            Sl C H' md one wp pl wl t es e (N + 21 + 6 * j) j) ⟨pl, _, _, _, _, _, _, _, _, _, _, rfl, Q7⟩ ?_ ?_
          · rintro j σ H' hj ⟨pl, es, e, w8, w9, w10, w11, w12, w13, w14, w15, rfl, Qj⟩
            have hj16 : j < 16 := by omega
            generalize hM : N + 21 + 6 * j = M at Qj
            have hM2 : M ≤ 2000 := by omega
            -- what is told, kept, drawn
            refine ⟨fun σ' H' => ∃ bf kp iq, σ' = ([some (.ref a), some (.ref md), some (.int (0 + (i : Int))), some (.ref wp), some (.str (ruleS t)), some (.ref cr), some (.ref one), some (.ref pl), some (.int (0 + (j : Int))), some (.ref bf), some (.ref kp), some (.int iq), w12, w13, w14, w15] : L2.St) ∧
              0 ≤ iq ∧ iq ≤ 6 ∧ Sl C H' md one wp pl wl t es e (M + 1) j ∧ Kp H' md bf kp wl t es e, ?_, ?_⟩
            · have hlen := Qj.ok.1
              rw [List.length_append, List.length_singleton] at hlen
              refine ⟨_, rfl, one, wl, t, es, e, rfl, Qj.pt, by omega, fun bf Ha nbf sa hbf => ?_⟩
              have Qa := Qj.same sa
              have oa := Qj.dr.offN sa nbf
              have hps := Qa.ps
              obtain ⟨vs, hl, he⟩ := hps
              refine ⟨_, rfl, pl, vs, rfl, .inl (seqL hl), fun kp nkp => ?_⟩
              have sb : Same Ha (upd Ha kp (.lst vs)) := same_upd nkp
              have gb : PastL (upd Ha kp (.lst vs)) kp (es ++ [e]) := ⟨vs, upd_same, he.imp fun _ _ h => h.keep (SameT.of sb)⟩
              have ob := Qa.dr.offN sb nkp
              have Qb := Qa.same sb
              have kb : Kp (upd Ha kp (.lst vs)) md bf kp wl t es e := by
                obtain ⟨p1, p2⟩ := hbf.fm (Fm.of (Qa.dr.fr sb)) Qa.dr oa
                exact ⟨p1, p2, gb, ob⟩
              generalize upd Ha kp (.lst vs) = Hb at sb gb ob Qb kb ⊢
              exact ⟨_, rfl, md, 7, _, rfl, Qb.dr, by omega, by omega, by omega, fun iq Hc q0 q1 fc Dc => ⟨_, _, _, rfl, bf, kp, iq, rfl, q0, by omega, Qb.dfr fc Dc, kb.fm (Fm.of fc) Qb.dr⟩⟩
            rintro σ2 H2 ⟨bf, kp, iq, rfl, iq0, iq6, Q2, K2⟩
            -- back, or a beat
            refine ⟨fun σ' H' => ∃ pl es' e' w12 w13 w14 w15, σ' = ([some (.ref a), some (.ref md), some (.int (0 + (i : Int))), some (.ref wp), some (.str (ruleS t)), some (.ref cr), some (.ref one), some (.ref pl), some (.int (0 + (j : Int))), some (.ref bf), some (.ref kp), some (.int iq), w12, w13, w14, w15] : L2.St) ∧
              Sl C H' md one wp pl wl t es' e' (M + 3) (j + 1) ∧ Kp H' md bf kp wl t es e, ?_, ?_⟩
            · refine ifS_els (fun H3 => Sl C H3 md one wp pl wl t es e (M + 3) j ∧ Kp H3 md bf kp wl t es e) ?_ (fun els => ?_)
              · rintro H3 ⟨Q3, K3⟩
                have hps := Q3.ps
                obtain ⟨vs, hl, he⟩ := hps
                have hlen := Q3.ok.1
                rw [List.length_append, List.length_singleton] at hlen
                obtain ⟨ok1, ok2, ok3⟩ := Q3.ok.last
                have he0 := he
                obtain ⟨us, v, rfl, _, ⟨r', cr', hr', rfl, h3, hcr, hh⟩⟩ := he.last
                refine ⟨_, rfl, _, rfl, _, rfl, 1, rfl, pl, _, _, _, rfl, rfl, seqL hl, atI_last _ _, r', _, _, _, rfl, rfl, seqT h3, rfl, _, rfl, wp, wl, t, cr', e.1, iq, rfl, Q3.we, Q3.ow, hcr, ok1, fun zb vb rr b0 Ha sa gz hb hrr => ?_⟩
                refine ⟨zb, _, rfl, seqT gz, rfl, _, _, rfl, _, _, rfl, _, _, rfl, rfl, ?_⟩
                have Qa := Q3.same sa
                have Ka := K3.same Q3.dr sa
                have hpt := Qa.pt
                obtain ⟨dx, wp0, pp0, vs0, h1, _, _, _⟩ := hpt
                cases eb : beat wl t e.1 iq with
                | inl bb' =>
                  rw [eb] at hb
                  refine ⟨_, rfl, _, rfl, one, wl, t, es, e, iq, rfl, Qa.pt, Qa.ow, ok1, ok2, by omega, iq0, by omega, (fun d hd => by rw [eb] at hd; cases hd), fun b' hb' Hb sb => ?_⟩
                  try delta tNil
                  refine repr_nice (.inl rfl) .non (niceN (p := 0)) (by decide) (by decide) ?_
                  have hvs : ∃ x, vb = .str x := by
                    cases bb' with
                    | true => exact ⟨_, hb⟩
                    | false => exact ⟨_, hb⟩
                  obtain ⟨x, rfl⟩ := hvs
                  refine ⟨_, rfl, _, _, _, _, _, rfl, .ty "str", .base (.str _), kit_ss, true, rfl, iteT ?_⟩
                  delta tC
                  refine repr_nice (.inl rfl) .non (niceN (p := 0)) (by decide) (by decide) ?_
                  refine ⟨rfl, _, rfl, iteNS rfl ?_⟩
                  refine ⟨_, rfl, _, _, _, _, _, rfl, .ty "str", .base (.str _), kit_ss, true, rfl, iteF ?_⟩
                  exact ⟨pl, es, e, _, _, _, _, rfl, (Qa.same sb).up (Nat.le_refl _) (Nat.le_succ _), Ka.same Qa.dr sb⟩
                | inr d =>
                  rw [eb] at hb
                  obtain ⟨rd, rfl, hd⟩ := (show ∃ r, vb = .ref r ∧ CrewT Ha r d from hb)
                  refine ⟨_, rfl, _, rfl, one, wl, t, es, e, iq, rfl, Qa.pt, Qa.ow, ok1, ok2, by omega, iq0, by omega, fun d2 hd2 rt Hb sx hpb hrt => ?_, (fun b' hb' => by rw [eb] at hb'; cases hb')⟩
                  have e2 : d2 = d := by
                    rw [eb] at hd2
                    exact (Sum.inr.inj hd2).symm
                  subst e2
                  have fm := Fm.ofX Qa.dr sx h1
                  obtain ⟨Db, _⟩ := Qa.dr.samX sx h1
                  have tb := fm.tup Qa.dr
                  have Kb := Ka.fm fm Qa.dr
                  obtain ⟨hlb, olb⟩ := fm.lst (sa _ _ hl) Qa.off
                  have rlen : (runs wl t e.1).length ≤ 6 := Nat.le_trans (List.length_filter_le _ _) (Nat.le_trans (Nat.le_of_eq List.length_range) ok1.al2)
                  have hri : IntsT Hb rt ((runs wl t e.1).map fun k : Nat => (k : Int)) := by
                    rw [natsL_ints] at hrt
                    exact hrt
                  have hrr2 : IntsT Hb rr ((runs wl t e.1).map fun k : Nat => (k : Int)) := by
                    have hrb := tb _ _ hrr
                    rw [natsL_ints] at hrb
                    exact hrb
                  have nr : Nice (intsD ((runs wl t e.1).map fun k : Nat => (k : Int))) 1 6 := (niceIs fun x hx => by
                    obtain ⟨k, hk, rfl⟩ := List.mem_map.mp hx
                    have hk := List.mem_range.mp (List.mem_filter.mp hk).1
                    have := ok1.al2
                    exact ⟨by omega, by omega⟩).mono (Nat.le_refl _) (by rw [List.length_map]; exact rlen)
                  try delta tNil
                  refine repr_nice (.inr (.inr ⟨rt, rfl⟩)) (dpT hri) nr (by decide) (by decide) ?_
                  have hdb := hd.keep tb
                  have hdb' := hdb
                  obtain ⟨ca, cb, hd0, _, _⟩ := hdb'
                  refine ⟨_, rfl, _, _, _, _, _, rfl, .ty "str", .base (.tup hd0), kit_ts, false, rfl, iteF ⟨_, rfl, ?_⟩⟩
                  refine repr_nice (.inr (.inr ⟨rr, rfl⟩)) (dpT hrr2) nr (by decide) (by decide) ?_
                  refine ⟨rfl, _, rfl, iteNS rfl ?_⟩
                  refine ⟨_, rfl, _, _, _, _, _, rfl, .ty "str", .base (.tup hd0), kit_ts, false, rfl, iteT ?_⟩
                  have h3b := tb _ _ (sa _ _ h3)
                  have hhb := (hh.same sa).keep tb
                  have hrrb := tb _ _ hrr
                  refine ⟨_, rfl, _, rfl, _, rfl, 1, rfl, pl, _, _, _, rfl, rfl, seqL hlb, atI_last _ _, r', _, _, _, rfl, rfl, seqT h3b, rfl, _, rfl, hr', rr, e.2, runs wl t e.1, rfl, hhb, hrrb, by rw [ok2]; have := ok1.al2; omega, fun q' Hc sc hq' => ?_⟩
                  refine ⟨Nat.le_of_lt (len_lt (m := 2) (Nat.le_refl 2) (by decide)), fun pr npr => ?_⟩
                  have sd : Same Hc (upd Hc pr (.tup [.ref rd, .ref q'])) := same_upd npr
                  have gd : (upd Hc pr (.tup [.ref rd, .ref q'])) pr = some (.tup [.ref rd, .ref q']) := upd_same
                  generalize upd Hc pr (.tup [.ref rd, .ref q']) = Hd at sd gd ⊢
                  refine ⟨Nat.le_of_lt (len_lt (m := 1) (Nat.le_refl 1) (by decide)), fun nl nnl => ?_⟩
                  have se : Same Hd (upd Hd nl (.lst [.ref pr])) := same_upd nnl
                  have ge : (upd Hd nl (.lst [.ref pr])) nl = some (.lst [.ref pr]) := upd_same
                  generalize upd Hd nl (.lst [.ref pr]) = He at se ge ⊢
                  have sbe := (sc.trans sd).trans se
                  refine ⟨pl, nl, _, _, rfl, rfl, sbe _ _ hlb, ge, ?_, fun pl' npl' => ?_⟩
                  · have hvl := he0.1
                    rw [hvl, List.length_append, List.length_singleton, List.length_singleton]
                    exact Nat.le_of_lt (len_lt (m := 1000) (by omega) (Nat.le_refl _))
                  have sf : Same He (upd He pl' (.lst (us ++ [.ref r'] ++ [.ref pr]))) := same_upd npl'
                  have gf : (upd He pl' (.lst (us ++ [.ref r'] ++ [.ref pr]))) pl' = some (.lst (us ++ [.ref r'] ++ [.ref pr])) := upd_same
                  have De := Db.same sbe
                  have of := De.offN sf npl'
                  generalize upd He pl' (.lst (us ++ [.ref r'] ++ [.ref pr])) = Hf at sf gf of ⊢
                  have sbf := sbe.trans sf
                  have tf : SameT H3 Hf := ((SameT.of sa).trans tb).trans (SameT.of sbf)
                  have sdf := (sd.trans se).trans sf
                  refine ⟨pl', es ++ [e], (d2, hoursAfter (runs wl t e.1) e.2), _, _, _, _, rfl, ⟨Db.same sbf, hpb.same sbf, ⟨_, gf, ?_⟩, of, ((Qa.we.keep tb).same sbf), Q3.ow, Q3.ok.snoc Q3.ow eb⟩, Kb.same Db sbf⟩
                  exact (he0.imp fun _ _ h => PairT.keep tf h).snoc ⟨pr, rd, q', rfl, (se.trans sf) _ _ gd, hdb.same sbf, hq'.same sdf⟩
              · have hps := Q2.ps
                obtain ⟨vs, hl, he⟩ := hps
                have hvl := he.1
                have hlen := Q2.ok.1
                rw [List.length_append, List.length_singleton] at hlen hvl
                refine ⟨_, rfl, pl, vs, rfl, .inl (seqL hl), _, 1, rfl, rfl, _, rfl, ite2 (fun z => ?_) (fun z => iteF (els H2 ⟨Q2.up (by omega) (Nat.le_refl _), K2⟩))⟩
                have z := of_decide_eq_true z
                refine ⟨_, rfl, md, 6, _, rfl, Q2.dr, by omega, by omega, by omega, fun r Ha r0 r1 fa Da => ⟨rfl, _, rfl, ite2 (fun z2 => ?_) (fun z2 => els Ha ⟨(Q2.dfr fa Da).up (by omega) (Nat.le_refl _), K2.fm (Fm.of fa) Q2.dr⟩)⟩⟩
                have Qa := Q2.dfr fa Da
                have Ka := K2.fm (Fm.of fa) Q2.dr
                have hla : Ha pl = some (.lst vs) := (fa _ _ hl Q2.off).1
                refine ⟨_, rfl, _, rfl, pl, vs, rfl, .inl (seqL hla), _, 1, rfl, rfl, md, _, _, rfl, Da, by omega, by omega, by omega, fun g Hb g0 g1 fb' Db => ⟨_, _, rfl, rfl, ?_⟩⟩
                have Qb := Qa.dfr fb' Db
                have Kb := Ka.fm (Fm.of fb') Qa.dr
                obtain ⟨hlb, olb⟩ := fb' _ _ hla Qa.off
                have hpt := Qb.pt
                obtain ⟨dx, wp0, pp0, vs0, h1, _, _, _⟩ := hpt
                refine ⟨_, rfl, one, dx, _, rfl, h1, rfl, _, rfl, rfl, rfl, one, wl, t, es ++ [e], 1 + g, rfl, Qb.pt, by omega, ?_, fun Hc sx hpc => ?_⟩
                · rw [List.length_append, List.length_singleton]
                  omega
                refine ⟨rfl, _, rfl, iteNS rfl ?_⟩
                have fm := Fm.ofX Qb.dr sx h1
                obtain ⟨Dc, _⟩ := Qb.dr.samX sx h1
                have Kc := Kb.fm fm Qb.dr
                obtain ⟨hlc, olc⟩ := fm.lst hlb olb
                have t2c : SameT H2 Hc := ((fa.tup Q2.dr).trans (fb'.tup Qa.dr)).trans (fm.tup Qb.dr)
                have hwc := Qb.we.keep (fm.tup Qb.dr)
                refine ⟨_, rfl, ?_⟩
                try delta tNoPart
                refine ⟨_, rfl, pl, vs, rfl, .inl (seqL hlc), _, rfl, _, _, rfl, rfl, _, rfl, pl, vs, rfl, seqL hlc, fun pl' npl' => ?_⟩
                rw [cut_to _ (by omega)]
                have ek : (((vs.length : Nat) : Int) - (1 + g)).toNat = (es ++ [e]).length - (1 + g).toNat := by
                  rw [List.length_append, List.length_singleton]
                  omega
                rw [ek]
                obtain ⟨fs, fe, efs⟩ := take_snoc_ex (es := es ++ [e]) (k := (es ++ [e]).length - (1 + g).toNat) (by rw [List.length_append, List.length_singleton]; omega) (by omega)
                have sd : Same Hc (upd Hc pl' (.lst (vs.take ((es ++ [e]).length - (1 + g).toNat)))) := same_upd npl'
                have gd : (upd Hc pl' (.lst (vs.take ((es ++ [e]).length - (1 + g).toNat)))) pl' = some (.lst (vs.take ((es ++ [e]).length - (1 + g).toNat))) := upd_same
                have od := Dc.offN sd npl'
                have he' := (he.imp fun _ _ h => PairT.keep (t2c.trans (SameT.of sd)) h).take ((es ++ [e]).length - (1 + g).toNat)
                have hok := Q2.ok.up.take ((es ++ [e]).length - (1 + g).toNat)
                rw [efs] at hpc he' hok
                generalize upd Hc pl' (.lst (vs.take ((es ++ [e]).length - (1 + g).toNat))) = Hd at sd gd od he' ⊢
                exact ⟨pl', fs, fe, _, _, _, _, rfl, ⟨(Dc.mono (by omega)).same sd, hpc.same sd, ⟨_, gd, he'⟩, od, hwc.same sd, Q2.ow, hok⟩, Kc.same Dc sd⟩
            rintro σ3 H3 ⟨pl, es', e', w12, w13, w14, w15, rfl, Q3, K3⟩
            have hlen := Q3.ok.1
            rw [List.length_append, List.length_singleton] at hlen
            have nice3 := niceTl Q3.ow Q3.ok (by omega)
            refine ⟨_, rfl, one, wl, t, es', e', rfl, Q3.pt, by omega, fun tq Ha ntq sa hta => ?_⟩
            try delta tNil
            refine repr_nice (.inr (.inr ⟨tq, rfl⟩)) (dpTell hta) nice3 (by decide) (by decide) ?_
            have Qa := Q3.same sa
            refine ⟨_, rfl, _, rfl, _, rfl, wp, wl, t, pl, es', e', rfl, Qa.we, Qa.ps, fun dq Hb ndq sb hdb => ?_⟩
            try delta tNil
            refine repr_nice (.inr (.inr ⟨dq, rfl⟩)) (dpTell hdb) nice3 (by decide) (by decide) ?_
            refine ⟨rfl, _, rfl, iteNS rfl ?_⟩
            have Qb := Qa.same sb
            have Kb := K3.same Q3.dr (sa.trans sb)
            -- what was told before
            have nice4 := niceTl Q2.ow Q2.ok (by omega)
            refine ⟨_, rfl, ?_⟩
            refine repr_nice (.inr (.inr ⟨bf, rfl⟩)) (dpTell Kb.tl) nice4 (by decide) (by decide) ?_
            refine ⟨_, rfl, _, rfl, _, rfl, wp, wl, t, kp, es, e, rfl, Qb.we, Kb.ps, fun d2 Hc nd2 sc hdc => ?_⟩
            try delta tNil
            refine repr_nice (.inr (.inr ⟨d2, rfl⟩)) (dpTell hdc) nice4 (by decide) (by decide) ?_
            refine ⟨rfl, _, rfl, iteNS rfl ?_⟩
            have Qc := Qb.same sc
            -- rows of beats
            have hps := Qc.ps
            obtain ⟨vs, hl, he⟩ := hps
            obtain ⟨us, v, rfl, _, ⟨r', cr', hr', rfl, h3, hcr, hh⟩⟩ := he.last
            obtain ⟨ok1, ok2, ok3⟩ := Qc.ok.last
            refine ⟨_, rfl, _, rfl, _, rfl, _, rfl, _, rfl, 1, rfl, pl, _, _, _, rfl, rfl, seqL hl, atI_last _ _, r', _, _, _, rfl, rfl, seqT h3, rfl, md, one, wp, wl, t, cr', es', e', _, rfl, Qc.dr, by omega, Qc.pt, Qc.we, Qc.ow, hcr, ok1, fun Hd fd Dd => ⟨true, rfl, iteF ?_⟩⟩
            refine ⟨pl, es', e', _, _, _, _, _, _, _, _, rfl, ?_⟩
            exact (Qc.dfr fd Dd).up (by omega) (Nat.le_refl _)
          · rintro σ H' ⟨pl, es, e, w8, w9, w10, w11, w12, w13, w14, w15, rfl, Qj⟩
            exact ⟨pl, es, e, w8, w9, w10, w11, w12, w13, w14, w15, rfl, Qj.up (by omega) (by omega)⟩
        · rintro σ7 H7 ⟨pl, es, e, w8, w9, w10, w11, w12, w13, w14, w15, rfl, Q7⟩
          have hps := Q7.ps
          obtain ⟨vs, hl, he⟩ := hps
          obtain ⟨us, v, rfl, _, ⟨r, cr', hr', rfl, h3, hcr, hh⟩⟩ := he.last
          obtain ⟨ok1, ok2, ok3⟩ := Q7.ok.last
          refine ⟨_, rfl, _, rfl, 1, rfl, pl, _, _, _, rfl, rfl, seqL hl, atI_last _ _, r, _, _, _, rfl, rfl, seqT h3, rfl, one, cr', wl, t, es, e, rfl, Q7.pt, hcr, ok1.al2, fun H8 s8 => ⟨true, rfl, iteF ⟨⟨_, _, _, _, _, _, _, _, _, _, _, _, _, _, rfl⟩, ?_⟩⟩⟩
          exact (Q7.dr.same s8).mono (by omega)
    · rintro σ H' _
      exact q _
end
end Kx
/-! The end of the row, for a law that wants to know that no repr is under way. -/
namespace Kx
open PySem PySem.Spec PyProof.Rows L2 Pm
section
variable {P : Program} {w : World} {K : PySem.W.Frag} {mg mb : Str → Option Value} {k : Nat} {fa a : Addr} {fd : FuncData} {sp : Sp} {z : Shared} {us : List Value} {ns : List Int}
/-- the law's def, called over the script at a, comes back with True -/
def SaysYes (P : Program) (w : World) (fa a : Addr) (z : Shared) : Prop :=
  codeAny (model P w) callerA (.call (.ref fa) ⟨[.ref a], []⟩) (fun r y => r = Except.ok (Flow.ret (Value.bool true)) ∧ OldK z.heap y.heap ∧ y.os = z.os ∧ AllBare y.gens) z
/-- what is known behind the top -/
structure Behind (P : Program) (w : World) (K : PySem.W.Frag) (mg mb : Str → Option Value) (a : Addr) (us : List Value) (z : Shared) : Prop where
  list : z.heap.get? a = some { cls := .type "list", data := .seq us.toArray }
  inK : K.In z.heap
  gl : z.heap.Ns mainGlobals mg
  bl : z.heap.Ns builtinsNs mb
  bb : ∀ y : Str, y ≠ "__name__" → mb y = bootBuiltins y
  nl : z.heap.NoLimit
  ng : z.gens = #[]
theorem yes_at {H : Hp} (S : Behind P w K mg mb a us z) (room : Room k callerA) (G : ∀ base : Heap, K.In base → base.Ns mainGlobals mg → FnG P w K mg base CX0 k fa fd ["_law_script"] sp)
    (bd : ∀ (y : Shared) (u : Value), BindsTo y fd ⟨[u], []⟩ [("_law_script", u)]) (prom : sp [.ref a] H (fun v _ => v = .bl true) E0) (ok : HOk P w H z.heap)
    (one : ∀ b u, H b = some u → b = a ∧ K.lookup a = none ∧ ∃ o xs, u = .frz o (.lst xs)) : SaysYes P w fa a z := by
  have away : ∀ (b : Addr) (o : Obj), z.heap.get? b = some o → b ≠ a → (hidT z.heap H).get? b = some o := fun b o e nb => by
    refine hidT_get e ?_
    cases hb : H b with
    | none => rfl
    | some u => exact absurd (one b u hb).1 nb
  have spaces : ∀ (b : Addr) (m : Str → Option Value), z.heap.Ns b m → (hidT z.heap H).Ns b m := fun b m n => by
    obtain ⟨o, es, ep, e1, e2, e3⟩ := n
    refine ⟨o, es, ep, away b o e1 (fun hb => ?_), e2, e3⟩
    subst hb
    rw [S.list] at e1
    cases e1
    exact Data.noConfusion e2
  have written : K.In (hidT z.heap H) := fun b o e => by
    have e1 := S.inK b o e
    refine hidT_get e1 ?_
    cases hb : H b with
    | none => rfl
    | some u =>
      obtain ⟨h1, h2, _⟩ := one b u hb
      rw [h1, h2] at e
      cases e
  have limits : (hidT z.heap H).NoLimit := by
    obtain ⟨mc, c1, c2⟩ := S.nl
    exact ⟨mc, spaces _ _ c1, c2⟩
  have start : Env0 P w K mg (hidT z.heap H) callerA [] z H := {
    frames := rfl
    mod := ⟨written, spaces _ _ S.gl, ⟨mb, spaces _ _ S.bl, S.bb⟩, limits⟩
    bs := fun b o e => of_hidT e
    bsz := Nat.le_of_eq (hidT_size _ _)
    funs := trivial
    frf := fun b hb => by cases hb
    hok := ok
    bare := AllBare.of_eq S.ng }
  have ran := (G _ written (spaces _ _ S.gl)).run callerA [] z H ⟨[.ref a], []⟩ [.ref a] [.ref a] (fun v _ => v = .bl true) E0 rfl room start (bd z (.ref a)) (.cons rfl .nil) prom
  refine codeAny_mono ran fun r y end_ => ?_
  match r, end_ with
  | .error _, end_ => exact False.elim end_
  | .ok .next, end_ => exact False.elim end_
  | .ok .brk, end_ => exact False.elim end_
  | .ok .cont, end_ => exact False.elim end_
  | .ok (.ret u), end_ =>
    obtain ⟨v, H2, os, bare, un, ok2, rel, yes⟩ := end_
    have yes : v = V.bl true := yes
    rw [yes] at rel
    have rel : u = Value.bool true := rel
    refine ⟨by rw [rel], OldK.of_keep (fun b o e => ?_), os, bare⟩
    cases hb : H b with
    | none => exact un.keep b o e hb (fun q => by cases q) (fun q => by cases q)
    | some t =>
      obtain ⟨_, _, ob, xs, rfl⟩ := one b t hb
      have before := (ok b _ hb).1
      have after := (ok2 b _ (un.frzs b ob _ hb)).1
      rw [e] at before
      rw [Option.some.inj before]
      exact after
theorem says_yes (S : Behind P w K mg mb a us z) (areI : IntsAre us ns) (len : ns.length ≤ 63) (room : Room k callerA) (G : ∀ base : Heap, K.In base → base.Ns mainGlobals mg → FnG P w K mg base CX0 k fa fd ["_law_script"] (spLaw K))
    (bd : ∀ (y : Shared) (u : Value), BindsTo y fd ⟨[u], []⟩ [("_law_script", u)]) : SaysYes P w fa a z := by
  have rel := vals_ints areI
  have small : ns.length ≤ sizeLine := Nat.le_of_lt (len_lt len (by decide))
  cases hk : K.lookup a with
  | none =>
    let Hs : Hp := fun b => if b = a then some (.frz { cls := .type "list", data := .seq us.toArray } (.lst (ns.map V.int))) else none
    have at_ : Hs a = some (.frz { cls := .type "list", data := .seq us.toArray } (.lst (ns.map V.int))) := if_pos rfl
    refine yes_at (H := Hs) S room G bd ⟨a, ns, rfl, .inl (.inr ⟨_, at_⟩), len, fun _ => rfl⟩ (fun b u e => ?_) (fun b u e => ?_)
    · by_cases hb : b = a
      · subst hb
        rw [at_] at e
        rw [← Option.some.inj e]
        exact ⟨S.list, by rw [List.length_map]; exact small, us, _, rel, S.list⟩
      · rw [show Hs b = none from if_neg hb] at e
        cases e
    · by_cases hb : b = a
      · subst hb
        rw [at_] at e
        exact ⟨rfl, hk, _, _, (Option.some.inj e).symm⟩
      · rw [show Hs b = none from if_neg hb] at e
        cases e
  | some o =>
    have e := S.inK a o hk
    rw [S.list] at e
    cases e
    refine yes_at (H := fun _ => none) S room G bd ⟨a, ns, rfl, .inr ⟨_, us.toArray, _, hk, rfl, rfl, rfl, ?_, ?_⟩, len, fun _ => rfl⟩ (fun b u e => by cases e) (fun b u e => by cases e)
    · rw [List.size_toArray, areI.length]
      exact small
    · simpa using rel
end
/-- the goal of the head -/
theorem walk_g {l : PySem.W.OpenLaw} {k : Nat} {q : Program} {loose : List Str} {XP : (Str → Option Value) → Heap → Prop} {YP : World → Heap → Prop} {d : DefRec} {K : Params → PySem.W.Frag} (hn : l.most = some 63) (hdf : d.params.defaults = []) (room : Room k callerA)
    (hY : ∀ (w : World) (h : Heap), YP w h → (K w.params).In h)
    (F : ∀ (w : World) (mg : Str → Option Value) (fa : Addr) (h : Heap), (K w.params).In h → h.Ns mainGlobals mg → mg d.name = some (.ref fa) →
      ∃ fd : FuncData, (∀ (y : Shared) (u : Value), BindsTo y fd ⟨[u], []⟩ [("_law_script", u)]) ∧ ∀ base : Heap, (K w.params).In base → base.Ns mainGlobals mg → FnG l.prog w (K w.params) mg base CX0 k fa fd ["_law_script"] (spLaw (K w.params))) :
    PySem.W.WalkO q loose XP YP l.row.toRowW d [] (fun f vs => PySem.call f vs) := by
  refine Att.attach_callB hn hdf fun w _ z mg mb fa o pm cd doc a us ns top y _ _ _ name list areI len _ gens => ?_
  obtain ⟨fd, bd, G⟩ := F w mg fa z.heap (hY w _ y) top.T.g name
  exact says_yes ⟨list, hY w _ y, top.T.g, top.T.b, top.T.builtins, top.T.nolimit, gens⟩ areI len room G bd
end Kx
/-! What the top has written, packed; the law from it. -/
namespace Kx
open PySem PySem.Spec PyProof.Rows L2 Pm
def DfE (K : PySem.W.Frag) (mg : Str → Option Value) (x : Str) (st : Stmt) (ps : List Str) : Prop := ∃ f fd, Df K mg x st ps f fd
def MtE (K : PySem.W.Frag) (C : Addr) (m qual : Str) (st : Stmt) (ps : List Str) : Prop := ∃ f fd, PySem.W.findIn K (.ref C) m = some (some (.ref f)) ∧ PySem.W.isFn K (.ref f) = true ∧ Fun K m qual st f fd ∧ Binds K fd ps []
def PrE (K : PySem.W.Frag) (C : Addr) (m qual : Str) (st : Stmt) : Prop := ∃ p g fd, PropOf K C m p g ∧ Fun K m qual st g fd ∧ Binds K fd ["self"] []
def KwE (K : PySem.W.Frag) (C : Addr) (m qual : Str) (st : Stmt) (ps : List Str) (n : Nat) (ks : List Str) : Prop := ∃ f fd, Meth K C m f ∧ Fun K m qual st f fd ∧ KBn K fd ps n ks (fun us ws => us ++ ws) (fun vs zs => vs ++ zs)
abbrev BindsAll (x qual : Str) (st : Stmt) (ps : List Str) : Prop := ∀ (kV doc pm : Value) (an : Option Addr) (cdv ct : Value) (us : List Value), us.length = ps.length →
  bindArgs (PySem.W.fnOf x qual (defArgs st) (defBody st) (defScope st) .none kV doc pm an cdv ct) ⟨us, []⟩ = pure (ps.zip us)
section
variable {K : PySem.W.Frag} {h : Heap} {mg : Str → Option Value} {x m qual : Str} {st : Stmt} {ps ks : List Str} {n : Nat} {f C p g : Addr} {oc kV doc pm cdv ct : Value} {od an : Option Addr} {osl : Array (Option Value)} {rest : List Value}
theorem mkDf (KX : K.In h) (G : h.Ns mainGlobals mg) (b : BindsAll x x st ps) (a : PySem.W.nsIn K mainGlobals x = some (some (.ref f)))
    (l : K.lookup f = some ⟨oc, od, .func (PySem.W.fnOf x x (defArgs st) (defBody st) (defScope st) .none kV doc pm an cdv ct), osl⟩) (c : PySem.W.codeIn K cdv x = true) (k : PySem.W.keepIn K (.ref f) = true) : DfE K mg x st ps :=
  ⟨f, _, fun_mk l c k, PySem.W.mg_of KX G a, (fun_mk l c k).binds b⟩
theorem mkMt (_ : K.In h) (b : BindsAll m qual st ps) (a : PySem.W.findIn K (.ref C) m = some (some (.ref f))) (i : PySem.W.isFn K (.ref f) = true)
    (l : K.lookup f = some ⟨oc, od, .func (PySem.W.fnOf m qual (defArgs st) (defBody st) (defScope st) .none kV doc pm an cdv ct), osl⟩) (c : PySem.W.codeIn K cdv qual = true) (k : PySem.W.keepIn K (.ref f) = true) : MtE K C m qual st ps :=
  ⟨f, _, a, i, fun_mk l c k, (fun_mk l c k).binds b⟩
theorem mkPr (_ : K.In h) (b : BindsAll m qual st ["self"]) (a : PySem.W.findIn K (.ref C) m = some (some (.ref p))) (s : PySem.W.specialIn K (.ref p) "__get__" = some (some (.builtin "property.__get__"))) (t : PySem.W.takesIn K (.ref p) = some true)
    (r : PySem.W.recIn K p "property" = some (.ref g :: rest)) (l : K.lookup g = some ⟨oc, od, .func (PySem.W.fnOf m qual (defArgs st) (defBody st) (defScope st) .none kV doc pm an cdv ct), osl⟩) (c : PySem.W.codeIn K cdv qual = true) (k : PySem.W.keepIn K (.ref g) = true) : PrE K C m qual st :=
  ⟨p, g, _, ⟨a, s, t, rest, r⟩, fun_mk l c k, (fun_mk l c k).binds b⟩
theorem mkKw (_ : K.In h) (b : ∀ (kV doc pm : Value) (an : Option Addr) (cdv ct : Value) (us ws : List Value), us.length = n → ws.length = ks.length → bindArgs (PySem.W.fnOf m qual (defArgs st) (defBody st) (defScope st) .none kV doc pm an cdv ct) ⟨us, ks.zip ws⟩ = pure (ps.zip (us ++ ws)))
    (a : PySem.W.findIn K (.ref C) m = some (some (.ref f))) (i : PySem.W.isFn K (.ref f) = true)
    (l : K.lookup f = some ⟨oc, od, .func (PySem.W.fnOf m qual (defArgs st) (defBody st) (defScope st) .none kV doc pm an cdv ct), osl⟩) (c : PySem.W.codeIn K cdv qual = true) (k : PySem.W.keepIn K (.ref f) = true) : KwE K C m qual st ps n ks :=
  ⟨f, _, ⟨a, i, k⟩, fun_mk l c k, ⟨fun _ us ws _ hu hw => BindsTo.of_eq (b _ _ _ _ _ _ us ws hu hw), fun r1 r2 => r1.append r2⟩⟩
end
/-! ### what no def hides; the constants; the classes -/
section
variable {K : PySem.W.Frag} {h : Heap} {mg : Str → Option Value} {C Cn fI cda cc : Addr}
theorem mkGV {x : Str} {v : V} {u : Value} (KX : K.In h) (G : h.Ns mainGlobals mg) (a : PySem.W.nsIn K mainGlobals x = some (some u)) (r : RelV v u) : GV mg x v := ⟨u, PySem.W.mg_of KX G a, r⟩
theorem mkPl (_ : K.In h) (c1 : PySem.W.plainGet K C Str.empty = true) (c2 : PySem.W.hasDictIn K C = true) (c3 : PySem.W.plainOver K C = true) (c4 : PySem.W.findIn K (.ref C) "__setattr__" = some (some (.builtin "object.__setattr__")))
    (c5 : PySem.W.findIn K (.ref C) "own_well" = some none) (c6 : PySem.W.findIn K (.ref C) "own_rule" = some none) (c7 : PySem.W.findIn K (.ref C) "own_past" = some none) : Pl K mg C := ⟨⟨c1, c2, c3, c4⟩, c5, c6, c7⟩
theorem mkExS {oc kV doc pm ct ccl cl : Value} {od an cdd cld : Option Addr} {osl ccs csl : Array (Option Value)} {vs : Array Value} {tf : Tok} {cd : ClassData} (KX : K.In h) (G : h.Ns mainGlobals mg)
    (a : PySem.W.nsIn K mainGlobals "Nothing" = some (some (.ref Cn))) (kp : PySem.W.keepIn K (.ref Cn) = true)
    (ini : PySem.W.excInitIn K Cn [.type "LookupError", .type "Exception", .type "BaseException", .type "object"] "LookupError.__new__" = true)
    (fi : PySem.W.findIn K (.ref Cn) "__init__" = some (some (.ref fI))) (ti : PySem.W.typeIn K (.ref fI) = some (.type "function"))
    (li : K.lookup fI = some ⟨oc, od, .func (PySem.W.ksFn "__init__" "Nothing.__init__" (defArgs sNo) (defBody sNo) (defScope sNo) .none kV doc pm an (.ref cda) ct cc), osl⟩) (ci : PySem.W.codeIn K (.ref cda) "Nothing.__init__" = true)
    (lc : K.lookup cda = some ⟨ccl, cdd, .fields vs, ccs⟩) (hv : vs[2]? = some (.str PySem.Challenge.pw_pumphouse_k17_whole_plants.main.file tf)) (ll : K.lookup cc = some ⟨cl, cld, .cell (some (.ref Cn)), csl⟩)
    (hc : PySem.W.clsIn K Cn = some cd) (hs : PySem.W.mroIn K Cn (.ref Cn) = some true) (hu : PySem.W.nsIn K mainGlobals "super" = some none) (ho : PySem.W.nsIn K cStatics "thirdparty.any" = some none)
    (hm : PySem.W.ks_superIn K Cn Cn "__init__" = some (some (.builtin "LookupError.__init__"))) (hb : PySem.W.subIn K (.ref Cn) (.type "LookupError") = some true) (he : PySem.W.subIn K (.ref Cn) (.type "BaseException") = some true)
    (ht : PySem.W.typeIn K (.ref Cn) = some (.type "type")) : ExS K mg Cn :=
  ⟨PySem.W.mg_of KX G a, kp, ini, ⟨fI, fi, ti, oc, kV, doc, pm, ct, od, an, osl, cda, cc, li, ci, ⟨ccl, cdd, vs, ccs, tf, lc, hv⟩, ⟨cl, cld, csl, ll⟩⟩, ⟨cd, hc⟩, hs, PySem.W.mg_none_of KX G hu, ho, hm, hb, he, ht⟩
end
theorem mkBlt {K : PySem.W.Frag} {h : Heap} {mg : Str → Option Value} (KX : K.In h) (G : h.Ns mainGlobals mg) (z0 : PySem.W.nsIn K mainGlobals "isinstance" = some none) (z1 : PySem.W.nsIn K mainGlobals "int" = some none) (z2 : PySem.W.nsIn K mainGlobals "bool" = some none) (z3 : PySem.W.nsIn K mainGlobals "tuple" = some none) (z4 : PySem.W.nsIn K mainGlobals "str" = some none) (z5 : PySem.W.nsIn K mainGlobals "list" = some none) (z6 : PySem.W.nsIn K mainGlobals "len" = some none) (z7 : PySem.W.nsIn K mainGlobals "all" = some none) (z8 : PySem.W.nsIn K mainGlobals "range" = some none) (z9 : PySem.W.nsIn K mainGlobals "enumerate" = some none) (z10 : PySem.W.nsIn K mainGlobals "min" = some none) (z11 : PySem.W.nsIn K mainGlobals "max" = some none) (z12 : PySem.W.nsIn K mainGlobals "sorted" = some none) (z13 : PySem.W.nsIn K mainGlobals "repr" = some none) : Blt mg := ⟨PySem.W.mg_none_of KX G z0, PySem.W.mg_none_of KX G z1, PySem.W.mg_none_of KX G z2, PySem.W.mg_none_of KX G z3, PySem.W.mg_none_of KX G z4, PySem.W.mg_none_of KX G z5, PySem.W.mg_none_of KX G z6, PySem.W.mg_none_of KX G z7, PySem.W.mg_none_of KX G z8, PySem.W.mg_none_of KX G z9, PySem.W.mg_none_of KX G z10, PySem.W.mg_none_of KX G z11, PySem.W.mg_none_of KX G z12, PySem.W.mg_none_of KX G z13⟩
/-! ### every def, every method -/
structure Facts (K : PySem.W.Frag) (mg : Str → Option Value) (C Cn : Addr) : Prop where
  B : Blt mg
  Cs : Cst mg
  d12 : DfE K mg "is_whole" (topS 12) ["thing", "least", "most"]
  d13 : DfE K mg "wrong_part" (topS 13) ["thing"]
  d14 : DfE K mg "need_well" (topS 14) ["thing"]
  d15 : DfE K mg "seen_of" (topS 15) ["well", "level", "past"]
  d23 : DfE K mg "need_rule" (topS 23) ["rule"]
  d24 : DfE K mg "is_age" (topS 24) ["well", "thing"]
  d25 : DfE K mg "is_past" (topS 25) ["well", "thing"]
  d26 : DfE K mg "is_crew_of" (topS 26) ["well", "rule", "thing"]
  d27 : DfE K mg "need_crew" (topS 27) ["well", "rule", "crew"]
  d28 : DfE K mg "beginners" (topS 28) ["well", "rule", "crew"]
  d29 : DfE K mg "ages_after" (topS 29) ["well", "rule", "crew"]
  d30 : DfE K mg "crew_in" (topS 30) ["well", "rule", "crew", "inflow"]
  d31 : DfE K mg "need_inflow" (topS 31) ["inflow"]
  d32 : DfE K mg "runners" (topS 32) ["well", "rule", "crew"]
  d37 : DfE K mg "_law_begun" (topS 37) ["_law_script"]
  d38 : DfE K mg "_law_next" (topS 38) ["_law_m", "_law_total"]
  d39 : DfE K mg "_law_well" (topS 39) ["_law_m", "_law_top"]
  d40 : DfE K mg "_law_crew" (topS 40) ["_law_m", "_law_well_here", "_law_rule", "_law_total"]
  d41 : DfE K mg "_law_turned" (topS 41) ["_law_well_here", "_law_rule", "_law_crew_here"]
  d42 : DfE K mg "_law_beat" (topS 42) ["_law_well_here", "_law_rule", "_law_crew_here", "_law_inflow"]
  d43 : DfE K mg "_law_due" (topS 43) ["_law_well_here", "_law_rule", "_law_past"]
  d44 : DfE K mg "_law_tells" (topS 44) ["_law_one"]
  d45 : DfE K mg "_law_told_right" (topS 45) ["_law_m", "_law_one", "_law_well_here", "_law_rule", "_law_crew_here"]
  d46 : DfE K mg "_law_deed" (topS 46) ["_law_one", "_law_inflow"]
  d47 : DfE K mg "_law_more" (topS 47) ["_law_worked", "_law_runs"]
  d48 : DfE K mg "_law_in_right" (topS 48) ["_law_one", "_law_crew_here"]
  m0 : MtE K C "__init__" "Plant.__init__" (mS 0) ["self", "well", "rule", "crew"]
  m9 : MtE K C "__len__" "Plant.__len__" (mS 9) ["self"]
  m11 : MtE K C "__contains__" "Plant.__contains__" (mS 11) ["self", "pump"]
  m7 : MtE K C "__call__" "Plant.__call__" (mS 7) ["self", "inflow"]
  m1 : PrE K C "well" "Plant.well" (mS 1)
  m2 : PrE K C "rule" "Plant.rule" (mS 2)
  m3 : PrE K C "crew" "Plant.crew" (mS 3)
  m4 : PrE K C "level" "Plant.level" (mS 4)
  m5 : PrE K C "beats" "Plant.beats" (mS 5)
  m6 : PrE K C "hours" "Plant.hours" (mS 6)
  m8 : KwE K C "told" "Plant.told" (mS 8) ["self", "inflow", "times"] 2 ["times"]
  m12 : KwE K C "back" "Plant.back" (mS 12) ["self", "many"] 1 ["many"]
  T : Pl K mg C
  mgC : mg "Plant" = some (.ref C)
  makes : PySem.W.makesIn K C = true
  keeps : PySem.W.keepIn K (.ref C) = true
  fnC : ∀ f, PySem.W.findIn K (.ref C) "__call__" = some (some (.ref f)) → PySem.W.fnIn K f = true
  Tn : ExS K mg Cn
  exm : PySem.W.exmOne K (.ref Cn) (.ref Cn) = some true
theorem law_fn {P : Program} {w : World} {K : PySem.W.Frag} {mg : Str → Option Value} {base : Heap} {C Cn f : Addr} {fd : FuncData} (hP : P = PySem.Challenge.pw_pumphouse_k17_whole_plants) (F : Facts K mg C Cn) (D : Fun K "law" "law" (topS 49) f fd) :
    FnG P w K mg base CX0 8 f fd ["_law_script"] (spLaw K) := by
  have B := F.B
  have Cs := F.Cs
  have T := F.T
  obtain ⟨f12, fd12, d12⟩ := F.d12
  obtain ⟨f13, fd13, d13⟩ := F.d13
  obtain ⟨f14, fd14, d14⟩ := F.d14
  obtain ⟨f15, fd15, d15⟩ := F.d15
  obtain ⟨f23, fd23, d23⟩ := F.d23
  obtain ⟨f24, fd24, d24⟩ := F.d24
  obtain ⟨f25, fd25, d25⟩ := F.d25
  obtain ⟨f26, fd26, d26⟩ := F.d26
  obtain ⟨f27, fd27, d27⟩ := F.d27
  obtain ⟨f28, fd28, d28⟩ := F.d28
  obtain ⟨f29, fd29, d29⟩ := F.d29
  obtain ⟨f30, fd30, d30⟩ := F.d30
  obtain ⟨f31, fd31, d31⟩ := F.d31
  obtain ⟨f32, fd32, d32⟩ := F.d32
  obtain ⟨f37, fd37, d37⟩ := F.d37
  obtain ⟨f38, fd38, d38⟩ := F.d38
  obtain ⟨f39, fd39, d39⟩ := F.d39
  obtain ⟨f40, fd40, d40⟩ := F.d40
  obtain ⟨f41, fd41, d41⟩ := F.d41
  obtain ⟨f42, fd42, d42⟩ := F.d42
  obtain ⟨f43, fd43, d43⟩ := F.d43
  obtain ⟨f44, fd44, d44⟩ := F.d44
  obtain ⟨f45, fd45, d45⟩ := F.d45
  obtain ⟨f46, fd46, d46⟩ := F.d46
  obtain ⟨f47, fd47, d47⟩ := F.d47
  obtain ⟨f48, fd48, d48⟩ := F.d48
  obtain ⟨g0, gd0, a0, i0, e0, b0⟩ := F.m0
  obtain ⟨g9, gd9, a9, i9, e9, b9⟩ := F.m9
  obtain ⟨g11, gd11, a11, i11, e11, b11⟩ := F.m11
  obtain ⟨g7, gd7, a7, i7, e7, b7⟩ := F.m7
  obtain ⟨p1, g1, gd1, a1, e1, b1⟩ := F.m1
  obtain ⟨p2, g2, gd2, a2, e2, b2⟩ := F.m2
  obtain ⟨p3, g3, gd3, a3, e3, b3⟩ := F.m3
  obtain ⟨p4, g4, gd4, a4, e4, b4⟩ := F.m4
  obtain ⟨p5, g5, gd5, a5, e5, b5⟩ := F.m5
  obtain ⟨p6, g6, gd6, a6, e6, b6⟩ := F.m6
  obtain ⟨g8, gd8, a8, e8, b8⟩ := F.m8
  obtain ⟨g12, gd12, a12, e12, b12⟩ := F.m12
  have c12 : Cal P w K mg base 1 "is_whole" spWhole := ok_whole d12 B
  have c13 := ok_wrong d13 Cs c12
  have c14 := ok_needWell d14 B c13
  have c15 : Cal P w K mg base 1 "seen_of" spSeen := ok_seen d15 B
  have c23 : Cal P w K mg base 1 "need_rule" spNeedRule := ok_needRule d23 B Cs
  have c24 := ok_age d24 c12
  have c25 := ok_past d25 B c12
  have c26 := ok_crewOf d26 B Cs c12 c25 c24
  have c27 := ok_needCrew d27 c14 c23 c26
  have c28 := ok_begin d28 B Cs c15
  have c29 := ok_ages d29 B c15 c28
  have c30 := ok_crewIn d30 B Cs c28 c29
  have c31 := ok_inflow d31 Cs c12
  have c32 := ok_runners d32 B c29
  have A : PlA P w K mg base C Cn := {
    T := T
    mgC := F.mgC
    make := ⟨g0, gd0, ⟨F.makes, a0, i0, F.keeps⟩, ok_init e0 T B c27, b0⟩
    well := ⟨p1, g1, gd1, a1, ok_wellP e1 T, b1⟩
    rule := ⟨p2, g2, gd2, a2, ok_ruleP e2 T, b2⟩
    crew := ⟨p3, g3, gd3, a3, ok_crewP e3 T, b3⟩
    level := ⟨p4, g4, gd4, a4, ok_levelP e4 T, b4⟩
    beats := ⟨p5, g5, gd5, a5, ok_beatsP e5 T B, b5⟩
    hours := ⟨p6, g6, gd6, a6, ok_hoursP e6 T, b6⟩
    len := ⟨g9, gd9, a9, i9, ok_lenP e9 T B, b9⟩
    has := ⟨g11, gd11, a11, i11, ok_has e11 T B c12, b11⟩
    call := ⟨g7, gd7, ⟨a7, i7, F.fnC _ a7⟩, ok_call hP e7 T F.Tn B Cs c31 c32 c30, b7⟩
    told := ⟨g8, gd8, a8, ok_told e8 T B Cs c12 c31 c30, b8⟩
    back := ⟨g12, gd12, a12, ok_back e12 T B c12, b12⟩ }
  have c38 : Cal P w K mg base 1 "_law_next" spNext := ok_next d38 B
  have c41 : Cal P w K mg base 1 "_law_turned" spTurned := ok_turned d41 B
  have c42 := ok_beatL d42 B c41
  exact ok_law D B A (ok_begun d37 B) c38 (ok_well d39 c38) (ok_crewD d40 B c38) c42 (ok_due d43 B) (ok_tells d44 B A) (ok_deed d46 A F.Tn.mgC F.exm) (ok_more d47 B) (ok_inR d48 B A)
    ⟨f45, fd45, ok_toldR d45 B A c38 c42, d45.mgf, d45.fn.kp, d45.bi⟩

theorem all_mk {P : Program} {w : World} {K : PySem.W.Frag} {h : Heap} {mg : Str → Option Value} {fa fL C Cn fC : Addr} {oc kV doc pm cdv ct : Value} {od an : Option Addr} {osl : Array (Option Value)} (hP : P = PySem.Challenge.pw_pumphouse_k17_whole_plants) (KX : K.In h) (G : h.Ns mainGlobals mg) (hmg : mg "law" = some (.ref fa))
    (aC : PySem.W.nsIn K mainGlobals "Plant" = some (some (.ref C))) (aN : PySem.W.nsIn K mainGlobals "Nothing" = some (some (.ref Cn))) (aL : PySem.W.nsIn K mainGlobals "law" = some (some (.ref fL)))
    (lL : K.lookup fL = some ⟨oc, od, .func (PySem.W.fnOf "law" "law" (defArgs (topS 49)) (defBody (topS 49)) (defScope (topS 49)) .none kV doc pm an cdv ct), osl⟩) (cL : PySem.W.codeIn K cdv "law" = true) (kL : PySem.W.keepIn K (.ref fL) = true)
    (fC1 : PySem.W.findIn K (.ref C) "__call__" = some (some (.ref fC))) (fC2 : PySem.W.fnIn K fC = true) (mkC : PySem.W.makesIn K C = true) (kC : PySem.W.keepIn K (.ref C) = true) (exm : PySem.W.exmOne K (.ref Cn) (.ref Cn) = some true)
    (bB : Blt mg) (Tn : ExS K mg Cn) (T : Pl K mg C)
    (k0 : GV mg "MOST_TOP" (.int 200))
    (k1 : GV mg "MOST_DRAIN" (.int 50))
    (k2 : GV mg "MOST_AGE" (.int 5))
    (k3 : GV mg "MOST_STARTS" (.int 5))
    (k4 : GV mg "MOST_STEP" (.int 20))
    (k5 : GV mg "MOST_LAG" (.int 3))
    (k6 : GV mg "MOST_PUMPS" (.int 6))
    (k7 : GV mg "MOST_INFLOW" (.int 300))
    (k8 : GV mg "MOST_TIMES" (.int 1000))
    (k9 : GV mg "FIRST" (.str "first"))
    (k10 : GV mg "TURNS" (.str "turns"))
    (k11 : GV mg "OVER" (.str "over"))
    (k12 : GV mg "DRY" (.str "dry"))
    (d12 : DfE K mg "is_whole" (topS 12) ["thing", "least", "most"])
    (d13 : DfE K mg "wrong_part" (topS 13) ["thing"])
    (d14 : DfE K mg "need_well" (topS 14) ["thing"])
    (d15 : DfE K mg "seen_of" (topS 15) ["well", "level", "past"])
    (d23 : DfE K mg "need_rule" (topS 23) ["rule"])
    (d24 : DfE K mg "is_age" (topS 24) ["well", "thing"])
    (d25 : DfE K mg "is_past" (topS 25) ["well", "thing"])
    (d26 : DfE K mg "is_crew_of" (topS 26) ["well", "rule", "thing"])
    (d27 : DfE K mg "need_crew" (topS 27) ["well", "rule", "crew"])
    (d28 : DfE K mg "beginners" (topS 28) ["well", "rule", "crew"])
    (d29 : DfE K mg "ages_after" (topS 29) ["well", "rule", "crew"])
    (d30 : DfE K mg "crew_in" (topS 30) ["well", "rule", "crew", "inflow"])
    (d31 : DfE K mg "need_inflow" (topS 31) ["inflow"])
    (d32 : DfE K mg "runners" (topS 32) ["well", "rule", "crew"])
    (d37 : DfE K mg "_law_begun" (topS 37) ["_law_script"])
    (d38 : DfE K mg "_law_next" (topS 38) ["_law_m", "_law_total"])
    (d39 : DfE K mg "_law_well" (topS 39) ["_law_m", "_law_top"])
    (d40 : DfE K mg "_law_crew" (topS 40) ["_law_m", "_law_well_here", "_law_rule", "_law_total"])
    (d41 : DfE K mg "_law_turned" (topS 41) ["_law_well_here", "_law_rule", "_law_crew_here"])
    (d42 : DfE K mg "_law_beat" (topS 42) ["_law_well_here", "_law_rule", "_law_crew_here", "_law_inflow"])
    (d43 : DfE K mg "_law_due" (topS 43) ["_law_well_here", "_law_rule", "_law_past"])
    (d44 : DfE K mg "_law_tells" (topS 44) ["_law_one"])
    (d45 : DfE K mg "_law_told_right" (topS 45) ["_law_m", "_law_one", "_law_well_here", "_law_rule", "_law_crew_here"])
    (d46 : DfE K mg "_law_deed" (topS 46) ["_law_one", "_law_inflow"])
    (d47 : DfE K mg "_law_more" (topS 47) ["_law_worked", "_law_runs"])
    (d48 : DfE K mg "_law_in_right" (topS 48) ["_law_one", "_law_crew_here"])
    (m0 : MtE K C "__init__" "Plant.__init__" (mS 0) ["self", "well", "rule", "crew"])
    (m9 : MtE K C "__len__" "Plant.__len__" (mS 9) ["self"])
    (m11 : MtE K C "__contains__" "Plant.__contains__" (mS 11) ["self", "pump"])
    (m7 : MtE K C "__call__" "Plant.__call__" (mS 7) ["self", "inflow"])
    (m1 : PrE K C "well" "Plant.well" (mS 1))
    (m2 : PrE K C "rule" "Plant.rule" (mS 2))
    (m3 : PrE K C "crew" "Plant.crew" (mS 3))
    (m4 : PrE K C "level" "Plant.level" (mS 4))
    (m5 : PrE K C "beats" "Plant.beats" (mS 5))
    (m6 : PrE K C "hours" "Plant.hours" (mS 6))
    (m8 : KwE K C "told" "Plant.told" (mS 8) ["self", "inflow", "times"] 2 ["times"])
    (m12 : KwE K C "back" "Plant.back" (mS 12) ["self", "many"] 1 ["many"])
    : ∃ fd : FuncData, (∀ (y : Shared) (u : Value), BindsTo y fd ⟨[u], []⟩ [("_law_script", u)]) ∧ ∀ base : Heap, K.In base → base.Ns mainGlobals mg → FnG P w K mg base CX0 8 fa fd ["_law_script"] (spLaw K) := by
  have e := hmg.symm.trans (PySem.W.mg_of KX G aL)
  cases e
  refine ⟨_, fun y u => .of_eq rfl, fun base _ _ => law_fn hP (C := C) (Cn := Cn) ?_ (fun_mk (st := topS 49) lL cL kL)⟩
  have fnC : ∀ f, PySem.W.findIn K (.ref C) "__call__" = some (some (.ref f)) → PySem.W.fnIn K f = true := fun f e => by
    rw [fC1] at e
    cases e
    exact fC2
  exact { B := bB, Cs := ⟨k0, k1, k2, k3, k4, k5, k6, k7, k8, k9, k10, k11, k12⟩, T := T, mgC := PySem.W.mg_of KX G aC, makes := mkC, keeps := kC, fnC := fnC, Tn := Tn, exm := exm, d12 := d12, d13 := d13, d14 := d14, d15 := d15, d23 := d23, d24 := d24, d25 := d25, d26 := d26, d27 := d27, d28 := d28, d29 := d29, d30 := d30, d31 := d31, d32 := d32, d37 := d37, d38 := d38, d39 := d39, d40 := d40, d41 := d41, d42 := d42, d43 := d43, d44 := d44, d45 := d45, d46 := d46, d47 := d47, d48 := d48, m0 := m0, m1 := m1, m2 := m2, m3 := m3, m4 := m4, m5 := m5, m6 := m6, m7 := m7, m8 := m8, m9 := m9, m11 := m11, m12 := m12 }
end Kx
open PySem PySem.W PyProof.Rows in
set_option maxRecDepth 100000 in
set_option maxHeartbeats 0 in
theorem PySem.Challenge.cw_pumphouse_k17_whole_plants_holds : PySem.Challenge.rw_pumphouse_k17_whole_plants.Holds := by
  w_on; o_law; k_head; (case hw => w_witness2)
  k_fill
  refine Kx.walk_g (l := PySem.Challenge.rw_pumphouse_k17_whole_plants) (k := 8) rfl rfl ⟨rfl, by decide, by decide⟩ (fun w h Y => PySem.W.kIn_of Y) ?F
  case F =>
    intro w mg fa h KX G hmg
    replace hmg : mg "law" = some (.ref fa) := hmg
    refine' Kx.all_mk rfl KX G hmg ?aC ?aN ?aL ?lL ?cL ?kL ?fC1 ?fC2 ?mkC ?kC ?exm ?bB ?Tn ?T ?k0 ?k1 ?k2 ?k3 ?k4 ?k5 ?k6 ?k7 ?k8 ?k9 ?k10 ?k11 ?k12 ?d12 ?d13 ?d14 ?d15 ?d23 ?d24 ?d25 ?d26 ?d27 ?d28 ?d29 ?d30 ?d31 ?d32 ?d37 ?d38 ?d39 ?d40 ?d41 ?d42 ?d43 ?d44 ?d45 ?d46 ?d47 ?d48 ?m0 ?m9 ?m11 ?m7 ?m1 ?m2 ?m3 ?m4 ?m5 ?m6 ?m8 ?m12
    (case aC => k_is)
    (case aN => k_is)
    (case aL => k_is)
    (case lL => k_is)
    (case cL => k_is)
    (case kL => k_is)
    (case fC1 => k_is)
    (case fC2 => k_is)
    (case mkC => k_is)
    (case kC => k_is)
    (case exm => kts_exm)
    (case bB => refine' Kx.mkBlt KX G ?z0 ?z1 ?z2 ?z3 ?z4 ?z5 ?z6 ?z7 ?z8 ?z9 ?z10 ?z11 ?z12 ?z13 <;> k_is)
    (case Tn => refine' Kx.mkExS KX G ?xa ?xkp ?xini ?xfi ?xti ?xli ?xci ?xlc ?xhv ?xll ?xhc ?xhs ?xhu ?xho ?xhm ?xhb ?xhe ?xht; (case xa => k_is); (case xkp => k_is); (case xini => kx_is); (case xfi => k_is); (case xti => k_is); (case xli => k_is); (case xci => k_is); (case xlc => k_is); (case xhv => rfl); (case xll => k_is); (case xhc => k_is); (case xhs => k_is); (case xhu => k_is); (case xho => k_is); (case xhm => ks_is); (case xhb => k_is); (case xhe => k_is); (case xht => k_is))
    (case T => refine' Kx.mkPl KX ?c1 ?c2 ?c3 ?c4 ?c5 ?c6 ?c7 <;> k_is)
    (case k0 => refine' Kx.mkGV KX G ?a ?r; (case a => k_is); (case r => exact ⟨_, rfl⟩))
    (case k1 => refine' Kx.mkGV KX G ?a ?r; (case a => k_is); (case r => exact ⟨_, rfl⟩))
    (case k2 => refine' Kx.mkGV KX G ?a ?r; (case a => k_is); (case r => exact ⟨_, rfl⟩))
    (case k3 => refine' Kx.mkGV KX G ?a ?r; (case a => k_is); (case r => exact ⟨_, rfl⟩))
    (case k4 => refine' Kx.mkGV KX G ?a ?r; (case a => k_is); (case r => exact ⟨_, rfl⟩))
    (case k5 => refine' Kx.mkGV KX G ?a ?r; (case a => k_is); (case r => exact ⟨_, rfl⟩))
    (case k6 => refine' Kx.mkGV KX G ?a ?r; (case a => k_is); (case r => exact ⟨_, rfl⟩))
    (case k7 => refine' Kx.mkGV KX G ?a ?r; (case a => k_is); (case r => exact ⟨_, rfl⟩))
    (case k8 => refine' Kx.mkGV KX G ?a ?r; (case a => k_is); (case r => exact ⟨_, rfl⟩))
    (case k9 => refine' Kx.mkGV KX G ?a ?r; (case a => k_is); (case r => exact ⟨_, rfl⟩))
    (case k10 => refine' Kx.mkGV KX G ?a ?r; (case a => k_is); (case r => exact ⟨_, rfl⟩))
    (case k11 => refine' Kx.mkGV KX G ?a ?r; (case a => k_is); (case r => exact ⟨_, rfl⟩))
    (case k12 => refine' Kx.mkGV KX G ?a ?r; (case a => k_is); (case r => exact ⟨_, rfl⟩))
    (case d12 => refine' Kx.mkDf KX G (fun _ _ _ _ _ _ us hl => match us, hl with | [_, _, _], _ => rfl) ?a ?l ?c ?k; (case a => k_is); (case l => k_is); (case c => k_is); (case k => k_is))
    (case d13 => refine' Kx.mkDf KX G (fun _ _ _ _ _ _ us hl => match us, hl with | [_], _ => rfl) ?a ?l ?c ?k; (case a => k_is); (case l => k_is); (case c => k_is); (case k => k_is))
    (case d14 => refine' Kx.mkDf KX G (fun _ _ _ _ _ _ us hl => match us, hl with | [_], _ => rfl) ?a ?l ?c ?k; (case a => k_is); (case l => k_is); (case c => k_is); (case k => k_is))
    (case d15 => refine' Kx.mkDf KX G (fun _ _ _ _ _ _ us hl => match us, hl with | [_, _, _], _ => rfl) ?a ?l ?c ?k; (case a => k_is); (case l => k_is); (case c => k_is); (case k => k_is))
    (case d23 => refine' Kx.mkDf KX G (fun _ _ _ _ _ _ us hl => match us, hl with | [_], _ => rfl) ?a ?l ?c ?k; (case a => k_is); (case l => k_is); (case c => k_is); (case k => k_is))
    (case d24 => refine' Kx.mkDf KX G (fun _ _ _ _ _ _ us hl => match us, hl with | [_, _], _ => rfl) ?a ?l ?c ?k; (case a => k_is); (case l => k_is); (case c => k_is); (case k => k_is))
    (case d25 => refine' Kx.mkDf KX G (fun _ _ _ _ _ _ us hl => match us, hl with | [_, _], _ => rfl) ?a ?l ?c ?k; (case a => k_is); (case l => k_is); (case c => k_is); (case k => k_is))
    (case d26 => refine' Kx.mkDf KX G (fun _ _ _ _ _ _ us hl => match us, hl with | [_, _, _], _ => rfl) ?a ?l ?c ?k; (case a => k_is); (case l => k_is); (case c => k_is); (case k => k_is))
    (case d27 => refine' Kx.mkDf KX G (fun _ _ _ _ _ _ us hl => match us, hl with | [_, _, _], _ => rfl) ?a ?l ?c ?k; (case a => k_is); (case l => k_is); (case c => k_is); (case k => k_is))
    (case d28 => refine' Kx.mkDf KX G (fun _ _ _ _ _ _ us hl => match us, hl with | [_, _, _], _ => rfl) ?a ?l ?c ?k; (case a => k_is); (case l => k_is); (case c => k_is); (case k => k_is))
    (case d29 => refine' Kx.mkDf KX G (fun _ _ _ _ _ _ us hl => match us, hl with | [_, _, _], _ => rfl) ?a ?l ?c ?k; (case a => k_is); (case l => k_is); (case c => k_is); (case k => k_is))
    (case d30 => refine' Kx.mkDf KX G (fun _ _ _ _ _ _ us hl => match us, hl with | [_, _, _, _], _ => rfl) ?a ?l ?c ?k; (case a => k_is); (case l => k_is); (case c => k_is); (case k => k_is))
    (case d31 => refine' Kx.mkDf KX G (fun _ _ _ _ _ _ us hl => match us, hl with | [_], _ => rfl) ?a ?l ?c ?k; (case a => k_is); (case l => k_is); (case c => k_is); (case k => k_is))
    (case d32 => refine' Kx.mkDf KX G (fun _ _ _ _ _ _ us hl => match us, hl with | [_, _, _], _ => rfl) ?a ?l ?c ?k; (case a => k_is); (case l => k_is); (case c => k_is); (case k => k_is))
    (case d37 => refine' Kx.mkDf KX G (fun _ _ _ _ _ _ us hl => match us, hl with | [_], _ => rfl) ?a ?l ?c ?k; (case a => k_is); (case l => k_is); (case c => k_is); (case k => k_is))
    (case d38 => refine' Kx.mkDf KX G (fun _ _ _ _ _ _ us hl => match us, hl with | [_, _], _ => rfl) ?a ?l ?c ?k; (case a => k_is); (case l => k_is); (case c => k_is); (case k => k_is))
    (case d39 => refine' Kx.mkDf KX G (fun _ _ _ _ _ _ us hl => match us, hl with | [_, _], _ => rfl) ?a ?l ?c ?k; (case a => k_is); (case l => k_is); (case c => k_is); (case k => k_is))
    (case d40 => refine' Kx.mkDf KX G (fun _ _ _ _ _ _ us hl => match us, hl with | [_, _, _, _], _ => rfl) ?a ?l ?c ?k; (case a => k_is); (case l => k_is); (case c => k_is); (case k => k_is))
    (case d41 => refine' Kx.mkDf KX G (fun _ _ _ _ _ _ us hl => match us, hl with | [_, _, _], _ => rfl) ?a ?l ?c ?k; (case a => k_is); (case l => k_is); (case c => k_is); (case k => k_is))
    (case d42 => refine' Kx.mkDf KX G (fun _ _ _ _ _ _ us hl => match us, hl with | [_, _, _, _], _ => rfl) ?a ?l ?c ?k; (case a => k_is); (case l => k_is); (case c => k_is); (case k => k_is))
    (case d43 => refine' Kx.mkDf KX G (fun _ _ _ _ _ _ us hl => match us, hl with | [_, _, _], _ => rfl) ?a ?l ?c ?k; (case a => k_is); (case l => k_is); (case c => k_is); (case k => k_is))
    (case d44 => refine' Kx.mkDf KX G (fun _ _ _ _ _ _ us hl => match us, hl with | [_], _ => rfl) ?a ?l ?c ?k; (case a => k_is); (case l => k_is); (case c => k_is); (case k => k_is))
    (case d45 => refine' Kx.mkDf KX G (fun _ _ _ _ _ _ us hl => match us, hl with | [_, _, _, _, _], _ => rfl) ?a ?l ?c ?k; (case a => k_is); (case l => k_is); (case c => k_is); (case k => k_is))
    (case d46 => refine' Kx.mkDf KX G (fun _ _ _ _ _ _ us hl => match us, hl with | [_, _], _ => rfl) ?a ?l ?c ?k; (case a => k_is); (case l => k_is); (case c => k_is); (case k => k_is))
    (case d47 => refine' Kx.mkDf KX G (fun _ _ _ _ _ _ us hl => match us, hl with | [_, _], _ => rfl) ?a ?l ?c ?k; (case a => k_is); (case l => k_is); (case c => k_is); (case k => k_is))
    (case d48 => refine' Kx.mkDf KX G (fun _ _ _ _ _ _ us hl => match us, hl with | [_, _], _ => rfl) ?a ?l ?c ?k; (case a => k_is); (case l => k_is); (case c => k_is); (case k => k_is))
    (case m0 => refine' Kx.mkMt KX (fun _ _ _ _ _ _ us hl => match us, hl with | [_, _, _, _], _ => rfl) ?a ?i ?l ?c ?k; (case a => k_is); (case i => k_is); (case l => k_is); (case c => k_is); (case k => k_is))
    (case m9 => refine' Kx.mkMt KX (fun _ _ _ _ _ _ us hl => match us, hl with | [_], _ => rfl) ?a ?i ?l ?c ?k; (case a => k_is); (case i => k_is); (case l => k_is); (case c => k_is); (case k => k_is))
    (case m11 => refine' Kx.mkMt KX (fun _ _ _ _ _ _ us hl => match us, hl with | [_, _], _ => rfl) ?a ?i ?l ?c ?k; (case a => k_is); (case i => k_is); (case l => k_is); (case c => k_is); (case k => k_is))
    (case m7 => refine' Kx.mkMt KX (fun _ _ _ _ _ _ us hl => match us, hl with | [_, _], _ => rfl) ?a ?i ?l ?c ?k; (case a => k_is); (case i => k_is); (case l => k_is); (case c => k_is); (case k => k_is))
    (case m1 => refine' Kx.mkPr KX (fun _ _ _ _ _ _ us hl => match us, hl with | [_], _ => rfl) ?a ?s ?t ?r ?l ?c ?k; (case a => k_is); (case s => k_is); (case t => k_is); (case r => k_is); (case l => k_is); (case c => k_is); (case k => k_is))
    (case m2 => refine' Kx.mkPr KX (fun _ _ _ _ _ _ us hl => match us, hl with | [_], _ => rfl) ?a ?s ?t ?r ?l ?c ?k; (case a => k_is); (case s => k_is); (case t => k_is); (case r => k_is); (case l => k_is); (case c => k_is); (case k => k_is))
    (case m3 => refine' Kx.mkPr KX (fun _ _ _ _ _ _ us hl => match us, hl with | [_], _ => rfl) ?a ?s ?t ?r ?l ?c ?k; (case a => k_is); (case s => k_is); (case t => k_is); (case r => k_is); (case l => k_is); (case c => k_is); (case k => k_is))
    (case m4 => refine' Kx.mkPr KX (fun _ _ _ _ _ _ us hl => match us, hl with | [_], _ => rfl) ?a ?s ?t ?r ?l ?c ?k; (case a => k_is); (case s => k_is); (case t => k_is); (case r => k_is); (case l => k_is); (case c => k_is); (case k => k_is))
    (case m5 => refine' Kx.mkPr KX (fun _ _ _ _ _ _ us hl => match us, hl with | [_], _ => rfl) ?a ?s ?t ?r ?l ?c ?k; (case a => k_is); (case s => k_is); (case t => k_is); (case r => k_is); (case l => k_is); (case c => k_is); (case k => k_is))
    (case m6 => refine' Kx.mkPr KX (fun _ _ _ _ _ _ us hl => match us, hl with | [_], _ => rfl) ?a ?s ?t ?r ?l ?c ?k; (case a => k_is); (case s => k_is); (case t => k_is); (case r => k_is); (case l => k_is); (case c => k_is); (case k => k_is))
    (case m8 => refine' Kx.mkKw KX (fun _ _ _ _ _ _ us ws hu hw => match us, ws, hu, hw with | [_, _], [_], _, _ => rfl) ?a ?i ?l ?c ?k; (case a => k_is); (case i => k_is); (case l => k_is); (case c => k_is); (case k => k_is))
    (case m12 => refine' Kx.mkKw KX (fun _ _ _ _ _ _ us ws hu hw => match us, ws, hu, hw with | [_], [_], _, _ => rfl) ?a ?i ?l ?c ?k; (case a => k_is); (case i => k_is); (case l => k_is); (case c => k_is); (case k => k_is))
