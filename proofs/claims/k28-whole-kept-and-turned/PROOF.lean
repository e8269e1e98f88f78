import PyProof.Rows.All
import Wide.All
import OpenK.AllK
import Wide.FinOn
import HandS.ForMost
import HandS.TupSets
import HandS.TupMul
import HandS.Deep
import HandS.Conv
import PySem.Challenge.RW_truthgrades_k28_whole_kept_and_turned
set_option Elab.async false
set_option linter.all false
set_option maxRecDepth 100000
set_option maxHeartbeats 4000000
/-! The mathematics: columns that sayings have, turned by an order, kept in a part. -/
namespace K28
open PySem L2

structure Con where
  nm : Str
  pl : Nat
  cells : List Int
structure ConOk (m : Nat) (c : Con) : Prop where
  pl : c.pl ≤ 2
  len : c.cells.length = m ^ c.pl
  rng : ∀ x ∈ c.cells, 0 ≤ x ∧ x < (m : Int)
/-- in the grades below m -/
def Rg (m : Nat) (l : List Int) : Prop := ∀ x ∈ l, 0 ≤ x ∧ x < (m : Int)
def cat (l : List Int) (i : Int) : Int := l.getD i.toNat 0
def pos (m : Nat) (gs : List Int) : Int := gs.foldl (fun p g => p * m + g) 0
def row (cs : List (List Int)) (k : Nat) : List Int := cs.map fun c => c.getD k 0
def jn (m : Nat) (cells : List Int) (cs : List (List Int)) (n : Nat) : List Int := (List.range n).map fun k => cat cells (pos m (row cs k))

theorem pos_rg {m : Nat} {gs : List Int} (h : Rg m gs) (hl : gs.length ≤ 2) : 0 ≤ pos m gs ∧ pos m gs < ((m ^ gs.length : Nat) : Int) := by
  match gs, h, hl with
  | [], _, _ => exact ⟨Int.le_refl _, by show (0 : Int) < ((m ^ 0 : Nat) : Int); rw [Nat.pow_zero]; decide⟩
  | [x], h, _ =>
    obtain ⟨h1, h2⟩ := h x (by simp)
    show 0 ≤ 0 * (m : Int) + x ∧ 0 * (m : Int) + x < ((m ^ 1 : Nat) : Int)
    rw [Nat.pow_one, Int.zero_mul]
    omega
  | [x, y], h, _ =>
    obtain ⟨h1, h2⟩ := h x (by simp)
    obtain ⟨h3, h4⟩ := h y (by simp)
    show 0 ≤ (0 * (m : Int) + x) * m + y ∧ (0 * (m : Int) + x) * m + y < ((m ^ 2 : Nat) : Int)
    have e : ((m ^ 2 : Nat) : Int) = (m : Int) * m := by rw [Nat.pow_two, Int.natCast_mul]
    rw [e, Int.zero_mul, Int.zero_add]
    have a1 : 0 ≤ x * (m : Int) := Int.mul_nonneg h1 (by omega)
    have a2 : x * (m : Int) ≤ ((m : Int) - 1) * m := Int.mul_le_mul_of_nonneg_right (by omega) (by omega)
    rw [Int.sub_mul, Int.one_mul] at a2
    generalize x * (m : Int) = u at a1 a2 ⊢
    generalize (m : Int) * m = v at a2 ⊢
    omega
  | _ :: _ :: _ :: _, _, hl => simp at hl
theorem cat_mem {l : List Int} {i : Int} (h0 : 0 ≤ i) (h : i < (l.length : Int)) : cat l i ∈ l := by
  unfold cat
  have h' : i.toNat < l.length := by omega
  rw [List.getD_eq_getElem?_getD, List.getElem?_eq_getElem h', Option.getD_some]
  exact List.getElem_mem h'
theorem cat_get {l : List Int} {i : Int} (h : i.toNat < l.length) : l[i.toNat]? = some (cat l i) := by
  unfold cat
  rw [List.getD_eq_getElem?_getD, List.getElem?_eq_getElem h, Option.getD_some]
theorem getD_mem {l : List Int} {k : Nat} (h : k < l.length) : l.getD k 0 ∈ l := by
  rw [List.getD_eq_getElem?_getD, List.getElem?_eq_getElem h, Option.getD_some]
  exact List.getElem_mem h
theorem row_rg {m n k : Nat} {cs : List (List Int)} (h : ∀ c ∈ cs, c.length = n ∧ Rg m c) (hk : k < n) : Rg m (row cs k) := by
  intro x hx
  obtain ⟨c, hc, rfl⟩ := List.mem_map.mp hx
  obtain ⟨h1, h2⟩ := h c hc
  exact h2 _ (getD_mem (by omega))
theorem row_len {cs : List (List Int)} {k : Nat} : (row cs k).length = cs.length := by simp [row]
theorem con_at {m : Nat} {c : Con} (ok : ConOk m c) {gs : List Int} (h : Rg m gs) (hl : gs.length = c.pl) : cat c.cells (pos m gs) ∈ c.cells := by
  have hp := ok.pl
  obtain ⟨h1, h2⟩ := pos_rg h (by omega)
  refine cat_mem h1 ?_
  rw [ok.len, ← hl]
  exact h2
theorem con_rg {m : Nat} {c : Con} (ok : ConOk m c) {gs : List Int} (h : Rg m gs) (hl : gs.length = c.pl) : 0 ≤ cat c.cells (pos m gs) ∧ cat c.cells (pos m gs) < (m : Int) :=
  ok.rng _ (con_at ok h hl)
theorem jn_len {m : Nat} {cells : List Int} {cs : List (List Int)} {n : Nat} : (jn m cells cs n).length = n := by simp [jn]

/-- the columns that sayings have -/
inductive Said (m : Nat) (cons : List Con) (cols : List (List Int)) (n : Nat) : List Int → Prop
  | col {c : List Int} : c ∈ cols → Said m cons cols n c
  | app {k : Con} {cs : List (List Int)} : k ∈ cons → cs.length = k.pl → (∀ a ∈ cs, Said m cons cols n a) → Said m cons cols n (jn m k.cells cs n)

section
variable {m n : Nat} {cons cons' : List Con} {cols : List (List Int)}
theorem said_rg (ok : ∀ k ∈ cons, ConOk m k) (hc : ∀ c ∈ cols, c.length = n ∧ Rg m c) {c : List Int} (h : Said m cons cols n c) : c.length = n ∧ Rg m c := by
  induction h with
  | col h => exact hc _ h
  | @app k cs hk hl _ ih =>
    refine ⟨jn_len, fun x hx => ?_⟩
    obtain ⟨j, hj, rfl⟩ := List.mem_map.mp hx
    exact con_rg (ok k hk) (row_rg ih (List.mem_range.mp hj)) (by rw [row_len]; exact hl)

/-- the part is kept by each connective -/
def Closed (m : Nat) (part : List Int) (c : Con) : Prop := ∀ gs : List Int, gs.length = c.pl → (∀ x ∈ gs, x ∈ part) → cat c.cells (pos m gs) ∈ part
theorem said_part {part : List Int} (cl : ∀ k ∈ cons, Closed m part k) (hc : ∀ c ∈ cols, c.length = n ∧ ∀ x ∈ c, x ∈ part) {c : List Int} (h : Said m cons cols n c) : c.length = n ∧ ∀ x ∈ c, x ∈ part := by
  induction h with
  | col h => exact hc _ h
  | @app k cs hk hl _ ih =>
    refine ⟨jn_len, fun x hx => ?_⟩
    obtain ⟨j, hj, rfl⟩ := List.mem_map.mp hx
    refine cl k hk _ (by rw [row_len]; exact hl) fun y hy => ?_
    obtain ⟨a, ha, rfl⟩ := List.mem_map.mp hy
    obtain ⟨h1, h2⟩ := ih a ha
    exact h2 _ (getD_mem (by have := List.mem_range.mp hj; omega))

/-! ### turned -/
structure TurnC (m : Nat) (f : Int → Int) (c c' : Con) : Prop where
  pl : c'.pl = c.pl
  tr : ∀ gs : List Int, gs.length = c.pl → Rg m gs → cat c'.cells (pos m (gs.map f)) = f (cat c.cells (pos m gs))
theorem getD_map {f : Int → Int} {c : List Int} {k : Nat} (h : k < c.length) : (c.map f).getD k 0 = f (c.getD k 0) := by
  rw [List.getD_eq_getElem?_getD, List.getD_eq_getElem?_getD, List.getElem?_map, List.getElem?_eq_getElem h]
  rfl
theorem row_turn {f : Int → Int} {cs : List (List Int)} {k : Nat} (h : ∀ c ∈ cs, c.length = n) (hk : k < n) : row (cs.map fun c => c.map f) k = (row cs k).map f := by
  unfold row
  rw [List.map_map, List.map_map]
  refine List.map_congr_left fun c hc => ?_
  exact getD_map (by rw [h c hc]; exact hk)
theorem jn_turn {f : Int → Int} {k k' : Con} (t : TurnC m f k k') {cs : List (List Int)} (hl : cs.length = k.pl) (h : ∀ c ∈ cs, c.length = n ∧ Rg m c) :
    jn m k'.cells (cs.map fun c => c.map f) n = (jn m k.cells cs n).map f := by
  unfold jn
  rw [List.map_map]
  refine List.map_congr_left fun j hj => ?_
  have hj := List.mem_range.mp hj
  rw [row_turn (fun c hc => (h c hc).1) hj]
  exact t.tr _ (by rw [row_len]; exact hl) (row_rg h hj)
theorem paired_left {α β : Type} {F : α → β → Prop} : ∀ {l : List α} {l' : List β}, Paired F l l' → ∀ a ∈ l, ∃ b ∈ l', F a b
  | _, _, .nil, _, h => by simp at h
  | _, _, .cons r t, a, h => by
    rcases List.mem_cons.mp h with rfl | h
    · exact ⟨_, List.mem_cons_self, r⟩
    · obtain ⟨b, hb, q⟩ := paired_left t a h
      exact ⟨b, List.mem_cons_of_mem _ hb, q⟩
theorem paired_right {α β : Type} {F : α → β → Prop} : ∀ {l : List α} {l' : List β}, Paired F l l' → ∀ b ∈ l', ∃ a ∈ l, F a b
  | _, _, .nil, _, h => by simp at h
  | _, _, .cons r t, a, h => by
    rcases List.mem_cons.mp h with rfl | h
    · exact ⟨_, List.mem_cons_self, r⟩
    · obtain ⟨b, hb, q⟩ := paired_right t a h
      exact ⟨b, List.mem_cons_of_mem _ hb, q⟩
theorem said_turn {f : Int → Int} (ok : ∀ k ∈ cons, ConOk m k) (hc : ∀ c ∈ cols, c.length = n ∧ Rg m c) (t : Paired (TurnC m f) cons cons') {c : List Int} (h : Said m cons cols n c) :
    Said m cons' (cols.map fun c => c.map f) n (c.map f) := by
  induction h with
  | col h => exact .col (List.mem_map.mpr ⟨_, h, rfl⟩)
  | @app k cs hk hl hs ih =>
    obtain ⟨k', hk', tk⟩ := paired_left t k hk
    rw [← jn_turn tk hl fun a ha => said_rg ok hc (hs a ha)]
    refine .app hk' (by rw [List.length_map, hl, tk.pl]) fun a ha => ?_
    obtain ⟨b, hb, rfl⟩ := List.mem_map.mp ha
    exact ih b hb
theorem pre_list {f : Int → Int} {P : List Int → Prop} : ∀ cs : List (List Int), (∀ a ∈ cs, ∃ c, P c ∧ a = c.map f) → ∃ ds : List (List Int), cs = ds.map (fun c => c.map f) ∧ ∀ c ∈ ds, P c
  | [], _ => ⟨[], rfl, fun _ h => by simp at h⟩
  | a :: r, h => by
    obtain ⟨c, hc, e⟩ := h a List.mem_cons_self
    obtain ⟨ds, e2, h2⟩ := pre_list r fun b hb => h b (List.mem_cons_of_mem _ hb)
    refine ⟨c :: ds, by rw [List.map_cons, ← e, ← e2], fun d hd => ?_⟩
    rcases List.mem_cons.mp hd with rfl | hd
    · exact hc
    · exact h2 d hd
theorem said_back {f : Int → Int} (ok : ∀ k ∈ cons, ConOk m k) (hc : ∀ c ∈ cols, c.length = n ∧ Rg m c) (t : Paired (TurnC m f) cons cons') {d : List Int}
    (h : Said m cons' (cols.map fun c => c.map f) n d) : ∃ c, Said m cons cols n c ∧ d = c.map f := by
  induction h with
  | col h =>
    obtain ⟨c, hc, rfl⟩ := List.mem_map.mp h
    exact ⟨c, .col hc, rfl⟩
  | @app k' cs hk' hl' _ ih =>
    obtain ⟨k, hk, tk⟩ := paired_right t k' hk'
    obtain ⟨ds, e, hd⟩ := pre_list cs ih
    subst e
    have hl : ds.length = k.pl := by rw [← tk.pl, ← hl', List.length_map]
    exact ⟨_, .app hk hl hd, jn_turn tk hl fun a ha => said_rg ok hc (hd a ha)⟩
end

/-! ### codes -/
theorem code_inj {B : Int} : ∀ {a b : List Int}, a.length = b.length → TS.Bd B a → TS.Bd B b → TS.code B a = TS.code B b → a = b
  | [], [], _, _, _, _ => rfl
  | [], _ :: _, h, _, _, _ => by simp at h
  | _ :: _, [], h, _, _, _ => by simp at h
  | x :: r, y :: q, h, ha, hb, e => by
    have hl : r.length = q.length := by simpa using h
    rcases Int.lt_trichotomy x y with l | l | l
    · have := TS.code_lt hl ha.tail hb.tail l
      omega
    · subst l
      have e1 : TS.code B r = TS.code B q := by
        have z : x * B ^ r.length + TS.code B r = x * B ^ q.length + TS.code B q := e
        rw [hl] at z
        omega
      rw [code_inj hl ha.tail hb.tail e1]
    · have := TS.code_lt hl.symm hb.tail ha.tail l
      omega
theorem bd4 {m : Nat} (hm : m ≤ 4) {c : List Int} (h : Rg m c) : TS.Bd 4 c := fun x hx => by
  obtain ⟨h1, h2⟩ := h x hx
  omega
theorem nodup_map {α β : Type} {f : α → β} : ∀ {l : List α}, l.Nodup → (∀ a ∈ l, ∀ b ∈ l, f a = f b → a = b) → (l.map f).Nodup
  | [], _, _ => List.nodup_nil
  | a :: r, h, inj => by
    obtain ⟨h1, h2⟩ := List.nodup_cons.mp h
    rw [List.map_cons]
    refine List.nodup_cons.mpr ⟨fun hm => ?_, nodup_map h2 fun x hx y hy => inj x (List.mem_cons_of_mem _ hx) y (List.mem_cons_of_mem _ hy)⟩
    obtain ⟨b, hb, e⟩ := List.mem_map.mp hm
    have := inj b (List.mem_cons_of_mem _ hb) a List.mem_cons_self e
    subst this
    exact h1 hb
theorem cols_few {m n : Nat} (hm : m ≤ 4) (hn : n ≤ 2) {F : List (List Int)} (nd : F.Nodup) (h : ∀ c ∈ F, c.length = n ∧ Rg m c) : F.length ≤ 16 := by
  have key : (F.map fun c => (TS.code 4 c).toNat).Nodup := nodup_map nd fun a ha b hb e => by
    obtain ⟨a1, a2⟩ := h a ha
    obtain ⟨b1, b2⟩ := h b hb
    have c1 := TS.code_bd a (bd4 hm a2)
    have c2 := TS.code_bd b (bd4 hm b2)
    exact code_inj (a1.trans b1.symm) (bd4 hm a2) (bd4 hm b2) (by omega)
  have sub : (F.map fun c => (TS.code 4 c).toNat) ⊆ List.range 16 := fun x hx => by
    obtain ⟨c, hc, rfl⟩ := List.mem_map.mp hx
    obtain ⟨a1, a2⟩ := h c hc
    obtain ⟨c1, c2⟩ := TS.code_bd c (bd4 hm a2)
    have c3 : (4 : Int) ^ c.length ≤ 16 := by
      rw [a1]
      match n, hn with
      | 0, _ => decide
      | 1, _ => decide
      | 2, _ => decide
    refine List.mem_range.mpr ?_
    show (TS.code 4 c).toNat < 16
    omega
  have := key.length_le_of_subset sub
  simpa using this

/-- a column's turn is one to one below m -/
theorem map_inj {m : Nat} {f : Int → Int} (inj : ∀ x y : Int, 0 ≤ x → x < m → 0 ≤ y → y < m → f x = f y → x = y) : ∀ {a b : List Int}, Rg m a → Rg m b → a.map f = b.map f → a = b
  | [], [], _, _, _ => rfl
  | [], _ :: _, _, _, e => by simp at e
  | _ :: _, [], _, _, e => by simp at e
  | x :: r, y :: q, ha, hb, e => by
    rw [List.map_cons, List.map_cons] at e
    injection e with e1 e2
    obtain ⟨x1, x2⟩ := ha x List.mem_cons_self
    obtain ⟨y1, y2⟩ := hb y List.mem_cons_self
    rw [inj x y x1 x2 y1 y2 e1, map_inj inj (fun z hz => ha z (List.mem_cons_of_mem _ hz)) (fun z hz => hb z (List.mem_cons_of_mem _ hz)) e2]
/-- what is told of the turned table -/
theorem turned_found {m n : Nat} {f : Int → Int} (hm : m ≤ 4) (inj : ∀ x y : Int, 0 ≤ x → x < m → 0 ≤ y → y < m → f x = f y → x = y)
    (rg : ∀ x : Int, 0 ≤ x → x < m → 0 ≤ f x ∧ f x < m)
    {cons cons' : List Con} {cols : List (List Int)} (ok : ∀ k ∈ cons, ConOk m k) (hc : ∀ c ∈ cols, c.length = n ∧ Rg m c) (t : Paired (TurnC m f) cons cons')
    {F F' : List (List Int)} (nd : F.Nodup) (nd' : F'.Nodup) (hF : ∀ c, c ∈ F ↔ Said m cons cols n c) (hF' : ∀ c, c ∈ F' ↔ Said m cons' (cols.map fun c => c.map f) n c) :
    F'.Perm (F.map fun c => c.map f) := by
  have nd2 : (F.map fun c => c.map f).Nodup := nodup_map nd fun a ha b hb e =>
    map_inj inj (said_rg ok hc ((hF a).mp ha)).2 (said_rg ok hc ((hF b).mp hb)).2 e
  refine (List.perm_ext_iff_of_nodup nd' nd2).mpr fun d => ⟨fun h => ?_, fun h => ?_⟩
  · obtain ⟨c, h1, rfl⟩ := said_back ok hc t ((hF' d).mp h)
    exact List.mem_map.mpr ⟨c, (hF c).mpr h1, rfl⟩
  · obtain ⟨c, h1, rfl⟩ := List.mem_map.mp h
    exact (hF' _).mpr (said_turn ok hc t ((hF c).mp h1))
abbrev CodeLe (a b : List Int) : Prop := TS.code 4 a ≤ TS.code 4 b
theorem sorted_same {m n : Nat} (hm : m ≤ 4) {A B : List (List Int)} (hp : A.Perm B) (ha : A.Pairwise CodeLe) (hb : B.Pairwise CodeLe) (h : ∀ c ∈ A, c.length = n ∧ Rg m c) : A = B := by
  refine List.Perm.eq_of_pairwise (le := CodeLe) (fun a b h1 h2 l1 l2 => ?_) ha hb hp
  obtain ⟨a1, a2⟩ := h a h1
  obtain ⟨b1, b2⟩ := h b (hp.mem_iff.mpr h2)
  exact code_inj (a1.trans b1.symm) (bd4 hm a2) (bd4 hm b2) (Int.le_antisymm l1 l2)
/-- an order of all grades below m -/
theorem order_fn {m : Nat} {os : List Int} (h : os.Perm ((List.range m).map fun i : Nat => (i : Int))) :
    (∀ x y : Int, 0 ≤ x → x < m → 0 ≤ y → y < m → cat os x = cat os y → x = y) ∧ (∀ x : Int, 0 ≤ x → x < m → 0 ≤ cat os x ∧ cat os x < m) ∧ os.length = m := by
  have hl : os.length = m := by rw [h.length_eq]; simp
  have nd : os.Nodup := h.nodup_iff.mpr (nodup_map List.nodup_range fun a _ b _ e => by have e' : (a : Int) = b := e; omega)
  refine ⟨fun x y x0 x1 y0 y1 e => ?_, fun x x0 x1 => ?_, hl⟩
  · have hx := cat_get (l := os) (i := x) (by omega)
    have hy := cat_get (l := os) (i := y) (by omega)
    rw [← e] at hy
    have := (List.getElem?_inj (by omega) nd).mp (hx.trans hy.symm)
    omega
  · have := cat_mem (l := os) x0 (by omega)
    obtain ⟨i, hi, e⟩ := List.mem_map.mp (h.mem_iff.mp this)
    have := List.mem_range.mp hi
    rw [← e]
    exact ⟨Int.natCast_nonneg _, by have e2 : i < m := this; show (i : Int) < m; omega⟩
end K28

/-! Rules that the layer lacks: text * int; tuple * 0, tuple * 1. -/
namespace K28
open PySem PySem.Spec PyProof.Rows L2
theorem tuple_mul1 (l : Addr) (items : Array Value) (n : Nat) (dd : Option Addr) (sl : Array (Option Value)) (x : Int) (u : Tok) (c0 : (decide (x < -(2 ^ 63)) || decide (x ≥ 2 ^ 63)) = false) (c1 : (items.isEmpty || x == 1) = true) :
    Meets (Builtin.«tuple.__mul__» ⟨[.ref l, .int x u], []⟩) (fun _ R s => s.heap.get? l = some { cls := .type "tuple", dict := dd, data := .seq items n, slots := sl } ∧
      R (.ok (.ret (Value.ref l))) s) :=
  .of_wp fun prog w A R s h => by
    obtain ⟨hp, g, d, tk, os⟩ := s
    obtain ⟨hl, h⟩ := h
    have f1 := AutoSeq1.idx_int
    wp_walk using wpAny_loadPart' hl
    repeat (first
      | (refine wpAny_ite_false (decide_eq_false (by rw [c0]; exact Bool.false_ne_true)) ?_; wp_walk using wpAny_loadPart' hl)
      | (refine wpAny_ite_true (decide_eq_true (by rw [c1])) ?_; wp_walk using wpAny_loadPart' hl))
    exact ⟨_, rfl, h⟩
theorem tuple_mul0 (l : Addr) (items : Array Value) (n : Nat) (dd : Option Addr) (sl : Array (Option Value)) (x : Int) (u : Tok) (c0 : (decide (x < -(2 ^ 63)) || decide (x ≥ 2 ^ 63)) = false) (c1 : (items.isEmpty || x == 1) = false) (c2 : (decide (x ≤ 0) || items.isEmpty) = true) :
    Meets (Builtin.«tuple.__mul__» ⟨[.ref l, .int x u], []⟩) (fun _ R s => s.heap.get? l = some { cls := .type "tuple", dict := dd, data := .seq items n, slots := sl } ∧
      R (.ok (.ret (Value.ref s.heap.objs.size))) { s with heap := s.heap.push { cls := Value.type "tuple", data := Data.seq #[] }, toks := s.toks }) :=
  .of_wp fun prog w A R s h => by
    obtain ⟨hp, g, d, tk, os⟩ := s
    obtain ⟨hl, h⟩ := h
    have f1 := AutoSeq1.idx_int
    wp_walk using wpAny_loadPart' hl
    repeat (first
      | (refine wpAny_ite_false (decide_eq_false (by rw [c0]; exact Bool.false_ne_true)) ?_; wp_walk using wpAny_loadPart' hl)
      | (refine wpAny_ite_false (decide_eq_false (by rw [c1]; exact Bool.false_ne_true)) ?_; wp_walk using wpAny_loadPart' hl)
      | (refine wpAny_ite_true (decide_eq_true (by rw [c2])) ?_; wp_walk using wpAny_loadPart' hl))
    exact ⟨_, rfl, h⟩
def rRep01 (K : PySem.W.Frag) : R2 := fun x y H Q => ∃ l k xs, x = .ref l ∧ y = .int k ∧ SqT K H l xs ∧ 0 ≤ k ∧ k ≤ 1 ∧
  ((k = 1 ∨ xs = []) → Q (.ref l) H) ∧ (k = 0 → xs ≠ [] → ∀ p, H p = none → Q (.ref p) (upd H p (.tup [])))
section
variable {X : Cx}
theorem op_rep01 : OpR X (binaryOp .Mult) (rRep01 X.K) := by
  intro pins s σ H x y v u Q I rx ry h
  obtain ⟨l, k, xs, rfl, rfl, hT, h0, h1, q1, q0⟩ := h
  cases rx
  obtain ⟨t, rfl⟩ := ry
  obtain ⟨its, r, ⟨⟨cls, dd, data, sl⟩, ho, hc, n, hd⟩, hs⟩ := I.tuple hT
  simp only at hc hd
  subst hc hd
  have c0 : (decide (k < -(2 ^ 63)) || decide (k ≥ 2 ^ 63)) = false := by
    rw [decide_eq_false (by omega), decide_eq_false (by omega)] <;> rfl
  by_cases hk : k = 1 ∨ xs = []
  · have c1 : (its.toArray.isEmpty || k == 1) = true := by
      rcases hk with e | e
      · subst e
        simp
      · subst e
        cases r
        rfl
    refine wpAny_binaryOp_repeat_ref (T := "tuple") (U := "int") (by decide) ⟨_, ho, rfl⟩ (fun s' => typeIs_int s' k t) noFill_tuple_mul F.fills_int_mul F.slot_int_rmul repeat_tuple F.slot_int_index.lookup
      (call_meets F.slot_int_rmul (typeIs_int s k t) F.entry_int_rmul (F.args_int_rmul_2 _ _) (int_rmul_tuple k t l its.toArray n dd sl)
        ⟨ho, rfl, ⟨_, ho, rfl⟩, call_meets F.slot_tuple_mul ⟨_, ho, rfl⟩ F.entry_tuple_mul (F.args_tuple_mul_2 _ _) (tuple_mul1 l its.toArray n dd sl k t c0 c1) ⟨ho, ?_⟩⟩)
    exact ⟨.ref l, H, I, rfl, q1 hk⟩
  · have hk0 : k = 0 := by omega
    have hne : xs ≠ [] := fun e => hk (Or.inr e)
    subst hk0
    have hn : its ≠ [] := fun e => hne (by
      subst e
      cases r
      rfl)
    have hi : its.toArray.isEmpty = false := by
      cases its with
      | nil => exact absurd rfl hn
      | cons a b => rfl
    have c1 : (its.toArray.isEmpty || (0 : Int) == 1) = false := by
      rw [hi]
      rfl
    have c2 : (decide ((0 : Int) ≤ 0) || its.toArray.isEmpty) = true := by
      rw [hi]
      rfl
    refine wpAny_binaryOp_repeat_ref (T := "tuple") (U := "int") (by decide) ⟨_, ho, rfl⟩ (fun s' => typeIs_int s' 0 t) noFill_tuple_mul F.fills_int_mul F.slot_int_rmul repeat_tuple F.slot_int_index.lookup
      (call_meets F.slot_int_rmul (typeIs_int s 0 t) F.entry_int_rmul (F.args_int_rmul_2 _ _) (int_rmul_tuple 0 t l its.toArray n dd sl)
        ⟨ho, rfl, ⟨_, ho, rfl⟩, call_meets F.slot_tuple_mul ⟨_, ho, rfl⟩ F.entry_tuple_mul (F.args_tuple_mul_2 _ _) (tuple_mul0 l its.toArray n dd sl 0 t c0 c1 c2) ⟨ho, ?_⟩⟩)
    refine ⟨.ref s.heap.objs.size, _, I.laid (t' := s.toks) (o := .tup []) (fun b ob q => Heap.get?_push_of_some _ q) (Nat.le_refl _) ?_, rfl, q0 rfl hne _ (I.hok.fresh (Nat.le_refl _))⟩
    exact ⟨Nat.zero_le _, [], .nil, IsTup.new _ _⟩
/-- a text of at most 100 signs, repeated at most 100 times: some text -/
def rMulS : R2 := fun x y H Q => ∃ z k, x = .str z ∧ y = .int k ∧ z.length ≤ 100 ∧ 0 ≤ k ∧ k ≤ 100 ∧ ∀ z' : Str, z'.length ≤ 10000 → Q (.str z') H
theorem rep_size (x : Array Nat) : ∀ (n : Nat) (acc : Array Nat), ((List.replicate n x).foldl (· ++ ·) acc).size = acc.size + n * x.size
  | 0, acc => by simp
  | n + 1, acc => by
    rw [List.replicate_succ, List.foldl_cons, rep_size x n, Array.size_append, Nat.succ_mul]
    omega
theorem op_mulS : OpR X (binaryOp .Mult) rMulS := by
  intro pins s σ H x y v u Q I rx ry h
  obtain ⟨z, k, rfl, rfl, hz, h0, h1, q⟩ := h
  obtain ⟨t, rfl⟩ := rx
  obtain ⟨t', rfl⟩ := ry
  have hk : k.toNat ≤ 100 := by omega
  have hm : z.length * k.toNat ≤ 10000 := Nat.mul_le_mul hz hk
  refine P.mul_str (by rw [decide_eq_false (by omega), decide_eq_false (by omega)] <;> rfl) (fun h2 h3 => ?_) (fun h2 h3 => ?_) ?_
  · have h4 : (100 : Int) ≤ (2 ^ 63 - 1) / k := by
      rw [Int.le_ediv_iff_mul_le (by omega)]
      omega
    omega
  · show decide (_ < _) = false
    refine decide_eq_false ?_
    rw [show sizeLine = _ from sizeLine_eq]
    omega
  · by_cases c : k < 1
    · rw [if_pos c]
      exact ⟨by rw [sizeLine_eq]; decide, .str Str.empty, H, I.tok _, ⟨_, rfl⟩, q _ (by decide)⟩
    · rw [if_neg c]
      by_cases c2 : (k == 1 || z.length == 0) = true
      · rw [if_pos c2]
        exact ⟨.str z, H, I, ⟨_, rfl⟩, q _ (by omega)⟩
      · rw [if_neg c2]
        have e : Str.length ⟨(List.replicate k.toNat z.cps).foldl (· ++ ·) #[]⟩ ≤ 10000 := by
          show ((List.replicate k.toNat z.cps).foldl (· ++ ·) #[]).size ≤ 10000
          rw [rep_size]
          have : z.cps.size = z.length := rfl
          rw [this, Nat.mul_comm]
          simpa using hm
        exact ⟨by rw [sizeLine_eq]; omega, .str _, H, I.tok _, ⟨_, rfl⟩, q _ e⟩
end
end K28

/-! The text by places; heaps. -/
namespace K28
open PySem PySem.Spec PyProof.Rows L2
def topS (i : Nat) : Stmt := PySem.Challenge.pw_truthgrades_k28_whole_kept_and_turned.main.body.getD i (.Pass ⟨0, 0, 0, 0⟩)
abbrev sCellAt : Stmt := topS 4
abbrev sJoined : Stmt := topS 7
abbrev sInit : Stmt := inClass (topS 8) 0
abbrev sTake : Stmt := inClass (topS 8) 1
abbrev sBegin : Stmt := inClass (topS 8) 2
abbrev sGoOn : Stmt := inClass (topS 8) 3
abbrev sSayable : Stmt := topS 9
abbrev sWell : Stmt := topS 11
abbrev sDraw : Stmt := topS 12
abbrev sNames : Stmt := topS 13
abbrev sCells : Stmt := topS 14
abbrev sTable : Stmt := topS 15
abbrev sRows : Stmt := topS 16
abbrev sKept : Stmt := topS 17
abbrev sOrder : Stmt := topS 18
abbrev sTurned : Stmt := topS 19
abbrev sColumn : Stmt := topS 20
abbrev sRight : Stmt := topS 21
abbrev sLaw : Stmt := topS 22

/-! ### heaps -/
/-- all but what stands at a is as it was -/
def But (a : Addr) (H H' : Hp) : Prop := ∀ b o, H b = some o → b ≠ a → H' b = some o
/-- the tuples are as they were -/
def Tx (H H' : Hp) : Prop := ∀ b xs, H b = some (.tup xs) → H' b = some (.tup xs)
theorem Tx.refl (H : Hp) : Tx H H := fun _ _ h => h
theorem Tx.trans {H H1 H2 : Hp} (a : Tx H H1) (b : Tx H1 H2) : Tx H H2 := fun c o h => b c o (a c o h)
theorem same_tx {H H' : Hp} (h : Same H H') : Tx H H' := fun b xs e => h b _ e
theorem same_new {H : Hp} {p : Addr} {o : HO} (h : H p = none) : Same H (upd H p o) := fun b x e => by
  rw [upd_ne (ne_of_none e h)]
  exact e
theorem same_then {H H1 : Hp} {p : Addr} {o : HO} (s : Same H H1) (h : H1 p = none) : Same H (upd H1 p o) := s.trans (same_new h)
/-- what is not there at first may be written -/
theorem same_at {H H1 : Hp} {p : Addr} {o : HO} (s : Same H H1) (h : H p = none) : Same H (upd H1 p o) := fun b x e => by
  rw [upd_ne (ne_of_none e h)]
  exact s _ _ e
theorem tx_new {H : Hp} {p : Addr} {o : HO} (h : H p = none) : Tx H (upd H p o) := same_tx (same_new h)
theorem tx_lst {H : Hp} {p : Addr} {o : HO} {xs : List V} (h : H p = some (.lst xs)) : Tx H (upd H p o) := fun b ys e => by
  rw [upd_ne (ne_of e h (by intro z; cases z))]
  exact e
/-- the well at a -/
def Wl (H : Hp) (a : Addr) : Prop := ∃ k x : Int, H a = some (.lst [.int k, .int x])
/-- some draws from the well at a: all else is as it was -/
structure Dr (a : Addr) (H H' : Hp) : Prop where
  but : But a H H'
  wl : Wl H' a
theorem Dr.refl {a : Addr} {H : Hp} (w : Wl H a) : Dr a H H := ⟨fun _ _ h _ => h, w⟩
theorem Dr.trans {a : Addr} {H H1 H2 : Hp} (x : Dr a H H1) (y : Dr a H1 H2) : Dr a H H2 := ⟨fun b o e n => y.but b o (x.but b o e n) n, y.wl⟩
theorem Wl.new {a p : Addr} {H : Hp} {o : HO} (w : Wl H a) (h : H p = none) : Wl (upd H p o) a := by
  obtain ⟨k, x, e⟩ := w
  exact ⟨k, x, by rw [upd_ne (ne_of_none e h)]; exact e⟩
theorem Wl.ne {a p : Addr} {H : Hp} (w : Wl H a) (h : H p = none) : p ≠ a := by
  obtain ⟨k, x, e⟩ := w
  exact (ne_of_none e h).symm
theorem Wl.same {a : Addr} {H H' : Hp} (w : Wl H a) (s : Same H H') : Wl H' a := by
  obtain ⟨k, x, e⟩ := w
  exact ⟨k, x, s _ _ e⟩
theorem Dr.new {a p : Addr} {H H1 : Hp} {o : HO} (x : Dr a H H1) (h : H1 p = none) : Dr a H (upd H1 p o) :=
  ⟨fun b u e n => by rw [upd_ne (ne_of_none (x.but b u e n) h)]; exact x.but b u e n, x.wl.new h⟩
theorem Dr.at {a p : Addr} {H H1 : Hp} {o : HO} (x : Dr a H H1) (h : H p = none) (n : p ≠ a) : Dr a H (upd H1 p o) :=
  ⟨fun b u e nb => by rw [upd_ne (ne_of_none e h)]; exact x.but b u e nb, by
    obtain ⟨k, z, e⟩ := x.wl
    exact ⟨k, z, by rw [upd_ne n.symm]; exact e⟩⟩
theorem Dr.same {a : Addr} {H H1 H2 : Hp} (x : Dr a H H1) (s : Same H1 H2) : Dr a H H2 := ⟨fun b u e n => s _ _ (x.but b u e n), x.wl.same s⟩
theorem Dr.pre {a : Addr} {H H1 H2 : Hp} (s : Same H H1) (x : Dr a H1 H2) : Dr a H H2 := ⟨fun b u e n => x.but b u (s _ _ e) n, x.wl⟩
theorem Dr.free {a p : Addr} {H H1 : Hp} (x : Dr a H H1) (h : H1 p = none) : H p = none := by
  cases q : H p with
  | none => rfl
  | some o =>
    rw [x.but p o q (x.wl.ne h)] at h
    cases h
theorem Dr.tx {a : Addr} {H H1 : Hp} (x : Dr a H H1) (w : Wl H a) : Tx H H1 := fun b xs e => by
  obtain ⟨k, z, ea⟩ := w
  exact x.but b _ e (ne_of e ea (by intro z; cases z))
theorem Dr.lst {a l : Addr} {H H1 : Hp} {xs : List V} (x : Dr a H H1) (h : H l = some (.lst xs)) (n : l ≠ a) : H1 l = some (.lst xs) := x.but l _ h n
theorem SqT.tx {K : PySem.W.Frag} {H H' : Hp} {a : Addr} {xs : List V} (t : Tx H H') (h : H a = some (.tup xs)) : SqT K H' a xs := SqT.of (t _ _ h)

/-! ### data that stand in tuples -/
/-- a column -/
def Col (H : Hp) (v : V) (c : List Int) : Prop := ∃ t, v = .ref t ∧ H t = some (.tup (c.map V.int))
theorem Col.tx {H H' : Hp} {v : V} {c : List Int} (h : Col H v c) (t : Tx H H') : Col H' v c := by
  obtain ⟨a, e, h⟩ := h
  exact ⟨a, e, t _ _ h⟩
theorem ints_inj : ∀ {a b : List Int}, a.map V.int = b.map V.int → a = b
  | [], [], _ => rfl
  | [], _ :: _, h => by simp at h
  | _ :: _, [], h => by simp at h
  | x :: r, y :: q, h => by
    rw [List.map_cons, List.map_cons] at h
    injection h with h1 h2
    injection h1 with h1
    rw [h1, ints_inj h2]
theorem Col.inj {H : Hp} {v : V} {c d : List Int} (h : Col H v c) (h' : Col H v d) : c = d := by
  obtain ⟨a, e, h⟩ := h
  obtain ⟨b, e', h'⟩ := h'
  rw [e] at e'
  cases e'
  rw [h] at h'
  injection h' with h'
  injection h' with h'
  exact ints_inj h'
/-- a connective -/
def ConAt (H : Hp) (v : V) (c : Con) : Prop := ∃ t q, v = .ref t ∧ H t = some (.tup [.str c.nm, .int (c.pl : Int), .ref q]) ∧ H q = some (.tup (c.cells.map V.int))
theorem ConAt.tx {H H' : Hp} {v : V} {c : Con} (h : ConAt H v c) (t : Tx H H') : ConAt H' v c := by
  obtain ⟨a, q, e, h1, h2⟩ := h
  exact ⟨a, q, e, t _ _ h1, t _ _ h2⟩
/-- a table; which grades are wished isn't told -/
structure Tab where
  many : Nat
  cons : List Con
structure TabAt (H : Hp) (v : V) (T : Tab) : Prop where
  ex : ∃ (t w c : Addr) (ws : List Int) (cs : List V), v = .ref t ∧ H t = some (.tup [.int (T.many : Int), .ref w, .ref c]) ∧ H w = some (.tup (ws.map V.int)) ∧ (Rg T.many ws ∧ ws.length ≤ 4) ∧ H c = some (.tup cs) ∧ Paired (ConAt H) cs T.cons
theorem paired_map {α β : Type} {F G : α → β → Prop} (h : ∀ a b, F a b → G a b) : ∀ {l : List α} {l' : List β}, Paired F l l' → Paired G l l'
  | _, _, .nil => .nil
  | _, _, .cons r t => .cons (h _ _ r) (paired_map h t)
theorem TabAt.tx {H H' : Hp} {v : V} {T : Tab} (h : TabAt H v T) (t : Tx H H') : TabAt H' v T := by
  obtain ⟨a, w, c, ws, cs, e, h1, h2, h3, h4, h5⟩ := h.ex
  exact ⟨a, w, c, ws, cs, e, t _ _ h1, t _ _ h2, h3, t _ _ h4, paired_map (fun _ _ q => q.tx t) h5⟩
structure TabOk (T : Tab) : Prop where
  lo : 1 ≤ T.many
  hi : T.many ≤ 4
  few : T.cons.length ≤ 4
  ok : ∀ c ∈ T.cons, ConOk T.many c
theorem paired_at {α β : Type} {F : α → β → Prop} : ∀ {l : List α} {l' : List β} {i : Nat} {a : α}, Paired F l l' → l[i]? = some a → ∃ b, l'[i]? = some b ∧ F a b
  | _, _, _, _, .nil, h => by simp at h
  | _, _, 0, _, .cons r _, h => by
    simp at h
    subst h
    exact ⟨_, rfl, r⟩
  | _, _, i + 1, a, .cons _ t, h => by
    obtain ⟨b, h1, h2⟩ := paired_at (i := i) (a := a) t (by simpa using h)
    exact ⟨b, by simpa using h1, h2⟩
theorem paired_len {α β : Type} {F : α → β → Prop} : ∀ {l : List α} {l' : List β}, Paired F l l' → l.length = l'.length
  | _, _, .nil => rfl
  | _, _, .cons _ t => by rw [List.length_cons, List.length_cons, paired_len t]
theorem paired_take {α β : Type} {F : α → β → Prop} : ∀ {l : List α} {l' : List β} (i : Nat), Paired F l l' → Paired F (l.take i) (l'.take i)
  | _, _, 0, _ => .nil
  | _, _, _ + 1, .nil => .nil
  | _, _, i + 1, .cons r t => .cons r (paired_take i t)
/-- a place of a list of ints -/
theorem atI_ints {l : List Int} {i : Int} (h0 : 0 ≤ i) (h : i < (l.length : Int)) : atI (l.map V.int) i = some (.int (cat l i)) := by
  have e : i = ((i.toNat : Nat) : Int) := by omega
  rw [e]
  refine atI_nat ?_
  rw [List.getElem?_map, cat_get (by omega)]
  have e2 : ((i.toNat : Nat) : Int) = i := by omega
  rw [e2]
  rfl
/-! ### rules that stand in a comprehension's block, too -/
def rLen (K : PySem.W.Frag) : List V → Hp → VK → Prop := fun xs H Q => ∃ p ys, xs = [.ref p] ∧ (SqL K H p ys ∨ SqT K H p ys) ∧ Q (.int ys.length) H
theorem cr_len {X : Cx} : CallR X (.builtin "len") (rLen X.K) := call_len_seq
def rTup (K : PySem.W.Frag) : List V → Hp → VK → Prop := fun xs H Q => ∃ p ys, xs = [.ref p] ∧ ((SqL K H p ys ∧ ∀ l, H l = none → Q (.ref l) (upd H l (.tup ys))) ∨ (SqT K H p ys ∧ Q (.ref p) H))
theorem cr_tup {X : Cx} : CallR X (.type "tuple") (rTup X.K) := call_tuple_of
def rLst (K : PySem.W.Frag) : List V → Hp → VK → Prop := fun xs H Q => ∃ p ys, xs = [.ref p] ∧ (SqL K H p ys ∨ SqT K H p ys) ∧ ∀ l, H l = none → Q (.ref l) (upd H l (.lst ys))
theorem cr_lst {X : Cx} : CallR X (.type "list") (rLst X.K) := call_list_of
section
variable {X : Cx} {K : PySem.W.Frag}
theorem cr_lenK (h : X.K = K := by rfl) : CallR X (.builtin "len") (rLen K) := by subst h; exact cr_len
theorem cr_tupK (h : X.K = K := by rfl) : CallR X (.type "tuple") (rTup K) := by subst h; exact cr_tup
theorem cr_lstK (h : X.K = K := by rfl) : CallR X (.type "list") (rLst K) := by subst h; exact cr_lst
theorem cr_allK (h : X.K = K := by rfl) (hc : X.calm = true := by rfl) : CallR X (.builtin "all") (rAll K) := by subst h; exact cr_all hc
theorem ix_listK (h : X.K = K := by rfl) : IxR X (rIxL K) := by subst h; exact ix_list
theorem ix_tupK (h : X.K = K := by rfl) : IxR X (rIxT K) := by subst h; exact ix_tup
theorem pi_listK {tg l : Expr} {tl : TE} (hl : PE X l tl) (h : X.K = K := by rfl) : PI X tg l (iList K tl) := by subst h; exact pi_list hl
theorem pi_tupK {tg l : Expr} {tl : TE} (hl : PE X l tl) (h : X.K = K := by rfl) : PI X tg l (iTup K tl) := by subst h; exact pi_tup hl
theorem sl_listK (h : X.K = K := by rfl) : SlR X (rSlL K) := by subst h; exact sl_list
theorem op_inK (h : X.K = K := by rfl) : OpR X (compareOp .In) (rIn K false) := by subst h; exact op_in_seq
end
theorem szl {n : Nat} (h : n ≤ 1000) : n ≤ sizeLine := by rw [sizeLine_eq]; omega
end K28

/-! _law_draw, _law_well -/
namespace K28
open PySem PySem.Spec PyProof.Rows L2
section
variable {P : Program} {w : World} {K : PySem.W.Frag} {mg : Str → Option Value} {base : Heap}
theorem scDraw : FnScope ["_law_well_here", "_law_many", "_law_found", "_law_turn", "_law_upper", "_law_lower"] ["_law_well_here", "_law_many"] (defScope sDraw) := ⟨rfl, rfl, rfl, by decide +kernel, rfl, by decide +kernel, by decide +kernel⟩
/-- a draw: some number below m -/
def spDraw : Sp := fun vs H Q _ => ∃ (a : Addr) (m : Int), vs = [.ref a, .int m] ∧ 0 < m ∧ m < 1073741824 ∧ Wl H a ∧ ∀ (r : Int) (H' : Hp), 0 ≤ r → r < m → Dr a H H' → Q (.int r) H'
theorem ok_draw {f : Addr} {fd : FuncData} {k : Nat} (F : Fun K "_law_draw" "_law_draw" sDraw f fd) (mr : mg "range" = none) (md : mg "divmod" = none) : FnOk P w K mg base CX0 (k + 1) f fd ["_law_well_here", "_law_many"] spDraw := by
  refine F.ok scDraw (fun vs H Q E h => ?_) (fun cdv A outer s H vs Q E hr h => ?_)
  · obtain ⟨a, m, rfl, _⟩ := h
    rfl
  · obtain ⟨a, m, rfl, m0, m1, ⟨k, x, hw⟩, q⟩ := h
    refine ⟨_, pss_cons (ps_if (pt_cmpR op_eq (pe_ix ix_list (pv 0) pe_int (fun _ _ => rfl)) pe_int (nomark _))
        (pss_cons (ps_set (i := 2) scDraw.nd rfl (.inl rfl) (pe_op op_mod (pe_ix ix_list (pv 0) pe_int (fun _ _ => rfl)) (pv 1)))
        (pss_cons (ps_asg (pe_op op_fdiv (pe_ix ix_list (pv 0) pe_int (fun _ _ => rfl)) (pv 1)) (pg_sub (pv 0) pe_int set_list))
        (pss_one (ps_ret (pv 2))))) pss_nil)
      (pss_cons (ps_for PassesOwn.never rfl (pi_range1 rfl mr (pa_cons pe_int pa_nil)) (pg_name (i := 3) scDraw.nd rfl (.inl rfl))
        (pss_cons (ps_asg (pe_callB call_divmod (by rfl) md (by decide +kernel) (pa_cons (pe_ix ix_list (pv 0) pe_int (fun _ _ => rfl)) (pa_cons pe_int pa_nil)))
          (pg_tup rfl (pgs_cons (pg_name (i := 4) scDraw.nd rfl (.inl rfl)) (pgs_cons (pg_name (i := 5) scDraw.nd rfl (.inl rfl)) pgs_nil))))
        (pss_one (ps_asg (pe_op op_mod (pe_op op_add (pe_op op_add (pe_op op_mul (pv 5) pe_int) (pe_op op_mul (pv 4) pe_int)) pe_int) pe_int) (pg_sub (pv 0) pe_int set_list)))))
      (pss_one (ps_ret (pe_op op_mod (pe_op op_fdiv (pe_ix ix_list (pv 0) pe_int (fun _ _ => rfl)) pe_int) (pv 1))))), ?_⟩
    -- if well[0] == 0
    refine ⟨_, rfl, a, _, 0, _, rfl, rfl, SqL.of hw, rfl, rfl, _, rfl, ?_⟩
    refine ite2 (fun _ => ?_) (fun _ => ?_)
    · -- found = well[1] % many; well[1] = well[1] // many; return found
      refine ⟨_, rfl, a, _, 1, _, rfl, rfl, SqL.of hw, rfl, _, rfl, x, m, rfl, rfl, m0, ?_⟩
      refine ⟨_, rfl, a, _, 1, _, rfl, rfl, SqL.of hw, rfl, _, rfl, x, m, rfl, rfl, ⟨m0, m1⟩, ?_⟩
      refine ⟨_, rfl, a, _, 1, 1, rfl, rfl, hw, rfl, ?_⟩
      refine ⟨_, rfl, ?_⟩
      exact q _ _ (Int.emod_nonneg _ (by omega)) (Int.emod_lt_of_pos _ m0) ⟨fun b o e n => by rw [upd_ne n]; exact e, ⟨k, _, upd_same⟩⟩
    · -- the loop
      refine ⟨2, rfl, by decide, by decide, for_range (n := 2) (fun i σ H2 => ∃ (v3 v4 v5 : Option V), σ = [some (.ref a), some (.int m), none, v3, v4, v5] ∧ Dr a H H2)
        ⟨none, none, none, rfl, Dr.refl ⟨k, x, hw⟩⟩ ?_ ?_⟩
      · rintro i σ H2 hi ⟨v3, v4, v5, rfl, d⟩
        obtain ⟨k2, x2, hw2⟩ := d.wl
        refine ⟨_, rfl, a, _, 1, _, rfl, rfl, SqL.of hw2, rfl, ?_⟩
        refine ⟨x2, 4099, rfl, ⟨by decide, by decide⟩, fun p np => ?_⟩
        refine ⟨p, _, rfl, SqT.of upd_same, rfl, _, _, rfl, _, _, rfl, rfl, ?_⟩
        have hp : p ≠ a := d.wl.ne np
        have hw3 : ∀ o, (upd H2 p o) a = some (.lst [.int k2, .int x2]) := fun o => by rw [upd_ne hp.symm]; exact hw2
        refine ⟨_, rfl, _, _, rfl, rfl, .inr ⟨by decide, by decide⟩, _, rfl, _, _, rfl, rfl, .inr ⟨by decide, by decide⟩, _, _, rfl, rfl, _, _, rfl, rfl, _, _, rfl, rfl, (by show (0 : Int) < 998244353; decide), ?_⟩
        refine ⟨_, rfl, a, _, 1, 1, rfl, rfl, hw3 _, rfl, ?_⟩
        refine ⟨_, _, _, rfl, ?_⟩
        have d2 : Dr a H (upd H2 p (.tup [.int (x2 / 4099), .int (x2 % 4099)])) := d.new np
        exact ⟨fun b o e n => by rw [upd_ne n]; exact d2.but b o e n, ⟨k2, _, upd_same⟩⟩
      · rintro σ H2 ⟨v3, v4, v5, rfl, d⟩
        obtain ⟨k2, x2, hw2⟩ := d.wl
        refine ⟨_, rfl, a, _, 1, _, rfl, rfl, SqL.of hw2, rfl, _, _, rfl, rfl, ⟨by decide, by decide⟩, _, rfl, _, m, rfl, rfl, m0, ?_⟩
        exact q _ _ (Int.emod_nonneg _ (by omega)) (Int.emod_lt_of_pos _ m0) d
theorem scWell : FnScope ["_law_script", "_law_place", "_law_cell", "_law_one"] ["_law_script", "_law_place"] (defScope sWell) := ⟨rfl, rfl, rfl, by decide +kernel, rfl, by decide +kernel, by decide +kernel⟩
/-- a well -/
def spWell (K : PySem.W.Frag) : Sp := fun vs H Q _ => ∃ (a : Addr) (ns : List Int) (i : Int), vs = [.ref a, .int i] ∧ SqL K H a (ns.map V.int) ∧ ∀ (p : Addr) (H' : Hp), Same H H' → H p = none → Wl H' p → Q (.ref p) H'
theorem ok_well {f : Addr} {fd : FuncData} {k : Nat} (F : Fun K "_law_well" "_law_well" sWell f fd) (ma : mg "abs" = none) : FnOk P w K mg base CX0 (k + 1) f fd ["_law_script", "_law_place"] (spWell K) := by
  refine F.ok scWell (fun vs H Q E h => ?_) (fun cdv A outer s H vs Q E hr h => ?_)
  · obtain ⟨a, ns, i, rfl, _⟩ := h
    rfl
  · obtain ⟨a, ns, i, rfl, hS, q⟩ := h
    refine ⟨_, pss_cons (ps_set (i := 2) scWell.nd rfl (.inl rfl) pe_int)
      (pss_cons (ps_for PassesOwn.never rfl (pi_list (pe_slice sl_list (pv 0) (po_some (pv 1)) (po_some (pe_op op_add (pv 1) pe_int)))) (pg_name (i := 3) scWell.nd rfl (.inl rfl))
        (pss_one (ps_set (i := 2) scWell.nd rfl (.inl rfl) (pv 3))))
      (pss_cons (ps_if (PW.pt (pw_or (pt_cmpR op_lt (pv 2) pe_int (nomark _)) (pw_or1 (pt_cmpR op_ge (pv 2) (pe_op op_pow pe_int pe_int) (nomark _)))))
        (pss_one (ps_ret (pe_lst (pa_cons pe_int (pa_cons (pe_callB call_abs (by rfl) ma (by decide +kernel) (pa_cons (pv 2) pa_nil)) pa_nil))))) pss_nil)
      (pss_one (ps_ret (pe_lst (pa_cons pe_int (pa_cons (pe_op op_add (pe_op op_mod (pe_op op_add (pe_op op_mod (pv 2) pe_int) (pe_op op_mul pe_int (pv 1))) pe_int) pe_int) pa_nil))))))), ?_⟩
    -- cell = 0; script[place:place + 1]
    refine ⟨_, rfl, _, rfl, i, rfl, _, rfl, _, _, rfl, rfl, _, rfl, a, ns.map V.int, rfl, hS, fun c nc => ?_⟩
    refine ⟨c, rfl, ⟨_, SqL.of upd_same⟩, for_list (K := K) (a := c) (xs := cutV (ns.map V.int) (some i) (some (i + 1))) (fun j σ H2 => ∃ (z : Int) (v3 : Option V), σ = [some (.ref a), some (.int i), some (.int z), v3] ∧ H2 = upd H c (.lst (cutV (ns.map V.int) (some i) (some (i + 1)))))
      ⟨0, none, rfl, rfl⟩ (fun j σ H2 _ hw => by obtain ⟨_, _, _, rfl⟩ := hw; exact SqL.of upd_same) ?_ ?_⟩
    · rintro j y σ H2 hj ⟨z, v3, rfl, rfl⟩
      have hy : y ∈ ns.map V.int := by
        have h1 := List.mem_of_getElem? hj
        exact List.mem_of_mem_drop (List.mem_of_mem_take h1)
      obtain ⟨n, _, rfl⟩ := List.mem_map.mp hy
      exact ⟨_, rfl, n, _, rfl, rfl⟩
    · rintro σ H2 ⟨z, v3, rfl, rfl⟩
      have s1 : Same H (upd H c (.lst (cutV (ns.map V.int) (some i) (some (i + 1))))) := same_new nc
      have fin : ∀ (k x : Int) (l : Addr), (upd H c (.lst (cutV (ns.map V.int) (some i) (some (i + 1))))) l = none →
          Q (.ref l) (upd (upd H c (.lst (cutV (ns.map V.int) (some i) (some (i + 1))))) l (.lst [.int k, .int x])) := fun k x l nl =>
        q l _ (same_then s1 nl) (s1.free nl) ⟨k, x, upd_same⟩
      refine ⟨_, rfl, _, _, rfl, rfl, _, rfl, ?_⟩
      refine ite2 (fun _ => ?_) (fun _ => ?_)
      · refine iteT ?_
        exact ⟨_, rfl, z, rfl, (by show 2 ≤ sizeLine; decide), fun l hl => fin _ _ l hl⟩
      · refine ⟨_, rfl, _, _, rfl, rfl, ⟨by decide, by decide, by decide⟩, _, _, rfl, rfl, _, rfl, ?_⟩
        refine ite2 (fun _ => ?_) (fun _ => ?_)
        · exact ⟨_, rfl, z, rfl, (by show 2 ≤ sizeLine; decide), fun l hl => fin _ _ l hl⟩
        · refine ⟨_, rfl, z, _, rfl, rfl, (by show (0 : Int) < 998244341; decide), ?_⟩
          refine ⟨_, rfl, _, _, rfl, rfl, .inl ⟨by decide, by decide⟩, _, _, rfl, rfl, _, _, rfl, rfl, (by show (0 : Int) < 998244353; decide), _, _, rfl, rfl, (by show 2 ≤ sizeLine; decide), fun l hl => fin _ _ l hl⟩
end
end K28

/-! _law_names -/
namespace K28
open PySem PySem.Spec PyProof.Rows L2
/-- texts -/
def AllS (xs : List V) : Prop := ∀ v ∈ xs, ∃ z : Str, v = .str z
theorem AllS.cut {xs : List V} (h : AllS xs) (lo hi : Option Int) : AllS (cutV xs lo hi) := fun v hv => h v (List.mem_of_mem_drop (List.mem_of_mem_take hv))
theorem AllS.app {xs ys : List V} (h : AllS xs) (h' : AllS ys) : AllS (xs ++ ys) := fun v hv => (List.mem_append.mp hv).elim (h v) (h' v)
theorem cut_len {xs : List V} {m : Int} {n : Nat} (h0 : 0 ≤ m) (h : m ≤ (n : Int)) : (cutV xs none (some m)).length ≤ n := by
  have e : m = ((m.toNat : Nat) : Int) := by omega
  unfold cutV
  rw [e, HT.sIx_nat, HT.sIx_none, List.drop_zero, List.length_take]
  omega
theorem atI_any {α : Type} {l : List α} {i : Int} (h0 : -(l.length : Int) ≤ i) (h1 : i < (l.length : Int)) : ∃ c, atI l i = some c := by
  unfold atI ixN
  by_cases h : 0 ≤ i
  · rw [if_pos h, if_pos h1]
    exact ⟨l[i.toNat]'(by omega), List.getElem?_eq_getElem (by omega)⟩
  · rw [if_neg h, if_pos h0]
    exact ⟨l[(i + l.length).toNat]'(by omega), List.getElem?_eq_getElem (by omega)⟩
def signs : Str := "qwertyuiopasdfghjklzxcvbnm"
theorem signs_len : signs.cps.toList.length = 26 := by decide +kernel
theorem signs_sz : signs.length ≤ sizeLine := szl (show signs.length ≤ 1000 by decide +kernel)
theorem signs_at {i : Int} (h0 : -1 ≤ i) (h1 : i < 26) : ∃ c, atI signs.cps.toList i = some c := atI_any (by rw [signs_len]; omega) (by rw [signs_len]; omega)
section
variable {P : Program} {w : World} {K : PySem.W.Frag} {mg : Str → Option Value} {base : Heap}
def nNames : List Str := ["_law_well_here", "_law_many", "_law_signs", "_law_first", "_law_pick", "_law_some", "_law_size", "_law_at", "_law_k"]
theorem scNames : FnScope ["_law_well_here", "_law_many", "_law_signs", "_law_first", "_law_pick", "_law_some", "_law_size", "_law_at", "_law_k"] ["_law_well_here", "_law_many"] (defScope sNames) := ⟨rfl, rfl, rfl, by decide +kernel, rfl, by decide +kernel, by decide +kernel⟩
/-- a list of at most four texts -/
def spNames : Sp := fun vs H Q _ => ∃ (a : Addr) (m : Int), vs = [.ref a, .int m] ∧ 0 ≤ m ∧ m ≤ 4 ∧ Wl H a ∧ ∀ (p : Addr) (xs : List V) (H' : Hp), Dr a H H' → H p = none → p ≠ a → H' p = some (.lst xs) → AllS xs → xs.length ≤ 4 → Q (.ref p) H'
theorem ok_names {f fD : Addr} {fd fdD : FuncData} {k : Nat} (F : Fun K "_law_names" "_law_names" sNames f fd) (FD : Fun K "_law_draw" "_law_draw" sDraw fD fdD) (bD : Binds K fdD ["_law_well_here", "_law_many"] []) (gD : mg "_law_draw" = some (.ref fD))
    (GD : FnOk P w K mg base CX0 k fD fdD ["_law_well_here", "_law_many"] spDraw) (mr : mg "range" = none) (mi : mg "int" = none) : FnOk P w K mg base CX0 (k + 1) f fd ["_law_well_here", "_law_many"] spNames := by
  refine F.ok scNames (fun vs H Q E h => ?_) (fun cdv A outer s H vs Q E hr h => ?_)
  · obtain ⟨a, m, rfl, _⟩ := h
    rfl
  · obtain ⟨a, m, rfl, m0, m1, hw, q⟩ := h
    have nd := scNames.nd
    refine ⟨_,
      (pss_cons (ps_set (i := 2) nd rfl (.inr rfl) pe_str)
      (pss_cons (ps_set (i := 3) nd rfl (.inr rfl) (pe_call GD hr (by rfl) gD FD.kp bD .nil pass0 (pa_cons (pv 0) (pa_cons pe_int pa_nil))))
      (pss_cons (ps_set (i := 4) nd rfl (.inl rfl) (pe_call GD hr (by rfl) gD FD.kp bD .nil pass0 (pa_cons (pv 0) (pa_cons pe_int pa_nil))))
      (pss_cons (ps_if (pt_cmpR op_eq (pv 4) pe_int (nomark _))
      (pss_cons (ps_set (i := 5) nd rfl (.inl rfl) (pe_lst (pa_cons pe_str (pa_cons pe_str (pa_cons pe_str (pa_cons pe_str (pa_cons pe_str (pa_cons pe_str (pa_cons pe_str (pa_cons pe_str pa_nil))))))))))
      (pss_one (ps_ret (pe_slice (sl_listK (K := K)) (pe_op op_cat (pe_slice (sl_listK (K := K)) (pv 5) (po_some (pe_op op_mod (pv 3) pe_int)) po_none) (pe_slice (sl_listK (K := K)) (pv 5) po_none (po_some (pe_op op_mod (pv 3) pe_int)))) po_none (po_some (pv 1))))))
      pss_nil)
      (pss_cons (ps_if (pt_cmpR op_eq (pv 4) pe_int (nomark _))
      (pss_one (ps_ret (pe_op op_cat (pe_slice (sl_listK (K := K)) (pe_lc (own := [("_law_k", 8)]) (g := gName 8) (tt := tYes) (by rfl) nd (pi_range1 (by rfl) mr (pa_cons pe_int pa_nil)) (blkOk_by (own := [("_law_k", 8)]) (N := ["_law_well_here", "_law_many", "_law_signs", "_law_first", "_law_pick", "_law_some", "_law_size", "_law_at", "_law_k"]) (sc := defScope sNames) (by decide +kernel)) (fun _ _ _ _ _ => (pg_name (i := 8) nd rfl (.inl rfl))) (fun _ _ _ _ _ => pts_nil) (fun _ _ _ _ _ => (pe_op op_mulS (pe_ix ix_str (pv 2) (pv 3) (fun _ _ => rfl)) (pe_op op_add (pv 8) pe_int)))) po_none (po_some (pv 1))) (pe_op op_rep (pe_lst (pa_cons (pe_op op_mulS (pe_ix ix_str (pv 2) (pe_op op_sub (pv 3) pe_int) (fun _ _ => rfl)) pe_int) pa_nil)) (pe_callTy call_int1 (by rfl) mi (by decide +kernel) (pa_cons (pe_cmpR op_eq (pv 1) pe_int (nomark _)) pa_nil))))))
      pss_nil)
      (pss_cons (ps_set (i := 6) nd rfl (.inr rfl) (pe_op op_add pe_int (pe_call GD hr (by rfl) gD FD.kp bD .nil pass0 (pa_cons (pv 0) (pa_cons pe_int pa_nil)))))
      (pss_cons (ps_set (i := 7) nd rfl (.inr rfl) (pe_call GD hr (by rfl) gD FD.kp bD .nil pass0 (pa_cons (pv 0) (pa_cons (pe_op op_add (pv 6) pe_int) pa_nil))))
      (pss_one (ps_ret (pe_lc (own := [("_law_k", 8)]) (g := gName 8) (tt := tYes) (by rfl) nd (pi_range1 (by rfl) mr (pa_cons (pv 1) pa_nil)) (blkOk_by (own := [("_law_k", 8)]) (N := ["_law_well_here", "_law_many", "_law_signs", "_law_first", "_law_pick", "_law_some", "_law_size", "_law_at", "_law_k"]) (sc := defScope sNames) (by decide +kernel)) (fun _ _ _ _ _ => (pg_name (i := 8) nd rfl (.inl rfl))) (fun _ _ _ _ _ => pts_nil) (fun _ _ _ _ _ => (pe_op op_add_str (pe_op op_add_str (pe_op op_mulS pe_str (pv 7)) (pe_ix ix_str (pv 2) (pe_op op_mod (pe_op op_add (pv 3) (pv 8)) pe_int) (fun _ _ => rfl))) (pe_op op_mulS pe_str (pe_op op_sub (pv 6) (pv 7)))))))))))))))
      , ?_⟩
    -- signs; first; pick
    refine ⟨_, rfl, a, 26, rfl, by decide, by decide, hw, fun first H1 f0 f1 d1 => ?_⟩
    refine ⟨_, rfl, a, 3, rfl, by decide, by decide, d1.wl, fun pick H2 p0 p1 d2 => ?_⟩
    have d12 := d1.trans d2
    -- if pick == 0
    refine ⟨_, rfl, rfl, _, rfl, ?_⟩
    refine ite2 (fun _ => ?_) (fun _ => ?_)
    · refine ⟨(by show 8 ≤ sizeLine; decide), fun l nl => ?_⟩
      have d3 := d12.new (o := .lst [.str "and", .str "or", .str "not", .str "then", .str "grades", .str "wished", .str "false", .str "true"]) nl
      have hS : AllS [.str "and", .str "or", .str "not", .str "then", .str "grades", .str "wished", .str "false", .str "true"] := by
        intro v hv
        simp only [List.mem_cons, List.not_mem_nil, or_false] at hv
        rcases hv with rfl | rfl | rfl | rfl | rfl | rfl | rfl | rfl <;> exact ⟨_, rfl⟩
      refine ⟨_, rfl, _, rfl, first, 8, rfl, rfl, (by show (0 : Int) < 8; decide), _, rfl, l, _, rfl, SqL.of upd_same, fun p np => ?_⟩
      have np' : p ≠ l := fun e => by rw [e, upd_same] at np; cases np
      refine ⟨_, rfl, _, rfl, first, 8, rfl, rfl, (by show (0 : Int) < 8; decide), _, rfl, l, _, rfl, SqL.of (by rw [upd_ne np'.symm]; exact upd_same), fun p2 np2 => ?_⟩
      have np2' : p ≠ p2 := fun e => by rw [← e, upd_same] at np2; cases np2
      refine ⟨p, p2, _, _, rfl, rfl, (by rw [upd_ne np2']; exact upd_same), upd_same, ?_, fun r nr => ?_⟩
      · refine szl (Nat.le_trans (Nat.add_le_add (cutV_length _ _ _) (cutV_length _ _ _)) (by decide))
      have d5 := ((d3.new (o := .lst (cutV [.str "and", .str "or", .str "not", .str "then", .str "grades", .str "wished", .str "false", .str "true"] (some (first % 8)) none)) np).new (o := .lst (cutV [.str "and", .str "or", .str "not", .str "then", .str "grades", .str "wished", .str "false", .str "true"] none (some (first % 8)))) np2)
      refine ⟨_, rfl, _, rfl, r, _, rfl, SqL.of upd_same, fun z nz => ?_⟩
      exact q z _ _ ((d5.new nr).new nz) ((d5.new nr).free nz) ((d5.new nr).wl.ne nz) upd_same (((hS.cut _ _).app (hS.cut _ _)).cut _ _) (cut_len m0 m1)
    · -- if pick == 1
      refine ⟨_, rfl, rfl, _, rfl, ?_⟩
      refine ite2 (fun _ => ?_) (fun _ => ?_)
      · refine ⟨7, rfl, by decide, by decide, fun D nD => ?_⟩
        have hD0 := d12.free nD
        have hDa := d12.wl.ne nD
        refine lc_range (lo := 0) (n := 7) (fun i H3 => ∃ acc, H3 D = some (.lst acc) ∧ AllS acc ∧ acc.length = i ∧ Dr a H H3) ⟨[], upd_same, (fun _ h => by simp at h), rfl, d12.new nD⟩ ?_ ?_
        · rintro i H3 hi ⟨acc, hD, hS, hl, dr⟩
          refine ⟨rfl, ?_⟩
          obtain ⟨c, hc⟩ := signs_at (i := first) (by omega) (by omega)
          refine ⟨_, rfl, _, rfl, signs, first, c, rfl, rfl, signs_sz, hc, ?_⟩
          refine ⟨_, rfl, _, _, rfl, rfl, ?_⟩
          refine ⟨_, _, rfl, rfl, (by show 1 ≤ 100; decide), (by show (0 : Int) ≤ 0 + (i : Int) + 2; omega), (by show 0 + (i : Int) + 2 ≤ 100; omega), fun z' hz' => ?_⟩
          refine ⟨acc, hD, (by rw [sizeLine_eq]; omega), acc ++ [.str z'], upd_same, hS.app (fun v hv => ⟨z', by simpa using hv⟩), by simp [hl], dr.at hD0 hDa⟩
        · rintro H3 ⟨acc, hD, hS, hl, dr⟩
          refine ⟨_, rfl, _, rfl, D, acc, rfl, SqL.of hD, fun p np => ?_⟩
          have d4 := dr.new (o := .lst (cutV acc none (some m))) np
          obtain ⟨c, hc⟩ := signs_at (i := first - 1) (by omega) (by omega)
          refine ⟨_, rfl, _, rfl, _, _, rfl, rfl, signs, first - 1, c, rfl, rfl, signs_sz, hc, ?_⟩
          refine ⟨_, _, rfl, rfl, (by show 1 ≤ 100; decide), (by decide), (by decide), fun z' hz' => ?_⟩
          refine ⟨(by show 1 ≤ sizeLine; decide), fun l nl => ?_⟩
          have d5 := d4.new (o := .lst [.str z']) nl
          have hk : decide (V.int m = V.int 8) = false := decide_eq_false (by intro e; injection e; omega)
          refine ⟨_, rfl, rfl, .inr ⟨_, rfl, ?_⟩⟩
          rw [hk]
          refine ⟨l, 0, _, rfl, rfl, upd_same, by decide, by decide, (by show 1 * 0 ≤ sizeLine; exact Nat.zero_le _), fun b nb => ?_⟩
          have d6 := d5.new (o := .lst (List.replicate (0 : Int).toNat [V.str z']).flatten) nb
          have npl : p ≠ l := fun e => by rw [← e, upd_same] at nl; cases nl
          have npb : p ≠ b := fun e => by rw [← e, upd_ne npl, upd_same] at nb; cases nb
          refine ⟨p, b, _, _, rfl, rfl, (by rw [upd_ne npb, upd_ne npl]; exact upd_same), upd_same, ?_, fun r nr => ?_⟩
          · refine szl ?_
            have := cutV_length acc none (some m)
            show (cutV acc none (some m)).length + 0 ≤ 1000
            omega
          · refine q r _ _ (d6.new nr) (d6.free nr) (d6.wl.ne nr) upd_same ((hS.cut _ _).app (fun v hv => absurd hv (by simp))) ?_
            have := cut_len (xs := acc) m0 m1
            show (cutV acc none (some m) ++ []).length ≤ 4
            rw [List.append_nil]
            exact this
      · -- size; at
        refine ⟨_, rfl, a, 7, rfl, by decide, by decide, d2.wl, fun sz H3 s0 s1 d3 => ⟨_, _, rfl, rfl, ?_⟩⟩
        refine ⟨_, rfl, _, rfl, _, _, rfl, rfl, a, _, rfl, (by show 0 < 1 + sz + 1; omega), (by show 1 + sz + 1 < 1073741824; omega), d3.wl, fun at_ H4 a0 a1 d4 => ?_⟩
        have d14 := (d12.trans d3).trans d4
        refine ⟨_, rfl, m, rfl, by omega, by omega, fun D nD => ?_⟩
        have hD0 := d14.free nD
        have hDa := d14.wl.ne nD
        refine lc_range (lo := 0) (n := m.toNat) (fun i H3 => ∃ acc, H3 D = some (.lst acc) ∧ AllS acc ∧ acc.length = i ∧ Dr a H H3) ⟨[], upd_same, (fun _ h => by simp at h), rfl, d14.new nD⟩ ?_ ?_
        · rintro i H3 hi ⟨acc, hD, hS, hl, dr⟩
          refine ⟨rfl, ?_⟩
          obtain ⟨c, hc⟩ := signs_at (i := (first + (0 + (i : Int))) % 26) (by omega) (by omega)
          refine ⟨_, rfl, _, _, rfl, rfl, (by decide), (by omega), (by omega), fun z1 hz1 => ?_⟩
          refine ⟨_, rfl, _, rfl, _, rfl, _, _, rfl, rfl, _, _, rfl, rfl, (by show (0 : Int) < 26; decide), signs, _, c, rfl, rfl, signs_sz, hc, ?_⟩
          refine ⟨_, _, rfl, rfl, (by show z1.length + 1 ≤ sizeLine; rw [sizeLine_eq]; omega), ?_⟩
          refine ⟨_, rfl, _, rfl, _, _, rfl, rfl, _, _, rfl, rfl, (by decide), (by omega), (by omega), fun z2 hz2 => ?_⟩
          refine ⟨_, _, rfl, rfl, (by show (z1.cps ++ #[c]).size + z2.length ≤ sizeLine; rw [Array.size_append, sizeLine_eq]; have e1 : z1.cps.size = z1.length := rfl; have e2 : (#[c] : Array Nat).size = 1 := rfl; omega), ?_⟩
          refine ⟨acc, hD, (by rw [sizeLine_eq]; omega), acc ++ [_], upd_same, hS.app (fun v hv => ⟨_, by simpa using hv⟩), by simp [hl], dr.at hD0 hDa⟩
        · rintro H3 ⟨acc, hD, hS, hl, dr⟩
          exact q D acc H3 dr hD0 hDa hD hS (by omega)
end
end K28

/-! _law_cells -/
namespace K28
open PySem PySem.Spec PyProof.Rows L2
theorem map_snoc (acc : List Int) (r : Int) : acc.map V.int ++ [V.int r] = (acc ++ [r]).map V.int := by
  rw [List.map_append]
  rfl
theorem Rg.snoc {m : Nat} {acc : List Int} {r : Int} (h : Rg m acc) (h0 : 0 ≤ r) (h1 : r < (m : Int)) : Rg m (acc ++ [r]) := fun x hx => by
  rcases List.mem_append.mp hx with hx | hx
  · exact h x hx
  · have e : x = r := by simpa using hx
    subst e
    exact ⟨h0, h1⟩
theorem Rg.nil {m : Nat} : Rg m [] := fun x hx => by simp at hx
section
variable {P : Program} {w : World} {K : PySem.W.Frag} {mg : Str → Option Value} {base : Heap}
theorem scCells : FnScope ["_law_well_here", "_law_many", "_law_places", "_law_size", "_law_kept_here", "_law_found", "_law_k", "_law_mark"] ["_law_well_here", "_law_many", "_law_places"] (defScope sCells) := ⟨rfl, rfl, rfl, by decide +kernel, rfl, by decide +kernel, by decide +kernel⟩
/-- a connective's cells -/
def spCells : Sp := fun vs H Q _ => ∃ (a : Addr) (m pl : Nat), vs = [.ref a, .int (m : Int), .int (pl : Int)] ∧ 1 ≤ m ∧ m ≤ 4 ∧ pl ≤ 2 ∧ Wl H a ∧
  ∀ (p : Addr) (cells : List Int) (H' : Hp), Dr a H H' → H' p = some (.tup (cells.map V.int)) → cells.length = m ^ pl → Rg m cells → Q (.ref p) H'
theorem ok_cells {f fD : Addr} {fd fdD : FuncData} {k : Nat} (F : Fun K "_law_cells" "_law_cells" sCells f fd) (FD : Fun K "_law_draw" "_law_draw" sDraw fD fdD) (bD : Binds K fdD ["_law_well_here", "_law_many"] []) (gD : mg "_law_draw" = some (.ref fD))
    (GD : FnOk P w K mg base CX0 k fD fdD ["_law_well_here", "_law_many"] spDraw) (mr : mg "range" = none) (ml : mg "len" = none) (mt : mg "tuple" = none) : FnOk P w K mg base CX0 (k + 1) f fd ["_law_well_here", "_law_many", "_law_places"] spCells := by
  refine F.ok scCells (fun vs H Q E h => ?_) (fun cdv A outer s H vs Q E hr h => ?_)
  · obtain ⟨a, m, pl, rfl, _⟩ := h
    rfl
  · obtain ⟨a, m, pl, rfl, m0, m1, hpl, hw, q⟩ := h
    have nd := scCells.nd
    refine ⟨_,
      (pss_cons (ps_set (i := 3) nd rfl (.inl rfl) (pe_ix (ix_listK (K := K)) (pe_lst (pa_cons pe_int (pa_cons (pv 1) (pa_cons (pe_op op_mul (pv 1) (pv 1)) pa_nil)))) (pv 2) (fun _ _ => rfl)))
      (pss_cons (ps_set (i := 4) nd rfl (.inr rfl) (pe_lc (own := [("_law_k", 6)]) (g := gName 6) (tt := tYes) (by rfl) nd (pi_range1 (by rfl) mr (pa_cons (pe_op op_add pe_int (pe_call GD hr (by rfl) gD FD.kp bD .nil pass0 (pa_cons (pv 0) (pa_cons pe_int pa_nil)))) pa_nil)) (blkOk_by (own := [("_law_k", 6)]) (N := ["_law_well_here", "_law_many", "_law_places", "_law_size", "_law_kept_here", "_law_found", "_law_k", "_law_mark"]) (sc := defScope sCells) (by decide +kernel)) (fun _ _ _ _ _ => (pg_name (i := 6) nd rfl (.inl rfl))) (fun _ _ _ _ _ => pts_nil) (fun _ _ _ _ _ => (pe_call GD hr (by rfl) gD FD.kp bD .nil pass0 (pa_cons (pv 0) (pa_cons (pv 1) pa_nil))))))
      (pss_cons (ps_setLc (i := 5) (own := [("_law_k", 6)]) (g := gName 6) (tt := tYes) (by rfl) nd rfl rfl (sw_true rfl rfl rfl (by decide +kernel)) (pi_range1 (by rfl) mr (pa_cons (pv 3) pa_nil)) (blkOk_by (own := [("_law_k", 6)]) (N := ["_law_well_here", "_law_many", "_law_places", "_law_size", "_law_kept_here", "_law_found", "_law_k", "_law_mark"]) (sc := defScope sCells) (by decide +kernel)) (fun _ _ _ _ _ => (pg_name (i := 6) nd rfl (.inl rfl))) (fun _ _ _ _ _ => pts_nil) (fun _ _ _ _ _ => (pe_call GD hr (by rfl) gD FD.kp bD .nil pass0 (pa_cons (pv 0) (pa_cons (pv 1) pa_nil)))))
      (pss_cons (ps_if (pt_cmpR op_eq (pe_call GD hr (by rfl) gD FD.kp bD .nil pass0 (pa_cons (pv 0) (pa_cons pe_int pa_nil))) pe_int (nomark _))
      (pss_one (ps_setLc (i := 5) (own := [("_law_mark", 7)]) (g := gName 7) (tt := tYes) (by rfl) nd rfl rfl (sw_true rfl rfl rfl (by decide +kernel)) (pi_listK (K := K) (pv 5)) (blkOk_by (own := [("_law_mark", 7)]) (N := ["_law_well_here", "_law_many", "_law_places", "_law_size", "_law_kept_here", "_law_found", "_law_k", "_law_mark"]) (sc := defScope sCells) (by decide +kernel)) (fun _ _ _ _ _ => (pg_name (i := 7) nd rfl (.inl rfl))) (fun _ _ _ _ _ => pts_nil) (fun _ _ _ _ _ => (pe_ix (ix_listK (K := K)) (pv 4) (pe_op op_mod (pv 7) (pe_callB (cr_lenK (K := K)) (by rfl) ml (by decide +kernel) (pa_cons (pv 4) pa_nil))) (fun _ _ => rfl)))))
      pss_nil)
      (pss_one (ps_ret (pe_callTy (cr_tupK (K := K)) (by rfl) mt (by decide +kernel) (pa_cons (pv 5) pa_nil))))))))
      , ?_⟩
    have hsz : atI [V.int 1, V.int (m : Int), V.int ((m : Int) * (m : Int))] (pl : Int) = some (.int ((m ^ pl : Nat) : Int)) := by
      match pl, hpl with
      | 0, _ => exact atI_nat (j := 0) (by rw [Nat.pow_zero] <;> rfl)
      | 1, _ => exact atI_nat (j := 1) (by rw [Nat.pow_one] <;> rfl)
      | 2, _ => exact atI_nat (j := 2) (by rw [Nat.pow_two, Int.natCast_mul] <;> rfl)
    have hsz2 : m ^ pl ≤ 16 := by
      have h1 : m ^ pl ≤ 4 ^ pl := Nat.pow_le_pow_left m1 pl
      have h2 : 4 ^ pl ≤ 4 ^ 2 := Nat.pow_le_pow_right (by decide) hpl
      omega
    -- size
    refine ⟨_, rfl, _, rfl, _, rfl, _, _, rfl, rfl, .inl ⟨by omega, by omega⟩, (by show 3 ≤ sizeLine; decide), fun l nl => ?_⟩
    refine ⟨_, rfl, l, _, _, _, rfl, rfl, SqL.of upd_same, hsz, ?_⟩
    have d0 : Dr a H (upd H l (.lst [V.int 1, V.int (m : Int), V.int ((m : Int) * (m : Int))])) := (Dr.refl hw).new nl
    generalize upd H l (.lst [V.int 1, V.int (m : Int), V.int ((m : Int) * (m : Int))]) = H0 at d0 ⊢
    -- kept_here
    refine ⟨_, rfl, a, 3, rfl, by decide, by decide, d0.wl, fun r H1 r0 r1 d1 => ?_⟩
    have d01 := d0.trans d1
    refine ⟨_, _, rfl, rfl, _, rfl, by omega, by omega, fun D nD => ?_⟩
    have hD0 := d01.free nD
    have hDa := d01.wl.ne nD
    refine lc_range (lo := 0) (n := (1 + r).toNat) (fun i H3 => ∃ acc : List Int, H3 D = some (.lst (acc.map V.int)) ∧ Rg m acc ∧ acc.length = i ∧ Dr a H H3) ⟨[], upd_same, Rg.nil, rfl, d01.new nD⟩ ?_ ?_
    · rintro i H3 hi ⟨acc, hD, hR, hl, dr⟩
      refine ⟨rfl, ?_⟩
      refine ⟨_, rfl, _, rfl, a, m, rfl, by omega, by omega, dr.wl, fun r H4 r0 r1 d4 => ?_⟩
      refine ⟨_, d4.but _ _ hD hDa, (by rw [List.length_map, sizeLine_eq]; omega), acc ++ [r], ?_, hR.snoc r0 r1, by simp [hl], (dr.trans d4).at hD0 hDa⟩
      rw [upd_same, map_snoc]
    rintro H3 ⟨kept, hD, hK, hKl, dr⟩
    -- found
    refine ⟨_, rfl, _, rfl, by omega, by omega, fun D2 nD2 => ?_⟩
    have hD20 := dr.free nD2
    have hD2a := dr.wl.ne nD2
    have hne : D ≠ D2 := ne_of_none hD nD2
    refine lc_range (lo := 0) (n := ((m ^ pl : Nat) : Int).toNat) (fun i H4 => ∃ acc : List Int, H4 D2 = some (.lst (acc.map V.int)) ∧ Rg m acc ∧ acc.length = i ∧ Dr a H H4 ∧ H4 D = some (.lst (kept.map V.int))) ⟨[], upd_same, Rg.nil, rfl, dr.new nD2, by rw [upd_ne hne]; exact hD⟩ ?_ ?_
    · rintro i H4 hi ⟨acc, hD2, hR, hl, dr4, hD4⟩
      refine ⟨rfl, ?_⟩
      refine ⟨_, rfl, _, rfl, a, m, rfl, by omega, by omega, dr4.wl, fun r H5 r0 r1 d5 => ?_⟩
      refine ⟨_, d5.but _ _ hD2 hD2a, (by rw [List.length_map, sizeLine_eq]; omega), acc ++ [r], ?_, hR.snoc r0 r1, by simp [hl], (dr4.trans d5).at hD20 hD2a, ?_⟩
      · rw [upd_same, map_snoc]
      · rw [upd_ne hne]
        exact d5.but _ _ hD4 hDa
    rintro H4 ⟨found, hD2, hR, hl, dr4, hD4⟩
    -- if draw(well, 3) == 1
    refine ⟨_, rfl, a, 3, rfl, by decide, by decide, dr4.wl, fun r H5 _ _ d5 => ⟨rfl, _, rfl, ?_⟩⟩
    have dr5 := dr4.trans d5
    have hD5 := d5.but _ _ hD4 hDa
    have hE5 := d5.but _ _ hD2 hD2a
    have hl2 : found.length = m ^ pl := by omega
    refine ite2 (fun _ => ?_) (fun _ => ?_)
    · refine ⟨_, rfl, D2, rfl, ⟨_, SqL.of hE5⟩, fun D3 nD3 => ?_⟩
      have hD30 := dr5.free nD3
      have hD3a := dr5.wl.ne nD3
      have n1 : D ≠ D3 := ne_of_none hD5 nD3
      have n2 : D2 ≠ D3 := ne_of_none hE5 nD3
      refine lc_list (K := K) (a := D2) (xs := found.map V.int) (fun i H6 => ∃ acc : List Int, H6 D3 = some (.lst (acc.map V.int)) ∧ Rg m acc ∧ acc.length = i ∧ Dr a H H6 ∧ H6 D = some (.lst (kept.map V.int)) ∧ H6 D2 = some (.lst (found.map V.int)))
        ⟨[], upd_same, Rg.nil, rfl, dr5.new nD3, by rw [upd_ne n1]; exact hD5, by rw [upd_ne n2]; exact hE5⟩ (fun i H6 _ hw => by obtain ⟨_, _, _, _, _, _, h⟩ := hw; exact SqL.of h) ?_ ?_
      · rintro i x H6 hi ⟨acc, hD3, hR6, hl6, dr6, hD6, hE6⟩
        obtain ⟨z, hz, rfl⟩ : ∃ z, z ∈ found ∧ x = V.int z := by
          obtain ⟨z, hz, e⟩ := List.mem_map.mp (List.mem_of_getElem? hi)
          exact ⟨z, hz, e.symm⟩
        have hil : i < found.length := by
          have := (List.getElem?_eq_some_iff.mp hi).1
          rwa [List.length_map] at this
        have hk0 : (0 : Int) < (kept.length : Int) := by omega
        refine ⟨rfl, ?_⟩
        have hz0 := Int.emod_nonneg z (b := (kept.length : Int)) (by omega)
        have hz1 := Int.emod_lt_of_pos z hk0
        have hm := hK _ (cat_mem (l := kept) hz0 hz1)
        refine ⟨_, rfl, _, rfl, _, rfl, D, _, rfl, .inl (SqL.of hD6), _, _, rfl, rfl, (by rw [List.length_map]; exact hk0), D, _, _, _, rfl, rfl, SqL.of hD6, (by rw [List.length_map]; exact atI_ints hz0 hz1), ?_⟩
        refine ⟨_, hD3, (by rw [List.length_map, sizeLine_eq]; omega), acc ++ [_], ?_, hR6.snoc hm.1 hm.2, by simp [hl6], dr6.at hD30 hD3a, by rw [upd_ne n1]; exact hD6, by rw [upd_ne n2]; exact hE6⟩
        rw [upd_same, map_snoc]
      · rintro H6 ⟨acc, hD3, hR6, hl6, dr6, hD6, hE6⟩
        refine ⟨_, rfl, D3, _, rfl, .inl ⟨SqL.of hD3, fun t nt => ?_⟩⟩
        exact q t acc _ (dr6.new nt) upd_same (by rw [hl6, List.length_map]; exact hl2) hR6
    · refine ⟨_, rfl, D2, _, rfl, .inl ⟨SqL.of hE5, fun t nt => ?_⟩⟩
      exact q t found _ (dr5.new nt) upd_same hl2 hR
end
end K28

/-! _law_table -/
namespace K28
open PySem PySem.Spec PyProof.Rows L2
theorem paired_snoc {α β : Type} {F : α → β → Prop} {a : α} {b : β} : ∀ {l₁ : List α} {l₂ : List β}, Paired F l₁ l₂ → F a b → Paired F (l₁ ++ [a]) (l₂ ++ [b])
  | _, _, .nil, h => .cons h .nil
  | _, _, .cons h₁ t, h => .cons h₁ (paired_snoc t h)
section
variable {P : Program} {w : World} {K : PySem.W.Frag} {mg : Str → Option Value} {base : Heap}
theorem scTable : FnScope ["_law_well_here", "_law_most", "_law_some", "_law_many", "_law_wished", "_law_names_here", "_law_connectives", "_law_name", "_law_places", "_law_mark"] ["_law_well_here", "_law_most", "_law_some"] (defScope sTable) := ⟨rfl, rfl, rfl, by decide +kernel, rfl, by decide +kernel, by decide +kernel⟩
/-- a table -/
def spTable : Sp := fun vs H Q _ => ∃ (a : Addr), vs = [.ref a, .int 4, .int 4] ∧ Wl H a ∧ ∀ (v : V) (T : Tab) (H' : Hp), Dr a H H' → TabAt H' v T → TabOk T → Q v H'
theorem places_at {r : Int} (h0 : 0 ≤ r) (h1 : r < 5) : ∃ pl : Nat, pl ≤ 2 ∧ atI [V.int 0, V.int 1, V.int 1, V.int 2, V.int 2] r = some (.int (pl : Int)) := by
  have : r = 0 ∨ r = 1 ∨ r = 2 ∨ r = 3 ∨ r = 4 := by omega
  rcases this with rfl | rfl | rfl | rfl | rfl
  · exact ⟨0, by decide, rfl⟩
  · exact ⟨1, by decide, rfl⟩
  · exact ⟨1, by decide, rfl⟩
  · exact ⟨2, by decide, rfl⟩
  · exact ⟨2, by decide, rfl⟩
theorem ok_table {f fD fN fC : Addr} {fd fdD fdN fdC : FuncData} {k : Nat} (F : Fun K "_law_table" "_law_table" sTable f fd)
    (FD : Fun K "_law_draw" "_law_draw" sDraw fD fdD) (bD : Binds K fdD ["_law_well_here", "_law_many"] []) (gD : mg "_law_draw" = some (.ref fD)) (GD : FnOk P w K mg base CX0 k fD fdD ["_law_well_here", "_law_many"] spDraw)
    (FN : Fun K "_law_names" "_law_names" sNames fN fdN) (bN : Binds K fdN ["_law_well_here", "_law_many"] []) (gN : mg "_law_names" = some (.ref fN)) (GN : FnOk P w K mg base CX0 k fN fdN ["_law_well_here", "_law_many"] spNames)
    (FC : Fun K "_law_cells" "_law_cells" sCells fC fdC) (bC : Binds K fdC ["_law_well_here", "_law_many", "_law_places"] []) (gC : mg "_law_cells" = some (.ref fC)) (GC : FnOk P w K mg base CX0 k fC fdC ["_law_well_here", "_law_many", "_law_places"] spCells)
    (mr : mg "range" = none) (mt : mg "tuple" = none) : FnOk P w K mg base CX0 (k + 1) f fd ["_law_well_here", "_law_most", "_law_some"] spTable := by
  refine F.ok scTable (fun vs H Q E h => ?_) (fun cdv A outer s H vs Q E hr h => ?_)
  · obtain ⟨a, rfl, _⟩ := h
    rfl
  · obtain ⟨a, rfl, hw, q⟩ := h
    have nd := scTable.nd
    have hrN := hr
    have hrC := hr
    refine ⟨_,
      (pss_cons (ps_set (i := 3) nd rfl (.inl rfl) (pe_op op_add pe_int (pe_call GD hr (by rfl) gD FD.kp bD .nil pass0 (pa_cons (pv 0) (pa_cons (pv 1) pa_nil)))))
      (pss_cons (ps_set (i := 4) nd rfl (.inl rfl) (pe_callTy (cr_tupK (K := K)) (by rfl) mt (by decide +kernel) (pa_cons (pe_lc (own := [("_law_mark", 9)]) (g := gName 9) (by rfl) nd (pi_range1 (by rfl) mr (pa_cons (pv 3) pa_nil)) (blkOk_by (own := [("_law_mark", 9)]) (N := ["_law_well_here", "_law_most", "_law_some", "_law_many", "_law_wished", "_law_names_here", "_law_connectives", "_law_name", "_law_places", "_law_mark"]) (sc := defScope sTable) (by decide +kernel)) (fun _ _ _ _ _ => (pg_name (i := 9) nd rfl (.inl rfl))) (fun _ _ _ _ _ => (pts_one (pt_cmpR op_eq (pe_call GD hr (by rfl) gD FD.kp bD .nil pass0 (pa_cons (pv 0) (pa_cons pe_int pa_nil))) pe_int (nomark _)))) (fun _ _ _ _ _ => (pv 9))) pa_nil)))
      (pss_cons (ps_set (i := 5) nd rfl (.inl rfl) (pe_call GN hrN (by rfl) gN FN.kp bN .nil pass0 (pa_cons (pv 0) (pa_cons (pe_call GD hr (by rfl) gD FD.kp bD .nil pass0 (pa_cons (pv 0) (pa_cons (pe_op op_add (pv 2) pe_int) pa_nil))) pa_nil))))
      (pss_cons (ps_set (i := 6) nd rfl (.inl rfl) (pe_lst pa_nil))
      (pss_cons (ps_for PassesOwn.never (by rfl) (pi_listK (K := K) (pv 5)) (pg_name (i := 7) nd rfl (.inl rfl))
      (pss_cons (ps_set (i := 8) nd rfl (.inl rfl) (pe_ix (ix_listK (K := K)) (pe_lst (pa_cons pe_int (pa_cons pe_int (pa_cons pe_int (pa_cons pe_int (pa_cons pe_int pa_nil)))))) (pe_call GD hr (by rfl) gD FD.kp bD .nil pass0 (pa_cons (pv 0) (pa_cons pe_int pa_nil))) (fun _ _ => rfl)))
      (pss_one (ps_expr (pe_bm PySem.F.plainAttrs_list PySem.F.slot_list_append PySem.F.type_list_append mt_append (pv 6) (pa_cons (pe_tup (pa_cons (pv 7) (pa_cons (pv 8) (pa_cons (pe_call GC hrC (by rfl) gC FC.kp bC .nil pass0 (pa_cons (pv 0) (pa_cons (pv 3) (pa_cons (pv 8) pa_nil)))) pa_nil)))) pa_nil))))))
      (pss_one (ps_ret (pe_tup (pa_cons (pv 3) (pa_cons (pv 4) (pa_cons (pe_callTy (cr_tupK (K := K)) (by rfl) mt (by decide +kernel) (pa_cons (pv 6) pa_nil)) pa_nil)))))))))))
      , ?_⟩
    -- many
    refine ⟨_, rfl, _, rfl, a, 4, rfl, by decide, by decide, hw, fun r H1 r0 r1 d1 => ⟨_, _, rfl, rfl, ?_⟩⟩
    obtain ⟨m, hm⟩ : ∃ m : Nat, (m : Int) = 1 + r := ⟨(1 + r).toNat, by omega⟩
    show gName 3 (V.int (1 + r)) _ _ _
    rw [← hm]
    -- wished
    refine ⟨_, rfl, m, rfl, by omega, by omega, fun D nD => ?_⟩
    have hD0 := d1.free nD
    have hDa := d1.wl.ne nD
    refine lc_range (lo := 0) (n := ((m : Nat) : Int).toNat) (fun i H3 => ∃ acc : List Int, H3 D = some (.lst (acc.map V.int)) ∧ Rg m acc ∧ acc.length ≤ i ∧ Dr a H H3) ⟨[], upd_same, Rg.nil, Nat.le_refl _, d1.new nD⟩ ?_ ?_
    · rintro i H3 hi ⟨acc, hD, hR, hl, dr⟩
      refine ⟨rfl, ?_⟩
      refine ⟨_, rfl, a, 2, rfl, by decide, by decide, dr.wl, fun r2 H4 _ _ d4 => ⟨rfl, _, rfl, ?_⟩⟩
      have hD4 := d4.but _ _ hD hDa
      refine ite2 (fun _ => ?_) (fun _ => ?_)
      · refine ⟨_, rfl, _, hD4, (by rw [List.length_map, sizeLine_eq]; omega), acc ++ [_], ?_, hR.snoc (r := 0 + (i : Int)) (by omega) (by omega), by simp; omega, (dr.trans d4).at hD0 hDa⟩
        rw [upd_same, map_snoc]
      · exact ⟨acc, hD4, hR, by omega, dr.trans d4⟩
    rintro H3 ⟨ws, hD, hR, hl, dr⟩
    refine ⟨D, _, rfl, .inl ⟨SqL.of hD, fun w nw => ?_⟩⟩
    have d4 : Dr a H (upd H3 w (.tup (ws.map V.int))) := dr.new nw
    have hw4 : (upd H3 w (.tup (ws.map V.int))) w = some (.tup (ws.map V.int)) := upd_same
    generalize upd H3 w (.tup (ws.map V.int)) = H4 at d4 hw4 ⊢
    -- names_here
    refine ⟨_, rfl, _, rfl, _, rfl, _, _, rfl, rfl, a, 5, rfl, by decide, by decide, d4.wl, fun s H5 s0 s1 d5 => ?_⟩
    refine ⟨a, s, rfl, s0, by omega, d5.wl, fun p xs H6 d6 np npa hp hS hx => ?_⟩
    have d46 := d5.trans d6
    have dr6 := d4.trans d46
    have hw6 := d46.tx d4.wl _ _ hw4
    -- connectives = []
    refine ⟨Nat.zero_le _, fun l nl => ?_⟩
    have hl0 := dr6.free nl
    have hla := dr6.wl.ne nl
    have npl : p ≠ l := ne_of_none hp nl
    -- the loop
    refine ⟨_, rfl, p, rfl, ⟨xs, SqL.of (by rw [upd_ne npl]; exact hp)⟩, for_list (K := K) (a := p) (xs := xs)
      (fun i σ H7 => ∃ (v7 v8 : Option V) (cs : List V) (cons : List Con), σ = [some (.ref a), some (.int 4), some (.int 4), some (.int (m : Int)), some (.ref w), some (.ref p), some (.ref l), v7, v8, none] ∧
        H7 l = some (.lst cs) ∧ Paired (ConAt H7) cs cons ∧ cons.length = i ∧ (∀ c ∈ cons, ConOk m c) ∧ H7 p = some (.lst xs) ∧ H7 w = some (.tup (ws.map V.int)) ∧ Dr a H H7)
      ⟨none, none, [], [], rfl, upd_same, .nil, rfl, (fun c h => by simp at h), by rw [upd_ne npl]; exact hp, tx_new nl _ _ hw6, dr6.new nl⟩ (fun i σ H7 _ hw => by obtain ⟨_, _, _, _, _, _, _, _, _, h, _⟩ := hw; exact SqL.of h) ?_ ?_⟩
    · rintro i x σ H7 hi ⟨v7, v8, cs, cons, rfl, hl7, hc7, hn7, hk7, hp7, hw7, dr7⟩
      obtain ⟨z, rfl⟩ := hS x (List.mem_of_getElem? hi)
      have hil : i < xs.length := (List.getElem?_eq_some_iff.mp hi).1
      -- places
      refine ⟨(by show 5 ≤ sizeLine; decide), fun b nb => ?_⟩
      have d8 : Dr a H (upd H7 b (.lst [.int 0, .int 1, .int 1, .int 2, .int 2])) := dr7.new nb
      have hb8 : (upd H7 b (.lst [.int 0, .int 1, .int 1, .int 2, .int 2])) b = some (.lst [.int 0, .int 1, .int 1, .int 2, .int 2]) := upd_same
      have s8 : Same H7 (upd H7 b (.lst [.int 0, .int 1, .int 1, .int 2, .int 2])) := same_new nb
      have hba := dr7.wl.ne nb
      generalize upd H7 b (.lst [.int 0, .int 1, .int 1, .int 2, .int 2]) = H8 at d8 hb8 s8 ⊢
      refine ⟨_, rfl, a, 5, rfl, by decide, by decide, d8.wl, fun r5 H9 r50 r51 d9 => ?_⟩
      obtain ⟨pl, hpl, hat⟩ := places_at r50 r51
      refine ⟨b, _, _, _, rfl, rfl, SqL.of (d9.but _ _ hb8 hba), hat, ?_⟩
      have dr9 := d8.trans d9
      have d79 : Dr a H7 H9 := Dr.pre s8 d9
      -- append
      have hl9 := d79.but _ _ hl7 hla
      refine ⟨_, rfl, .inl ⟨rfl, _, SqL.of hl9⟩, _, rfl, _, rfl, _, rfl, _, rfl, _, rfl, a, m, pl, rfl, by omega, by omega, hpl, dr9.wl, fun t cells H10 d10 ht htl htr => ?_⟩
      refine ⟨(by show 3 ≤ sizeLine; decide), fun c nc => ?_⟩
      have d710 := d79.trans d10
      have dr10 := dr9.trans d10
      have hl10 := d710.but _ _ hl7 hla
      have hcl : l ≠ c := ne_of_none hl10 nc
      have tx1 : Tx H7 (upd H10 c (.tup [.str z, .int (pl : Int), .ref t])) := (d710.tx dr7.wl).trans (tx_new nc)
      have hl11 : (upd H10 c (.tup [.str z, .int (pl : Int), .ref t])) l = some (.lst cs) := by rw [upd_ne hcl]; exact hl10
      have tx2 := tx1.trans (tx_lst (o := .lst (cs ++ [.ref c])) hl11)
      refine ⟨l, cs, _, rfl, rfl, hl11, ?_, ?_⟩
      · have := paired_len hc7
        rw [sizeLine_eq]
        omega
      refine ⟨_, _, _, cons ++ [⟨z, pl, cells⟩], rfl, upd_same, ?_, by simp [hn7], fun c' hc' => ?_, ?_, tx2 _ _ hw7, ?_⟩
      · refine paired_snoc (paired_map (fun _ _ h => h.tx tx2) hc7) ⟨c, t, rfl, ?_, ?_⟩
        · rw [upd_ne hcl.symm, upd_same]
        · exact tx_lst hl11 _ _ (tx_new nc _ _ ht)
      · rcases List.mem_append.mp hc' with hc' | hc'
        · exact hk7 c' hc'
        · have e : c' = ⟨z, pl, cells⟩ := by simpa using hc'
          subst e
          exact ⟨hpl, htl, htr⟩
      · have hp10 := d710.but _ _ hp7 npa
        rw [upd_ne npl, upd_ne (ne_of_none hp10 nc)]
        exact hp10
      · exact ((dr10.new nc).at hl0 hla)
    · rintro σ H7 ⟨v7, v8, cs, cons, rfl, hl7, hc7, hn7, hk7, hp7, hw7, dr7⟩
      -- return
      refine ⟨_, rfl, _, rfl, _, rfl, l, cs, rfl, .inl ⟨SqL.of hl7, fun c nc => ?_⟩⟩
      refine ⟨(by show 3 ≤ sizeLine; decide), fun t nt => ?_⟩
      have tx := (tx_new (o := .tup cs) nc).trans (tx_new (o := .tup [.int (m : Int), .ref w, .ref c]) nt)
      refine q (.ref t) ⟨m, cons⟩ _ ((dr7.new nc).new nt) ⟨t, w, c, ws, cs, rfl, upd_same, tx _ _ hw7, ⟨hR, by show ws.length ≤ 4; omega⟩, tx_new nt _ _ upd_same, paired_map (fun _ _ h => h.tx tx) hc7⟩ ⟨by show 1 ≤ m; omega, by show m ≤ 4; omega, by show cons.length ≤ 4; omega, hk7⟩
end
end K28

/-! cell_at, joined -/
namespace K28
open PySem PySem.Spec PyProof.Rows L2
theorem pos_snoc (m : Nat) (gs : List Int) (g : Int) : pos m (gs ++ [g]) = pos m gs * m + g := by
  unfold pos
  rw [List.foldl_append]
  rfl
theorem take_snoc {α : Type} {l : List α} {i : Nat} {x : α} (h : l[i]? = some x) : l.take (i + 1) = l.take i ++ [x] := by rw [List.take_add_one, h]; rfl
theorem row_snoc (cs : List (List Int)) (c : List Int) (k : Nat) : row (cs ++ [c]) k = row cs k ++ [c.getD k 0] := by
  unfold row
  rw [List.map_append]
  rfl
theorem jn_get {m : Nat} {cells : List Int} {cs : List (List Int)} {n i : Nat} (h : i < n) : (jn m cells cs n)[i]? = some (cat cells (pos m (row cs i))) := by
  unfold jn
  rw [List.getElem?_map, List.getElem?_range h]
  rfl
section
variable {P : Program} {w : World} {K : PySem.W.Frag} {mg : Str → Option Value} {base : Heap}
theorem scCellAt : FnScope ["many", "cells", "grades", "place", "one"] ["many", "cells", "grades"] (defScope sCellAt) := ⟨rfl, rfl, rfl, by decide +kernel, rfl, by decide +kernel, by decide +kernel⟩
def spCellAt : Sp := fun vs H Q _ => ∃ (m : Nat) (q g : Addr) (cells gs : List Int), vs = [.int (m : Int), .ref q, .ref g] ∧ m ≤ 4 ∧ H q = some (.tup (cells.map V.int)) ∧ H g = some (.lst (gs.map V.int)) ∧ gs.length ≤ 2 ∧ Rg m gs ∧ cells.length = m ^ gs.length ∧
  Q (.int (cat cells (pos m gs))) H
theorem ok_cellat {f : Addr} {fd : FuncData} {k : Nat} (F : Fun K "cell_at" "cell_at" sCellAt f fd) : FnOk P w K mg base CX0 (k + 1) f fd ["many", "cells", "grades"] spCellAt := by
  refine F.ok scCellAt (fun vs H Q E h => ?_) (fun cdv A outer s H vs Q E hr h => ?_)
  · obtain ⟨m, q, g, cells, gs, rfl, _⟩ := h
    rfl
  · obtain ⟨m, q, g, cells, gs, rfl, m1, hq, hg, hl, hR, hcl, k⟩ := h
    have nd := scCellAt.nd
    refine ⟨_,
      (pss_cons (ps_set (i := 3) nd rfl (.inl rfl) pe_int)
      (pss_cons (ps_for PassesOwn.never (by rfl) (pi_listK (K := K) (pv 2)) (pg_name (i := 4) nd rfl (.inl rfl))
      (pss_one (ps_set (i := 3) nd rfl (.inl rfl) (pe_op op_add (pe_op op_mul (pv 3) (pv 0)) (pv 4)))))
      (pss_one (ps_ret (pe_ix (ix_tupK (K := K)) (pv 1) (pv 3) (fun _ _ => rfl))))))
      , ?_⟩
    refine ⟨_, rfl, g, rfl, ⟨_, SqL.of hg⟩, for_list (K := K) (a := g) (xs := gs.map V.int) (fun i σ H2 => ∃ v4 : Option V, σ = [some (.int (m : Int)), some (.ref q), some (.ref g), some (.int (pos m (gs.take i))), v4] ∧ H2 = H)
      ⟨none, rfl, rfl⟩ (fun i σ H2 _ hw => by obtain ⟨_, _, rfl⟩ := hw; exact SqL.of hg) ?_ ?_⟩
    · rintro i x σ H2 hi ⟨v4, rfl, rfl⟩
      rw [List.getElem?_map] at hi
      obtain ⟨z, hz, rfl⟩ := Option.map_eq_some_iff.mp hi
      refine ⟨_, rfl, _, rfl, _, _, rfl, rfl, .inr ⟨by omega, by omega⟩, _, rfl, _, _, rfl, rfl, some (.int z), ?_, rfl⟩
      rw [take_snoc hz, pos_snoc]
      rfl
    · rintro σ H2 ⟨v4, rfl, rfl⟩
      obtain ⟨p0, p1⟩ := pos_rg hR hl
      rw [List.length_map, List.take_length]
      refine ⟨_, rfl, _, rfl, q, _, _, _, rfl, rfl, SqT.of hq, atI_ints p0 (by rw [hcl]; exact p1), k⟩
theorem scJoined : FnScope ["many", "cells", "columns", "k", "column"] ["many", "cells", "columns"] (defScope sJoined) := ⟨rfl, rfl, rfl, by decide +kernel, rfl, by decide +kernel, by decide +kernel⟩
def spJoined : Sp := fun vs H Q _ => ∃ (m n : Nat) (q l : Addr) (cells : List Int) (us : List V) (cs : List (List Int)), vs = [.int (m : Int), .ref q, .ref l] ∧ m ≤ 4 ∧ n ≤ 2 ∧ H q = some (.tup (cells.map V.int)) ∧ H l = some (.lst us) ∧ Paired (Col H) us cs ∧
  1 ≤ cs.length ∧ cs.length ≤ 2 ∧ (∀ c ∈ cs, c.length = n ∧ Rg m c) ∧ cells.length = m ^ cs.length ∧ ∀ (v : V) (H' : Hp), Same H H' → Col H' v (jn m cells cs n) → Q v H'
theorem ok_joined {f fA : Addr} {fd fdA : FuncData} {k : Nat} (F : Fun K "joined" "joined" sJoined f fd)
    (FA : Fun K "cell_at" "cell_at" sCellAt fA fdA) (bA : Binds K fdA ["many", "cells", "grades"] []) (gA : mg "cell_at" = some (.ref fA)) (GA : FnOk P w K mg base CX0 k fA fdA ["many", "cells", "grades"] spCellAt)
    (mr : mg "range" = none) (mt : mg "tuple" = none) (ml : mg "len" = none) : FnOk P w K mg base CX0 (k + 1) f fd ["many", "cells", "columns"] spJoined := by
  refine F.ok scJoined (fun vs H Q E h => ?_) (fun cdv A outer s H vs Q E hr h => ?_)
  · obtain ⟨m, n, q, l, cells, us, cs, rfl, _⟩ := h
    rfl
  · obtain ⟨m, n, q, l, cells, us, cs, rfl, m1, n1, hq, hl, hP, c0, c1, hC, hcl, k⟩ := h
    have nd := scJoined.nd
    refine ⟨_,
      (pss_one (ps_ret (pe_callTy (cr_tupK (K := K)) (by rfl) mt (by decide +kernel) (pa_cons (pe_lc (own := [("k", 3)]) (g := gName 3) (tt := tYes) (by rfl) nd (pi_range1 (by rfl) mr (pa_cons (pe_callB (cr_lenK (K := K)) (by rfl) ml (by decide +kernel) (pa_cons (pe_ix (ix_listK (K := K)) (pv 2) pe_int (fun _ _ => rfl)) pa_nil)) pa_nil)) (blkOk_by (own := [("k", 3)]) (N := ["many", "cells", "columns", "k", "column"]) (sc := defScope sJoined) (by decide +kernel)) (fun _ _ _ _ _ => (pg_name (i := 3) nd rfl (.inr rfl))) (fun _ _ _ _ _ => pts_nil) (fun _ _ _ _ _ => (pe_call GA hr (by rfl) gA FA.kp bA .nil pass0 (pa_cons (pv 0) (pa_cons (pv 1) (pa_cons (pe_lc (own := [("column", 4)]) (g := gName 4) (tt := tYes) (by rfl) nd (pi_listK (K := K) (pv 2)) (blkOk_by (own := [("column", 4)]) (N := ["many", "cells", "columns", "k", "column"]) (by show blkC _ (relS _ (defScope sJoined)) _ _ = true; decide +kernel)) (fun _ _ _ _ _ => (pg_name (i := 4) nd rfl (.inl rfl))) (fun _ _ _ _ _ => pts_nil) (fun _ _ _ _ _ => (pe_ix (ix_tupK (K := K)) (pv 4) (pv 3) (fun _ _ => rfl)))) pa_nil)))))) pa_nil))))
      , ?_⟩
    -- len(columns[0])
    have hul := paired_len hP
    obtain ⟨v0, hv0⟩ : ∃ v0, us[0]? = some v0 := ⟨us[0]'(by omega), List.getElem?_eq_getElem (by omega)⟩
    obtain ⟨b0, hb0, t0, rfl, ht0⟩ := paired_at hP hv0
    have hn0 := (hC b0 (List.mem_of_getElem? hb0)).1
    refine ⟨_, rfl, l, _, 0, _, rfl, rfl, SqL.of hl, atI_nat (j := 0) hv0, t0, _, rfl, .inr (SqT.of ht0), _, rfl, (by rw [List.length_map]; omega), (by rw [List.length_map]; omega), fun D nD => ?_⟩
    have en : (((b0.map V.int).length : Nat) : Int).toNat = n := by rw [List.length_map]; omega
    refine lc_range (lo := 0) (n := (((b0.map V.int).length : Nat) : Int).toNat) (fun i H3 => H3 D = some (.lst (((jn m cells cs n).take i).map V.int)) ∧ Same H H3) ⟨upd_same, same_new nD⟩ ?_ ?_
    · rintro i H3 hi ⟨hD, s3⟩
      have hin : i < n := by omega
      refine ⟨rfl, ?_⟩
      -- cell_at(many, cells, [column[k] for column in columns])
      refine ⟨_, rfl, _, rfl, _, rfl, l, rfl, ⟨_, SqL.of (s3 _ _ hl)⟩, fun D2 nD2 => ?_⟩
      have s32 : Same H3 (upd H3 D2 (.lst [])) := same_new nD2
      refine lc_list (K := K) (a := l) (xs := us) (fun j H5 => H5 D2 = some (.lst ((row (cs.take j) i).map V.int)) ∧ Same H3 H5) ⟨upd_same, s32⟩ (fun j H5 _ hw => SqL.of (hw.2 _ _ (s3 _ _ hl))) ?_ ?_
      · rintro j x H5 hj ⟨hD2, s5⟩
        obtain ⟨c, hc, t, rfl, ht⟩ := paired_at hP hj
        have hcl := (hC c (List.mem_of_getElem? hc)).1
        have hci : c[i]? = some (c.getD i 0) := by
          rw [List.getD_eq_getElem?_getD, List.getElem?_eq_getElem (by omega)]
          rfl
        refine ⟨rfl, ?_⟩
        refine ⟨_, rfl, _, rfl, t, _, _, _, rfl, rfl, SqT.of (s5 _ _ (s3 _ _ ht)), at_of (j := i) (by omega) (by rw [List.getElem?_map, hci]; rfl), ?_⟩
        refine ⟨_, hD2, ?_, ?_, same_at s5 nD2⟩
        · rw [List.length_map, row_len, List.length_take, sizeLine_eq]
          omega
        · rw [upd_same, map_snoc, take_snoc hc, row_snoc]
      · rintro H5 ⟨hD2, s5⟩
        have e : cs.take us.length = cs := by rw [hul, List.take_length]
        rw [e] at hD2
        refine ⟨m, q, D2, cells, row cs i, rfl, m1, s5 _ _ (s3 _ _ hq), hD2, by rw [row_len]; exact c1, row_rg hC hin, by rw [row_len]; exact hcl, ?_⟩
        refine ⟨_, s5 _ _ hD, ?_, ?_, same_at (s3.trans s5) nD⟩
        · rw [List.length_map, List.length_take, sizeLine_eq]
          omega
        · rw [upd_same, map_snoc, take_snoc (jn_get hin)]
    · rintro H3 ⟨hD, s3⟩
      rw [en, List.take_of_length_le (by rw [jn_len]; exact Nat.le_refl _)] at hD
      refine ⟨D, _, rfl, .inl ⟨SqL.of hD, fun t nt => ?_⟩⟩
      exact k (.ref t) _ (same_then s3 nt) ⟨t, rfl, upd_same⟩
end
end K28

/-! Sayings.__init__, Sayings.take -/
namespace K28
open PySem PySem.Spec PyProof.Rows L2
def flds (tv : V) (n : Nat) (d f l : Addr) : List (Str × V) := putF "lines" (.ref l) (putF "found" (.ref f) (putF "known" (.ref d) (putF "size" (.int (n : Int)) (putF "table" tv []))))
theorem ne_ts : ¬ (("table" : Str) = "size") := by decide +kernel
theorem ne_tk : ¬ (("table" : Str) = "known") := by decide +kernel
theorem ne_tf : ¬ (("table" : Str) = "found") := by decide +kernel
theorem ne_tl : ¬ (("table" : Str) = "lines") := by decide +kernel
theorem ne_sk : ¬ (("size" : Str) = "known") := by decide +kernel
theorem ne_sf : ¬ (("size" : Str) = "found") := by decide +kernel
theorem ne_sl : ¬ (("size" : Str) = "lines") := by decide +kernel
theorem ne_kf : ¬ (("known" : Str) = "found") := by decide +kernel
theorem ne_kl : ¬ (("known" : Str) = "lines") := by decide +kernel
theorem ne_fl : ¬ (("found" : Str) = "lines") := by decide +kernel
section
variable {tv : V} {n : Nat} {d f l : Addr}
theorem f_table : (flds tv n d f l).lookup ("table" : Str) = some tv := by
  unfold flds
  rw [lookup_putF, if_neg ne_tl, lookup_putF, if_neg ne_tf, lookup_putF, if_neg ne_tk, lookup_putF, if_neg ne_ts, lookup_putF, if_pos rfl]
theorem f_size : (flds tv n d f l).lookup ("size" : Str) = some (.int (n : Int)) := by
  unfold flds
  rw [lookup_putF, if_neg ne_sl, lookup_putF, if_neg ne_sf, lookup_putF, if_neg ne_sk, lookup_putF, if_pos rfl]
theorem f_known : (flds tv n d f l).lookup ("known" : Str) = some (.ref d) := by
  unfold flds
  rw [lookup_putF, if_neg ne_kl, lookup_putF, if_neg ne_kf, lookup_putF, if_pos rfl]
theorem f_found : (flds tv n d f l).lookup ("found" : Str) = some (.ref f) := by
  unfold flds
  rw [lookup_putF, if_neg ne_fl, lookup_putF, if_pos rfl]
theorem f_lines : (flds tv n d f l).lookup ("lines" : Str) = some (.ref l) := by
  unfold flds
  rw [lookup_putF, if_pos rfl]
theorem f_no {m : Str} (h1 : ¬ m = "lines") (h2 : ¬ m = "found") (h3 : ¬ m = "known") (h4 : ¬ m = "size") (h5 : ¬ m = "table") : (flds tv n d f l).lookup m = none := by
  unfold flds
  rw [lookup_putF, if_neg h1, lookup_putF, if_neg h2, lookup_putF, if_neg h3, lookup_putF, if_neg h4, lookup_putF, if_neg h5]
  rfl
theorem f_take : (flds tv n d f l).lookup ("take" : Str) = none := f_no (by decide +kernel) (by decide +kernel) (by decide +kernel) (by decide +kernel) (by decide +kernel)
theorem f_begin : (flds tv n d f l).lookup ("begin" : Str) = none := f_no (by decide +kernel) (by decide +kernel) (by decide +kernel) (by decide +kernel) (by decide +kernel)
theorem f_goon : (flds tv n d f l).lookup ("go_on" : Str) = none := f_no (by decide +kernel) (by decide +kernel) (by decide +kernel) (by decide +kernel) (by decide +kernel)
end
theorem putF_len {g : Str} {v : V} {fs : List (Str × V)} {k : Nat} (h : fs.length < k) : (putF g v fs).length < k + 1 := Nat.lt_of_le_of_lt (length_putF g v fs) (Nat.succ_lt_succ h)
/-- what the class's code asks of the class -/
structure Txt (K : PySem.W.Frag) (mg : Str → Option Value) (C : Addr) : Prop where
  cl : Cls K C
  nT : NoAttr K C "table"
  nS : NoAttr K C "size"
  nK : NoAttr K C "known"
  nF : NoAttr K C "found"
  nL : NoAttr K C "lines"
  mgC : mg "Sayings" = some (.ref C)
def kys (F : List (List Int)) : List (List Key × V) := F.map fun c => (c.map (fun i => (Sum.inl i : Key)), V.bl true)
/-- the sayings' object -/
structure SayAt (C : Addr) (H : Hp) (p : Addr) (tv : V) (n : Nat) (d f l : Addr) (F : List (List Int)) : Prop where
  ob : ∃ dx, H p = some (.ins C dx (flds tv n d f l))
  kn : H d = some (.dT (kys F))
  fo : ∃ us, H f = some (.lst us) ∧ Paired (Col H) us F
  li : ∃ ls, H l = some (.lst ls) ∧ ls.length = F.length
  ne : f ≠ l
theorem SayAt.same {C : Addr} {H H' : Hp} {p : Addr} {tv : V} {n : Nat} {d f l : Addr} {F : List (List Int)} (h : SayAt C H p tv n d f l F) (s : Same H H') : SayAt C H' p tv n d f l F := by
  obtain ⟨⟨dx, h1⟩, h2, ⟨us, h3, h4⟩, ⟨ls, h5, h6⟩, h7⟩ := h
  exact ⟨⟨dx, s _ _ h1⟩, s _ _ h2, ⟨us, s _ _ h3, paired_map (fun _ _ q => q.tx (same_tx s)) h4⟩, ⟨ls, s _ _ h5, h6⟩, h7⟩
/-- all but the sayings' own dict and lists is as it was -/
def Fr3 (d f l : Addr) (H H' : Hp) : Prop := ∀ b o, H b = some o → b ≠ d → b ≠ f → b ≠ l → H' b = some o
theorem Fr3.trans {d f l : Addr} {H H1 H2 : Hp} (x : Fr3 d f l H H1) (y : Fr3 d f l H1 H2) : Fr3 d f l H H2 := fun b o e h1 h2 h3 => y b o (x b o e h1 h2 h3) h1 h2 h3
theorem Fr3.pre {d f l : Addr} {H H1 H2 : Hp} (x : Same H H1) (y : Fr3 d f l H1 H2) : Fr3 d f l H H2 := fun b o e h1 h2 h3 => y b o (x b o e) h1 h2 h3
theorem Fr3.then {d f l : Addr} {H H1 H2 : Hp} (x : Fr3 d f l H H1) (y : Same H1 H2) : Fr3 d f l H H2 := fun b o e h1 h2 h3 => y b o (x b o e h1 h2 h3)
theorem Fr3.refl {d f l : Addr} {H : Hp} : Fr3 d f l H H := fun b o e _ _ _ => e
theorem Fr3.tx {C : Addr} {H H' : Hp} {p : Addr} {tv : V} {n : Nat} {d f l : Addr} {F : List (List Int)} (x : Fr3 d f l H H') (h : SayAt C H p tv n d f l F) : Tx H H' := fun b xs e => by
  obtain ⟨_, h2, ⟨us, h3, _⟩, ⟨ls, h5, _⟩, _⟩ := h
  exact x b _ e (ne_of e h2 (by intro z; cases z)) (ne_of e h3 (by intro z; cases z)) (ne_of e h5 (by intro z; cases z))
def addc (F : List (List Int)) (c : List Int) : List (List Int) := if c ∈ F then F else F ++ [c]
theorem key_inl_inj : ∀ {a b : List Int}, a.map (fun i => (Sum.inl i : Key)) = b.map (fun i => (Sum.inl i : Key)) → a = b
  | [], [], _ => rfl
  | [], _ :: _, h => by simp at h
  | _ :: _, [], h => by simp at h
  | x :: r, y :: q, h => by
    rw [List.map_cons, List.map_cons] at h
    injection h with h1 h2
    injection h1 with h1
    rw [h1, key_inl_inj h2]
theorem kys_yes : ∀ {F : List (List Int)} {c : List Int}, c ∈ F → valV (kys F) (c.map (fun i => (Sum.inl i : Key))) = some (.bl true)
  | [], _, h => by simp at h
  | a :: r, c, h => by
    show valV ((a.map (fun i => (Sum.inl i : Key)), V.bl true) :: kys r) _ = _
    by_cases e : a = c
    · rw [valV_pos (by rw [e])]
    · rw [valV_neg (fun z => e (key_inl_inj z))]
      exact kys_yes ((List.mem_cons.mp h).resolve_left fun z => e z.symm)
theorem kys_no : ∀ {F : List (List Int)} {c : List Int}, c ∉ F → valV (kys F) (c.map (fun i => (Sum.inl i : Key))) = none
  | [], _, _ => rfl
  | a :: r, c, h => by
    show valV ((a.map (fun i => (Sum.inl i : Key)), V.bl true) :: kys r) _ = _
    rw [valV_neg (fun z => h (by rw [key_inl_inj z]; exact List.mem_cons_self))]
    exact kys_no fun z => h (List.mem_cons_of_mem _ z)
theorem key_col (c : List Int) : (c.map (fun i => (Sum.inl i : Key))).map kV = c.map V.int := by
  rw [List.map_map]
  rfl
section
variable {P : Program} {w : World} {K : PySem.W.Frag} {mg : Str → Option Value} {base : Heap}
theorem scInit : FnScope ["self", "table", "size"] ["self", "table", "size"] (defScope sInit) := ⟨rfl, rfl, rfl, by decide +kernel, rfl, by decide +kernel, by decide +kernel⟩
def spInit (C : Addr) : Sp := fun vs H Q _ => ∃ (p dx : Addr) (tv : V) (n : Nat), vs = [.ref p, tv, .int (n : Int)] ∧ H p = some (.ins C dx []) ∧
  ∀ (d f l : Addr) (H' : Hp), H d = none → H f = none → H l = none → SayAt C H' p tv n d f l [] → (∀ b o, H b = some o → b ≠ p → H' b = some o) → Q .non H'
theorem ok_init {fA C : Addr} {fd : FuncData} {k : Nat} (F : Fun K "__init__" "Sayings.__init__" sInit fA fd) (T : Txt K mg C) : FnOk P w K mg base CX0 (k + 1) fA fd ["self", "table", "size"] (spInit C) := by
  refine F.ok scInit (fun vs H Q E h => ?_) (fun cdv A outer s H vs Q E hr h => ?_)
  · obtain ⟨p, dx, tv, n, rfl, _⟩ := h
    rfl
  · obtain ⟨p, dx, tv, n, rfl, hp, q⟩ := h
    have nd := scInit.nd
    refine ⟨_,
      (pss_cons (ps_fld (pv 0) (pv 1) rfl)
      (pss_cons (ps_fld (pv 0) (pv 2) rfl)
      (pss_cons (ps_fld (pv 0) pe_dnewT rfl)
      (pss_cons (ps_fld (pv 0) (pe_lst pa_nil) rfl)
      (pss_one (ps_fld (pv 0) (pe_lst pa_nil) rfl))))))
      , ?_⟩
    -- table, size
    refine ⟨_, rfl, _, rfl, p, C, dx, _, rfl, hp, T.cl, T.nT, (by show 0 < 1000; decide), ?_⟩
    refine ⟨_, rfl, _, rfl, p, C, dx, _, rfl, upd_same, T.cl, T.nS, (by show 1 < 1000; decide), ?_⟩
    rw [upd_upd]
    have l1 : (putF "size" (.int (n : Int)) (putF "table" tv [])).length < 3 := putF_len (by show 1 < 2; decide)
    -- known
    refine fun d hd => ?_
    have npd : p ≠ d := ne_of_none upd_same hd
    have hd0 : H d = none := by rw [upd_ne npd.symm] at hd; exact hd
    refine ⟨_, rfl, p, C, dx, _, rfl, (by rw [upd_ne npd]; exact upd_same), T.cl, T.nK, (by omega), ?_⟩
    -- found
    refine ⟨Nat.zero_le _, fun f hf => ?_⟩
    have npf : p ≠ f := ne_of_none upd_same hf
    have hf1 : (upd (upd H p (.ins C dx (putF "size" (.int (n : Int)) (putF "table" tv [])))) d (.dT [])) f = none := by rw [upd_ne npf.symm] at hf; exact hf
    have ndf : d ≠ f := ne_of_none upd_same hf1
    have hf0 : H f = none := by rw [upd_ne ndf.symm, upd_ne npf.symm] at hf1; exact hf1
    refine ⟨_, rfl, p, C, dx, _, rfl, (by rw [upd_ne npf]; exact upd_same), T.cl, T.nF, (by have := putF_len (g := "known") (v := .ref d) l1; omega), ?_⟩
    -- lines
    refine ⟨Nat.zero_le _, fun l hl => ?_⟩
    have npl : p ≠ l := ne_of_none upd_same hl
    have hl1 := hl
    rw [upd_ne npl.symm] at hl1
    have nfl : f ≠ l := ne_of_none upd_same hl1
    rw [upd_ne nfl.symm, upd_ne npl.symm] at hl1
    have ndl : d ≠ l := ne_of_none upd_same hl1
    have hl0 : H l = none := by rw [upd_ne ndl.symm, upd_ne npl.symm] at hl1; exact hl1
    refine ⟨_, rfl, p, C, dx, _, rfl, (by rw [upd_ne npl]; exact upd_same), T.cl, T.nL, (by have := putF_len (g := "found") (v := .ref f) (putF_len (g := "known") (v := .ref d) l1); omega), ?_⟩
    refine q d f l _ hd0 hf0 hl0 ⟨⟨dx, upd_same⟩, ?_, ⟨[], ?_, .nil⟩, ⟨[], ?_, rfl⟩, nfl⟩ fun b o e hb => ?_
    · rw [upd_ne npd.symm, upd_ne ndl, upd_ne npd.symm, upd_ne ndf, upd_ne npd.symm, upd_same]
      rfl
    · rw [upd_ne npf.symm, upd_ne nfl, upd_ne npf.symm, upd_same]
    · rw [upd_ne npl.symm, upd_same]
    · rw [upd_ne hb, upd_ne (ne_of_none e hl0), upd_ne hb, upd_ne (ne_of_none e hf0), upd_ne hb, upd_ne (ne_of_none e hd0), upd_ne hb]
      exact e
theorem scTake : FnScope ["self", "column", "line"] ["self", "column", "line"] (defScope sTake) := ⟨rfl, rfl, rfl, by decide +kernel, rfl, by decide +kernel, by decide +kernel⟩
def spTake (C : Addr) : Sp := fun vs H Q _ => ∃ (p d f l : Addr) (tv cv lv : V) (m n : Nat) (F : List (List Int)) (c : List Int), vs = [.ref p, cv, lv] ∧ SayAt C H p tv n d f l F ∧ m ≤ 4 ∧ n ≤ 2 ∧ F.Nodup ∧ (∀ a ∈ F, a.length = n ∧ Rg m a) ∧ Col H cv c ∧
  ∀ H' : Hp, Fr3 d f l H H' → SayAt C H' p tv n d f l (addc F c) → Q .non H'
theorem ok_take {fA C : Addr} {fd : FuncData} {k : Nat} {tk : Tok} (F : Fun K "take" "Sayings.take" sTake fA fd) (T : Txt K mg C) (ml : mg "len" = none) (mM : mg "MOST" = some (.int 81 tk)) : FnOk P w K mg base CX0 (k + 1) fA fd ["self", "column", "line"] (spTake C) := by
  refine F.ok scTake (fun vs H Q E h => ?_) (fun cdv A outer s H vs Q E hr h => ?_)
  · obtain ⟨p, d, f, l, tv, cv, lv, m, n, F, c, rfl, _⟩ := h
    rfl
  · obtain ⟨p, d, f, l, tv, cv, lv, m, n, F, c, rfl, S, m1, n1, nF, rF, hc, q⟩ := h
    have nd := scTake.nd
    have hu := hu_of hr
    refine ⟨_,
      (pss_one (ps_if (pt_cmp (pc_dnotin hu (pv 1) (pe_fld (pv 0) rfl)))
      (pss_cons (ps_if (pt_cmpR op_eq (pe_callB (cr_lenK (K := K)) (by rfl) ml (by decide +kernel) (pa_cons (pe_fld (pv 0) rfl) pa_nil)) (pe_glob (v := .int 81) (by rfl) mM ⟨_, rfl⟩) (nomark _))
      (pss_one ps_never)
      pss_nil)
      (pss_cons (ps_dput hu (pe_fld (pv 0) rfl) (pv 1) pe_bl rfl)
      (pss_cons (ps_expr (pe_bm PySem.F.plainAttrs_list PySem.F.slot_list_append PySem.F.type_list_append mt_append (pe_fld (pv 0) rfl) (pa_cons (pv 1) pa_nil)))
      (pss_one (ps_expr (pe_bm PySem.F.plainAttrs_list PySem.F.slot_list_append PySem.F.type_list_append mt_append (pe_fld (pv 0) rfl) (pa_cons (pv 2) pa_nil)))))))
      pss_nil))
      , ?_⟩
    obtain ⟨⟨dx, hp⟩, hd, ⟨us, hf, hP⟩, ⟨ls, hl, hll⟩, nfl⟩ := id S
    obtain ⟨t, rfl, ht⟩ := id hc
    have npd : p ≠ d := ne_of hp hd (by intro z; cases z)
    have npf : p ≠ f := ne_of hp hf (by intro z; cases z)
    have npl : p ≠ l := ne_of hp hl (by intro z; cases z)
    have ndf : d ≠ f := ne_of hd hf (by intro z; cases z)
    have ndl : d ≠ l := ne_of hd hl (by intro z; cases z)
    have ntd : t ≠ d := ne_of ht hd (by intro z; cases z)
    have hlen : F.length ≤ 16 := cols_few m1 n1 nF rF
    have hul := paired_len hP
    refine ⟨_, rfl, _, rfl, p, C, dx, _, _, rfl, hp, T.cl, T.nK, f_known, d, _, rfl, DGet.t (k := c.map (fun i => (Sum.inl i : Key))) hd (by rw [key_col]; exact ht), _, rfl, ?_⟩
    by_cases hin : c ∈ F
    · rw [kys_yes hin]
      refine q H Fr3.refl ?_
      unfold addc
      rw [if_pos hin]
      exact S
    · rw [kys_no hin]
      refine ⟨_, rfl, p, C, dx, _, _, rfl, hp, T.cl, T.nF, f_found, f, us, rfl, .inl (SqL.of hf), rfl, _, rfl, ?_⟩
      refine ite2 (fun e => ?_) (fun _ => ?_)
      · have e' : V.int (us.length : Int) = V.int 81 := of_decide_eq_true e
        injection e' with e'
        omega
      -- known[column] = True
      refine ⟨_, rfl, p, C, dx, _, _, rfl, hp, T.cl, T.nK, f_known, _, rfl, d, _, rfl, DPut.t (k := c.map (fun i => (Sum.inl i : Key))) hd (by rw [key_col]; exact ht) (by show (kys F).length < _; unfold kys; rw [List.length_map, sizeLine_eq]; omega), ?_⟩
      rw [putK_new _ (kys_no hin)]
      have hp1 : (upd H d (.dT (kys F ++ [(c.map (fun i => (Sum.inl i : Key)), V.bl true)]))) p = some (.ins C dx (flds tv n d f l)) := by rw [upd_ne npd]; exact hp
      have hf1 : (upd H d (.dT (kys F ++ [(c.map (fun i => (Sum.inl i : Key)), V.bl true)]))) f = some (.lst us) := by rw [upd_ne ndf.symm]; exact hf
      -- found.append(column)
      refine ⟨_, rfl, p, C, dx, _, _, rfl, hp1, T.cl, T.nF, f_found, .inl ⟨rfl, _, SqL.of hf1⟩, _, rfl, f, us, _, rfl, rfl, hf1, (by rw [sizeLine_eq]; omega), ?_⟩
      -- lines.append(line)
      refine ⟨_, rfl, p, C, dx, _, _, rfl, (by rw [upd_ne npf]; exact hp1), T.cl, T.nL, f_lines, ?_⟩
      have hl1 : (upd (upd H d (.dT (kys F ++ [(c.map (fun i => (Sum.inl i : Key)), V.bl true)]))) f (.lst (us ++ [.ref t]))) l = some (.lst ls) := by rw [upd_ne nfl.symm, upd_ne ndl.symm]; exact hl
      refine ⟨.inl ⟨rfl, _, SqL.of hl1⟩, _, rfl, l, ls, _, rfl, rfl, hl1, (by rw [sizeLine_eq]; omega), ?_⟩
      have tx : Fr3 d f l H (upd (upd (upd H d (.dT (kys F ++ [(c.map (fun i => (Sum.inl i : Key)), V.bl true)]))) f (.lst (us ++ [.ref t]))) l (.lst (ls ++ [lv]))) := fun b o e h1 h2 h3 => by
        rw [upd_ne h3, upd_ne h2, upd_ne h1]
        exact e
      refine q _ tx ?_
      unfold addc
      rw [if_neg hin]
      refine ⟨⟨dx, ?_⟩, ?_, ⟨us ++ [.ref t], ?_, ?_⟩, ⟨ls ++ [lv], upd_same, by simp [hll]⟩, nfl⟩
      · rw [upd_ne npl, upd_ne npf, upd_ne npd]
        exact hp
      · rw [upd_ne ndl, upd_ne ndf, upd_same]
        unfold kys
        rw [List.map_append]
        rfl
      · rw [upd_ne nfl, upd_same]
      · exact paired_snoc (paired_map (fun _ _ h => h.tx (tx.tx S)) hP) (hc.tx (tx.tx S))
end
end K28

/-! Sayings.begin, Sayings.go_on -/
namespace K28
open PySem PySem.Spec PyProof.Rows L2
/-- (v,) * k, k one or two -/
def rRep12 : R2 := fun x y H Q => ∃ l k v, x = .ref l ∧ y = .int k ∧ H l = some (.tup [v]) ∧ 1 ≤ k ∧ k ≤ 2 ∧ ∀ (t : Addr) (H' : Hp), Same H H' → H' t = some (.tup (List.replicate k.toNat v)) → Q (.ref t) H'
theorem op_rep12 {X : Cx} : OpR X (binaryOp .Mult) rRep12 := by
  intro pins s σ H x y v u Q I rx ry h
  obtain ⟨l, k, z, rfl, rfl, hl, k1, k2, q⟩ := h
  by_cases e : k = 1
  · subst e
    exact op_rep01 pins s σ H _ _ v u Q I rx ry ⟨l, 1, [z], rfl, rfl, SqT.of hl, by decide, by decide, fun _ => q l H (Same.refl H) hl, fun h => absurd h (by decide)⟩
  · have e2 : k = 2 := by omega
    subst e2
    exact op_repT pins s σ H _ _ v u Q I rx ry ⟨l, 2, [z], rfl, rfl, SqT.of hl, by simp, by decide, by decide, (by show 1 ≤ 1000; decide), fun p np => q p _ (same_new np) upd_same⟩
/-- a letter's pair -/
def PairAt (H : Hp) (v : V) (c : List Int) : Prop := ∃ t z u, v = .ref t ∧ H t = some (.tup [z, u]) ∧ Col H u c
theorem PairAt.tx {H H' : Hp} {v : V} {c : List Int} (h : PairAt H v c) (t : Tx H H') : PairAt H' v c := by
  obtain ⟨a, z, u, e, h1, h2⟩ := h
  exact ⟨a, z, u, e, t _ _ h1, h2.tx t⟩
/-- what has been taken so far -/
structure Gr (C p : Addr) (tv : V) (n : Nat) (d f l : Addr) (m : Nat) (cons : List Con) (cols : List (List Int)) (H : Hp) (F : List (List Int)) (H' : Hp) (F' : List (List Int)) : Prop where
  fr : Fr3 d f l H H'
  say : SayAt C H' p tv n d f l F'
  nd : F'.Nodup
  sd : ∀ c ∈ F', Said m cons cols n c
  pre : F <+: F'
section
variable {C p : Addr} {tv : V} {n : Nat} {d f l : Addr} {m : Nat} {cons : List Con} {cols : List (List Int)} {H H1 H2 H3 : Hp} {F F1 : List (List Int)}
theorem addc_mem {F : List (List Int)} {c : List Int} : c ∈ addc F c := by
  unfold addc
  by_cases h : c ∈ F
  · rw [if_pos h]; exact h
  · rw [if_neg h]; simp
theorem addc_pre {F : List (List Int)} {c : List Int} : F <+: addc F c := by
  unfold addc
  by_cases h : c ∈ F
  · rw [if_pos h]; exact List.prefix_refl _
  · rw [if_neg h]; exact List.prefix_append _ _
theorem addc_nd {F : List (List Int)} {c : List Int} (h : F.Nodup) : (addc F c).Nodup := by
  unfold addc
  by_cases hc : c ∈ F
  · rw [if_pos hc]; exact h
  · rw [if_neg hc]
    exact nd_snoc h hc
theorem addc_sd {P : List Int → Prop} {F : List (List Int)} {c : List Int} (h : ∀ a ∈ F, P a) (hc : P c) : ∀ a ∈ addc F c, P a := fun a ha => by
  unfold addc at ha
  by_cases e : c ∈ F
  · rw [if_pos e] at ha; exact h a ha
  · rw [if_neg e] at ha
    rcases List.mem_append.mp ha with ha | ha
    · exact h a ha
    · have e : a = c := by simpa using ha
      rw [e]; exact hc
theorem Gr.take {c : List Int} (g : Gr C p tv n d f l m cons cols H F H1 F1) (s : Same H1 H2) (fr : Fr3 d f l H2 H3) (say : SayAt C H3 p tv n d f l (addc F1 c)) (sd : Said m cons cols n c) : Gr C p tv n d f l m cons cols H F H3 (addc F1 c) :=
  ⟨(g.fr.then s).trans fr, say, addc_nd g.nd, addc_sd g.sd sd, g.pre.trans addc_pre⟩
theorem Gr.pre_mem {H' : Hp} {F' : List (List Int)} (g : Gr C p tv n d f l m cons cols H F H' F') {c : List Int} (h : c ∈ F) : c ∈ F' := g.pre.subset h
theorem Gr.get {H' : Hp} {F' : List (List Int)} (g : Gr C p tv n d f l m cons cols H F H' F') {i : Nat} {c : List Int} (h : F[i]? = some c) : F'[i]? = some c := by
  obtain ⟨r, e⟩ := g.pre
  have hi := (List.getElem?_eq_some_iff.mp h).1
  rw [← e, List.getElem?_append_left hi]
  exact h
theorem Gr.trans {H' H'' : Hp} {F' F'' : List (List Int)} (g : Gr C p tv n d f l m cons cols H F H' F') (g' : Gr C p tv n d f l m cons cols H' F' H'' F'') : Gr C p tv n d f l m cons cols H F H'' F'' :=
  ⟨g.fr.trans g'.fr, g'.say, g'.nd, g'.sd, g.pre.trans g'.pre⟩
theorem paired_back {α β : Type} {G : α → β → Prop} : ∀ {l : List α} {l' : List β} {i : Nat} {b : β}, Paired G l l' → l'[i]? = some b → ∃ a, l[i]? = some a ∧ G a b
  | _, _, _, _, .nil, h => by simp at h
  | _, _, 0, _, .cons r _, h => by
    simp at h
    subst h
    exact ⟨_, rfl, r⟩
  | _, _, i + 1, b, .cons _ t, h => by
    obtain ⟨a, h1, h2⟩ := paired_back (i := i) (b := b) t (by simpa using h)
    exact ⟨a, by simpa using h1, h2⟩
end
section
variable {P : Program} {w : World} {K : PySem.W.Frag} {mg : Str → Option Value} {base : Heap}
theorem scBegin : FnScope ["self", "columns", "letter", "column", "name", "places", "cells"] ["self", "columns"] (defScope sBegin) := ⟨rfl, rfl, rfl, by decide +kernel, rfl, by decide +kernel, by decide +kernel⟩
/-- what a call on the sayings' object starts from -/
structure Pre (C p : Addr) (tv : V) (n : Nat) (d f l : Addr) (T : Tab) (cols : List (List Int)) (H : Hp) (F : List (List Int)) : Prop where
  say : SayAt C H p tv n d f l F
  tab : TabAt H tv T
  ok : TabOk T
  n1 : 1 ≤ n
  n2 : n ≤ 2
  col : ∀ c ∈ cols, c.length = n ∧ Rg T.many c
  nd : F.Nodup
  sd : ∀ c ∈ F, Said T.many T.cons cols n c
theorem Pre.gr {C p : Addr} {tv : V} {n : Nat} {d f l : Addr} {T : Tab} {cols : List (List Int)} {H : Hp} {F : List (List Int)} (h : Pre C p tv n d f l T cols H F) : Gr C p tv n d f l T.many T.cons cols H F H F :=
  ⟨Fr3.refl, h.say, h.nd, h.sd, List.prefix_refl _⟩
def spBegin (C : Addr) : Sp := fun vs H Q _ => ∃ (p cc d f l : Addr) (tv : V) (n : Nat) (T : Tab) (cols : List (List Int)) (ps : List V), vs = [.ref p, .ref cc] ∧ Pre C p tv n d f l T cols H [] ∧ H cc = some (.tup ps) ∧ Paired (PairAt H) ps cols ∧
  ∀ (H' : Hp) (F' : List (List Int)), Gr C p tv n d f l T.many T.cons cols H [] H' F' → (∀ c ∈ cols, c ∈ F') → (∀ k ∈ T.cons, k.pl = 0 → jn T.many k.cells [] n ∈ F') → Q .non H'
theorem ok_begin {fA C fT : Addr} {fd fdT : FuncData} {k : Nat} (F : Fun K "begin" "Sayings.begin" sBegin fA fd) (T : Txt K mg C)
    (mTk : Meth K C "take" fT) (bTk : Binds K fdT ["self", "column", "line"] []) (GTk : FnOk P w K mg base CX0 k fT fdT ["self", "column", "line"] (spTake C)) : FnOk P w K mg base CX0 (k + 1) fA fd ["self", "columns"] (spBegin C) := by
  refine F.ok scBegin (fun vs H Q E h => ?_) (fun cdv A outer s H vs Q E hr h => ?_)
  · obtain ⟨p, cc, d, f, l, tv, n, Tb, cols, ps, rfl, _⟩ := h
    rfl
  · obtain ⟨p, cc, d, f, l, tv, n, Tb, cols, ps, rfl, pr, hcc, hps, q⟩ := h
    have nd := scBegin.nd
    refine ⟨_,
      (pss_cons (ps_for PassesOwn.never (by rfl) (pi_tupK (K := K) (pv 1)) (pg_tup (by rfl) (pgs_cons (pg_name (i := 2) nd rfl (.inl rfl)) (pgs_cons (pg_name (i := 3) nd rfl (.inl rfl)) pgs_nil)))
      (pss_one (ps_expr (pe_meth (pv 0) T.cl mTk GTk hr bTk .nil pass0 (pa_cons (pv 3) (pa_cons (pv 2) pa_nil))))))
      (pss_one (ps_for PassesOwn.never (by rfl) (pi_tupK (K := K) (pe_ix (ix_tupK (K := K)) (pe_fld (pv 0) rfl) pe_int (fun _ _ => rfl))) (pg_tup (by rfl) (pgs_cons (pg_name (i := 4) nd rfl (.inl rfl)) (pgs_cons (pg_name (i := 5) nd rfl (.inl rfl)) (pgs_cons (pg_name (i := 6) nd rfl (.inl rfl)) pgs_nil))))
      (pss_one (ps_if (pt_cmpR op_eq (pv 5) pe_int (nomark _))
      (pss_one (ps_expr (pe_meth (pv 0) T.cl mTk GTk hr bTk .nil pass0 (pa_cons (pe_op op_rep12 (pe_tup (pa_cons (pe_ix (ix_tupK (K := K)) (pv 6) pe_int (fun _ _ => rfl)) pa_nil)) (pe_fld (pv 0) rfl)) (pa_cons (pe_tup (pa_cons (pv 4) pa_nil)) pa_nil)))))
      pss_nil)))))
      , ?_⟩
    have m1 := pr.ok.hi
    have rg : ∀ {c}, Said Tb.many Tb.cons cols n c → c.length = n ∧ Rg Tb.many c := fun h => said_rg pr.ok.ok pr.col h
    obtain ⟨t, wa, ca, ws, cs, rfl, ht, hwa, _, hca, hcs⟩ := pr.tab.ex
    -- for letter, column in columns
    refine ⟨_, rfl, cc, rfl, ⟨ps, SqT.of hcc⟩, for_tup (K := K) (a := cc) (xs := ps)
      (fun i σ H2 => ∃ (v2 v3 : Option V) (F2 : List (List Int)), σ = [some (.ref p), some (.ref cc), v2, v3, none, none, none] ∧ Gr C p (.ref t) n d f l Tb.many Tb.cons cols H [] H2 F2 ∧ ∀ c ∈ cols.take i, c ∈ F2)
      ⟨none, none, [], rfl, pr.gr, fun c hc => by simp at hc⟩ (fun i σ H2 _ hw => by obtain ⟨_, _, _, _, g, _⟩ := hw; exact SqT.of (g.fr.tx pr.say _ _ hcc)) ?_ ?_⟩
    · rintro i x σ H2 hi ⟨v2, v3, F2, rfl, g, hm⟩
      obtain ⟨c, hc, t2, z, u, rfl, ht2, hu⟩ := paired_at hps hi
      have tx := g.fr.tx pr.say
      refine ⟨t2, _, rfl, SqT.of (tx _ _ ht2), rfl, _, _, rfl, _, _, rfl, rfl, ?_⟩
      obtain ⟨dx, hp⟩ := g.say.ob
      have hsd : Said Tb.many Tb.cons cols n c := .col (List.mem_of_getElem? hc)
      refine ⟨_, rfl, p, dx, _, rfl, hp, f_take, _, rfl, _, rfl, ?_⟩
      refine ⟨p, d, f, l, .ref t, u, z, Tb.many, n, F2, c, rfl, g.say, m1, pr.n2, g.nd, fun a ha => rg (g.sd a ha), hu.tx tx, fun H3 fr say => ?_⟩
      refine ⟨_, _, _, rfl, g.take (Same.refl _) fr say hsd, fun b hb => ?_⟩
      rw [take_snoc hc] at hb
      rcases List.mem_append.mp hb with hb | hb
      · exact addc_pre.subset (hm b hb)
      · have e : b = c := by simpa using hb
        rw [e]
        exact addc_mem
    rintro σ H2 ⟨v2, v3, F2, rfl, g2, hm⟩
    have hcols : ∀ c ∈ cols, c ∈ F2 := fun c hc => hm c (by rw [paired_len hps, List.take_length]; exact hc)
    -- for name, places, cells in self.table[2]
    obtain ⟨dx, hp⟩ := g2.say.ob
    have tx2 := g2.fr.tx pr.say
    refine ⟨_, rfl, p, C, dx, _, _, rfl, hp, T.cl, T.nT, f_table, t, _, 2, _, rfl, rfl, SqT.of (tx2 _ _ ht), atI_nat (j := 2) rfl, ca, rfl, ⟨cs, SqT.of (tx2 _ _ hca)⟩, for_tup (K := K) (a := ca) (xs := cs)
      (fun i σ H3 => ∃ (v2 v3 v4 v5 v6 : Option V) (F3 : List (List Int)), σ = [some (.ref p), some (.ref cc), v2, v3, v4, v5, v6] ∧ Gr C p (.ref t) n d f l Tb.many Tb.cons cols H [] H3 F3 ∧ (∀ c ∈ cols, c ∈ F3) ∧ ∀ k ∈ Tb.cons.take i, k.pl = 0 → jn Tb.many k.cells [] n ∈ F3)
      ⟨v2, v3, none, none, none, F2, rfl, g2, hcols, fun k hk => by simp at hk⟩ (fun i σ H3 _ hw => by obtain ⟨_, _, _, _, _, _, _, g, _⟩ := hw; exact SqT.of (g.fr.tx pr.say _ _ hca)) ?_ ?_⟩
    · rintro i x σ H3 hi ⟨v2, v3, v4, v5, v6, F3, rfl, g, hc3, hk3⟩
      obtain ⟨c, hc, t2, q2, rfl, ht2, hq2⟩ := paired_at hcs hi
      have tx := g.fr.tx pr.say
      have hkc := pr.ok.ok c (List.mem_of_getElem? hc)
      refine ⟨t2, _, rfl, SqT.of (tx _ _ ht2), rfl, _, _, rfl, _, _, rfl, _, _, rfl, rfl, ?_⟩
      refine ⟨_, rfl, rfl, _, rfl, ?_⟩
      refine ite2 (fun e => ?_) (fun e => ?_)
      · have e' : V.int (c.pl : Int) = V.int 0 := of_decide_eq_true e
        have hpl : c.pl = 0 := by injection e' with e'; omega
        have hcl : c.cells.length = 1 := by rw [hkc.len, hpl, Nat.pow_zero]
        obtain ⟨dx3, hp3⟩ := g.say.ob
        refine ⟨_, rfl, p, dx3, _, rfl, hp3, f_take, _, rfl, q2, _, 0, _, rfl, rfl, SqT.of (tx _ _ hq2), atI_ints (Int.le_refl _) (by rw [hcl]; decide), (by show 1 ≤ sizeLine; decide), fun b nb => ?_⟩
        have sb : Same H3 (upd H3 b (.tup [.int (cat c.cells 0)])) := same_new nb
        refine ⟨_, rfl, p, C, dx3, _, _, rfl, sb _ _ hp3, T.cl, T.nS, f_size, ?_⟩
        refine ⟨b, (n : Int), _, rfl, rfl, upd_same, by have := pr.n1; omega, by have := pr.n2; omega, fun t3 H4 s4 ht3 => ?_⟩
        have s34 := sb.trans s4
        have hcol : Col H4 (.ref t3) (jn Tb.many c.cells [] n) := by
          refine ⟨t3, rfl, ?_⟩
          rw [ht3]
          have e2 : ((n : Int)).toNat = n := by omega
          rw [e2]
          congr 2
          unfold jn
          rw [List.map_map]
          refine (List.eq_replicate_iff.mpr ⟨by simp, fun b hb => ?_⟩).symm
          obtain ⟨_, _, rfl⟩ := List.mem_map.mp hb
          rfl
        have hsd : Said Tb.many Tb.cons cols n (jn Tb.many c.cells [] n) := .app (List.mem_of_getElem? hc) (by rw [hpl]; rfl) (fun a ha => by simp at ha)
        refine ⟨_, rfl, (by show 1 ≤ sizeLine; decide), fun b2 nb2 => ?_⟩
        have s5 := s34.trans (same_new (o := .tup [.str c.nm]) nb2)
        refine ⟨p, d, f, l, .ref t, .ref t3, _, Tb.many, n, F3, _, rfl, g.say.same s5, m1, pr.n2, g.nd, fun a ha => rg (g.sd a ha), hcol.tx (tx_new nb2), fun H6 fr say => ?_⟩
        refine ⟨_, _, _, _, _, _, rfl, g.take s5 fr say hsd, fun a ha => addc_pre.subset (hc3 a ha), fun k hk hk0 => ?_⟩
        rw [take_snoc hc] at hk
        rcases List.mem_append.mp hk with hk | hk
        · exact addc_pre.subset (hk3 k hk hk0)
        · have e : k = c := by simpa using hk
          rw [e]
          exact addc_mem
      · refine ⟨_, _, _, _, _, F3, rfl, g, hc3, fun k hk hk0 => ?_⟩
        rw [take_snoc hc] at hk
        rcases List.mem_append.mp hk with hk | hk
        · exact hk3 k hk hk0
        · have e2 : k = c := by simpa using hk
          rw [e2] at hk0
          exact absurd (decide_eq_true (by rw [hk0]; rfl)) e
    · rintro σ H3 ⟨v2, v3, v4, v5, v6, F3, rfl, g, hc3, hk3⟩
      exact q H3 F3 g hc3 fun k hk => hk3 k (by rw [paired_len hcs, List.take_length]; exact hk)
end
end K28

/-! Sayings.go_on -/
namespace K28
open PySem PySem.Spec PyProof.Rows L2
theorem mem1 {α : Type} {P : α → Prop} {x : α} (h : P x) : ∀ a ∈ [x], P a := fun a ha => by
  have e : a = x := by simpa using ha
  rw [e]; exact h
theorem mem2 {α : Type} {P : α → Prop} {x y : α} (h : P x) (h' : P y) : ∀ a ∈ [x, y], P a := fun a ha => by
  have e : a = x ∨ a = y := by simpa using ha
  rcases e with e | e
  · rw [e]; exact h
  · rw [e]; exact h'
theorem one_le {α : Type} {x : α} : 1 ≤ [x].length ∧ [x].length ≤ 2 := ⟨Nat.le_refl _, by show 1 ≤ 2; decide⟩
theorem two_le {α : Type} {x y : α} : 1 ≤ [x, y].length ∧ [x, y].length ≤ 2 := ⟨by show 1 ≤ 2; decide, Nat.le_refl _⟩
section
variable {P : Program} {w : World} {K : PySem.W.Frag} {mg : Str → Option Value} {base : Heap}
theorem scGoOn : FnScope ["self", "at", "many", "name", "places", "cells", "other"] ["self", "at"] (defScope sGoOn) := ⟨rfl, rfl, rfl, by decide +kernel, rfl, by decide +kernel, by decide +kernel⟩
/-- what one connective gives x, with those ahead of it -/
def Both (m n : Nat) (F0 : List (List Int)) (x : List Int) (k : Con) (j : Nat) (F : List (List Int)) : Prop := ∀ (i : Nat) (y : List Int), i < j → F0[i]? = some y → jn m k.cells [x, y] n ∈ F ∧ jn m k.cells [y, x] n ∈ F
theorem Both.mono {m n : Nat} {F0 : List (List Int)} {x : List Int} {k : Con} {j : Nat} {F F' : List (List Int)} (h : Both m n F0 x k j F) (s : ∀ c ∈ F, c ∈ F') : Both m n F0 x k j F' := fun i y hi hy => ⟨s _ (h i y hi hy).1, s _ (h i y hi hy).2⟩
def spGoOn (C : Addr) : Sp := fun vs H Q _ => ∃ (p d f l : Addr) (tv : V) (n : Nat) (T : Tab) (cols : List (List Int)) (F : List (List Int)) (i : Nat) (x : List Int), vs = [.ref p, .int (i : Int)] ∧ Pre C p tv n d f l T cols H F ∧ F[i]? = some x ∧
  ∀ (H' : Hp) (F' : List (List Int)), Gr C p tv n d f l T.many T.cons cols H F H' F' → (∀ k ∈ T.cons, k.pl = 1 → jn T.many k.cells [x] n ∈ F') → (∀ k ∈ T.cons, k.pl = 2 → Both T.many n F x k (i + 1) F') → Q .non H'
theorem ok_goon {fA C fT fJ : Addr} {fd fdT fdJ : FuncData} {k : Nat} (F : Fun K "go_on" "Sayings.go_on" sGoOn fA fd) (T : Txt K mg C)
    (mTk : Meth K C "take" fT) (bTk : Binds K fdT ["self", "column", "line"] []) (GTk : FnOk P w K mg base CX0 k fT fdT ["self", "column", "line"] (spTake C))
    (FJ : Fun K "joined" "joined" sJoined fJ fdJ) (bJ : Binds K fdJ ["many", "cells", "columns"] []) (gJ : mg "joined" = some (.ref fJ)) (GJ : FnOk P w K mg base CX0 k fJ fdJ ["many", "cells", "columns"] spJoined)
    (mr : mg "range" = none) : FnOk P w K mg base CX0 (k + 1) fA fd ["self", "at"] (spGoOn C) := by
  refine F.ok scGoOn (fun vs H Q E h => ?_) (fun cdv A outer s H vs Q E hr h => ?_)
  · obtain ⟨p, d, f, l, tv, n, Tb, cols, F0, i0, x0, rfl, _⟩ := h
    rfl
  · obtain ⟨p, d, f, l, tv, n, Tb, cols, F0, i0, x0, rfl, pr, hx0, q⟩ := h
    have nd := scGoOn.nd
    refine ⟨_,
      (pss_cons (ps_set (i := 2) nd rfl (.inl rfl) (pe_ix (ix_tupK (K := K)) (pe_fld (pv 0) rfl) pe_int (fun _ _ => rfl)))
      (pss_one (ps_for PassesOwn.never (by rfl) (pi_tupK (K := K) (pe_ix (ix_tupK (K := K)) (pe_fld (pv 0) rfl) pe_int (fun _ _ => rfl))) (pg_tup (by rfl) (pgs_cons (pg_name (i := 3) nd rfl (.inl rfl)) (pgs_cons (pg_name (i := 4) nd rfl (.inl rfl)) (pgs_cons (pg_name (i := 5) nd rfl (.inl rfl)) pgs_nil))))
      (pss_cons (ps_if (pt_cmpR op_eq (pv 4) pe_int (nomark _))
      (pss_one (ps_expr (pe_meth (pv 0) T.cl mTk GTk hr bTk .nil pass0 (pa_cons (pe_call GJ hr (by rfl) gJ FJ.kp bJ .nil pass0 (pa_cons (pv 2) (pa_cons (pv 5) (pa_cons (pe_lst (pa_cons (pe_ix (ix_listK (K := K)) (pe_fld (pv 0) rfl) (pv 1) (fun _ _ => rfl)) pa_nil)) pa_nil)))) (pa_cons (pe_tup (pa_cons (pv 3) (pa_cons (pv 1) pa_nil))) pa_nil)))))
      pss_nil)
      (pss_one (ps_if (pt_cmpR op_eq (pv 4) pe_int (nomark _))
      (pss_one (ps_for PassesOwn.never (by rfl) (pi_range1 (by rfl) mr (pa_cons (pe_op op_add (pv 1) pe_int) pa_nil)) (pg_name (i := 6) nd rfl (.inl rfl))
      (pss_cons (ps_expr (pe_meth (pv 0) T.cl mTk GTk hr bTk .nil pass0 (pa_cons (pe_call GJ hr (by rfl) gJ FJ.kp bJ .nil pass0 (pa_cons (pv 2) (pa_cons (pv 5) (pa_cons (pe_lst (pa_cons (pe_ix (ix_listK (K := K)) (pe_fld (pv 0) rfl) (pv 1) (fun _ _ => rfl)) (pa_cons (pe_ix (ix_listK (K := K)) (pe_fld (pv 0) rfl) (pv 6) (fun _ _ => rfl)) pa_nil))) pa_nil)))) (pa_cons (pe_tup (pa_cons (pv 3) (pa_cons (pv 1) (pa_cons (pv 6) pa_nil)))) pa_nil))))
      (pss_one (ps_expr (pe_meth (pv 0) T.cl mTk GTk hr bTk .nil pass0 (pa_cons (pe_call GJ hr (by rfl) gJ FJ.kp bJ .nil pass0 (pa_cons (pv 2) (pa_cons (pv 5) (pa_cons (pe_lst (pa_cons (pe_ix (ix_listK (K := K)) (pe_fld (pv 0) rfl) (pv 6) (fun _ _ => rfl)) (pa_cons (pe_ix (ix_listK (K := K)) (pe_fld (pv 0) rfl) (pv 1) (fun _ _ => rfl)) pa_nil))) pa_nil)))) (pa_cons (pe_tup (pa_cons (pv 3) (pa_cons (pv 6) (pa_cons (pv 1) pa_nil)))) pa_nil))))))))
      pss_nil))))))
      , ?_⟩
    have m1 := pr.ok.hi
    have rg : ∀ {c}, Said Tb.many Tb.cons cols n c → c.length = n ∧ Rg Tb.many c := fun h => said_rg pr.ok.ok pr.col h
    have hi0 : i0 < F0.length := (List.getElem?_eq_some_iff.mp hx0).1
    have hF0 : F0.length ≤ 16 := cols_few m1 pr.n2 pr.nd fun a ha => rg (pr.sd a ha)
    have sx0 := pr.sd x0 (List.mem_of_getElem? hx0)
    obtain ⟨t, wa, ca, ws, cs, rfl, ht, hwa, _, hca, hcs⟩ := pr.tab.ex
    -- many
    obtain ⟨dx, hp⟩ := pr.say.ob
    refine ⟨_, rfl, p, C, dx, _, _, rfl, hp, T.cl, T.nT, f_table, t, _, 0, _, rfl, rfl, SqT.of ht, atI_nat (j := 0) rfl, ?_⟩
    -- for name, places, cells in self.table[2]
    refine ⟨_, rfl, p, C, dx, _, _, rfl, hp, T.cl, T.nT, f_table, t, _, 2, _, rfl, rfl, SqT.of ht, atI_nat (j := 2) rfl, ca, rfl, ⟨cs, SqT.of hca⟩, for_tup (K := K) (a := ca) (xs := cs)
      (fun i σ H3 => ∃ (v3 v4 v5 v6 : Option V) (F3 : List (List Int)), σ = [some (.ref p), some (.int (i0 : Int)), some (.int (Tb.many : Int)), v3, v4, v5, v6] ∧ Gr C p (.ref t) n d f l Tb.many Tb.cons cols H F0 H3 F3 ∧
        (∀ k ∈ Tb.cons.take i, k.pl = 1 → jn Tb.many k.cells [x0] n ∈ F3) ∧ (∀ k ∈ Tb.cons.take i, k.pl = 2 → Both Tb.many n F0 x0 k (i0 + 1) F3))
      ⟨none, none, none, none, F0, rfl, pr.gr, (fun k hk => by simp at hk), (fun k hk => by simp at hk)⟩ (fun i σ H3 _ hw => by obtain ⟨_, _, _, _, _, _, g, _⟩ := hw; exact SqT.of (g.fr.tx pr.say _ _ hca)) ?_ ?_⟩
    · rintro i x σ H3 hi ⟨v3, v4, v5, v6, F3, rfl, g, hk3, hb3⟩
      obtain ⟨c, hc, t2, q2, rfl, ht2, hq2⟩ := paired_at hcs hi
      have tx := g.fr.tx pr.say
      have hcm := List.mem_of_getElem? hc
      have hkc := pr.ok.ok c hcm
      refine ⟨t2, _, rfl, SqT.of (tx _ _ ht2), rfl, _, _, rfl, _, _, rfl, _, _, rfl, rfl, ?_⟩
      -- if places == 1
      refine ⟨_, rfl, rfl, _, rfl, ?_⟩
      refine ite2 (fun e => ?_) (fun e => ?_)
      · have e' : V.int (c.pl : Int) = V.int 1 := of_decide_eq_true e
        have hpl : c.pl = 1 := by injection e' with e'; omega
        obtain ⟨dx3, hp3⟩ := g.say.ob
        obtain ⟨us, hf3, hP3⟩ := g.say.fo
        obtain ⟨u, hu, hcu⟩ := paired_back hP3 (g.get hx0)
        refine ⟨_, rfl, p, dx3, _, rfl, hp3, f_take, _, rfl, _, rfl, _, rfl, p, C, dx3, _, _, rfl, hp3, T.cl, T.nF, f_found, _, rfl, f, us, _, u, rfl, rfl, SqL.of hf3, atI_nat hu, (by show 1 ≤ sizeLine; decide), fun b nb => ?_⟩
        have sb : Same H3 (upd H3 b (.lst [u])) := same_new nb
        refine ⟨Tb.many, n, q2, b, c.cells, [u], [x0], rfl, m1, pr.n2, sb _ _ (tx _ _ hq2), upd_same, .cons (hcu.tx (same_tx sb)) .nil, one_le.1, one_le.2, mem1 (rg sx0), by rw [hkc.len, hpl] <;> rfl, fun v H4 s4 hv => ?_⟩
        refine ⟨_, rfl, _, rfl, (by show 2 ≤ sizeLine; decide), fun b2 nb2 => ?_⟩
        have s5 := (sb.trans s4).trans (same_new (o := .tup [.str c.nm, .int (i0 : Int)]) nb2)
        have hsd : Said Tb.many Tb.cons cols n (jn Tb.many c.cells [x0] n) := .app hcm (by rw [hpl]; rfl) (mem1 sx0)
        refine ⟨p, d, f, l, .ref t, v, _, Tb.many, n, F3, _, rfl, g.say.same s5, m1, pr.n2, g.nd, fun a ha => rg (g.sd a ha), hv.tx (tx_new nb2), fun H6 fr say => ?_⟩
        -- if places == 2: no
        have hne : ¬ decide (V.int (c.pl : Int) = V.int 2) = true := fun z => by
          have z' : V.int (c.pl : Int) = V.int 2 := of_decide_eq_true z
          injection z' with z'
          omega
        refine ⟨_, rfl, rfl, _, rfl, ?_⟩
        refine ite2 (fun z => absurd z hne) (fun _ => ?_)
        refine ⟨_, _, _, _, _, rfl, g.take s5 fr say hsd, fun k hk hk1 => ?_, fun k hk hk2 => ?_⟩
        · rw [take_snoc hc] at hk
          rcases List.mem_append.mp hk with hk | hk
          · exact addc_pre.subset (hk3 k hk hk1)
          · have e : k = c := by simpa using hk
            rw [e]
            exact addc_mem
        · rw [take_snoc hc] at hk
          rcases List.mem_append.mp hk with hk | hk
          · exact (hb3 k hk hk2).mono fun a ha => addc_pre.subset ha
          · have e : k = c := by simpa using hk
            rw [e] at hk2
            omega
      -- if places == 2
      have hn1 : c.pl ≠ 1 := fun z => e (decide_eq_true (by rw [z]; rfl))
      refine ⟨_, rfl, rfl, _, rfl, ?_⟩
      refine ite2 (fun e2 => ?_) (fun e2 => ?_)
      · have e' : V.int (c.pl : Int) = V.int 2 := of_decide_eq_true e2
        have hpl : c.pl = 2 := by injection e' with e'; omega
        -- for other in range(at + 1)
        refine ⟨_, rfl, _, _, rfl, rfl, _, rfl, by omega, by omega, for_range (n := ((i0 : Int) + 1).toNat)
          (fun j σ H4 => ∃ (v3 v4 v6 : Option V) (F4 : List (List Int)), σ = [some (.ref p), some (.int (i0 : Int)), some (.int (Tb.many : Int)), some (.str c.nm), v4, some (.ref q2), v6] ∧ Gr C p (.ref t) n d f l Tb.many Tb.cons cols H F0 H4 F4 ∧ (∀ a ∈ F3, a ∈ F4) ∧ Both Tb.many n F0 x0 c j F4)
          ⟨none, _, _, F3, rfl, g, (fun a ha => ha), (fun i y h => absurd h (Nat.not_lt_zero _))⟩ ?_ ?_⟩
        · rintro j σ H4 hj ⟨v3, v4, v6, F4, rfl, g4, hs4, hb4⟩
          have hji : j < F0.length := by omega
          obtain ⟨y, hy⟩ : ∃ y, F0[j]? = some y := ⟨F0[j], List.getElem?_eq_getElem hji⟩
          have sy := pr.sd y (List.mem_of_getElem? hy)
          have tx4 := g4.fr.tx pr.say
          have ej : (0 + (j : Int)) = (j : Int) := by omega
          -- take(joined(many, cells, [found[at], found[other]]), (name, at, other))
          obtain ⟨dx4, hp4⟩ := g4.say.ob
          obtain ⟨us, hf4, hP4⟩ := g4.say.fo
          obtain ⟨u, hu, hcu⟩ := paired_back hP4 (g4.get hx0)
          obtain ⟨v, hv, hcv⟩ := paired_back hP4 (g4.get hy)
          refine ⟨_, rfl, p, dx4, _, rfl, hp4, f_take, _, rfl, _, rfl, _, rfl, p, C, dx4, _, _, rfl, hp4, T.cl, T.nF, f_found, _, rfl, f, us, _, u, rfl, rfl, SqL.of hf4, atI_nat hu,
            _, rfl, p, C, dx4, _, _, rfl, hp4, T.cl, T.nF, f_found, _, rfl, f, us, _, v, rfl, rfl, SqL.of hf4, at_of ej hv, (by show 2 ≤ sizeLine; decide), fun b nb => ?_⟩
          have sb : Same H4 (upd H4 b (.lst [u, v])) := same_new nb
          refine ⟨Tb.many, n, q2, b, c.cells, [u, v], [x0, y], rfl, m1, pr.n2, sb _ _ (tx4 _ _ hq2), upd_same, .cons (hcu.tx (same_tx sb)) (.cons (hcv.tx (same_tx sb)) .nil), two_le.1, two_le.2, mem2 (rg sx0) (rg sy), by rw [hkc.len, hpl] <;> rfl, fun z H5 s5 hz => ?_⟩
          refine ⟨_, rfl, _, rfl, _, rfl, (by show 3 ≤ sizeLine; decide), fun b2 nb2 => ?_⟩
          have s6 := (sb.trans s5).trans (same_new (o := .tup [.str c.nm, .int (i0 : Int), .int (0 + (j : Int))]) nb2)
          have hsd : Said Tb.many Tb.cons cols n (jn Tb.many c.cells [x0, y] n) := .app hcm (by rw [hpl]; rfl) (mem2 sx0 sy)
          refine ⟨p, d, f, l, .ref t, z, _, Tb.many, n, F4, _, rfl, g4.say.same s6, m1, pr.n2, g4.nd, fun a ha => rg (g4.sd a ha), hz.tx (tx_new nb2), fun H7 fr7 say7 => ?_⟩
          have g7 := g4.take s6 fr7 say7 hsd
          have tx7 := g7.fr.tx pr.say
          -- the other way round
          obtain ⟨dx7, hp7⟩ := g7.say.ob
          obtain ⟨us7, hf7, hP7⟩ := g7.say.fo
          obtain ⟨u7, hu7, hcu7⟩ := paired_back hP7 (g7.get hx0)
          obtain ⟨v7, hv7, hcv7⟩ := paired_back hP7 (g7.get hy)
          refine ⟨_, rfl, p, dx7, _, rfl, hp7, f_take, _, rfl, _, rfl, _, rfl, p, C, dx7, _, _, rfl, hp7, T.cl, T.nF, f_found, _, rfl, f, us7, _, v7, rfl, rfl, SqL.of hf7, at_of ej hv7,
            _, rfl, p, C, dx7, _, _, rfl, hp7, T.cl, T.nF, f_found, _, rfl, f, us7, _, u7, rfl, rfl, SqL.of hf7, atI_nat hu7, (by show 2 ≤ sizeLine; decide), fun b8 nb8 => ?_⟩
          have sb8 : Same H7 (upd H7 b8 (.lst [v7, u7])) := same_new nb8
          refine ⟨Tb.many, n, q2, b8, c.cells, [v7, u7], [y, x0], rfl, m1, pr.n2, sb8 _ _ (tx7 _ _ hq2), upd_same, .cons (hcv7.tx (same_tx sb8)) (.cons (hcu7.tx (same_tx sb8)) .nil), two_le.1, two_le.2, mem2 (rg sy) (rg sx0), by rw [hkc.len, hpl] <;> rfl, fun z8 H9 s9 hz8 => ?_⟩
          refine ⟨_, rfl, _, rfl, _, rfl, (by show 3 ≤ sizeLine; decide), fun b9 nb9 => ?_⟩
          have s10 := (sb8.trans s9).trans (same_new (o := .tup [.str c.nm, .int (0 + (j : Int)), .int (i0 : Int)]) nb9)
          have hsd2 : Said Tb.many Tb.cons cols n (jn Tb.many c.cells [y, x0] n) := .app hcm (by rw [hpl]; rfl) (mem2 sy sx0)
          refine ⟨p, d, f, l, .ref t, z8, _, Tb.many, n, _, _, rfl, g7.say.same s10, m1, pr.n2, g7.nd, fun a ha => rg (g7.sd a ha), hz8.tx (tx_new nb9), fun H11 fr11 say11 => ?_⟩
          refine ⟨none, _, _, _, rfl, g7.take s10 fr11 say11 hsd2, fun a ha => addc_pre.subset (addc_pre.subset (hs4 a ha)), fun i' y' hi' hy' => ?_⟩
          by_cases ei : i' = j
          · subst ei
            rw [hy] at hy'
            cases hy'
            exact ⟨addc_pre.subset addc_mem, addc_mem⟩
          · obtain ⟨h1, h2⟩ := hb4 i' y' (by omega) hy'
            exact ⟨addc_pre.subset (addc_pre.subset h1), addc_pre.subset (addc_pre.subset h2)⟩
        · rintro σ H4 ⟨v3, v4, v6, F4, rfl, g4, hs4, hb4⟩
          refine ⟨_, _, _, _, F4, rfl, g4, fun k hk hk1 => ?_, fun k hk hk2 => ?_⟩
          · rw [take_snoc hc] at hk
            rcases List.mem_append.mp hk with hk | hk
            · exact hs4 _ (hk3 k hk hk1)
            · have e : k = c := by simpa using hk
              rw [e] at hk1
              omega
          · rw [take_snoc hc] at hk
            rcases List.mem_append.mp hk with hk | hk
            · exact (hb3 k hk hk2).mono hs4
            · have e : k = c := by simpa using hk
              rw [e]
              have e3 : ((i0 : Int) + 1).toNat = i0 + 1 := by omega
              rw [e3] at hb4
              exact hb4
      · have hn2 : c.pl ≠ 2 := fun z => e2 (decide_eq_true (by rw [z]; rfl))
        refine ⟨_, _, _, _, F3, rfl, g, fun k hk hk1 => ?_, fun k hk hk2 => ?_⟩
        · rw [take_snoc hc] at hk
          rcases List.mem_append.mp hk with hk | hk
          · exact hk3 k hk hk1
          · have e : k = c := by simpa using hk
            rw [e] at hk1
            exact absurd hk1 hn1
        · rw [take_snoc hc] at hk
          rcases List.mem_append.mp hk with hk | hk
          · exact hb3 k hk hk2
          · have e : k = c := by simpa using hk
            rw [e] at hk2
            exact absurd hk2 hn2
    · rintro σ H3 ⟨v3, v4, v5, v6, F3, rfl, g, hk3, hb3⟩
      exact q H3 F3 g (fun k hk => hk3 k (by rw [paired_len hcs, List.take_length]; exact hk)) (fun k hk => hb3 k (by rw [paired_len hcs, List.take_length]; exact hk))
end
end K28

/-! sayable -/
namespace K28
open PySem PySem.Spec PyProof.Rows L2
/-! ### columns as data -/
def datC (c : List Int) : PyData := .tuple (c.map PyData.int)
theorem eqvAll_ints : ∀ a b : List Int, PyData.eqvAll (a.map PyData.int) (b.map PyData.int) = decide (a = b)
  | [], [] => by simp [PyData.eqvAll]
  | [], _ :: _ => by simp [PyData.eqvAll]
  | _ :: _, [] => by simp [PyData.eqvAll]
  | x :: r, y :: q => by
    rw [List.map_cons, List.map_cons]
    simp only [PyData.eqvAll, PyData.eqv, eqvAll_ints r q]
    by_cases h : x = y
    · by_cases h2 : r = q
      · simp [h, h2]
      · simp [h, h2]
    · simp [h]
theorem eqv_col (a b : List Int) : PyData.eqv (datC a) (datC b) = decide (a = b) := by
  unfold datC
  simp only [PyData.eqv]
  exact eqvAll_ints a b
theorem lay_ints : ∀ a : List Int, PyData.canLayAll0 (a.map PyData.int) = true
  | [] => by simp [PyData.canLayAll0]
  | x :: r => by simp [PyData.canLayAll0, PyData.canLay0, lay_ints r]
theorem depth_ints : ∀ a : List Int, PyData.depthAll (a.map PyData.int) = 0
  | [] => by simp [PyData.depthAll]
  | x :: r => by simp [PyData.depthAll, PyData.depth, depth_ints r]
theorem lay_cols : ∀ F : List (List Int), PyData.canLayAll0 (F.map datC) = true
  | [] => by simp [PyData.canLayAll0]
  | x :: r => by simp [PyData.canLayAll0, PyData.canLay0, datC, lay_ints x, lay_cols r]
theorem depth_cols : ∀ F : List (List Int), PyData.depthAll (F.map datC) ≤ 1
  | [] => by simp [PyData.depthAll]
  | x :: r => by
    have := depth_cols r
    simp only [List.map_cons, PyData.depthAll, datC, PyData.depth, depth_ints x]
    omega
theorem shaped_col (c : List Int) : SeqAt.shaped (datC c) = true := by
  show ((datC c).canLay0 && decide ((datC c).depth ≤ 64)) = true
  simp [datC, PyData.canLay0, PyData.depth, lay_ints c, depth_ints c]
theorem shaped_cols (F : List (List Int)) : SeqAt.shaped (.list (F.map datC)) = true := by
  have e1 : (PyData.list (F.map datC)).canLay0 = true := by
    simp only [PyData.canLay0]
    exact lay_cols F
  have e2 : (PyData.list (F.map datC)).depth ≤ 64 := by
    have := depth_cols F
    simp only [PyData.depth]
    omega
  show ((PyData.list (F.map datC)).canLay0 && decide ((PyData.list (F.map datC)).depth ≤ 64)) = true
  rw [Bool.and_eq_true]
  exact ⟨e1, decide_eq_true e2⟩
theorem dp_ints {K : PySem.W.Frag} {H : Hp} : ∀ c : List Int, DpAll K H (c.map V.int) (c.map PyData.int)
  | [] => .nil
  | x :: r => .cons (.int x) (dp_ints r)
theorem dp_col {K : PySem.W.Frag} {H : Hp} {v : V} {c : List Int} (h : Col H v c) : Dp K H v (datC c) := by
  obtain ⟨t, rfl, ht⟩ := h
  exact .tup (SqT.of ht) (dp_ints c)
theorem dp_cols {K : PySem.W.Frag} {H : Hp} : ∀ {us : List V} {F : List (List Int)}, Paired (Col H) us F → DpAll K H us (F.map datC)
  | _, _, .nil => .nil
  | _, _, .cons r t => .cons (dp_col r) (dp_cols t)
theorem any_cols (F : List (List Int)) (c : List Int) : ((F.map datC).any fun z => PyData.eqv z (datC c)) = decide (c ∈ F) := by
  induction F with
  | nil => simp
  | cons a r ih =>
    rw [List.map_cons, List.any_cons, ih, eqv_col]
    by_cases h : a = c
    · subst h; simp
    · have h' : ¬ c = a := fun e => h e.symm
      simp [h, h']
/-! ### columns read off the heap -/
def intV : V → Int
  | .int i => i
  | _ => 0
def colOf (H : Hp) (v : V) : List Int := match v with
  | .ref t => match H t with
    | some (.tup xs) => xs.map intV
    | _ => []
  | _ => []
theorem colOf_eq {H : Hp} {v : V} {c : List Int} (h : Col H v c) : colOf H v = c := by
  obtain ⟨t, rfl, ht⟩ := h
  unfold colOf
  simp only [ht, List.map_map]
  have : (intV ∘ V.int) = id := rfl
  rw [this, List.map_id]
theorem cols_of {H : Hp} : ∀ {us : List V} {F : List (List Int)}, Paired (Col H) us F → us.map (colOf H) = F
  | _, _, .nil => rfl
  | _, _, .cons r t => by rw [List.map_cons, colOf_eq r, cols_of t]
theorem cols_each {H : Hp} : ∀ {us : List V} {F : List (List Int)}, Paired (Col H) us F → ∀ u ∈ us, Col H u (colOf H u)
  | _, _, .nil, _, h => by simp at h
  | _, _, .cons r t, u, h => by
    rcases List.mem_cons.mp h with rfl | h
    · rw [colOf_eq r]; exact r
    · exact cols_each t u h
theorem cols_mk {H : Hp} : ∀ {us : List V}, (∀ u ∈ us, Col H u (colOf H u)) → Paired (Col H) us (us.map (colOf H))
  | [], _ => .nil
  | u :: r, h => .cons (h u List.mem_cons_self) (cols_mk fun v hv => h v (List.mem_cons_of_mem _ hv))
theorem tupI_col {K : PySem.W.Frag} {H : Hp} {v : V} {c : List Int} (h : Col H v c) : TupI K H v c := by
  obtain ⟨t, rfl, ht⟩ := h
  exact ⟨t, rfl, SqT.of ht⟩
/-- what is told sorted -/
theorem sorted_cols {K : PySem.W.Frag} {H : Hp} {us ys : List V} {F : List (List Int)} (hP : Paired (Col H) us F) (hp : ys.Perm us) (hs : ys.Pairwise (fun x y => ∀ n m, TupI K H x n → TupI K H y m → TS.code 4 n ≤ TS.code 4 m)) :
    Paired (Col H) ys (ys.map (colOf H)) ∧ (ys.map (colOf H)).Perm F ∧ (ys.map (colOf H)).Pairwise CodeLe := by
  have he : ∀ y ∈ ys, Col H y (colOf H y) := fun y hy => cols_each hP y (hp.mem_iff.mp hy)
  refine ⟨cols_mk he, ?_, ?_⟩
  · rw [← cols_of hP]
    exact hp.map _
  · rw [List.pairwise_map]
    exact List.Pairwise.imp_of_mem (fun {a b} ha hb h => h _ _ (tupI_col (he a ha)) (tupI_col (he b hb))) hs
/-! ### the closure -/
def Done (m : Nat) (cons : List Con) (n : Nat) (F : List (List Int)) (i : Nat) : Prop := ∀ k ∈ cons, ∀ as : List (List Int), as.length = k.pl → (∀ a ∈ as, a ∈ F.take i) → jn m k.cells as n ∈ F
theorem done_zero {m : Nat} {cons : List Con} {n : Nat} {F : List (List Int)} (h : ∀ k ∈ cons, k.pl = 0 → jn m k.cells [] n ∈ F) : Done m cons n F 0 := by
  intro k hk as hl ha
  cases as with
  | nil => exact h k hk hl.symm
  | cons a r => exact absurd (ha a List.mem_cons_self) (by simp)
theorem done_succ {m : Nat} {cons : List Con} {n : Nat} {F F' : List (List Int)} {i : Nat} {x : List Int} (ok : ∀ k ∈ cons, ConOk m k) (D : Done m cons n F i) (hx : F[i]? = some x) (pre : F <+: F')
    (h1 : ∀ k ∈ cons, k.pl = 1 → jn m k.cells [x] n ∈ F') (h2 : ∀ k ∈ cons, k.pl = 2 → Both m n F x k (i + 1) F') : Done m cons n F' (i + 1) := by
  intro k hk as hl ha
  have hi := (List.getElem?_eq_some_iff.mp hx).1
  have hF' : F'.take (i + 1) = F.take i ++ [x] := by
    obtain ⟨r, e⟩ := pre
    rw [← e, List.take_append_of_le_length (by omega), take_snoc hx]
  have at_ : ∀ a ∈ as, a ∈ F.take i ∨ a = x := fun a h => by
    have := ha a h
    rw [hF'] at this
    rcases List.mem_append.mp this with q | q
    · exact .inl q
    · exact .inr (by simpa using q)
  have pl := (ok k hk).pl
  have ix : ∀ a, a ∈ F.take i ∨ a = x → ∃ j, j < i + 1 ∧ F[j]? = some a := fun a h => by
    rcases h with h | h
    · obtain ⟨j, hj⟩ := List.mem_iff_getElem?.mp h
      have hj' := (List.getElem?_eq_some_iff.mp hj).1
      rw [List.length_take] at hj'
      rw [List.getElem?_take, if_pos (by omega)] at hj
      exact ⟨j, by omega, hj⟩
    · exact ⟨i, by omega, by rw [h]; exact hx⟩
  match as, hl, ha, at_ with
  | [], hl, _, _ => exact pre.subset (D k hk [] hl fun a h => by simp at h)
  | [a], hl, _, at_ =>
    rcases at_ a (by simp) with h | h
    · exact pre.subset (D k hk [a] hl fun b hb => by
        have e : b = a := by simpa using hb
        rw [e]; exact h)
    · rw [h]
      exact h1 k hk hl.symm
  | [a, b], hl, _, at_ =>
    rcases at_ a (by simp) with h | h
    · rcases at_ b (by simp) with h' | h'
      · exact pre.subset (D k hk [a, b] hl (mem2 h h'))
      · obtain ⟨j, hj, e⟩ := ix a (.inl h)
        rw [h']
        exact (h2 k hk hl.symm j a hj e).2
    · obtain ⟨j, hj, e⟩ := ix b (at_ b (by simp))
      rw [h]
      exact (h2 k hk hl.symm j b hj e).1
  | _ :: _ :: _ :: _, hl, _, _ =>
    simp at hl
    omega
theorem done_all {m : Nat} {cons : List Con} {cols : List (List Int)} {n : Nat} {F : List (List Int)} {i : Nat} (D : Done m cons n F i) (hi : F.length ≤ i) (hc : ∀ c ∈ cols, c ∈ F) {c : List Int} (h : Said m cons cols n c) : c ∈ F := by
  induction h with
  | col h => exact hc _ h
  | app hk hl _ ih => exact D _ hk _ hl fun a ha => by rw [List.take_of_length_le hi]; exact ih a ha
theorem room65 {A : Around} {k : Nat} (hr : Room k A) : A.units + 65 < cLine := by have := hr.un; omega
end K28

/-! sayable -/
namespace K28
open PySem PySem.Spec PyProof.Rows L2
section
variable {P : Program} {w : World} {K : PySem.W.Frag} {mg : Str → Option Value} {base : Heap}
theorem scSay : FnScope ["table", "columns", "wish", "sayings", "at"] ["table", "columns", "wish"] (defScope sSayable) := ⟨rfl, rfl, rfl, by decide +kernel, rfl, by decide +kernel, by decide +kernel⟩
def spSay : Sp := fun vs H Q _ => ∃ (cc : Addr) (tv wv : V) (n : Nat) (T : Tab) (cols : List (List Int)) (ps : List V) (wc : List Int), vs = [tv, .ref cc, wv] ∧ TabAt H tv T ∧ TabOk T ∧ 1 ≤ n ∧ n ≤ 2 ∧ (∀ c ∈ cols, c.length = n ∧ Rg T.many c) ∧
  H cc = some (.tup ps) ∧ Paired (PairAt H) ps cols ∧ Col H wv wc ∧ wc.length = n ∧
  ∀ (F : List (List Int)), F.Nodup → (∀ c, c ∈ F ↔ Said T.many T.cons cols n c) → ∀ (t u : Addr) (us : List V) (H' : Hp), Same H H' → H' u = some (.tup us) →
    (wc ∈ F → H' t = some (.tup [.str "said", .ref u]) → Q (.ref t) H') ∧
    (∀ G : List (List Int), wc ∉ F → H' t = some (.tup [.str "unsaid", .ref u]) → Paired (Col H') us G → G.Perm F → G.Pairwise CodeLe → Q (.ref t) H')
theorem ok_say {fA C fI fB fG : Addr} {fd fdI fdB fdG : FuncData} {k kI : Nat} (F : Fun K "sayable" "sayable" sSayable fA fd) (T : Txt K mg C)
    (MK : Mk K C fI) (bIn : Binds K fdI ["self", "table", "size"] []) (hkI : kI + 1 ≤ k) (GIn : FnOk P w K mg base CX0 kI fI fdI ["self", "table", "size"] (spInit C))
    (mBe : Meth K C "begin" fB) (bBe : Binds K fdB ["self", "columns"] []) (GBe : FnOk P w K mg base CX0 k fB fdB ["self", "columns"] (spBegin C))
    (mGo : Meth K C "go_on" fG) (bGo : Binds K fdG ["self", "at"] []) (GGo : FnOk P w K mg base CX0 k fG fdG ["self", "at"] (spGoOn C))
    (ml : mg "len" = none) (mt : mg "tuple" = none) (ms : mg "sorted" = none) : FnOk P w K mg base CX0 (k + 1) fA fd ["table", "columns", "wish"] spSay := by
  refine F.ok scSay (fun vs H Q E h => ?_) (fun cdv A outer s H vs Q E hr h => ?_)
  · obtain ⟨cc, tv, wv, n, Tb, cols, ps, wc, rfl, _⟩ := h
    rfl
  · obtain ⟨cc, tv, wv, n, Tb, cols, ps, wc, rfl, tab, ok, n1, n2, hcol, hcc, hps, hw, hwl, q⟩ := h
    have nd := scSay.nd
    have hu65 := room65 hr
    have hrI : Room (kI + 1) _ := hr.mono hkI
    refine ⟨_,
      (pss_cons (ps_set (i := 3) nd rfl (.inl rfl) (pe_make MK GIn hrI (by rfl) T.mgC bIn .nil pass0 (pa_cons (pv 0) (pa_cons (pe_callB (cr_lenK (K := K)) (by rfl) ml (by decide +kernel) (pa_cons (pv 2) pa_nil)) pa_nil))))
      (pss_cons (ps_expr (pe_meth (pv 3) T.cl mBe GBe hr bBe .nil pass0 (pa_cons (pv 1) pa_nil)))
      (pss_cons (ps_set (i := 4) nd rfl (.inl rfl) pe_int)
      (pss_cons (ps_while PassesOwn.never (pt_cmpR op_lt (pv 4) (pe_callB (cr_lenK (K := K)) (by rfl) ml (by decide +kernel) (pa_cons (pe_fld (pv 3) rfl) pa_nil)) (nomark _))
      (pss_cons (ps_expr (pe_meth (pv 3) T.cl mGo GGo hr bGo .nil pass0 (pa_cons (pv 4) pa_nil)))
      (pss_one (ps_set (i := 4) nd rfl (.inl rfl) (pe_op op_add (pv 4) pe_int)))))
      (pss_cons (ps_if (pt_cmpR (op_notInD hu65) (pv 2) (pe_fld (pv 3) rfl) (by rfl))
      (pss_one (ps_ret (pe_tup (pa_cons pe_str (pa_cons (pe_callTy (cr_tupK (K := K)) (by rfl) mt (by decide +kernel) (pa_cons (pe_callB (cr_sortT (d := n) (B := 4) n1) (by rfl) ms (by decide +kernel) (pa_cons (pe_fld (pv 3) rfl) pa_nil)) pa_nil)) pa_nil)))))
      pss_nil)
      (pss_one (ps_ret (pe_tup (pa_cons pe_str (pa_cons (pe_callTy (cr_tupK (K := K)) (by rfl) mt (by decide +kernel) (pa_cons (pe_slice (sl_listK (K := K)) (pe_fld (pv 3) rfl) po_none (po_some (pe_op op_add (pe_bm PySem.F.plainAttrs_list PySem.F.slot_list_index PySem.F.type_list_index (mt_indexD hu65) (pe_fld (pv 3) rfl) (pa_cons (pv 2) pa_nil)) pe_int))) pa_nil)) pa_nil))))))))))
      , ?_⟩
    obtain ⟨tw, rfl, htw⟩ := id hw
    -- sayings = Sayings(table, len(wish))
    refine ⟨_, rfl, _, rfl, tw, _, rfl, .inr (SqT.of htw), fun p dx np ndx ndp => ?_⟩
    have sH1 : Same H (upd (upd H dx (.own p)) p (.ins C dx [])) := fun b o e => by
      rw [upd_ne (ne_of_none e np), upd_ne (ne_of_none e ndx)]
      exact e
    refine ⟨p, dx, tv, n, (by rw [List.length_map, hwl] <;> rfl), upd_same, fun d f l H0 nd0 nf0 nl0 S0 kp0 => ⟨rfl, ?_⟩⟩
    have s0 : Same H H0 := fun b o e => kp0 b o (sH1 b o e) (ne_of_none e np)
    have hd : H d = none := sH1.free nd0
    have hf : H f = none := sH1.free nf0
    have hl : H l = none := sH1.free nl0
    have out : ∀ {H2 : Hp}, Fr3 d f l H0 H2 → Same H H2 := fun fr b o e => fr b o (s0 b o e) (ne_of_none e hd) (ne_of_none e hf) (ne_of_none e hl)
    have pr0 : Pre C p tv n d f l Tb cols H0 [] := ⟨S0, tab.tx (same_tx s0), ok, n1, n2, hcol, List.nodup_nil, fun c hc => by simp at hc⟩
    -- sayings.begin(columns)
    obtain ⟨dx0, hp0⟩ := S0.ob
    refine ⟨_, rfl, p, dx0, _, rfl, hp0, f_begin, _, rfl, ?_⟩
    refine ⟨p, cc, d, f, l, tv, n, Tb, cols, ps, rfl, pr0, s0 _ _ hcc, paired_map (fun _ _ h => h.tx (same_tx s0)) hps, fun H1 F1 g1 hc1 hk1 => ?_⟩
    -- at = 0; the loop
    refine ⟨fun m σ H2 => ∃ (i : Nat) (F2 : List (List Int)), σ = [some tv, some (.ref cc), some (.ref tw), some (.ref p), some (.int (i : Int))] ∧ m + i = 17 ∧ i ≤ F2.length ∧ Gr C p tv n d f l Tb.many Tb.cons cols H0 [] H2 F2 ∧ (∀ c ∈ cols, c ∈ F2) ∧ Done Tb.many Tb.cons n F2 i,
      ⟨17, 0, F1, rfl, rfl, Nat.zero_le _, g1, hc1, done_zero hk1⟩, ?_⟩
    rintro m σ H2 ⟨i, F2, rfl, hm, hi, g2, hc2, D2⟩
    have rg : ∀ {c}, Said Tb.many Tb.cons cols n c → c.length = n ∧ Rg Tb.many c := fun h => said_rg ok.ok hcol h
    have hF2 : F2.length ≤ 16 := cols_few ok.hi n2 g2.nd fun a ha => rg (g2.sd a ha)
    obtain ⟨dx2, hp2⟩ := g2.say.ob
    obtain ⟨us, hf2, hP2⟩ := g2.say.fo
    have hul := paired_len hP2
    refine ⟨_, rfl, _, rfl, p, C, dx2, _, _, rfl, hp2, T.cl, T.nF, f_found, f, us, rfl, .inl (SqL.of hf2), _, _, rfl, rfl, _, rfl, ?_⟩
    refine ite2 (fun e => ?_) (fun e => ?_)
    · have hlt : i < F2.length := by
        have := of_decide_eq_true e
        omega
      refine ⟨fun σ' H' => ∃ (F3 : List (List Int)), σ' = [some tv, some (.ref cc), some (.ref tw), some (.ref p), some (.int ((i : Int) + 1))] ∧ i + 1 ≤ F3.length ∧ Gr C p tv n d f l Tb.many Tb.cons cols H0 [] H' F3 ∧ (∀ c ∈ cols, c ∈ F3) ∧ Done Tb.many Tb.cons n F3 (i + 1), ?_, ?_⟩
      · rintro σ' H' ⟨F3, rfl, h1, g3, hc3, D3⟩
        exact ⟨m - 1, by omega, i + 1, F3, rfl, by omega, h1, g3, hc3, D3⟩
      · obtain ⟨x, hx⟩ : ∃ x, F2[i]? = some x := ⟨F2[i], List.getElem?_eq_getElem hlt⟩
        have pr2 : Pre C p tv n d f l Tb cols H2 F2 := ⟨g2.say, tab.tx ((same_tx s0).trans (g2.fr.tx S0)), ok, n1, n2, hcol, g2.nd, g2.sd⟩
        refine ⟨_, rfl, p, dx2, _, rfl, hp2, f_goon, _, rfl, ?_⟩
        refine ⟨p, d, f, l, tv, n, Tb, cols, F2, i, x, rfl, pr2, hx, fun H3 F3 g3 h1 h2 => ?_⟩
        refine ⟨_, rfl, _, _, rfl, rfl, ?_⟩
        refine ⟨F3, rfl, ?_, g2.trans g3, fun c hc => g3.pre_mem (hc2 c hc), done_succ ok.ok D2 hx g3.pre h1 h2⟩
        have := g3.pre.length_le
        omega
    · have hge : F2.length ≤ i := by
        have h : ¬ ((i : Int) < (us.length : Int)) := fun z => e (decide_eq_true z)
        omega
      have hF : ∀ c, c ∈ F2 ↔ Said Tb.many Tb.cons cols n c := fun c => ⟨g2.sd c, done_all D2 hge hc2⟩
      have s2 : Same H H2 := out g2.fr
      -- if wish not in sayings.found
      refine ⟨_, rfl, _, rfl, p, C, dx2, _, _, rfl, hp2, T.cl, T.nF, f_found, datC wc, F2.map datC, dp_col (hw.tx (same_tx s2)), .lst (SqL.of hf2) (dp_cols hP2), shaped_col wc, shaped_cols F2, _, rfl, ?_⟩
      rw [any_cols]
      by_cases hin : wc ∈ F2
      · rw [decide_eq_true hin]
        show (if (!true) = true then _ else _)
        refine iteF ?_
        -- return ("said", ..)
        obtain ⟨j, hj⟩ := List.mem_iff_getElem?.mp hin
        have hjl := (List.getElem?_eq_some_iff.mp hj).1
        obtain ⟨ls, hl2, hll⟩ := g2.say.li
        refine ⟨_, rfl, p, C, dx2, _, _, rfl, hp2, T.cl, T.nL, f_lines, _, rfl, p, C, dx2, _, _, rfl, hp2, T.cl, T.nF, f_found, .inl ⟨rfl, _, SqL.of hf2⟩, _, rfl, ?_⟩
        refine ⟨f, _, datC wc, F2.map datC, j, datC wc, rfl, rfl, .lst (SqL.of hf2) (dp_cols hP2), dp_col (hw.tx (same_tx s2)), shaped_cols F2, shaped_col wc, by rw [List.getElem?_map, hj]; rfl, by rw [eqv_col]; exact decide_eq_true rfl, fun m' z hm' hz => ?_, ?_⟩
        · rw [List.getElem?_map] at hz
          obtain ⟨a, ha, rfl⟩ := Option.map_eq_some_iff.mp hz
          rw [eqv_col]
          refine decide_eq_false fun e2 => ?_
          subst e2
          have := (List.getElem?_inj (by omega) g2.nd).mp (ha.trans hj.symm)
          omega
        refine ⟨_, _, rfl, rfl, _, rfl, l, ls, rfl, SqL.of hl2, fun b nb => ?_⟩
        refine ⟨b, _, rfl, .inl ⟨SqL.of upd_same, fun u nu => ?_⟩⟩
        refine ⟨(by show 2 ≤ sizeLine; decide), fun t nt => ?_⟩
        exact (q F2 g2.nd hF t u _ _ (((s2.trans (same_new nb)).trans (same_new nu)).trans (same_new nt)) (tx_new nt _ _ upd_same)).1 hin upd_same
      · rw [decide_eq_false hin]
        show (if (!false) = true then _ else _)
        refine iteT ?_
        -- return ("unsaid", ..)
        refine ⟨_, rfl, p, C, dx2, _, _, rfl, hp2, T.cl, T.nF, f_found, f, us, rfl, SqL.of hf2, by omega, fun y hy => ?_, fun ys b hp hs nb => ?_⟩
        · obtain ⟨c, hc, hcy⟩ := paired_left hP2 y hy
          obtain ⟨r1, r2⟩ := rg (g2.sd c hc)
          exact ⟨c, tupI_col hcy, r1, bd4 ok.hi r2⟩
        obtain ⟨h1, h2, h3⟩ := sorted_cols hP2 hp hs
        refine ⟨b, _, rfl, .inl ⟨SqL.of upd_same, fun u nu => ?_⟩⟩
        refine ⟨(by show 2 ≤ sizeLine; decide), fun t nt => ?_⟩
        have tx : Tx H2 _ := ((tx_new (o := .lst ys) nb).trans (tx_new (o := .tup ys) nu)).trans (tx_new (o := .tup [.str "unsaid", .ref u]) nt)
        exact (q F2 g2.nd hF t u ys _ (((s2.trans (same_new nb)).trans (same_new nu)).trans (same_new nt)) (tx_new nt _ _ upd_same)).2 _ hin upd_same (paired_map (fun _ _ h => h.tx tx) h1) h2 h3
end
end K28

/-! _law_rows, _law_column, _law_order -/
namespace K28
open PySem PySem.Spec PyProof.Rows L2
theorem erase_perm {α : Type} : ∀ (l : List α) (i : Nat) (h : i < l.length), (l[i] :: l.eraseIdx i).Perm l
  | a :: r, 0, _ => List.Perm.refl _
  | a :: r, i + 1, h => by
    have h' : i < r.length := by simpa using h
    have ih := erase_perm r i h'
    show (r[i] :: a :: r.eraseIdx i).Perm (a :: r)
    exact (List.Perm.swap a r[i] _).trans (ih.cons a)
/-! ### rows of grades -/
def rowsOf (m pl : Nat) : List (List Int) := if pl = 0 then [[]] else if pl = 1 then (List.range m).map (fun i : Nat => [(i : Int)]) else (List.range (m * m)).map fun i : Nat => [(i : Int) / (m : Int), (i : Int) % (m : Int)]
theorem rows_len {m pl : Nat} (h : pl ≤ 2) : (rowsOf m pl).length = m ^ pl := by
  match pl, h with
  | 0, _ => simp [rowsOf]
  | 1, _ => simp [rowsOf]
  | 2, _ => simp [rowsOf, Nat.pow_two]
theorem pos1 (m : Nat) (x : Int) : pos m [x] = x := by
  show 0 * (m : Int) + x = x
  omega
theorem pos2 (m : Nat) (x y : Int) : pos m [x, y] = x * m + y := by
  show (0 * (m : Int) + x) * m + y = x * m + y
  rw [Int.zero_mul, Int.zero_add]
theorem rows_get {m pl : Nat} (h : pl ≤ 2) (m0 : 1 ≤ m) {i : Nat} {r : List Int} (hr : (rowsOf m pl)[i]? = some r) : r.length = pl ∧ Rg m r ∧ pos m r = (i : Int) := by
  have hi := (List.getElem?_eq_some_iff.mp hr).1
  rw [rows_len h] at hi
  match pl, h, hr, hi with
  | 0, _, hr, hi =>
    have e : i = 0 := by rw [Nat.pow_zero] at hi; omega
    subst e
    have e : r = [] := by simpa [rowsOf] using hr.symm
    subst e
    exact ⟨rfl, Rg.nil, rfl⟩
  | 1, _, hr, hi =>
    rw [Nat.pow_one] at hi
    have e : r = [(i : Int)] := by
      have : (rowsOf m 1)[i]? = some [(i : Int)] := by
        show ((List.range m).map (fun i : Nat => [(i : Int)]))[i]? = _
        rw [List.getElem?_map, List.getElem?_range hi]
        rfl
      rw [this] at hr
      exact (Option.some.inj hr).symm
    subst e
    exact ⟨rfl, fun x hx => (by have e : x = (i : Int) := by simpa using hx
                                omega), pos1 _ _⟩
  | 2, _, hr, hi =>
    rw [Nat.pow_two] at hi
    have e : r = [(i : Int) / (m : Int), (i : Int) % (m : Int)] := by
      have : (rowsOf m 2)[i]? = some [(i : Int) / (m : Int), (i : Int) % (m : Int)] := by
        show ((List.range (m * m)).map fun i : Nat => [(i : Int) / (m : Int), (i : Int) % (m : Int)])[i]? = _
        rw [List.getElem?_map, List.getElem?_range hi]
        rfl
      rw [this] at hr
      exact (Option.some.inj hr).symm
    subst e
    have m0' : (0 : Int) < (m : Int) := by omega
    have a0 : 0 ≤ (i : Int) / (m : Int) := Int.ediv_nonneg (by omega) (by omega)
    have a1 : (i : Int) / (m : Int) < (m : Int) := by
      rw [Int.ediv_lt_iff_lt_mul m0']
      have : ((i : Nat) : Int) < ((m * m : Nat) : Int) := by omega
      rw [Int.natCast_mul] at this
      exact this
    have b0 := Int.emod_nonneg (i : Int) (b := (m : Int)) (by omega)
    have b1 := Int.emod_lt_of_pos (i : Int) m0'
    refine ⟨rfl, fun x hx => ?_, ?_⟩
    · have e : x = (i : Int) / (m : Int) ∨ x = (i : Int) % (m : Int) := by simpa using hx
      rcases e with e | e
      · rw [e]; exact ⟨a0, a1⟩
      · rw [e]; exact ⟨b0, b1⟩
    · rw [pos2, Int.mul_comm]
      exact Int.mul_ediv_add_emod _ _
theorem rows_pos {m pl : Nat} (h : pl ≤ 2) (m0 : 1 ≤ m) {gs : List Int} (hl : gs.length = pl) (hR : Rg m gs) : (rowsOf m pl)[(pos m gs).toNat]? = some gs := by
  obtain ⟨p0, p1⟩ := pos_rg hR (by omega)
  rw [hl] at p1
  match pl, h, gs, hl, hR, p0, p1 with
  | 0, _, [], _, _, _, _ => rfl
  | 1, _, [x], _, hR, p0, p1 =>
    obtain ⟨x0, x1⟩ := hR x (by simp)
    show ((List.range m).map (fun i : Nat => [(i : Int)]))[(pos m [x]).toNat]? = _
    rw [pos1, List.getElem?_map, List.getElem?_range (by omega)]
    show some [((x.toNat : Nat) : Int)] = some [x]
    have e : ((x.toNat : Nat) : Int) = x := by omega
    rw [e]
  | 2, _, [x, y], _, hR, p0, p1 =>
    obtain ⟨x0, x1⟩ := hR x (by simp)
    obtain ⟨y0, y1⟩ := hR y (by simp)
    rw [Nat.pow_two] at p1
    show ((List.range (m * m)).map fun i : Nat => [(i : Int) / (m : Int), (i : Int) % (m : Int)])[(pos m [x, y]).toNat]? = _
    rw [pos2] at p0 p1 ⊢
    rw [List.getElem?_map, List.getElem?_range (by omega)]
    have e : (((x * (m : Int) + y).toNat : Nat) : Int) = x * (m : Int) + y := by omega
    have m0' : (m : Int) ≠ 0 := by omega
    have e1 : (x * (m : Int) + y) / (m : Int) = x := by
      rw [Int.add_comm, Int.add_mul_ediv_right _ _ m0', Int.ediv_eq_zero_of_lt y0 y1, Int.zero_add]
    have e2 : (x * (m : Int) + y) % (m : Int) = y := by
      rw [Int.add_comm, Int.add_mul_emod_self_right, Int.emod_eq_of_lt y0 y1]
    show some [(((x * (m : Int) + y).toNat : Nat) : Int) / (m : Int), (((x * (m : Int) + y).toNat : Nat) : Int) % (m : Int)] = some [x, y]
    rw [e, e1, e2]
section
variable {P : Program} {w : World} {K : PySem.W.Frag} {mg : Str → Option Value} {base : Heap}
theorem scRows : FnScope ["_law_size", "_law_places", "_law_mark", "_law_place"] ["_law_size", "_law_places"] (defScope sRows) := ⟨rfl, rfl, rfl, by decide +kernel, rfl, by decide +kernel, by decide +kernel⟩
def spRows : Sp := fun vs H Q _ => ∃ (m pl : Nat), vs = [.int (m : Int), .int (pl : Int)] ∧ 1 ≤ m ∧ m ≤ 4 ∧ pl ≤ 2 ∧ ∀ (p : Addr) (us : List V) (H' : Hp), Same H H' → H p = none → H' p = some (.lst us) → Paired (Col H') us (rowsOf m pl) → Q (.ref p) H'
theorem ok_rows {f : Addr} {fd : FuncData} {k : Nat} (F : Fun K "_law_rows" "_law_rows" sRows f fd) (mr : mg "range" = none) : FnOk P w K mg base CX0 (k + 1) f fd ["_law_size", "_law_places"] spRows := by
  refine F.ok scRows (fun vs H Q E h => ?_) (fun cdv A outer s H vs Q E hr h => ?_)
  · obtain ⟨m, pl, rfl, _⟩ := h
    rfl
  · obtain ⟨m, pl, rfl, m0, m1, hpl, q⟩ := h
    have nd := scRows.nd
    refine ⟨_,
      (pss_cons (ps_if (pt_cmpR op_eq (pv 1) pe_int (nomark _))
      (pss_one (ps_ret (pe_lst (pa_cons (pe_tup pa_nil) pa_nil))))
      pss_nil)
      (pss_cons (ps_if (pt_cmpR op_eq (pv 1) pe_int (nomark _))
      (pss_one (ps_ret (pe_lc (own := [("_law_mark", 2)]) (g := gName 2) (tt := tYes) (by rfl) nd (pi_range1 (by rfl) mr (pa_cons (pv 0) pa_nil)) (blkOk_by (own := [("_law_mark", 2)]) (N := ["_law_size", "_law_places", "_law_mark", "_law_place"]) (sc := defScope sRows) (by decide +kernel)) (fun _ _ _ _ _ => (pg_name (i := 2) nd rfl (.inl rfl))) (fun _ _ _ _ _ => pts_nil) (fun _ _ _ _ _ => (pe_tup (pa_cons (pv 2) pa_nil))))))
      pss_nil)
      (pss_one (ps_ret (pe_lc (own := [("_law_place", 3)]) (g := gName 3) (tt := tYes) (by rfl) nd (pi_range1 (by rfl) mr (pa_cons (pe_op op_mul (pv 0) (pv 0)) pa_nil)) (blkOk_by (own := [("_law_place", 3)]) (N := ["_law_size", "_law_places", "_law_mark", "_law_place"]) (sc := defScope sRows) (by decide +kernel)) (fun _ _ _ _ _ => (pg_name (i := 3) nd rfl (.inl rfl))) (fun _ _ _ _ _ => pts_nil) (fun _ _ _ _ _ => (pe_tup (pa_cons (pe_op op_fdiv (pv 3) (pv 0)) (pa_cons (pe_op op_mod (pv 3) (pv 0)) pa_nil)))))))))
      , ?_⟩
    refine ⟨_, rfl, rfl, _, rfl, ?_⟩
    refine ite2 (fun e => ?_) (fun e => ?_)
    · have e' : V.int (pl : Int) = V.int 0 := of_decide_eq_true e
      have e0 : pl = 0 := by injection e' with e'; omega
      subst e0
      refine ⟨Nat.zero_le _, fun t nt => ⟨(by show 1 ≤ sizeLine; decide), fun p np => ?_⟩⟩
      exact q p _ _ ((same_new nt).trans (same_new np)) ((same_new nt).free np) upd_same (.cons ⟨t, rfl, same_new np _ _ upd_same⟩ .nil)
    have h0 : pl ≠ 0 := fun z => e (decide_eq_true (by rw [z]; rfl))
    refine ⟨_, rfl, rfl, _, rfl, ?_⟩
    refine ite2 (fun e => ?_) (fun e => ?_)
    · have e' : V.int (pl : Int) = V.int 1 := of_decide_eq_true e
      have e1 : pl = 1 := by injection e' with e'; omega
      subst e1
      refine ⟨_, rfl, (m : Int), rfl, by omega, by omega, fun D nD => ?_⟩
      refine lc_range (lo := 0) (n := ((m : Nat) : Int).toNat) (fun i H3 => ∃ us : List V, H3 D = some (.lst us) ∧ Paired (Col H3) us ((rowsOf m 1).take i) ∧ Same H H3) ⟨[], upd_same, .nil, same_new nD⟩ ?_ ?_
      · rintro i H3 hi ⟨us, hD, hP, s3⟩
        have him : i < m := by omega
        have hr : (rowsOf m 1)[i]? = some [(i : Int)] := by
          show ((List.range m).map (fun i : Nat => [(i : Int)]))[i]? = _
          rw [List.getElem?_map, List.getElem?_range him]
          rfl
        refine ⟨rfl, ?_⟩
        refine ⟨_, rfl, (by show 1 ≤ sizeLine; decide), fun t nt => ?_⟩
        have s4 : Same H3 (upd H3 t (.tup [.int (0 + (i : Int))])) := same_new nt
        have hD4 := s4 _ _ hD
        have hul := paired_len hP
        rw [List.length_take] at hul
        refine ⟨us, hD4, (by rw [sizeLine_eq]; omega), us ++ [.ref t], upd_same, ?_, same_at (s3.trans s4) nD⟩
        rw [take_snoc hr]
        have tx : Tx H3 (upd (upd H3 t (.tup [.int (0 + (i : Int))])) D (.lst (us ++ [.ref t]))) := (same_tx s4).trans (tx_lst hD4)
        refine paired_snoc (paired_map (fun _ _ h => h.tx tx) hP) ⟨t, rfl, tx_lst hD4 _ _ ?_⟩
        rw [upd_same]
        have ez : (0 + (i : Int)) = (i : Int) := by omega
        rw [ez]
        rfl
      · rintro H3 ⟨us, hD, hP, s3⟩
        rw [List.take_of_length_le (by rw [rows_len (by decide), Nat.pow_one]; omega)] at hP
        exact q D us H3 s3 nD hD hP
    · have h1 : pl ≠ 1 := fun z => e (decide_eq_true (by rw [z]; rfl))
      have e2 : pl = 2 := by omega
      subst e2
      have em : ((m : Int) * (m : Int)) = ((m * m : Nat) : Int) := by rw [Int.natCast_mul]
      have hmm : m * m ≤ 16 := Nat.mul_le_mul m1 m1
      refine ⟨_, rfl, _, rfl, _, _, rfl, rfl, .inl ⟨by omega, by omega⟩, _, rfl, by omega, by omega, fun D nD => ?_⟩
      refine lc_range (lo := 0) (n := ((m : Int) * (m : Int)).toNat) (fun i H3 => ∃ us : List V, H3 D = some (.lst us) ∧ Paired (Col H3) us ((rowsOf m 2).take i) ∧ Same H H3) ⟨[], upd_same, .nil, same_new nD⟩ ?_ ?_
      · rintro i H3 hi ⟨us, hD, hP, s3⟩
        have him : i < m * m := by omega
        have hr : (rowsOf m 2)[i]? = some [(i : Int) / (m : Int), (i : Int) % (m : Int)] := by
          show ((List.range (m * m)).map fun i : Nat => [(i : Int) / (m : Int), (i : Int) % (m : Int)])[i]? = _
          rw [List.getElem?_map, List.getElem?_range him]
          rfl
        refine ⟨rfl, ?_⟩
        refine ⟨_, rfl, _, rfl, _, _, rfl, rfl, ⟨by omega, by omega⟩, _, rfl, _, rfl, _, _, rfl, rfl, by omega, (by show 2 ≤ sizeLine; decide), fun t nt => ?_⟩
        have s4 : Same H3 (upd H3 t (.tup [.int ((0 + (i : Int)) / (m : Int)), .int ((0 + (i : Int)) % (m : Int))])) := same_new nt
        have hD4 := s4 _ _ hD
        have hul := paired_len hP
        rw [List.length_take] at hul
        refine ⟨us, hD4, (by rw [sizeLine_eq]; omega), us ++ [.ref t], upd_same, ?_, same_at (s3.trans s4) nD⟩
        rw [take_snoc hr]
        have tx : Tx H3 (upd (upd H3 t (.tup [.int ((0 + (i : Int)) / (m : Int)), .int ((0 + (i : Int)) % (m : Int))])) D (.lst (us ++ [.ref t]))) := (same_tx s4).trans (tx_lst hD4)
        refine paired_snoc (paired_map (fun _ _ h => h.tx tx) hP) ⟨t, rfl, tx_lst hD4 _ _ ?_⟩
        rw [upd_same]
        have ez : (0 + (i : Int)) = (i : Int) := by omega
        rw [ez]
        rfl
      · rintro H3 ⟨us, hD, hP, s3⟩
        rw [List.take_of_length_le (by rw [rows_len (by decide), Nat.pow_two]; omega)] at hP
        exact q D us H3 s3 nD hD hP
theorem scColumn : FnScope ["_law_column_here", "_law_order_here", "_law_mark"] ["_law_column_here", "_law_order_here"] (defScope sColumn) := ⟨rfl, rfl, rfl, by decide +kernel, rfl, by decide +kernel, by decide +kernel⟩
def spColumn : Sp := fun vs H Q _ => ∃ (cv : V) (o : Addr) (c os : List Int), vs = [cv, .ref o] ∧ Col H cv c ∧ H o = some (.lst (os.map V.int)) ∧ Rg os.length c ∧ c.length ≤ 100 ∧ ∀ (v : V) (H' : Hp), Same H H' → Col H' v (c.map (cat os)) → Q v H'
theorem ok_column {f : Addr} {fd : FuncData} {k : Nat} (F : Fun K "_law_column" "_law_column" sColumn f fd) (mt : mg "tuple" = none) : FnOk P w K mg base CX0 (k + 1) f fd ["_law_column_here", "_law_order_here"] spColumn := by
  refine F.ok scColumn (fun vs H Q E h => ?_) (fun cdv A outer s H vs Q E hr h => ?_)
  · obtain ⟨cv, o, c, os, rfl, _⟩ := h
    rfl
  · obtain ⟨cv, o, c, os, rfl, ⟨t, rfl, ht⟩, ho, hR, hl, q⟩ := h
    have nd := scColumn.nd
    refine ⟨_,
      (pss_one (ps_ret (pe_callTy (cr_tupK (K := K)) (by rfl) mt (by decide +kernel) (pa_cons (pe_lc (own := [("_law_mark", 2)]) (g := gName 2) (tt := tYes) (by rfl) nd (pi_tupK (K := K) (pv 0)) (blkOk_by (own := [("_law_mark", 2)]) (N := ["_law_column_here", "_law_order_here", "_law_mark"]) (sc := defScope sColumn) (by decide +kernel)) (fun _ _ _ _ _ => (pg_name (i := 2) nd rfl (.inl rfl))) (fun _ _ _ _ _ => pts_nil) (fun _ _ _ _ _ => (pe_ix (ix_listK (K := K)) (pv 1) (pv 2) (fun _ _ => rfl)))) pa_nil))))
      , ?_⟩
    refine ⟨_, rfl, t, rfl, ⟨_, SqT.of ht⟩, fun D nD => ?_⟩
    refine lc_tup (K := K) (a := t) (xs := c.map V.int) (fun i H3 => H3 D = some (.lst (((c.map (cat os)).take i).map V.int)) ∧ Same H H3) ⟨upd_same, same_new nD⟩ (fun i H3 _ hw => SqT.of (hw.2 _ _ ht)) ?_ ?_
    · rintro i x H3 hi ⟨hD, s3⟩
      rw [List.getElem?_map] at hi
      obtain ⟨z, hz, rfl⟩ := Option.map_eq_some_iff.mp hi
      obtain ⟨z0, z1⟩ := hR z (List.mem_of_getElem? hz)
      refine ⟨rfl, ?_⟩
      refine ⟨_, rfl, _, rfl, o, _, _, _, rfl, rfl, SqL.of (s3 _ _ ho), atI_ints z0 z1, ?_⟩
      refine ⟨_, hD, ?_, ?_, same_at s3 nD⟩
      · rw [List.length_map, List.length_take, List.length_map, sizeLine_eq]
        omega
      · have hz' : (c.map (cat os))[i]? = some (cat os z) := by rw [List.getElem?_map, hz]; rfl
        rw [upd_same, map_snoc, take_snoc hz']
    · rintro H3 ⟨hD, s3⟩
      rw [List.take_of_length_le (by rw [List.length_map, List.length_map]; exact Nat.le_refl _)] at hD
      refine ⟨D, _, rfl, .inl ⟨SqL.of hD, fun u nu => ?_⟩⟩
      exact q (.ref u) _ (same_then s3 nu) ⟨u, rfl, upd_same⟩
theorem scOrder : FnScope ["_law_well_here", "_law_many", "_law_left", "_law_k"] ["_law_well_here", "_law_many"] (defScope sOrder) := ⟨rfl, rfl, rfl, by decide +kernel, rfl, by decide +kernel, by decide +kernel⟩
def spOrder : Sp := fun vs H Q _ => ∃ (a : Addr) (m : Nat), vs = [.ref a, .int (m : Int)] ∧ m ≤ 4 ∧ Wl H a ∧ ∀ (p : Addr) (os : List Int) (H' : Hp), Dr a H H' → H p = none → p ≠ a → H' p = some (.lst (os.map V.int)) → os.Perm ((List.range m).map fun i : Nat => (i : Int)) → Q (.ref p) H'
theorem erase_map (l : List Int) : ∀ i : Nat, (l.map V.int).eraseIdx i = (l.eraseIdx i).map V.int := by
  induction l with
  | nil => intro i; simp
  | cons a r ih =>
    intro i
    cases i with
    | zero => simp
    | succ i => simp [ih]
theorem ok_order {f fD : Addr} {fd fdD : FuncData} {k : Nat} (F : Fun K "_law_order" "_law_order" sOrder f fd) (FD : Fun K "_law_draw" "_law_draw" sDraw fD fdD) (bD : Binds K fdD ["_law_well_here", "_law_many"] []) (gD : mg "_law_draw" = some (.ref fD))
    (GD : FnOk P w K mg base CX0 k fD fdD ["_law_well_here", "_law_many"] spDraw) (mr : mg "range" = none) (ml : mg "len" = none) (mli : mg "list" = none) : FnOk P w K mg base CX0 (k + 1) f fd ["_law_well_here", "_law_many"] spOrder := by
  refine F.ok scOrder (fun vs H Q E h => ?_) (fun cdv A outer s H vs Q E hr h => ?_)
  · obtain ⟨a, m, rfl, _⟩ := h
    rfl
  · obtain ⟨a, m, rfl, m1, hw, q⟩ := h
    have nd := scOrder.nd
    refine ⟨_,
      (pss_cons (ps_set (i := 2) nd rfl (.inr rfl) (pe_listRg (by rfl) (by rfl) mli (prg_1 (by rfl) mr (pv 1))))
      (pss_one (ps_ret (pe_lc (own := [("_law_k", 3)]) (g := gName 3) (tt := tYes) (by rfl) nd (pi_range1 (by rfl) mr (pa_cons (pv 1) pa_nil)) (blkOk_by (own := [("_law_k", 3)]) (N := ["_law_well_here", "_law_many", "_law_left", "_law_k"]) (sc := defScope sOrder) (by decide +kernel)) (fun _ _ _ _ _ => (pg_name (i := 3) nd rfl (.inl rfl))) (fun _ _ _ _ _ => pts_nil) (fun _ _ _ _ _ => (show PE _ _ (tBM K _ _ _ _) from pe_bm PySem.F.plainAttrs_list PySem.F.slot_list_pop PySem.F.type_list_pop mt_popAt (pv 2) (pa_cons (pe_call GD hr (by rfl) gD FD.kp bD .nil pass0 (pa_cons (pv 0) (pa_cons (pe_callB (cr_lenK (K := K)) (by rfl) ml (by decide +kernel) (pa_cons (pv 2) pa_nil)) pa_nil))) pa_nil)))))))
      , ?_⟩
    -- left = list(range(many))
    refine ⟨_, rfl, _, rfl, RgOk.of_le (Int.le_refl _) (by omega) (by omega) (by omega), fun l nl => ?_⟩
    have e0 : rgV 0 (m : Int) = ((List.range m).map fun i : Nat => (i : Int)).map V.int := by
      unfold rgV
      rw [List.map_map]
      have e1 : ((m : Int) - 0).toNat = m := by omega
      rw [e1]
      refine List.map_congr_left fun i _ => ?_
      show V.int (0 + (i : Int)) = V.int (i : Int)
      rw [Int.zero_add]
    rw [e0]
    have d0 : Dr a H (upd H l (.lst (((List.range m).map fun i : Nat => (i : Int)).map V.int))) := (Dr.refl hw).new nl
    have hla : l ≠ a := hw.ne nl
    -- the comprehension
    refine ⟨_, rfl, _, rfl, by omega, by omega, fun D nD => ?_⟩
    have hD0 := d0.free nD
    have hDa := d0.wl.ne nD
    have hlD : l ≠ D := ne_of_none upd_same nD
    refine lc_range (lo := 0) (n := ((m : Nat) : Int).toNat) (fun i H3 => ∃ acc left : List Int, H3 D = some (.lst (acc.map V.int)) ∧ H3 l = some (.lst (left.map V.int)) ∧ left.length + i = m ∧ acc.length = i ∧ (acc ++ left).Perm ((List.range m).map fun i : Nat => (i : Int)) ∧ Dr a H H3)
      ⟨[], _, upd_same, by rw [upd_ne hlD]; exact upd_same, by simp, rfl, List.Perm.refl _, d0.new nD⟩ ?_ ?_
    · rintro i H3 hi ⟨acc, left, hD, hl, hll, hal, hp, dr⟩
      have him : i < m := by omega
      refine ⟨rfl, ?_⟩
      refine ⟨_, rfl, .inl ⟨rfl, _, SqL.of hl⟩, _, rfl, _, rfl, l, _, rfl, .inl (SqL.of hl), ?_⟩
      refine ⟨a, _, rfl, (by rw [List.length_map]; omega), (by rw [List.length_map]; omega), dr.wl, fun r H4 r0 r1 d4 => ?_⟩
      rw [List.length_map] at r1
      have hl4 := d4.but _ _ hl hla
      have hD4 := d4.but _ _ hD hDa
      have hrl : r.toNat < left.length := by omega
      refine ⟨l, _, r, r.toNat, .int left[r.toNat], rfl, rfl, hl4, by omega, by omega, ?_, ?_, ?_⟩
      · have hx : ixN (left.map V.int).length r = some r.toNat := by
          unfold ixN
          rw [List.length_map, if_pos r0, if_pos (by omega)]
        exact (ixN_seq hx).1
      · rw [List.getElem?_map, List.getElem?_eq_getElem hrl]
        rfl
      refine ⟨acc.map V.int, (by rw [upd_ne hlD.symm]; exact hD4), (by rw [List.length_map, sizeLine_eq]; omega), acc ++ [left[r.toNat]], left.eraseIdx r.toNat, ?_, ?_, ?_, by simp [hal], ?_, ?_⟩
      · rw [upd_same, map_snoc]
      · rw [upd_ne hlD, upd_same, erase_map]
      · rw [List.length_eraseIdx_of_lt hrl]
        omega
      · have h1 : (acc ++ [left[r.toNat]] ++ left.eraseIdx r.toNat).Perm (acc ++ left) := by
          rw [List.append_assoc]
          exact List.Perm.append_left _ (erase_perm left r.toNat hrl)
        exact h1.trans hp
      · exact ((dr.trans d4).at nl hla).at hD0 hDa
    · rintro H3 ⟨acc, left, hD, hl, hll, hal, hp, dr⟩
      have e : left = [] := List.eq_nil_of_length_eq_zero (by omega)
      rw [e, List.append_nil] at hp
      exact q D acc H3 dr hD0 hDa hD hp
end
end K28

/-! _law_kept -/
namespace K28
open PySem PySem.Spec PyProof.Rows L2
theorem flat_ints : ∀ l : List Int, (l.map V.int).all flatV = true
  | [] => rfl
  | x :: r => by
    rw [List.map_cons, List.all_cons, flat_ints r]
    rfl
theorem inV_ints (z : Int) : ∀ l : List Int, inV (.int z) (l.map V.int) = decide (z ∈ l)
  | [] => by simp [inV]
  | x :: r => by
    have ih := inV_ints z r
    unfold inV at ih ⊢
    rw [List.map_cons, List.any_cons, ih]
    have e : eqV (.int x) (.int z) = (x == z) := rfl
    rw [e]
    by_cases h : x = z
    · subst h; simp
    · have h' : ¬ z = x := fun q => h q.symm
      simp [h, h']
/-- which of a column's grades are of the part -/
def ins (part c : List Int) : List Bool := c.map fun z => decide (z ∈ part)
theorem ins_all (part c : List Int) : (ins part c).all id = decide (∀ z ∈ c, z ∈ part) := by
  unfold ins
  rw [List.all_map]
  by_cases h : ∀ z ∈ c, z ∈ part
  · rw [decide_eq_true h, List.all_eq_true]
    exact fun z hz => decide_eq_true (h z hz)
  · rw [decide_eq_false h, List.all_eq_false]
    obtain ⟨z, h2⟩ := Classical.not_forall.mp h
    obtain ⟨hz, hn⟩ := Classical.not_imp.mp h2
    refine ⟨z, hz, ?_⟩
    show ¬ (decide (z ∈ part)) = true
    rw [decide_eq_false hn]
    exact Bool.false_ne_true
theorem cat_set_same {l : List Int} {j : Nat} {x : Int} (h : j < l.length) : cat (l.set j x) (j : Int) = x := by
  unfold cat
  have e : ((j : Int)).toNat = j := by omega
  rw [e, List.getD_eq_getElem?_getD, List.getElem?_set_self h]
  rfl
theorem cat_set_ne {l : List Int} {j : Nat} {i x : Int} (h : i.toNat ≠ j) : cat (l.set j x) i = cat l i := by
  unfold cat
  rw [List.getD_eq_getElem?_getD, List.getD_eq_getElem?_getD, List.getElem?_set_ne (fun e => h e.symm)]
theorem set_map_int (l : List Int) (j : Nat) (x : Int) : (l.map V.int).set j (.int x) = (l.set j x).map V.int := by
  rw [List.map_set]
theorem Rg.set {m : Nat} {l : List Int} {j : Nat} {x : Int} (h : Rg m l) (h0 : 0 ≤ x) (h1 : x < (m : Int)) : Rg m (l.set j x) := fun y hy => by
  rcases List.mem_or_eq_of_mem_set hy with q | q
  · exact h y q
  · rw [q]; exact ⟨h0, h1⟩
theorem ix_nat {n j : Nat} {i : Int} (e : i = (j : Int)) (h : j < n) : ixN n i = some j := by
  subst e
  unfold ixN
  rw [if_pos (by omega), if_pos (by omega)]
  congr 1
section
variable {P : Program} {w : World} {K : PySem.W.Frag} {mg : Str → Option Value} {base : Heap}
theorem scKept : FnScope ["_law_table_here", "_law_part", "_law_connectives", "_law_name", "_law_places", "_law_cells_here", "_law_found", "_law_row", "_law_place", "_law_mark"] ["_law_table_here", "_law_part"] (defScope sKept) := ⟨rfl, rfl, rfl, by decide +kernel, rfl, by decide +kernel, by decide +kernel⟩
def spKept : Sp := fun vs H Q _ => ∃ (tv : V) (pa : Addr) (T : Tab) (part : List Int), vs = [tv, .ref pa] ∧ TabAt H tv T ∧ TabOk T ∧ H pa = some (.lst (part.map V.int)) ∧ Rg T.many part ∧ part ≠ [] ∧
  ∀ (v : V) (T' : Tab) (H' : Hp), Same H H' → TabAt H' v T' → TabOk T' → T'.many = T.many → (∀ c ∈ T'.cons, Closed T.many part c) → Q v H'
theorem ok_kept {f fR : Addr} {fd fdR : FuncData} {k : Nat} (F : Fun K "_law_kept" "_law_kept" sKept f fd) (FR : Fun K "_law_rows" "_law_rows" sRows fR fdR) (bR : Binds K fdR ["_law_size", "_law_places"] []) (gR : mg "_law_rows" = some (.ref fR))
    (GR : FnOk P w K mg base CX0 k fR fdR ["_law_size", "_law_places"] spRows) (ml : mg "len" = none) (mli : mg "list" = none) (mt : mg "tuple" = none) (mall : mg "all" = none) : FnOk P w K mg base CX0 (k + 1) f fd ["_law_table_here", "_law_part"] spKept := by
  refine F.ok scKept (fun vs H Q E h => ?_) (fun cdv A outer s H vs Q E hr h => ?_)
  · obtain ⟨tv, pa, Tb, part, rfl, _⟩ := h
    rfl
  · obtain ⟨tv, pa, Tb, part, rfl, tab, ok, hpa, hpR, hpn, q⟩ := h
    have nd := scKept.nd
    refine ⟨_,
      (pss_cons (ps_set (i := 2) nd rfl (.inl rfl) (pe_lst pa_nil))
      (pss_cons (ps_for PassesOwn.never (by rfl) (pi_tupK (K := K) (pe_ix (ix_tupK (K := K)) (pv 0) pe_int (fun _ _ => rfl))) (pg_tup (by rfl) (pgs_cons (pg_name (i := 3) nd rfl (.inl rfl)) (pgs_cons (pg_name (i := 4) nd rfl (.inl rfl)) (pgs_cons (pg_name (i := 5) nd rfl (.inl rfl)) pgs_nil))))
      (pss_cons (ps_set (i := 6) nd rfl (.inl rfl) (pe_callTy (cr_lstK (K := K)) (by rfl) mli (by decide +kernel) (pa_cons (pv 5) pa_nil)))
      (pss_cons (ps_for PassesOwn.never (by rfl) (pi_listK (K := K) (pe_call GR hr (by rfl) gR FR.kp bR .nil pass0 (pa_cons (pe_ix (ix_tupK (K := K)) (pv 0) pe_int (fun _ _ => rfl)) (pa_cons (pv 4) pa_nil)))) (pg_name (i := 7) nd rfl (.inl rfl))
      (pss_cons (ps_set (i := 8) nd rfl (.inl rfl) pe_int)
      (pss_cons (ps_for PassesOwn.never (by rfl) (pi_tupK (K := K) (pv 7)) (pg_name (i := 9) nd rfl (.inl rfl))
      (pss_one (ps_set (i := 8) nd rfl (.inl rfl) (pe_op op_add (pe_op op_mul (pv 8) (pe_ix (ix_tupK (K := K)) (pv 0) pe_int (fun _ _ => rfl))) (pv 9)))))
      (pss_one (ps_if (pt_val (pe_callB (cr_allK (K := K)) (by rfl) mall (by decide +kernel) (pa_cons (pe_lc (own := [("_law_mark", 9)]) (g := gName 9) (tt := tYes) (by rfl) nd (pi_tupK (K := K) (pv 7)) (blkOk_by (own := [("_law_mark", 9)]) (N := ["_law_table_here", "_law_part", "_law_connectives", "_law_name", "_law_places", "_law_cells_here", "_law_found", "_law_row", "_law_place", "_law_mark"]) (sc := defScope sKept) (by decide +kernel)) (fun _ _ _ _ _ => (pg_name (i := 9) nd rfl (.inl rfl))) (fun _ _ _ _ _ => pts_nil) (fun _ _ _ _ _ => (pe_cmpR (op_inK (K := K)) (pv 9) (pv 1) (by rfl)))) pa_nil)))
      (pss_one (ps_asg (pe_ix (ix_listK (K := K)) (pv 1) (pe_op op_mod (pe_ix (ix_tupK (K := K)) (pv 5) (pv 8) (fun _ _ => rfl)) (pe_callB (cr_lenK (K := K)) (by rfl) ml (by decide +kernel) (pa_cons (pv 1) pa_nil))) (fun _ _ => rfl)) (pg_sub (pv 6) (pv 8) set_list)))
      pss_nil)))))
      (pss_one (ps_expr (pe_bm PySem.F.plainAttrs_list PySem.F.slot_list_append PySem.F.type_list_append mt_append (pv 2) (pa_cons (pe_tup (pa_cons (pv 3) (pa_cons (pv 4) (pa_cons (pe_callTy (cr_tupK (K := K)) (by rfl) mt (by decide +kernel) (pa_cons (pv 6) pa_nil)) pa_nil)))) pa_nil)))))))
      (pss_one (ps_ret (pe_tup (pa_cons (pe_ix (ix_tupK (K := K)) (pv 0) pe_int (fun _ _ => rfl)) (pa_cons (pe_ix (ix_tupK (K := K)) (pv 0) pe_int (fun _ _ => rfl)) (pa_cons (pe_callTy (cr_tupK (K := K)) (by rfl) mt (by decide +kernel) (pa_cons (pv 2) pa_nil)) pa_nil))))))))
      , ?_⟩
    obtain ⟨t, wa, ca, ws, cs, rfl, ht, hwa, hws, hca, hcs⟩ := tab.ex
    have m0 := ok.lo
    have m1 := ok.hi
    have hpl0 : (0 : Int) < (part.length : Int) := by
      have : part.length ≠ 0 := fun e => hpn (List.eq_nil_of_length_eq_zero e)
      omega
    -- connectives = []
    refine ⟨Nat.zero_le _, fun l nl => ?_⟩
    have s0 : Same H (upd H l (.lst [])) := same_new nl
    refine ⟨_, rfl, t, _, 2, _, rfl, rfl, SqT.of (s0 _ _ ht), atI_nat (j := 2) rfl, ca, rfl, ⟨cs, SqT.of (s0 _ _ hca)⟩, for_tup (K := K) (a := ca) (xs := cs)
      (fun i σ H2 => ∃ (v3 v4 v5 v6 v7 v8 v9 : Option V) (cs' : List V) (cons' : List Con), σ = [some (.ref t), some (.ref pa), some (.ref l), v3, v4, v5, v6, v7, v8, v9] ∧ H2 l = some (.lst cs') ∧ Paired (ConAt H2) cs' cons' ∧ cons'.length = i ∧
        (∀ c ∈ cons', ConOk Tb.many c ∧ Closed Tb.many part c) ∧ Same H H2)
      ⟨none, none, none, none, none, none, none, [], [], rfl, upd_same, .nil, rfl, (fun c h => by simp at h), s0⟩ (fun i σ H2 _ hw => by obtain ⟨_, _, _, _, _, _, _, _, _, _, _, _, _, _, s2⟩ := hw; exact SqT.of (s2 _ _ hca)) ?_ ?_⟩
    · rintro i x σ H2 hi ⟨v3, v4, v5, v6, v7, v8, v9, cs', cons', rfl, hl2, hc2, hn2, hk2, s2⟩
      obtain ⟨c, hc, t2, q2, rfl, ht2, hq2⟩ := paired_at hcs hi
      have hcm := List.mem_of_getElem? hc
      have hkc := ok.ok c hcm
      have hil : i < Tb.cons.length := (List.getElem?_eq_some_iff.mp hc).1
      have few := ok.few
      refine ⟨t2, _, rfl, SqT.of (s2 _ _ ht2), rfl, _, _, rfl, _, _, rfl, _, _, rfl, rfl, ?_⟩
      -- found = list(cells)
      refine ⟨_, rfl, q2, _, rfl, .inr (SqT.of (s2 _ _ hq2)), fun f nf => ?_⟩
      have hlf : l ≠ f := ne_of_none hl2 nf
      have s3 : Same H2 (upd H2 f (.lst (c.cells.map V.int))) := same_new nf
      have hf3 : (upd H2 f (.lst (c.cells.map V.int))) f = some (.lst (c.cells.map V.int)) := upd_same
      generalize upd H2 f (.lst (c.cells.map V.int)) = H3 at s3 hf3 ⊢
      have s03 := s2.trans s3
      -- for row in rows(table[0], places)
      refine ⟨_, rfl, t, _, 0, _, rfl, rfl, SqT.of (s03 _ _ ht), atI_nat (j := 0) rfl, _, rfl, Tb.many, c.pl, rfl, m0, m1, hkc.pl, fun p us H4 s4 np hp hP => ?_⟩
      have s04 := s03.trans s4
      have hf4 := s4 _ _ hf3
      have hl4 := s4 _ _ (s3 _ _ hl2)
      have nfp : f ≠ p := ne_of_none hf3 np
      have hf0 : H f = none := s2.free nf
      have tx24 : Tx H2 H4 := same_tx (s3.trans s4)
      refine ⟨p, rfl, ⟨us, SqL.of hp⟩, for_list (K := K) (a := p) (xs := us)
        (fun j σ H5 => ∃ (v7 v8 v9 : Option V) (fnd : List Int), σ = [some (.ref t), some (.ref pa), some (.ref l), some (.str c.nm), some (.int (c.pl : Int)), some (.ref q2), some (.ref f), v7, v8, v9] ∧ H5 f = some (.lst (fnd.map V.int)) ∧ fnd.length = Tb.many ^ c.pl ∧ Rg Tb.many fnd ∧
          (∀ j' r, j' < j → (rowsOf Tb.many c.pl)[j']? = some r → (∀ z ∈ r, z ∈ part) → cat fnd (j' : Int) ∈ part) ∧ H5 l = some (.lst cs') ∧ H5 p = some (.lst us) ∧ Same H H5 ∧ Tx H4 H5)
        ⟨_, _, _, c.cells, rfl, hf4, hkc.len, hkc.rng, (fun j' r h => absurd h (Nat.not_lt_zero _)), hl4, hp, s04, Tx.refl _⟩ (fun j σ H5 _ hw => by obtain ⟨_, _, _, _, _, _, _, _, _, _, h, _⟩ := hw; exact SqL.of h) ?_ ?_⟩
      · rintro j x σ H5 hj ⟨v7, v8, v9, fnd, rfl, hf5, hfl, hfR, hcl, hl5, hp5, s5, tx5⟩
        obtain ⟨r, hr, t5, rfl, ht5⟩ := paired_at hP hj
        obtain ⟨hrl, hrR, hrp⟩ := rows_get hkc.pl m0 hr
        have hjl : j < Tb.many ^ c.pl := by
          have := (List.getElem?_eq_some_iff.mp hr).1
          rwa [rows_len hkc.pl] at this
        have ht55 := tx5 _ _ ht5
        -- place
        refine ⟨_, rfl, t5, rfl, ⟨_, SqT.of ht55⟩, for_tup (K := K) (a := t5) (xs := r.map V.int)
          (fun e σ H6 => ∃ (v9 : Option V), σ = [some (.ref t), some (.ref pa), some (.ref l), some (.str c.nm), some (.int (c.pl : Int)), some (.ref q2), some (.ref f), some (.ref t5), some (.int (pos Tb.many (r.take e))), v9] ∧ H6 = H5)
          ⟨_, rfl, rfl⟩ (fun e σ H6 _ hw => by obtain ⟨_, _, rfl⟩ := hw; exact SqT.of ht55) ?_ ?_⟩
        · rintro e x σ H6 he ⟨v9, rfl, rfl⟩
          rw [List.getElem?_map] at he
          obtain ⟨z, hz, rfl⟩ := Option.map_eq_some_iff.mp he
          refine ⟨_, rfl, _, rfl, t, _, 0, _, rfl, rfl, SqT.of (s5 _ _ ht), atI_nat (j := 0) rfl, _, _, rfl, rfl, .inr ⟨by omega, by omega⟩, _, rfl, _, _, rfl, rfl, some (.int z), ?_, rfl⟩
          rw [take_snoc hz, pos_snoc]
          rfl
        rintro σ H6 ⟨v9, rfl, rfl⟩
        rw [List.length_map, List.take_length, hrp]
        -- all([mark in part for mark in row])
        refine ⟨_, rfl, t5, rfl, ⟨_, SqT.of ht55⟩, fun D nD => ?_⟩
        have hfD : f ≠ D := ne_of_none hf5 nD
        have hlD : l ≠ D := ne_of_none hl5 nD
        have hpD : p ≠ D := ne_of_none hp5 nD
        refine lc_tup (K := K) (a := t5) (xs := r.map V.int) (fun e H7 => H7 D = some (.lst (((ins part r).take e).map V.bl)) ∧ Same H6 H7) ⟨upd_same, same_new nD⟩ (fun e H7 _ hw => SqT.of (hw.2 _ _ ht55)) ?_ ?_
        · rintro e x H7 he ⟨hD, s7⟩
          rw [List.getElem?_map] at he
          obtain ⟨z, hz, rfl⟩ := Option.map_eq_some_iff.mp he
          refine ⟨rfl, ?_⟩
          refine ⟨_, rfl, _, rfl, pa, _, rfl, .inl (SqL.of (s7 _ _ (s5 _ _ hpa))), rfl, flat_ints part, ?_⟩
          refine ⟨_, hD, ?_, ?_, same_at s7 nD⟩
          · rw [List.length_map, List.length_take, sizeLine_eq]
            have hh : (ins part r).length ≤ 2 := by
              unfold ins
              rw [List.length_map, hrl]
              exact hkc.pl
            omega
          · have hz' : (ins part r)[e]? = some (decide (z ∈ part)) := by
              unfold ins
              rw [List.getElem?_map, hz]
              rfl
            rw [upd_same, inV_ints, take_snoc hz', List.map_append]
            rfl
        rintro H7 ⟨hD, s7⟩
        rw [List.take_of_length_le (by unfold ins; rw [List.length_map, List.length_map]; exact Nat.le_refl _)] at hD
        refine ⟨D, _, rfl, SqL.of hD, _, rfl, ?_⟩
        rw [ins_all]
        refine ite2 (fun hall => ?_) (fun hall => ?_)
        · have hall := of_decide_eq_true hall
          -- found[place] = part[cells[place] % len(part)]
          have hz0 := Int.emod_nonneg (cat c.cells (j : Int)) (b := (part.length : Int)) (by omega)
          have hz1 := Int.emod_lt_of_pos (cat c.cells (j : Int)) hpl0
          have hm := cat_mem (l := part) hz0 hz1
          refine ⟨_, rfl, _, rfl, _, rfl, q2, _, _, _, rfl, rfl, SqT.of (s7 _ _ (s5 _ _ hq2)), atI_ints (l := c.cells) (by omega) (by rw [hkc.len]; omega), _, rfl, pa, _, rfl, .inl (SqL.of (s7 _ _ (s5 _ _ hpa))), _, _, rfl, rfl, (by rw [List.length_map]; exact hpl0),
            pa, _, _, _, rfl, rfl, SqL.of (s7 _ _ (s5 _ _ hpa)), (by rw [List.length_map]; exact atI_ints hz0 hz1), ?_⟩
          have hf7 := s7 _ _ hf5
          refine ⟨_, rfl, _, rfl, f, _, _, j, rfl, rfl, hf7, (by rw [List.length_map]; exact ix_nat rfl (by rw [hfl]; exact hjl)), ?_⟩
          rw [set_map_int]
          have nfl : l ≠ f := hlf
          refine ⟨_, _, _, fnd.set j (cat part (cat c.cells (j : Int) % (part.length : Int))), rfl, upd_same, by rw [List.length_set]; exact hfl, hfR.set (hpR _ hm).1 (hpR _ hm).2, fun j' r' hj' hr' hin => ?_, ?_, ?_, ?_, ?_⟩
          · by_cases ej : j' = j
            · subst ej
              rw [cat_set_same (by rw [hfl]; exact hjl)]
              exact hm
            · rw [cat_set_ne (by omega)]
              exact hcl j' r' (by omega) hr' hin
          · rw [upd_ne nfl]
            exact s7 _ _ hl5
          · rw [upd_ne nfp.symm]
            exact s7 _ _ hp5
          · exact same_at (s5.trans s7) hf0
          · exact tx5.trans ((same_tx s7).trans (tx_lst hf7))
        · have hall : ¬ ∀ z ∈ r, z ∈ part := fun z => hall (decide_eq_true z)
          refine ⟨_, _, _, fnd, rfl, s7 _ _ hf5, hfl, hfR, fun j' r' hj' hr' hin => ?_, s7 _ _ hl5, s7 _ _ hp5, s5.trans s7, tx5.trans (same_tx s7)⟩
          by_cases ej : j' = j
          · subst ej
            rw [hr] at hr'
            cases hr'
            exact absurd hin hall
          · exact hcl j' r' (by omega) hr' hin
      · rintro σ H5 ⟨v7, v8, v9, fnd, rfl, hf5, hfl, hfR, hcl, hl5, hp5, s5, tx5⟩
        -- connectives.append((name, places, tuple(found)))
        refine ⟨_, rfl, .inl ⟨rfl, _, SqL.of hl5⟩, _, rfl, _, rfl, _, rfl, f, _, rfl, .inl ⟨SqL.of hf5, fun u nu => ?_⟩⟩
        refine ⟨(by show 3 ≤ sizeLine; decide), fun e ne => ?_⟩
        have s6 : Same H5 (upd (upd H5 u (.tup (fnd.map V.int))) e (.tup [.str c.nm, .int (c.pl : Int), .ref u])) := (same_new nu).trans (same_new ne)
        have hl6 := s6 _ _ hl5
        have hul := paired_len hc2
        have tx : Tx H2 _ := ((tx24.trans tx5).trans (same_tx s6)).trans (tx_lst (o := .lst (cs' ++ [.ref e])) hl6)
        refine ⟨l, cs', _, rfl, rfl, hl6, (by rw [sizeLine_eq]; omega), ?_⟩
        refine ⟨_, _, _, _, _, _, _, _, cons' ++ [⟨c.nm, c.pl, fnd⟩], rfl, upd_same, paired_snoc (paired_map (fun _ _ h => h.tx tx) hc2) ⟨e, u, rfl, tx_lst hl6 _ _ upd_same, tx_lst hl6 _ _ (same_new ne _ _ upd_same)⟩, by simp [hn2], fun c' hc' => ?_, same_at (s5.trans s6) nl⟩
        rcases List.mem_append.mp hc' with hc' | hc'
        · exact hk2 c' hc'
        · have e1 : c' = ⟨c.nm, c.pl, fnd⟩ := by simpa using hc'
          subst e1
          refine ⟨⟨hkc.pl, hfl, hfR⟩, fun gs hgl hgin => ?_⟩
          have hgR : Rg Tb.many gs := fun z hz => hpR z (hgin z hz)
          have hg := rows_pos hkc.pl m0 hgl hgR
          obtain ⟨p0, _⟩ := pos_rg hgR (by rw [hgl]; exact hkc.pl)
          have hlt := (List.getElem?_eq_some_iff.mp hg).1
          have := hcl (pos Tb.many gs).toNat gs (by rw [paired_len hP]; exact hlt) hg hgin
          have ep : (((pos Tb.many gs).toNat : Nat) : Int) = pos Tb.many gs := by omega
          rw [ep] at this
          exact this
    · rintro σ H2 ⟨v3, v4, v5, v6, v7, v8, v9, cs', cons', rfl, hl2, hc2, hn2, hk2, s2⟩
      -- return
      refine ⟨_, rfl, t, _, 0, _, rfl, rfl, SqT.of (s2 _ _ ht), atI_nat (j := 0) rfl, _, rfl, t, _, 1, _, rfl, rfl, SqT.of (s2 _ _ ht), atI_nat (j := 1) rfl, _, rfl, l, cs', rfl, .inl ⟨SqL.of hl2, fun u nu => ?_⟩⟩
      refine ⟨(by show 3 ≤ sizeLine; decide), fun e ne => ?_⟩
      have tx : Tx H2 _ := (tx_new (o := .tup cs') nu).trans (tx_new (o := .tup [.int (Tb.many : Int), .ref wa, .ref u]) ne)
      have hcl := paired_len hcs
      exact q (.ref e) ⟨Tb.many, cons'⟩ _ ((s2.trans (same_new nu)).trans (same_new ne)) ⟨e, wa, u, ws, cs', rfl, upd_same, tx _ _ (s2 _ _ hwa), hws, tx_new ne _ _ upd_same, paired_map (fun _ _ h => h.tx tx) hc2⟩
        ⟨m0, m1, by show cons'.length ≤ 4; rw [hn2, hcl]; exact ok.few, fun c hc => (hk2 c hc).1⟩ rfl fun c hc => (hk2 c hc).2
end
end K28

/-! _law_turned -/
namespace K28
open PySem PySem.Spec PyProof.Rows L2
theorem map_rg {m : Nat} {f : Int → Int} (rg : ∀ x : Int, 0 ≤ x → x < m → 0 ≤ f x ∧ f x < m) {l : List Int} (h : Rg m l) : Rg m (l.map f) := fun y hy => by
  obtain ⟨x, hx, rfl⟩ := List.mem_map.mp hy
  obtain ⟨h0, h1⟩ := h x hx
  exact rg x h0 h1
section
variable {P : Program} {w : World} {K : PySem.W.Frag} {mg : Str → Option Value} {base : Heap}
theorem scTurned : FnScope ["_law_table_here", "_law_order_here", "_law_connectives", "_law_name", "_law_places", "_law_cells_here", "_law_found", "_law_row", "_law_place", "_law_there", "_law_mark"] ["_law_table_here", "_law_order_here"] (defScope sTurned) := ⟨rfl, rfl, rfl, by decide +kernel, rfl, by decide +kernel, by decide +kernel⟩
def spTurned : Sp := fun vs H Q _ => ∃ (tv : V) (o : Addr) (T : Tab) (os : List Int), vs = [tv, .ref o] ∧ TabAt H tv T ∧ TabOk T ∧ H o = some (.lst (os.map V.int)) ∧ os.Perm ((List.range T.many).map fun i : Nat => (i : Int)) ∧
  ∀ (v : V) (T' : Tab) (H' : Hp), Same H H' → TabAt H' v T' → TabOk T' → T'.many = T.many → Paired (TurnC T.many (cat os)) T.cons T'.cons → Q v H'
theorem ok_turned {f fR : Addr} {fd fdR : FuncData} {k : Nat} (F : Fun K "_law_turned" "_law_turned" sTurned f fd) (FR : Fun K "_law_rows" "_law_rows" sRows fR fdR) (bR : Binds K fdR ["_law_size", "_law_places"] []) (gR : mg "_law_rows" = some (.ref fR))
    (GR : FnOk P w K mg base CX0 k fR fdR ["_law_size", "_law_places"] spRows) (mli : mg "list" = none) (mt : mg "tuple" = none) (ms : mg "sorted" = none) : FnOk P w K mg base CX0 (k + 1) f fd ["_law_table_here", "_law_order_here"] spTurned := by
  refine F.ok scTurned (fun vs H Q E h => ?_) (fun cdv A outer s H vs Q E hr h => ?_)
  · obtain ⟨tv, o, Tb, os, rfl, _⟩ := h
    rfl
  · obtain ⟨tv, o, Tb, os, rfl, tab, ok, ho, hos, q⟩ := h
    have nd := scTurned.nd
    refine ⟨_,
      (pss_cons (ps_set (i := 2) nd rfl (.inl rfl) (pe_lst pa_nil))
      (pss_cons (ps_for PassesOwn.never (by rfl) (pi_tupK (K := K) (pe_ix (ix_tupK (K := K)) (pv 0) pe_int (fun _ _ => rfl))) (pg_tup (by rfl) (pgs_cons (pg_name (i := 3) nd rfl (.inl rfl)) (pgs_cons (pg_name (i := 4) nd rfl (.inl rfl)) (pgs_cons (pg_name (i := 5) nd rfl (.inl rfl)) pgs_nil))))
      (pss_cons (ps_set (i := 6) nd rfl (.inl rfl) (pe_callTy (cr_lstK (K := K)) (by rfl) mli (by decide +kernel) (pa_cons (pv 5) pa_nil)))
      (pss_cons (ps_for PassesOwn.never (by rfl) (pi_listK (K := K) (pe_call GR hr (by rfl) gR FR.kp bR .nil pass0 (pa_cons (pe_ix (ix_tupK (K := K)) (pv 0) pe_int (fun _ _ => rfl)) (pa_cons (pv 4) pa_nil)))) (pg_name (i := 7) nd rfl (.inl rfl))
      (pss_cons (ps_set (i := 8) nd rfl (.inl rfl) pe_int)
      (pss_cons (ps_set (i := 9) nd rfl (.inl rfl) pe_int)
      (pss_cons (ps_for PassesOwn.never (by rfl) (pi_tupK (K := K) (pv 7)) (pg_name (i := 10) nd rfl (.inl rfl))
      (pss_cons (ps_set (i := 8) nd rfl (.inl rfl) (pe_op op_add (pe_op op_mul (pv 8) (pe_ix (ix_tupK (K := K)) (pv 0) pe_int (fun _ _ => rfl))) (pv 10)))
      (pss_one (ps_set (i := 9) nd rfl (.inl rfl) (pe_op op_add (pe_op op_mul (pv 9) (pe_ix (ix_tupK (K := K)) (pv 0) pe_int (fun _ _ => rfl))) (pe_ix (ix_listK (K := K)) (pv 1) (pv 10) (fun _ _ => rfl)))))))
      (pss_one (ps_asg (pe_ix (ix_listK (K := K)) (pv 1) (pe_ix (ix_tupK (K := K)) (pv 5) (pv 8) (fun _ _ => rfl)) (fun _ _ => rfl)) (pg_sub (pv 6) (pv 9) set_list)))))))
      (pss_one (ps_expr (pe_bm PySem.F.plainAttrs_list PySem.F.slot_list_append PySem.F.type_list_append mt_append (pv 2) (pa_cons (pe_tup (pa_cons (pv 3) (pa_cons (pv 4) (pa_cons (pe_callTy (cr_tupK (K := K)) (by rfl) mt (by decide +kernel) (pa_cons (pv 6) pa_nil)) pa_nil)))) pa_nil)))))))
      (pss_one (ps_ret (pe_tup (pa_cons (pe_ix (ix_tupK (K := K)) (pv 0) pe_int (fun _ _ => rfl)) (pa_cons (pe_callTy (cr_tupK (K := K)) (by rfl) mt (by decide +kernel) (pa_cons (pe_callB cr_sorted (by rfl) ms (by decide +kernel) (pa_cons (pe_lc (own := [("_law_mark", 10)]) (g := gName 10) (tt := tYes) (by rfl) nd (pi_tupK (K := K) (pe_ix (ix_tupK (K := K)) (pv 0) pe_int (fun _ _ => rfl))) (blkOk_by (own := [("_law_mark", 10)]) (N := ["_law_table_here", "_law_order_here", "_law_connectives", "_law_name", "_law_places", "_law_cells_here", "_law_found", "_law_row", "_law_place", "_law_there", "_law_mark"]) (sc := defScope sTurned) (by decide +kernel)) (fun _ _ _ _ _ => (pg_name (i := 10) nd rfl (.inl rfl))) (fun _ _ _ _ _ => pts_nil) (fun _ _ _ _ _ => (pe_ix (ix_listK (K := K)) (pv 1) (pv 10) (fun _ _ => rfl)))) pa_nil)) pa_nil)) (pa_cons (pe_callTy (cr_tupK (K := K)) (by rfl) mt (by decide +kernel) (pa_cons (pv 2) pa_nil)) pa_nil))))))))
      , ?_⟩
    obtain ⟨t, wa, ca, ws, cs, rfl, ht, hwa, hws, hca, hcs⟩ := tab.ex
    have m0 := ok.lo
    have m1 := ok.hi
    obtain ⟨finj, frg, fl⟩ := order_fn hos
    -- connectives = []
    refine ⟨Nat.zero_le _, fun l nl => ?_⟩
    have s0 : Same H (upd H l (.lst [])) := same_new nl
    refine ⟨_, rfl, t, _, 2, _, rfl, rfl, SqT.of (s0 _ _ ht), atI_nat (j := 2) rfl, ca, rfl, ⟨cs, SqT.of (s0 _ _ hca)⟩, for_tup (K := K) (a := ca) (xs := cs)
      (fun i σ H2 => ∃ (v3 v4 v5 v6 v7 v8 v9 v10 : Option V) (cs' : List V) (cons' : List Con), σ = [some (.ref t), some (.ref o), some (.ref l), v3, v4, v5, v6, v7, v8, v9, v10] ∧ H2 l = some (.lst cs') ∧ Paired (ConAt H2) cs' cons' ∧
        Paired (TurnC Tb.many (cat os)) (Tb.cons.take i) cons' ∧ (∀ c ∈ cons', ConOk Tb.many c) ∧ Same H H2)
      ⟨none, none, none, none, none, none, none, none, [], [], rfl, upd_same, .nil, .nil, (fun c h => by simp at h), s0⟩ (fun i σ H2 _ hw => by obtain ⟨_, _, _, _, _, _, _, _, _, _, _, _, _, _, _, s2⟩ := hw; exact SqT.of (s2 _ _ hca)) ?_ ?_⟩
    · rintro i x σ H2 hi ⟨v3, v4, v5, v6, v7, v8, v9, v10, cs', cons', rfl, hl2, hc2, hn2, hk2, s2⟩
      obtain ⟨c, hc, t2, q2, rfl, ht2, hq2⟩ := paired_at hcs hi
      have hcm := List.mem_of_getElem? hc
      have hkc := ok.ok c hcm
      have hil : i < Tb.cons.length := (List.getElem?_eq_some_iff.mp hc).1
      have few := ok.few
      refine ⟨t2, _, rfl, SqT.of (s2 _ _ ht2), rfl, _, _, rfl, _, _, rfl, _, _, rfl, rfl, ?_⟩
      -- found = list(cells)
      refine ⟨_, rfl, q2, _, rfl, .inr (SqT.of (s2 _ _ hq2)), fun f nf => ?_⟩
      have hlf : l ≠ f := ne_of_none hl2 nf
      have s3 : Same H2 (upd H2 f (.lst (c.cells.map V.int))) := same_new nf
      have hf3 : (upd H2 f (.lst (c.cells.map V.int))) f = some (.lst (c.cells.map V.int)) := upd_same
      generalize upd H2 f (.lst (c.cells.map V.int)) = H3 at s3 hf3 ⊢
      have s03 := s2.trans s3
      -- for row in rows(table[0], places)
      refine ⟨_, rfl, t, _, 0, _, rfl, rfl, SqT.of (s03 _ _ ht), atI_nat (j := 0) rfl, _, rfl, Tb.many, c.pl, rfl, m0, m1, hkc.pl, fun p us H4 s4 np hp hP => ?_⟩
      have s04 := s03.trans s4
      have hf4 := s4 _ _ hf3
      have hl4 := s4 _ _ (s3 _ _ hl2)
      have nfp : f ≠ p := ne_of_none hf3 np
      have hf0 : H f = none := s2.free nf
      have tx24 : Tx H2 H4 := same_tx (s3.trans s4)
      refine ⟨p, rfl, ⟨us, SqL.of hp⟩, for_list (K := K) (a := p) (xs := us)
        (fun j σ H5 => ∃ (v7 v8 v9 v10 : Option V) (fnd : List Int), σ = [some (.ref t), some (.ref o), some (.ref l), some (.str c.nm), some (.int (c.pl : Int)), some (.ref q2), some (.ref f), v7, v8, v9, v10] ∧ H5 f = some (.lst (fnd.map V.int)) ∧ fnd.length = Tb.many ^ c.pl ∧ Rg Tb.many fnd ∧
          (∀ j' r, j' < j → (rowsOf Tb.many c.pl)[j']? = some r → cat fnd (pos Tb.many (r.map (cat os))) = cat os (cat c.cells (pos Tb.many r))) ∧ H5 l = some (.lst cs') ∧ H5 p = some (.lst us) ∧ Same H H5 ∧ Tx H4 H5)
        ⟨_, _, _, _, c.cells, rfl, hf4, hkc.len, hkc.rng, (fun j' r h => absurd h (Nat.not_lt_zero _)), hl4, hp, s04, Tx.refl _⟩ (fun j σ H5 _ hw => by obtain ⟨_, _, _, _, _, _, _, _, _, _, _, h, _⟩ := hw; exact SqL.of h) ?_ ?_⟩
      · rintro j x σ H5 hj ⟨v7, v8, v9, v10, fnd, rfl, hf5, hfl, hfR, hcl, hl5, hp5, s5, tx5⟩
        obtain ⟨r, hr, t5, rfl, ht5⟩ := paired_at hP hj
        obtain ⟨hrl, hrR, hrp⟩ := rows_get hkc.pl m0 hr
        have hjl : j < Tb.many ^ c.pl := by
          have := (List.getElem?_eq_some_iff.mp hr).1
          rwa [rows_len hkc.pl] at this
        have ht55 := tx5 _ _ ht5
        -- place, there
        refine ⟨_, rfl, t5, rfl, ⟨_, SqT.of ht55⟩, for_tup (K := K) (a := t5) (xs := r.map V.int)
          (fun e σ H6 => ∃ (v10 : Option V), σ = [some (.ref t), some (.ref o), some (.ref l), some (.str c.nm), some (.int (c.pl : Int)), some (.ref q2), some (.ref f), some (.ref t5), some (.int (pos Tb.many (r.take e))), some (.int (pos Tb.many ((r.map (cat os)).take e))), v10] ∧ H6 = H5)
          ⟨_, rfl, rfl⟩ (fun e σ H6 _ hw => by obtain ⟨_, _, rfl⟩ := hw; exact SqT.of ht55) ?_ ?_⟩
        · rintro e x σ H6 he ⟨v10, rfl, rfl⟩
          rw [List.getElem?_map] at he
          obtain ⟨z, hz, rfl⟩ := Option.map_eq_some_iff.mp he
          obtain ⟨z0, z1⟩ := hrR z (List.mem_of_getElem? hz)
          have hz' : (r.map (cat os))[e]? = some (cat os z) := by rw [List.getElem?_map, hz]; rfl
          refine ⟨_, rfl, _, rfl, t, _, 0, _, rfl, rfl, SqT.of (s5 _ _ ht), atI_nat (j := 0) rfl, _, _, rfl, rfl, .inr ⟨by omega, by omega⟩, _, rfl, _, _, rfl, rfl, ?_⟩
          refine ⟨_, rfl, _, rfl, t, _, 0, _, rfl, rfl, SqT.of (s5 _ _ ht), atI_nat (j := 0) rfl, _, _, rfl, rfl, .inr ⟨by omega, by omega⟩, _, rfl, _, rfl, o, _, _, _, rfl, rfl, SqL.of (s5 _ _ ho), atI_ints z0 (by rw [fl]; exact z1), _, _, rfl, rfl, some (.int z), ?_, rfl⟩
          rw [take_snoc hz, pos_snoc, take_snoc hz', pos_snoc]
          rfl
        rintro σ H6 ⟨v10, rfl, rfl⟩
        have el : (r.map (cat os)).take (r.map V.int).length = r.map (cat os) := List.take_of_length_le (by rw [List.length_map, List.length_map]; exact Nat.le_refl _)
        rw [el, List.length_map, List.take_length, hrp]
        -- found[there] = order[cells[place]]
        have hmR := map_rg frg hrR
        obtain ⟨p0, p1⟩ := pos_rg hmR (by rw [List.length_map, hrl]; exact hkc.pl)
        rw [List.length_map, hrl] at p1
        have hv := con_rg hkc hrR hrl
        rw [hrp] at hv
        obtain ⟨g0, g1⟩ := frg _ hv.1 hv.2
        refine ⟨_, rfl, _, rfl, _, rfl, q2, _, _, _, rfl, rfl, SqT.of (s5 _ _ hq2), atI_ints (l := c.cells) (by omega) (by rw [hkc.len]; omega), o, _, _, _, rfl, rfl, SqL.of (s5 _ _ ho), atI_ints hv.1 (by rw [fl]; exact hv.2), ?_⟩
        refine ⟨_, rfl, _, rfl, f, _, _, (pos Tb.many (r.map (cat os))).toNat, rfl, rfl, hf5, (by rw [List.length_map]; exact ix_nat (by omega) (by rw [hfl]; omega)), ?_⟩
        rw [set_map_int]
        refine ⟨_, _, _, _, fnd.set (pos Tb.many (r.map (cat os))).toNat (cat os (cat c.cells (j : Int))), rfl, upd_same, by rw [List.length_set]; exact hfl, hfR.set g0 g1, fun j' r' hj' hr' => ?_, ?_, ?_, same_at s5 hf0, tx5.trans (tx_lst hf5)⟩
        · obtain ⟨hrl', hrR', hrp'⟩ := rows_get hkc.pl m0 hr'
          by_cases ej : j' = j
          · subst ej
            rw [hr] at hr'
            cases hr'
            rw [hrp]
            have e1 : pos Tb.many (r.map (cat os)) = (((pos Tb.many (r.map (cat os))).toNat : Nat) : Int) := by omega
            have := cat_set_same (l := fnd) (j := (pos Tb.many (r.map (cat os))).toNat) (x := cat os (cat c.cells (j' : Int))) (by rw [hfl]; omega)
            rw [← e1] at this
            exact this
          · rw [cat_set_ne fun e2 => ?_]
            · exact hcl j' r' (by omega) hr'
            · have hmR' := map_rg frg hrR'
              have h1 := rows_pos hkc.pl m0 (gs := r'.map (cat os)) (by rw [List.length_map]; exact hrl') hmR'
              have h2 := rows_pos hkc.pl m0 (gs := r.map (cat os)) (by rw [List.length_map]; exact hrl) hmR
              rw [e2, h2] at h1
              have e3 : r = r' := map_inj finj hrR hrR' (Option.some.inj h1)
              subst e3
              rw [hrp] at hrp'
              omega
        · rw [upd_ne hlf]
          exact hl5
        · rw [upd_ne nfp.symm]
          exact hp5
      · rintro σ H5 ⟨v7, v8, v9, v10, fnd, rfl, hf5, hfl, hfR, hcl, hl5, hp5, s5, tx5⟩
        -- connectives.append((name, places, tuple(found)))
        refine ⟨_, rfl, .inl ⟨rfl, _, SqL.of hl5⟩, _, rfl, _, rfl, _, rfl, f, _, rfl, .inl ⟨SqL.of hf5, fun u nu => ?_⟩⟩
        refine ⟨(by show 3 ≤ sizeLine; decide), fun e ne => ?_⟩
        have s6 : Same H5 (upd (upd H5 u (.tup (fnd.map V.int))) e (.tup [.str c.nm, .int (c.pl : Int), .ref u])) := (same_new nu).trans (same_new ne)
        have hl6 := s6 _ _ hl5
        have hul := paired_len hc2
        have hul2 := paired_len hn2
        rw [List.length_take] at hul2
        have tx : Tx H2 _ := ((tx24.trans tx5).trans (same_tx s6)).trans (tx_lst (o := .lst (cs' ++ [.ref e])) hl6)
        refine ⟨l, cs', _, rfl, rfl, hl6, (by rw [sizeLine_eq]; omega), ?_⟩
        refine ⟨_, _, _, _, _, _, _, _, _, cons' ++ [⟨c.nm, c.pl, fnd⟩], rfl, upd_same, paired_snoc (paired_map (fun _ _ h => h.tx tx) hc2) ⟨e, u, rfl, tx_lst hl6 _ _ upd_same, tx_lst hl6 _ _ (same_new ne _ _ upd_same)⟩, ?_, fun c' hc' => ?_, same_at (s5.trans s6) nl⟩
        · rw [take_snoc hc]
          refine paired_snoc hn2 ⟨rfl, fun gs hgl hgR => ?_⟩
          have hg := rows_pos hkc.pl m0 hgl hgR
          have hlt := (List.getElem?_eq_some_iff.mp hg).1
          exact hcl (pos Tb.many gs).toNat gs (by rw [paired_len hP]; exact hlt) hg
        · rcases List.mem_append.mp hc' with hc' | hc'
          · exact hk2 c' hc'
          · have e1 : c' = ⟨c.nm, c.pl, fnd⟩ := by simpa using hc'
            subst e1
            exact ⟨hkc.pl, hfl, hfR⟩
    · rintro σ H2 ⟨v3, v4, v5, v6, v7, v8, v9, v10, cs', cons', rfl, hl2, hc2, hn2, hk2, s2⟩
      rw [paired_len hcs, List.take_length] at hn2
      -- return
      refine ⟨_, rfl, t, _, 0, _, rfl, rfl, SqT.of (s2 _ _ ht), atI_nat (j := 0) rfl, _, rfl, t, _, 1, _, rfl, rfl, SqT.of (s2 _ _ ht), atI_nat (j := 1) rfl, wa, rfl, ⟨_, SqT.of (s2 _ _ hwa)⟩, fun D nD => ?_⟩
      have hlD : l ≠ D := ne_of_none hl2 nD
      have hD0 : H D = none := s2.free nD
      refine lc_tup (K := K) (a := wa) (xs := ws.map V.int) (fun i H3 => H3 D = some (.lst (((ws.map (cat os)).take i).map V.int)) ∧ Same H2 H3) ⟨upd_same, same_new nD⟩ (fun i H3 _ hw => SqT.of (hw.2 _ _ (s2 _ _ hwa))) ?_ ?_
      · rintro i x H3 hi ⟨hD, s3⟩
        rw [List.getElem?_map] at hi
        obtain ⟨z, hz, rfl⟩ := Option.map_eq_some_iff.mp hi
        obtain ⟨z0, z1⟩ := hws.1 z (List.mem_of_getElem? hz)
        refine ⟨rfl, ?_⟩
        refine ⟨_, rfl, _, rfl, o, _, _, _, rfl, rfl, SqL.of (s3 _ _ (s2 _ _ ho)), atI_ints z0 (by rw [fl]; exact z1), ?_⟩
        refine ⟨_, hD, ?_, ?_, same_at s3 nD⟩
        · rw [List.length_map, List.length_take, List.length_map, sizeLine_eq]
          have := hws.2
          omega
        · have hz' : (ws.map (cat os))[i]? = some (cat os z) := by rw [List.getElem?_map, hz]; rfl
          rw [upd_same, map_snoc, take_snoc hz']
      · rintro H3 ⟨hD, s3⟩
        rw [List.take_of_length_le (by rw [List.length_map, List.length_map]; exact Nat.le_refl _)] at hD
        refine ⟨D, _, rfl, SqL.of hD, (by rw [List.length_map]; have := hws.2; omega), fun ns b hperm _ nb => ?_⟩
        have s4 : Same H3 (upd H3 b (.lst (ns.map V.int))) := same_new nb
        refine ⟨b, _, rfl, .inl ⟨SqL.of upd_same, fun u nu => ?_⟩⟩
        have s5 : Same H2 (upd (upd H3 b (.lst (ns.map V.int))) u (.tup (ns.map V.int))) := (s3.trans s4).trans (same_new nu)
        have hu5 : (upd (upd H3 b (.lst (ns.map V.int))) u (.tup (ns.map V.int))) u = some (.tup (ns.map V.int)) := upd_same
        generalize upd (upd H3 b (.lst (ns.map V.int))) u (.tup (ns.map V.int)) = H5 at s5 hu5 ⊢
        refine ⟨_, rfl, l, cs', rfl, .inl ⟨SqL.of (s5 _ _ hl2), fun e ne => ?_⟩⟩
        refine ⟨(by show 3 ≤ sizeLine; decide), fun g ng => ?_⟩
        have tx5 : Tx H5 _ := (tx_new (o := .tup cs') ne).trans (tx_new (o := .tup [.int (Tb.many : Int), .ref u, .ref e]) ng)
        have tx : Tx H2 _ := (same_tx s5).trans tx5
        refine q (.ref g) ⟨Tb.many, cons'⟩ _ (((s2.trans s5).trans (same_new ne)).trans (same_new ng)) ⟨g, u, e, ns, cs', rfl, upd_same, tx5 _ _ hu5, ⟨fun y hy => ?_, ?_⟩, tx_new ng _ _ upd_same, paired_map (fun _ _ h => h.tx tx) hc2⟩
          ⟨m0, m1, by show cons'.length ≤ 4; rw [← paired_len hn2]; exact ok.few, hk2⟩ rfl hn2
        · exact map_rg frg hws.1 y (hperm.mem_iff.mp hy)
        · rw [hperm.length_eq, List.length_map]
          exact hws.2
end
end K28

/-! _law_right -/
namespace K28
open PySem PySem.Spec PyProof.Rows L2
/-- two ways joined by what holds behind a statement -/
theorem pss_cutK {X : Cx} {st : Stmt} {rest : List Stmt} {t u : TS} (h1 : PS X st t) (h2 : PSs X rest u) : PSs X (st :: rest) (fun D σ H => ∃ M : L2.St → Hp → Prop, t { D with nx := M } σ H ∧ ∀ σ' H', M σ' H' → u D σ' H') := by
  refine ⟨fun pins s σ H D I h => ?_⟩
  obtain ⟨M, h, go⟩ := h
  refine wpAny_execs_cons (thn (h1.run pins s σ H { D with nx := M } I h) fun f s1 q => ?_)
  cases f with
  | next =>
    obtain ⟨σ', H', I', q⟩ := q
    exact h2.run pins s1 σ' H' D I' (go _ _ q)
  | ret v => exact q
  | brk => exact q
  | cont => exact q
/-- sorted, the columns' length found on the way -/
theorem cr_sortE {X : Cx} : CallR X (.builtin "sorted") (fun vs H Q => ∃ d : Nat, 1 ≤ d ∧ rSortU X.K d 4 vs H Q) := by
  intro pins s σ H xs us Q I r h
  obtain ⟨d, hd, h⟩ := h
  exact cr_sortT hd pins s σ H xs us Q I r h
/-- all([mark in part for mark in column]) -/
theorem rd_all {K : PySem.W.Frag} {σ : L2.St} {H : Hp} {Q : VK} {i : Nat} {t pa : Addr} {c part : List Int} (hi : σ[i]? = some (some (.ref t))) (hx : ∀ x : V, ((wipe σ [12]).set 12 (some x))[12]? = some (some x)) (hp : ∀ x : V, ((wipe σ [12]).set 12 (some x))[2]? = some (some (.ref pa)))
    (hw : ∀ x : V, wipe ((wipe σ [12]).set 12 (some x)) [12] = wipe σ [12]) (ht : H t = some (.tup (c.map V.int))) (hpa : H pa = some (.lst (part.map V.int))) (hl : c.length ≤ 100) (q : ∀ H' : Hp, Same H H' → Q (.bl (decide (∀ z ∈ c, z ∈ part))) H') :
    tCB (rAll K) (tCons (tLc (iTup K (tVar i)) (gName 12) tYes (tOp (rIn K false) (tVar 12) (tVar 2)) [12]) tNil) σ H Q := by
  refine ⟨_, hi, t, rfl, ⟨_, SqT.of ht⟩, fun D nD => ?_⟩
  refine lc_tup (K := K) (a := t) (xs := c.map V.int) (fun e H7 => H7 D = some (.lst (((ins part c).take e).map V.bl)) ∧ Same H H7) ⟨upd_same, same_new nD⟩ (fun e H7 _ hw => SqT.of (hw.2 _ _ ht)) ?_ ?_
  · rintro e x H7 he ⟨hD, s7⟩
    rw [List.getElem?_map] at he
    obtain ⟨z, hz, rfl⟩ := Option.map_eq_some_iff.mp he
    refine ⟨hw _, ?_⟩
    refine ⟨_, hx _, _, hp _, pa, _, rfl, .inl (SqL.of (s7 _ _ hpa)), rfl, flat_ints part, ?_⟩
    refine ⟨_, hD, ?_, ?_, same_at s7 nD⟩
    · rw [List.length_map, List.length_take, sizeLine_eq]
      have hh : (ins part c).length = c.length := by
        unfold ins
        rw [List.length_map]
      omega
    · have hz' : (ins part c)[e]? = some (decide (z ∈ part)) := by
        unfold ins
        rw [List.getElem?_map, hz]
        rfl
      rw [upd_same, inV_ints, take_snoc hz', List.map_append]
      rfl
  rintro H7 ⟨hD, s7⟩
  rw [List.take_of_length_le (by unfold ins; rw [List.length_map, List.length_map]; exact Nat.le_refl _)] at hD
  refine ⟨D, _, rfl, SqL.of hD, ?_⟩
  rw [ins_all]
  exact q H7 s7
theorem dp_intsL {K : PySem.W.Frag} {H : Hp} {v : V} {a : Addr} {l : List Int} (e : v = .ref a) (h : H a = some (.lst (l.map V.int))) : Dp K H v (.list (l.map PyData.int)) := by
  subst e
  exact .lst (SqL.of h) (dp_ints l)
theorem shaped_intsL (l : List Int) : SeqAt.shaped (.list (l.map PyData.int)) = true := by
  show ((PyData.list (l.map PyData.int)).canLay0 && decide ((PyData.list (l.map PyData.int)).depth ≤ 64)) = true
  simp only [PyData.canLay0, PyData.depth, lay_ints l, depth_ints l]
  decide
/-- what a call tells: the word and the columns kept -/
def datA (F : List (List Int)) : PyData := .tuple [.str "unsaid", .tuple (F.map datC)]
theorem shaped_ans (F : List (List Int)) : SeqAt.shaped (datA F) = true := by
  have h := depth_cols F
  have e1 : (datA F).canLay0 = true := by
    simp only [datA, PyData.canLay0, PyData.canLayAll0, lay_cols F]
    decide +kernel
  have e2 : (datA F).depth ≤ 64 := by
    simp only [datA, PyData.depth, PyData.depthAll]
    omega
  show ((datA F).canLay0 && decide ((datA F).depth ≤ 64)) = true
  rw [Bool.and_eq_true]
  exact ⟨e1, decide_eq_true e2⟩
/-- the answer of sayable, both ways -/
def AnsAt (H : Hp) (t u : Addr) (us : List V) (F G : List (List Int)) (wc : List Int) : Prop :=
  H u = some (.tup us) ∧ ((wc ∈ F ∧ H t = some (.tup [.str "said", .ref u])) ∨ (wc ∉ F ∧ H t = some (.tup [.str "unsaid", .ref u]) ∧ Paired (Col H) us G ∧ G.Perm F ∧ G.Pairwise CodeLe))
theorem AnsAt.tx {H H' : Hp} {t u : Addr} {us : List V} {F G : List (List Int)} {wc : List Int} (h : AnsAt H t u us F G wc) (x : Tx H H') : AnsAt H' t u us F G wc := by
  obtain ⟨h1, h⟩ := h
  refine ⟨x _ _ h1, ?_⟩
  rcases h with ⟨a, b⟩ | ⟨a, b, c, d⟩
  · exact .inl ⟨a, x _ _ b⟩
  · exact .inr ⟨a, x _ _ b, paired_map (fun _ _ q => q.tx x) c, d⟩
section
variable {P : Program} {w : World} {K : PySem.W.Frag} {mg : Str → Option Value} {base : Heap}
theorem scRight : FnScope ["_law_well_here", "_law_table_here", "_law_part", "_law_size", "_law_columns", "_law_letter", "_law_wish", "_law_found", "_law_column_here", "_law_order_here", "_law_more", "_law_behind", "_law_mark", "_law_k"] ["_law_well_here"] (defScope sRight) := ⟨rfl, rfl, rfl, by decide +kernel, rfl, by decide +kernel, by decide +kernel⟩
def spRight : Sp := fun vs H Q _ => ∃ (a : Addr), vs = [.ref a] ∧ Wl H a ∧ ∀ (H' : Hp), Dr a H H' → Q (.bl true) H'
theorem ok_right {f fD fTa fKe fSa fOr fTu fCo : Addr} {fd fdD fdTa fdKe fdSa fdOr fdTu fdCo : FuncData} {k : Nat} (F : Fun K "_law_right" "_law_right" sRight f fd)
    (FD : Fun K "_law_draw" "_law_draw" sDraw fD fdD) (bD : Binds K fdD ["_law_well_here", "_law_many"] []) (gD : mg "_law_draw" = some (.ref fD)) (GD : FnOk P w K mg base CX0 k fD fdD ["_law_well_here", "_law_many"] spDraw)
    (FTa : Fun K "_law_table" "_law_table" sTable fTa fdTa) (bTa : Binds K fdTa ["_law_well_here", "_law_most", "_law_some"] []) (gTa : mg "_law_table" = some (.ref fTa)) (GTa : FnOk P w K mg base CX0 k fTa fdTa ["_law_well_here", "_law_most", "_law_some"] spTable)
    (FKe : Fun K "_law_kept" "_law_kept" sKept fKe fdKe) (bKe : Binds K fdKe ["_law_table_here", "_law_part"] []) (gKe : mg "_law_kept" = some (.ref fKe)) (GKe : FnOk P w K mg base CX0 k fKe fdKe ["_law_table_here", "_law_part"] spKept)
    (FSa : Fun K "sayable" "sayable" sSayable fSa fdSa) (bSa : Binds K fdSa ["table", "columns", "wish"] []) (gSa : mg "sayable" = some (.ref fSa)) (GSa : FnOk P w K mg base CX0 k fSa fdSa ["table", "columns", "wish"] spSay)
    (FOr : Fun K "_law_order" "_law_order" sOrder fOr fdOr) (bOr : Binds K fdOr ["_law_well_here", "_law_many"] []) (gOr : mg "_law_order" = some (.ref fOr)) (GOr : FnOk P w K mg base CX0 k fOr fdOr ["_law_well_here", "_law_many"] spOrder)
    (FTu : Fun K "_law_turned" "_law_turned" sTurned fTu fdTu) (bTu : Binds K fdTu ["_law_table_here", "_law_order_here"] []) (gTu : mg "_law_turned" = some (.ref fTu)) (GTu : FnOk P w K mg base CX0 k fTu fdTu ["_law_table_here", "_law_order_here"] spTurned)
    (FCo : Fun K "_law_column" "_law_column" sColumn fCo fdCo) (bCo : Binds K fdCo ["_law_column_here", "_law_order_here"] []) (gCo : mg "_law_column" = some (.ref fCo)) (GCo : FnOk P w K mg base CX0 k fCo fdCo ["_law_column_here", "_law_order_here"] spColumn)
    (mr : mg "range" = none) (ml : mg "len" = none) (mt : mg "tuple" = none) (mall : mg "all" = none) (mi : mg "int" = none) (ms : mg "sorted" = none) : FnOk P w K mg base CX0 (k + 1) f fd ["_law_well_here"] spRight := by
  refine F.ok scRight (fun vs H Q E h => ?_) (fun cdv A outer s H vs Q E hr h => ?_)
  · obtain ⟨a, rfl, _⟩ := h
    rfl
  · obtain ⟨a, rfl, hw, q⟩ := h
    have nd := scRight.nd
    refine ⟨_,
      (pss_cons (ps_set (i := 1) nd rfl (.inr rfl) (pe_call GTa hr (by rfl) gTa FTa.kp bTa .nil pass0 (pa_cons (pv 0) (pa_cons pe_int (pa_cons pe_int pa_nil)))))
      (pss_cons (ps_set (i := 2) nd rfl (.inr rfl) (pe_lc (own := [("_law_mark", 12)]) (g := gName 12) (by rfl) nd (pi_range1 (by rfl) mr (pa_cons (pe_ix (ix_tupK (K := K)) (pv 1) pe_int (fun _ _ => rfl)) pa_nil)) (blkOk_by (own := [("_law_mark", 12)]) (N := ["_law_well_here", "_law_table_here", "_law_part", "_law_size", "_law_columns", "_law_letter", "_law_wish", "_law_found", "_law_column_here", "_law_order_here", "_law_more", "_law_behind", "_law_mark", "_law_k"]) (sc := defScope sRight) (by decide +kernel)) (fun _ _ _ _ _ => (pg_name (i := 12) nd rfl (.inl rfl))) (fun _ _ _ _ _ => (pts_one (pt_cmpR op_eq (pe_call GD hr (by rfl) gD FD.kp bD .nil pass0 (pa_cons (pv 0) (pa_cons pe_int pa_nil))) pe_int (nomark _)))) (fun _ _ _ _ _ => (pv 12))))
      (pss_cutK (ps_if (pt_cmpR (op_eqD hr.units) (pv 2) (pe_lst pa_nil) (nomark _))
      (pss_one (ps_set (i := 2) nd rfl (.inr rfl) (pe_lst (pa_cons (pe_call GD hr (by rfl) gD FD.kp bD .nil pass0 (pa_cons (pv 0) (pa_cons (pe_ix (ix_tupK (K := K)) (pv 1) pe_int (fun _ _ => rfl)) pa_nil))) pa_nil))))
      pss_nil)
      (pss_cons (ps_set (i := 1) nd rfl (.inr rfl) (pe_call GKe hr (by rfl) gKe FKe.kp bKe .nil pass0 (pa_cons (pv 1) (pa_cons (pv 2) pa_nil))))
      (pss_cons (ps_set (i := 3) nd rfl (.inl rfl) (pe_op op_add pe_int (pe_call GD hr (by rfl) gD FD.kp bD .nil pass0 (pa_cons (pv 0) (pa_cons pe_int pa_nil)))))
      (pss_cons (ps_set (i := 4) nd rfl (.inl rfl) (pe_lst pa_nil))
      (pss_cons (ps_for PassesOwn.never (by rfl) (pi_listK (K := K) (pe_lst (pa_cons pe_str (pa_cons pe_str pa_nil)))) (pg_name (i := 5) nd rfl (.inl rfl))
      (pss_one (ps_expr (pe_bm PySem.F.plainAttrs_list PySem.F.slot_list_append PySem.F.type_list_append mt_append (pv 4) (pa_cons (pe_tup (pa_cons (pv 5) (pa_cons (pe_callTy (cr_tupK (K := K)) (by rfl) mt (by decide +kernel) (pa_cons (pe_lc (own := [("_law_k", 13)]) (g := gName 13) (tt := tYes) (by rfl) nd (pi_range1 (by rfl) mr (pa_cons (pv 3) pa_nil)) (blkOk_by (own := [("_law_k", 13)]) (N := ["_law_well_here", "_law_table_here", "_law_part", "_law_size", "_law_columns", "_law_letter", "_law_wish", "_law_found", "_law_column_here", "_law_order_here", "_law_more", "_law_behind", "_law_mark", "_law_k"]) (sc := defScope sRight) (by decide +kernel)) (fun _ _ _ _ _ => (pg_name (i := 13) nd rfl (.inl rfl))) (fun _ _ _ _ _ => pts_nil) (fun _ _ _ _ _ => (pe_ix (ix_listK (K := K)) (pv 2) (pe_call GD hr (by rfl) gD FD.kp bD .nil pass0 (pa_cons (pv 0) (pa_cons (pe_callB (cr_lenK (K := K)) (by rfl) ml (by decide +kernel) (pa_cons (pv 2) pa_nil)) pa_nil))) (fun _ _ => rfl)))) pa_nil)) pa_nil))) pa_nil)))))
      (pss_cons (ps_set (i := 6) nd rfl (.inl rfl) (pe_callTy (cr_tupK (K := K)) (by rfl) mt (by decide +kernel) (pa_cons (pe_lc (own := [("_law_k", 13)]) (g := gName 13) (tt := tYes) (by rfl) nd (pi_range1 (by rfl) mr (pa_cons (pv 3) pa_nil)) (blkOk_by (own := [("_law_k", 13)]) (N := ["_law_well_here", "_law_table_here", "_law_part", "_law_size", "_law_columns", "_law_letter", "_law_wish", "_law_found", "_law_column_here", "_law_order_here", "_law_more", "_law_behind", "_law_mark", "_law_k"]) (sc := defScope sRight) (by decide +kernel)) (fun _ _ _ _ _ => (pg_name (i := 13) nd rfl (.inl rfl))) (fun _ _ _ _ _ => pts_nil) (fun _ _ _ _ _ => (pe_call GD hr (by rfl) gD FD.kp bD .nil pass0 (pa_cons (pv 0) (pa_cons (pe_ix (ix_tupK (K := K)) (pv 1) pe_int (fun _ _ => rfl)) pa_nil))))) pa_nil)))
      (pss_cutK (ps_set (i := 7) nd rfl (.inl rfl) (pe_call GSa hr (by rfl) gSa FSa.kp bSa .nil pass0 (pa_cons (pv 1) (pa_cons (pe_callTy (cr_tupK (K := K)) (by rfl) mt (by decide +kernel) (pa_cons (pv 4) pa_nil)) (pa_cons (pv 6) pa_nil)))))
      (pss_cutK (ps_if (PW.pt (pw_and (pt_cmpR op_eq (pe_ix (ix_tupK (K := K)) (pv 7) pe_int (fun _ _ => rfl)) pe_str (nomark _)) (pw_and1 (pt_not (pt_val (pe_callB (cr_allK (K := K)) (by rfl) mall (by decide +kernel) (pa_cons (pe_lc (own := [("_law_mark", 12)]) (g := gName 12) (tt := tYes) (by rfl) nd (pi_tupK (K := K) (pv 6)) (blkOk_by (own := [("_law_mark", 12)]) (N := ["_law_well_here", "_law_table_here", "_law_part", "_law_size", "_law_columns", "_law_letter", "_law_wish", "_law_found", "_law_column_here", "_law_order_here", "_law_more", "_law_behind", "_law_mark", "_law_k"]) (sc := defScope sRight) (by decide +kernel)) (fun _ _ _ _ _ => (pg_name (i := 12) nd rfl (.inl rfl))) (fun _ _ _ _ _ => pts_nil) (fun _ _ _ _ _ => (pe_cmpR (op_inK (K := K)) (pv 12) (pv 2) (by rfl)))) pa_nil)))))))
      (pss_one (ps_ret pe_bl))
      pss_nil)
      (pss_cutK (ps_for PassesOwn.never (by rfl) (pi_tupK (K := K) (pe_op op_rep01 (pe_ix (ix_tupK (K := K)) (pv 7) pe_int (fun _ _ => rfl)) (pe_callTy call_int1 (by rfl) mi (by decide +kernel) (pa_cons (pe_cmpR op_eq (pe_ix (ix_tupK (K := K)) (pv 7) pe_int (fun _ _ => rfl)) pe_str (nomark _)) pa_nil)))) (pg_name (i := 8) nd rfl (.inl rfl))
      (pss_one (ps_if (pt_not (pt_val (pe_callB (cr_allK (K := K)) (by rfl) mall (by decide +kernel) (pa_cons (pe_lc (own := [("_law_mark", 12)]) (g := gName 12) (tt := tYes) (by rfl) nd (pi_tupK (K := K) (pv 8)) (blkOk_by (own := [("_law_mark", 12)]) (N := ["_law_well_here", "_law_table_here", "_law_part", "_law_size", "_law_columns", "_law_letter", "_law_wish", "_law_found", "_law_column_here", "_law_order_here", "_law_more", "_law_behind", "_law_mark", "_law_k"]) (sc := defScope sRight) (by decide +kernel)) (fun _ _ _ _ _ => (pg_name (i := 12) nd rfl (.inl rfl))) (fun _ _ _ _ _ => pts_nil) (fun _ _ _ _ _ => (pe_cmpR (op_inK (K := K)) (pv 12) (pv 2) (by rfl)))) pa_nil))))
      (pss_one (ps_ret pe_bl))
      pss_nil)))
      (pss_cons (ps_set (i := 9) nd rfl (.inr rfl) (pe_call GOr hr (by rfl) gOr FOr.kp bOr .nil pass0 (pa_cons (pv 0) (pa_cons (pe_ix (ix_tupK (K := K)) (pv 1) pe_int (fun _ _ => rfl)) pa_nil))))
      (pss_cons (ps_set (i := 10) nd rfl (.inl rfl) (pe_callTy (cr_tupK (K := K)) (by rfl) mt (by decide +kernel) (pa_cons (pe_lc (own := [("_law_letter", 5), ("_law_column_here", 8)]) (tt := tYes) (by rfl) nd (pi_listK (K := K) (pv 4)) (blkOk_by (own := [("_law_letter", 5), ("_law_column_here", 8)]) (N := ["_law_well_here", "_law_table_here", "_law_part", "_law_size", "_law_columns", "_law_letter", "_law_wish", "_law_found", "_law_column_here", "_law_order_here", "_law_more", "_law_behind", "_law_mark", "_law_k"]) (sc := defScope sRight) (by decide +kernel)) (fun _ _ _ _ _ => (show PG _ _ (gTup K 2 _) from pg_tup (by rfl) (pgs_cons (pg_name (i := 5) nd rfl (.inl rfl)) (pgs_cons (pg_name (i := 8) nd rfl (.inl rfl)) pgs_nil)))) (fun _ _ _ _ _ => pts_nil) (fun _ _ _ _ _ => (pe_tup (pa_cons (pv 5) (pa_cons (pe_call GCo hr (by rfl) gCo FCo.kp bCo .nil pass0 (pa_cons (pv 8) (pa_cons (pv 9) pa_nil))) pa_nil))))) pa_nil)))
      (pss_cons (ps_set (i := 11) nd rfl (.inl rfl) (pe_call GSa hr (by rfl) gSa FSa.kp bSa .nil pass0 (pa_cons (pe_call GTu hr (by rfl) gTu FTu.kp bTu .nil pass0 (pa_cons (pv 1) (pa_cons (pv 9) pa_nil))) (pa_cons (pv 10) (pa_cons (pe_call GCo hr (by rfl) gCo FCo.kp bCo .nil pass0 (pa_cons (pv 6) (pa_cons (pv 9) pa_nil))) pa_nil)))))
      (pss_cons (ps_if (pt_cmpR op_eq (pe_ix (ix_tupK (K := K)) (pv 7) pe_int (fun _ _ => rfl)) pe_str (nomark _))
      (pss_one (ps_ret (pe_cmpR op_eq (pe_ix (ix_tupK (K := K)) (pv 11) pe_int (fun _ _ => rfl)) pe_str (nomark _))))
      pss_nil)
      (pss_one (ps_ret (pe_cmpR (op_eqD hr.units) (pv 11) (pe_tup (pa_cons pe_str (pa_cons (pe_callTy (cr_tupK (K := K)) (by rfl) mt (by decide +kernel) (pa_cons (pe_callB cr_sortE (by rfl) ms (by decide +kernel) (pa_cons (pe_lc (own := [("_law_column_here", 8)]) (g := gName 8) (tt := tYes) (by rfl) nd (pi_tupK (K := K) (pe_ix (ix_tupK (K := K)) (pv 7) pe_int (fun _ _ => rfl))) (blkOk_by (own := [("_law_column_here", 8)]) (N := ["_law_well_here", "_law_table_here", "_law_part", "_law_size", "_law_columns", "_law_letter", "_law_wish", "_law_found", "_law_column_here", "_law_order_here", "_law_more", "_law_behind", "_law_mark", "_law_k"]) (sc := defScope sRight) (by decide +kernel)) (fun _ _ _ _ _ => (pg_name (i := 8) nd rfl (.inl rfl))) (fun _ _ _ _ _ => pts_nil) (fun _ _ _ _ _ => (pe_call GCo hr (by rfl) gCo FCo.kp bCo .nil pass0 (pa_cons (pv 8) (pa_cons (pv 9) pa_nil))))) pa_nil)) pa_nil)) pa_nil))) (nomark _)))))))))))))))))))
      , ?_⟩
    -- the table
    refine ⟨_, rfl, a, rfl, hw, fun tv T H1 d1 tab ok => ?_⟩
    have hw1 := d1.wl
    -- the part
    have m0 := ok.lo
    have m1 := ok.hi
    obtain ⟨t, wa, ca, ws, cs, rfl, ht, _⟩ := id tab.ex
    refine ⟨_, rfl, t, _, 0, _, rfl, rfl, SqT.of ht, atI_nat (j := 0) rfl, _, rfl, by omega, by omega, fun D nD => ?_⟩
    have hDa := hw1.ne nD
    refine lc_range (lo := 0) (n := ((T.many : Nat) : Int).toNat) (fun i H3 => ∃ acc : List Int, H3 D = some (.lst (acc.map V.int)) ∧ Rg T.many acc ∧ acc.length ≤ i ∧ Dr a H1 H3) ⟨[], upd_same, Rg.nil, Nat.le_refl _, (Dr.refl hw1).new nD⟩ ?_ ?_
    · rintro i H3 hi ⟨acc, hD, hR, hl, dr⟩
      refine ⟨rfl, ?_⟩
      refine ⟨_, rfl, a, 2, rfl, by decide, by decide, dr.wl, fun r2 H4 _ _ d4 => ⟨rfl, _, rfl, ?_⟩⟩
      have hD4 := d4.but _ _ hD hDa
      refine ite2 (fun _ => ?_) (fun _ => ?_)
      · refine ⟨_, rfl, _, hD4, (by rw [List.length_map, sizeLine_eq]; omega), acc ++ [_], ?_, hR.snoc (r := 0 + (i : Int)) (by omega) (by omega), by simp; omega, (dr.trans d4).at nD hDa⟩
        rw [upd_same, map_snoc]
      · exact ⟨acc, hD4, hR, by omega, dr.trans d4⟩
    rintro H3 ⟨part0, hD, hR0, hl0, dr3⟩
    -- if part == []
    refine ⟨fun σ' H' => ∃ (pa : Addr) (part : List Int), σ' = [some (.ref a), some (.ref t), some (.ref pa), none, none, none, none, none, none, none, none, none, none, none] ∧ H' pa = some (.lst (part.map V.int)) ∧ Rg T.many part ∧ part ≠ [] ∧ part.length ≤ 4 ∧ pa ≠ a ∧ Dr a H1 H', ?_, ?_⟩
    · refine ⟨_, rfl, Nat.zero_le _, fun l nl => ?_⟩
      have d4 : Dr a H1 (upd H3 l (.lst [])) := dr3.new nl
      have s4 : Same H3 (upd H3 l (.lst [])) := same_new nl
      refine ⟨.list (part0.map PyData.int), .list ([].map PyData.int), dp_intsL rfl (s4 _ _ hD), dp_intsL (l := []) rfl upd_same, shaped_intsL _, shaped_intsL [], _, rfl, ?_⟩
      simp only [PyData.eqv, eqvAll_ints]
      refine ite2 (fun e => ?_) (fun e => ?_)
      · have ht4 := (d4.tx hw1) _ _ ht
        refine ⟨_, rfl, _, rfl, t, _, 0, _, rfl, rfl, SqT.of ht4, atI_nat (j := 0) rfl, a, _, rfl, by omega, by omega, d4.wl, fun r H5 r0 r1 d5 => ?_⟩
        have d45 := d4.trans d5
        refine ⟨(by show 1 ≤ sizeLine; decide), fun l2 nl2 => ?_⟩
        exact ⟨l2, [r], rfl, upd_same, fun x hx => by
          have e : x = r := by simpa using hx
          rw [e]; exact ⟨r0, r1⟩, by simp, (by show 1 ≤ 4; decide), d45.wl.ne nl2, d45.new nl2⟩
      · exact ⟨D, part0, rfl, s4 _ _ hD, hR0, fun z => e (decide_eq_true z), by omega, hDa, d4⟩
    rintro σ' H4 ⟨pa, part, rfl, hpa, hpR, hpn, hp4, hpaa, d4⟩
    have tx4 := d4.tx hw1
    -- kept
    refine ⟨_, rfl, _, rfl, .ref t, pa, T, part, rfl, tab.tx tx4, ok, hpa, hpR, hpn, fun tv2 T2 H5 s5 tab5 ok2 em cl => ?_⟩
    rw [← em] at cl hpR
    have d5 := d4.same s5
    have hpa5 := s5 _ _ hpa
    have k0 := ok2.lo
    have k1 := ok2.hi
    obtain ⟨t2, wa2, ca2, ws2, cs2, rfl, ht2, _⟩ := id tab5.ex
    -- size
    refine ⟨_, rfl, a, 2, rfl, by decide, by decide, d5.wl, fun r H6 r0 r1 d6 => ⟨_, _, rfl, rfl, ?_⟩⟩
    obtain ⟨n, hn⟩ : ∃ n : Nat, (n : Int) = 1 + r := ⟨(1 + r).toNat, by omega⟩
    show gName 3 (V.int (1 + r)) _ _ _
    rw [← hn]
    have n1 : 1 ≤ n := by omega
    have n2 : n ≤ 2 := by omega
    have hpa6 := d6.but _ _ hpa5 hpaa
    have tab6 := tab5.tx (d6.tx d5.wl)
    have dall6 : Dr a H H6 := (d1.trans d5).trans d6
    -- columns = []
    refine ⟨Nat.zero_le _, fun l nl => ?_⟩
    have d7 : Dr a H6 (upd H6 l (.lst [])) := (Dr.refl d6.wl).new nl
    have hl7 : (upd H6 l (.lst [])) l = some (.lst []) := upd_same
    have hpl : pa ≠ l := ne_of_none hpa6 nl
    have hpa7 : (upd H6 l (.lst [])) pa = some (.lst (part.map V.int)) := by rw [upd_ne hpl]; exact hpa6
    have hla : l ≠ a := d6.wl.ne nl
    generalize upd H6 l (.lst []) = H7 at d7 hl7 hpa7 ⊢
    -- for letter in ["p", "q"]
    refine ⟨(by show 2 ≤ sizeLine; decide), fun p np => ?_⟩
    have s8 : Same H7 (upd H7 p (.lst [.str "p", .str "q"])) := same_new np
    have hp8 : (upd H7 p (.lst [.str "p", .str "q"])) p = some (.lst [.str "p", .str "q"]) := upd_same
    have hpl8 : l ≠ p := ne_of_none hl7 np
    have hpa8 : p ≠ a := d7.wl.ne np
    have d8 : Dr a H6 (upd H7 p (.lst [.str "p", .str "q"])) := d7.new np
    generalize upd H7 p (.lst [.str "p", .str "q"]) = H8 at s8 hp8 d8 ⊢
    have hprt : (0 : Int) < (part.length : Int) := by
      have : part.length ≠ 0 := fun e => hpn (List.eq_nil_of_length_eq_zero e)
      omega
    refine ⟨p, rfl, ⟨_, SqL.of hp8⟩, for_list (K := K) (a := p) (xs := [.str "p", .str "q"])
      (fun i σ H9 => ∃ (v5 : Option V) (ps : List V) (cols : List (List Int)), σ = [some (.ref a), some (.ref t2), some (.ref pa), some (.int (n : Int)), some (.ref l), v5, none, none, none, none, none, none, none, none] ∧ H9 l = some (.lst ps) ∧ Paired (PairAt H9) ps cols ∧ cols.length = i ∧
        (∀ c ∈ cols, c.length = n ∧ ∀ x ∈ c, x ∈ part) ∧ H9 p = some (.lst [.str "p", .str "q"]) ∧ H9 pa = some (.lst (part.map V.int)) ∧ Dr a H6 H9)
      ⟨_, [], [], rfl, s8 _ _ hl7, .nil, rfl, (fun c h => by simp at h), hp8, s8 _ _ hpa7, d8⟩ (fun i σ H9 _ hw => by obtain ⟨_, _, _, _, _, _, _, _, h, _⟩ := hw; exact SqL.of h) ?_ ?_⟩
    · rintro i x σ H9 hi ⟨v5, ps, cols, rfl, hl9, hP9, hn9, hc9, hp9, hpa9, d9⟩
      have hi2 : i < 2 := (List.getElem?_eq_some_iff.mp hi).1
      refine ⟨_, rfl, .inl ⟨rfl, _, SqL.of hl9⟩, _, rfl, _, rfl, _, rfl, by omega, by omega, fun D2 nD2 => ?_⟩
      have w9 := d9.wl
      have hD2a := w9.ne nD2
      refine lc_range (lo := 0) (n := ((n : Nat) : Int).toNat) (fun e H10 => ∃ acc : List Int, H10 D2 = some (.lst (acc.map V.int)) ∧ (∀ x ∈ acc, x ∈ part) ∧ acc.length = e ∧ Dr a H9 H10) ⟨[], upd_same, (fun x h => by simp at h), rfl, (Dr.refl w9).new nD2⟩ ?_ ?_
      · rintro e H10 he ⟨acc, hD2, hA, hAl, d10⟩
        have hpa10 := d10.but _ _ hpa9 hpaa
        refine ⟨rfl, ?_⟩
        refine ⟨_, rfl, _, rfl, _, rfl, pa, _, rfl, .inl (SqL.of hpa10), a, _, rfl, (by rw [List.length_map]; exact hprt), ?_, d10.wl, fun r H11 r0 r1 d11 => ?_⟩
        · rw [List.length_map]
          omega
        rw [List.length_map] at r1
        refine ⟨pa, _, _, _, rfl, rfl, SqL.of (d11.but _ _ hpa10 hpaa), atI_ints r0 r1, ?_⟩
        refine ⟨_, d11.but _ _ hD2 hD2a, (by rw [List.length_map, sizeLine_eq]; omega), acc ++ [cat part r], ?_, fun y hy => ?_, by simp [hAl], (d10.trans d11).at nD2 hD2a⟩
        · rw [upd_same, map_snoc]
        · rcases List.mem_append.mp hy with hy | hy
          · exact hA y hy
          · have e : y = cat part r := by simpa using hy
            rw [e]
            exact cat_mem r0 r1
      rintro H10 ⟨acc, hD2, hA, hAl, d10⟩
      refine ⟨D2, _, rfl, .inl ⟨SqL.of hD2, fun u nu => ?_⟩⟩
      refine ⟨(by show 2 ≤ sizeLine; decide), fun e ne => ?_⟩
      have s11 : Same H10 (upd (upd H10 u (.tup (acc.map V.int))) e (.tup [x, .ref u])) := (same_new nu).trans (same_new ne)
      have hl10 := d10.but _ _ hl9 hla
      have hl11 := s11 _ _ hl10
      have d11 : Dr a H9 (upd (upd H10 u (.tup (acc.map V.int))) e (.tup [x, .ref u])) := (d10.new nu).new ne
      have tx : Tx H9 _ := (d11.tx w9).trans (tx_lst (o := .lst (ps ++ [.ref e])) hl11)
      have hul := paired_len hP9
      refine ⟨l, ps, _, rfl, rfl, hl11, (by rw [sizeLine_eq]; omega), ?_⟩
      refine ⟨_, ps ++ [.ref e], cols ++ [acc], rfl, upd_same, paired_snoc (paired_map (fun _ _ h => h.tx tx) hP9) ⟨e, x, .ref u, rfl, tx_lst hl11 _ _ upd_same, u, rfl, tx_lst hl11 _ _ (same_new ne _ _ upd_same)⟩, by simp [hn9], fun c hc => ?_, ?_, ?_, ?_⟩
      · rcases List.mem_append.mp hc with hc | hc
        · exact hc9 c hc
        · have e : c = acc := by simpa using hc
          rw [e]
          exact ⟨by omega, hA⟩
      · rw [upd_ne hpl8.symm]
        exact d11.but _ _ hp9 hpa8
      · rw [upd_ne hpl]
        exact d11.but _ _ hpa9 hpaa
      · exact (d9.trans d11).at nl hla
    rintro σ H9 ⟨v5, ps, cols, rfl, hl9, hP9, hn9, hc9, hp9, hpa9, d9⟩
    have hn92 : cols.length = 2 := hn9
    have tab9 := tab6.tx (d9.tx d6.wl)
    have ht9 := d9.tx d6.wl _ _ (d6.tx d5.wl _ _ ht2)
    have dall9 := dall6.trans d9
    have w9 := d9.wl
    -- wish
    refine ⟨_, rfl, _, rfl, by omega, by omega, fun D3 nD3 => ?_⟩
    have hD3a := w9.ne nD3
    refine lc_range (lo := 0) (n := ((n : Nat) : Int).toNat) (fun e H10 => ∃ acc : List Int, H10 D3 = some (.lst (acc.map V.int)) ∧ Rg T2.many acc ∧ acc.length = e ∧ Dr a H9 H10) ⟨[], upd_same, Rg.nil, rfl, (Dr.refl w9).new nD3⟩ ?_ ?_
    · rintro e H10 he ⟨acc, hD3, hA, hAl, d10⟩
      refine ⟨rfl, ?_⟩
      refine ⟨_, rfl, _, rfl, t2, _, 0, _, rfl, rfl, SqT.of (d10.tx w9 _ _ ht9), atI_nat (j := 0) rfl, a, _, rfl, by omega, by omega, d10.wl, fun r H11 r0 r1 d11 => ?_⟩
      refine ⟨_, d11.but _ _ hD3 hD3a, (by rw [List.length_map, sizeLine_eq]; omega), acc ++ [r], ?_, hA.snoc r0 r1, by simp [hAl], (d10.trans d11).at nD3 hD3a⟩
      rw [upd_same, map_snoc]
    rintro H10 ⟨wc, hD3, hwR, hwl, d10⟩
    refine ⟨D3, _, rfl, .inl ⟨SqL.of hD3, fun wv nwv => ?_⟩⟩
    have s11 : Same H10 (upd H10 wv (.tup (wc.map V.int))) := same_new nwv
    have hwv : (upd H10 wv (.tup (wc.map V.int))) wv = some (.tup (wc.map V.int)) := upd_same
    have d11 : Dr a H9 (upd H10 wv (.tup (wc.map V.int))) := d10.new nwv
    generalize upd H10 wv (.tup (wc.map V.int)) = H11 at s11 hwv d11 ⊢
    have hcol : ∀ c ∈ cols, c.length = n ∧ Rg T2.many c := fun c hc => ⟨(hc9 c hc).1, fun x hx => hpR x ((hc9 c hc).2 x hx)⟩
    have hwn : wc.length = n := by omega
    -- what stands from here on
    obtain ⟨M, hM⟩ : ∃ M : L2.St → Hp → Prop, ∀ σ H', M σ H' ↔ ∃ (v8 : Option V) (tf u : Addr) (us : List V) (F G : List (List Int)),
        σ = [some (.ref a), some (.ref t2), some (.ref pa), some (.int (n : Int)), some (.ref l), v5, some (.ref wv), some (.ref tf), v8, none, none, none, none, none] ∧
        H' pa = some (.lst (part.map V.int)) ∧ H' l = some (.lst ps) ∧ Dr a H H' ∧ Tx H9 H' ∧ H' wv = some (.tup (wc.map V.int)) ∧ F.Nodup ∧ (∀ c, c ∈ F ↔ Said T2.many T2.cons cols n c) ∧ AnsAt H' tf u us F G wc := ⟨_, fun _ _ => Iff.rfl⟩
    have inpart : ∀ {c : List Int}, Said T2.many T2.cons cols n c → c.length = n ∧ ∀ z ∈ c, z ∈ part := fun h => said_part cl hc9 h
    -- found
    refine ⟨M, ?_, ?_⟩
    · refine ⟨_, rfl, _, rfl, l, _, rfl, .inl ⟨SqL.of (d11.but _ _ hl9 hla), fun cc ncc => ⟨_, rfl, ?_⟩⟩⟩
      have d12 : Dr a H9 (upd H11 cc (.tup ps)) := d11.new ncc
      have s12 : Same H11 (upd H11 cc (.tup ps)) := same_new ncc
      refine ⟨cc, .ref t2, .ref wv, n, T2, cols, ps, wc, rfl, tab9.tx (d12.tx w9), ok2, n1, n2, hcol, upd_same, paired_map (fun _ _ h => h.tx (d12.tx w9)) hP9, ⟨wv, rfl, s12 _ _ hwv⟩, hwn, fun F ndF hF tf u us H13 s13 hu => ⟨fun hin htf => ?_, fun G hnin htf hPG hpG hsG => ?_⟩⟩
      · exact (hM _ _).mpr ⟨_, tf, u, us, F, [], rfl, s13 _ _ (d12.but _ _ hpa9 hpaa), s13 _ _ (d12.but _ _ hl9 hla), (dall9.trans d12).same s13, (d12.tx w9).trans (same_tx s13), s13 _ _ (s12 _ _ hwv), ndF, hF, hu, .inl ⟨hin, htf⟩⟩
      · exact (hM _ _).mpr ⟨_, tf, u, us, F, G, rfl, s13 _ _ (d12.but _ _ hpa9 hpaa), s13 _ _ (d12.but _ _ hl9 hla), (dall9.trans d12).same s13, (d12.tx w9).trans (same_tx s13), s13 _ _ (s12 _ _ hwv), ndF, hF, hu, .inr ⟨hnin, htf, hPG, hpG, hsG⟩⟩
    intro σ12 H12 m12
    have ne_word : decide (V.str "unsaid" = V.str "said") = false := by decide +kernel
    -- if found[0] == "said" and not all(..)
    refine ⟨M, ?_, ?_⟩
    · obtain ⟨v8, tf, u, us, F, G, rfl, hpa12, hl12, dr12, tx12, hwv12, ndF, hF, hu, hA⟩ := (hM _ _).mp m12
      rcases hA with ⟨hin, htf⟩ | ⟨hnin, htf, hPG, hpG, hsG⟩
      · refine ⟨_, rfl, tf, _, 0, _, rfl, rfl, SqT.of htf, atI_nat (j := 0) rfl, rfl, _, rfl, ?_⟩
        refine ite2 (fun _ => ?_) (fun z => absurd (decide_eq_true rfl) z)
        refine rd_all (i := 6) rfl (fun _ => rfl) (fun _ => rfl) (fun _ => rfl) hwv12 hpa12 (by omega) fun H13 s13 => ⟨_, rfl, ?_⟩
        rw [decide_eq_true (inpart ((hF wc).mp hin)).2]
        exact (hM _ _).mpr ⟨_, tf, u, us, F, G, rfl, s13 _ _ hpa12, s13 _ _ hl12, dr12.same s13, tx12.trans (same_tx s13), s13 _ _ hwv12, ndF, hF, AnsAt.tx ⟨hu, .inl ⟨hin, htf⟩⟩ (same_tx s13)⟩
      · refine ⟨_, rfl, tf, _, 0, _, rfl, rfl, SqT.of htf, atI_nat (j := 0) rfl, rfl, _, rfl, ?_⟩
        refine ite2 (fun z => by rw [ne_word] at z; cases z) (fun _ => ?_)
        exact m12
    intro σ13 H13 m13
    -- for column in found[1] * int(found[0] == "unsaid")
    refine ⟨M, ?_, ?_⟩
    · obtain ⟨v8, tf, u, us, F, G, rfl, hpa12, hl12, dr12, tx12, hwv12, ndF, hF, hu, hA⟩ := (hM _ _).mp m13
      rcases hA with ⟨hin, htf⟩ | ⟨hnin, htf, hPG, hpG, hsG⟩
      · have ne2 : decide (V.str "said" = V.str "unsaid") = false := by decide +kernel
        refine ⟨_, rfl, tf, _, 1, _, rfl, rfl, SqT.of htf, atI_nat (j := 1) rfl, _, rfl, tf, _, 0, _, rfl, rfl, SqT.of htf, atI_nat (j := 0) rfl, rfl, .inr ⟨_, rfl, ?_⟩⟩
        rw [ne2]
        have empty : ∀ (e : Addr) (H14 : Hp), H14 e = some (.tup []) → Same H13 H14 → M [some (.ref a), some (.ref t2), some (.ref pa), some (.int (n : Int)), some (.ref l), v5, some (.ref wv), some (.ref tf), v8, none, none, none, none, none] H14 := fun e H14 _ s14 =>
          (hM _ _).mpr ⟨_, tf, u, us, F, G, rfl, s14 _ _ hpa12, s14 _ _ hl12, dr12.same s14, tx12.trans (same_tx s14), s14 _ _ hwv12, ndF, hF, AnsAt.tx ⟨hu, .inl ⟨hin, htf⟩⟩ (same_tx s14)⟩
        refine ⟨u, 0, us, rfl, rfl, SqT.of hu, Int.le_refl _, by decide, fun z => ?_, fun _ _ e ne => ?_⟩
        · have eus : us = [] := z.resolve_left (by decide)
          rw [eus] at hu
          refine ⟨u, rfl, ⟨[], SqT.of hu⟩, for_tup (K := K) (a := u) (xs := []) (fun _ σ H14 => σ = [some (.ref a), some (.ref t2), some (.ref pa), some (.int (n : Int)), some (.ref l), v5, some (.ref wv), some (.ref tf), v8, none, none, none, none, none] ∧ H14 = H13) ⟨rfl, rfl⟩ (fun _ _ _ _ hw => by obtain ⟨_, rfl⟩ := hw; exact SqT.of hu) (fun i x σ H14 h => by simp at h) ?_⟩
          rintro σ H14 ⟨rfl, rfl⟩
          exact empty u H14 hu (Same.refl _)
        · refine ⟨e, rfl, ⟨[], SqT.of upd_same⟩, for_tup (K := K) (a := e) (xs := []) (fun _ σ H14 => σ = [some (.ref a), some (.ref t2), some (.ref pa), some (.int (n : Int)), some (.ref l), v5, some (.ref wv), some (.ref tf), v8, none, none, none, none, none] ∧ H14 = upd H13 e (.tup [])) ⟨rfl, rfl⟩ (fun _ _ _ _ hw => by obtain ⟨_, rfl⟩ := hw; exact SqT.of upd_same) (fun i x σ H14 h => by simp at h) ?_⟩
          rintro σ H14 ⟨rfl, rfl⟩
          exact empty e _ upd_same (same_new ne)
      · refine ⟨_, rfl, tf, _, 1, _, rfl, rfl, SqT.of htf, atI_nat (j := 1) rfl, _, rfl, tf, _, 0, _, rfl, rfl, SqT.of htf, atI_nat (j := 0) rfl, rfl, .inr ⟨_, rfl, ?_⟩⟩
        rw [decide_eq_true rfl]
        refine ⟨u, 1, us, rfl, rfl, SqT.of hu, by decide, Int.le_refl _, fun _ => ?_, fun z => absurd z (by decide)⟩
        refine ⟨u, rfl, ⟨us, SqT.of hu⟩, for_tup (K := K) (a := u) (xs := us) (fun _ σ H14 => ∃ v8 : Option V, σ = [some (.ref a), some (.ref t2), some (.ref pa), some (.int (n : Int)), some (.ref l), v5, some (.ref wv), some (.ref tf), v8, none, none, none, none, none] ∧ Same H13 H14) ⟨_, rfl, Same.refl _⟩ (fun _ _ _ _ hw => by obtain ⟨_, _, s14⟩ := hw; exact SqT.of (s14 _ _ hu)) ?_ ?_⟩
        · rintro i x σ H14 hi ⟨v8, rfl, s14⟩
          obtain ⟨c, hc, tc, rfl, htc⟩ := paired_at hPG hi
          have hcF := (hF c).mp (hpG.mem_iff.mp (List.mem_of_getElem? hc))
          refine rd_all (i := 8) rfl (fun _ => rfl) (fun _ => rfl) (fun _ => rfl) (s14 _ _ htc) (s14 _ _ hpa12) (by have := (inpart hcF).1; omega) fun H15 s15 => ⟨_, rfl, ?_⟩
          rw [decide_eq_true (inpart hcF).2]
          exact ⟨_, rfl, s14.trans s15⟩
        · rintro σ H14 ⟨v8, rfl, s14⟩
          exact (hM _ _).mpr ⟨_, tf, u, us, F, G, rfl, s14 _ _ hpa12, s14 _ _ hl12, dr12.same s14, tx12.trans (same_tx s14), s14 _ _ hwv12, ndF, hF, AnsAt.tx ⟨hu, .inr ⟨hnin, htf, hPG, hpG, hsG⟩⟩ (same_tx s14)⟩
    intro σ14 H14 m14
    obtain ⟨v8, tf, u, us, F, G, rfl, hpa14, hl14, dr14, tx14, hwv14, ndF, hF, hans⟩ := (hM _ _).mp m14
    clear m12 m13 m14
    -- order
    have ht14 := tx14 _ _ ht9
    refine ⟨_, rfl, _, rfl, t2, _, 0, _, rfl, rfl, SqT.of ht14, atI_nat (j := 0) rfl, a, T2.many, rfl, k1, dr14.wl, fun o os H15 d15 no noa ho hos => ?_⟩
    obtain ⟨finj, frg, fl⟩ := order_fn hos
    have tx15 : Tx H9 H15 := tx14.trans (d15.tx dr14.wl)
    have dr15 := dr14.trans d15
    have hl15 := d15.but _ _ hl14 hla
    have hwv15 := d15.tx dr14.wl _ _ hwv14
    have hans15 := hans.tx (d15.tx dr14.wl)
    have hP15 : Paired (PairAt H15) ps cols := paired_map (fun _ _ h => h.tx tx15) hP9
    have rgo : ∀ {c : List Int}, Rg T2.many c → Rg os.length c := fun h => by rw [fl]; exact h
    -- more
    refine ⟨_, rfl, l, rfl, ⟨ps, SqL.of hl15⟩, fun D4 nD4 => ?_⟩
    refine lc_list (K := K) (a := l) (xs := ps) (fun i H16 => ∃ acc : List V, H16 D4 = some (.lst acc) ∧ Paired (PairAt H16) acc ((cols.map fun c => c.map (cat os)).take i) ∧ acc.length = i ∧ Same H15 H16) ⟨[], upd_same, .nil, rfl, same_new nD4⟩ (fun i H16 _ hw => by obtain ⟨_, _, _, _, s16⟩ := hw; exact SqL.of (s16 _ _ hl15)) ?_ ?_
    · rintro i x H16 hi ⟨acc, hD4, hPA, hAl, s16⟩
      obtain ⟨c, hc, tp, z, cv, rfl, htp, hcv⟩ := paired_at hP15 hi
      have hil : i < cols.length := (List.getElem?_eq_some_iff.mp hc).1
      have hcc := hcol c (List.mem_of_getElem? hc)
      refine ⟨tp, _, rfl, SqT.of (s16 _ _ htp), rfl, _, _, rfl, _, _, rfl, rfl, ?_⟩
      refine ⟨rfl, ?_⟩
      refine ⟨_, rfl, _, rfl, _, rfl, cv, o, c, os, rfl, hcv.tx (same_tx s16), s16 _ _ ho, rgo hcc.2, by omega, fun v H17 s17 hv => ?_⟩
      refine ⟨(by show 2 ≤ sizeLine; decide), fun e ne => ?_⟩
      have s18 : Same H16 (upd H17 e (.tup [z, v])) := s17.trans (same_new ne)
      have hD18 := s18 _ _ hD4
      have tx18 : Tx H16 (upd (upd H17 e (.tup [z, v])) D4 (.lst (acc ++ [.ref e]))) := (same_tx s18).trans (tx_lst hD18)
      have hc' : (cols.map fun c => c.map (cat os))[i]? = some (c.map (cat os)) := by rw [List.getElem?_map, hc]; rfl
      refine ⟨acc, hD18, (by rw [sizeLine_eq]; omega), acc ++ [.ref e], upd_same, ?_, by simp [hAl], same_at (s16.trans s18) nD4⟩
      rw [take_snoc hc']
      exact paired_snoc (paired_map (fun _ _ h => h.tx tx18) hPA) ⟨e, z, v, rfl, tx_lst hD18 _ _ upd_same, hv.tx ((tx_new ne).trans (tx_lst hD18))⟩
    rintro H16 ⟨acc, hD4, hPA, hAl, s16⟩
    rw [List.take_of_length_le (by rw [List.length_map, paired_len hP9]; exact Nat.le_refl _)] at hPA
    refine ⟨D4, _, rfl, .inl ⟨SqL.of hD4, fun mm nmm => ?_⟩⟩
    have s17 : Same H15 (upd H16 mm (.tup acc)) := s16.trans (same_new nmm)
    have hmm : (upd H16 mm (.tup acc)) mm = some (.tup acc) := upd_same
    have hPA17 : Paired (PairAt (upd H16 mm (.tup acc))) acc (cols.map fun c => c.map (cat os)) := paired_map (fun _ _ h => h.tx (tx_new nmm)) hPA
    generalize upd H16 mm (.tup acc) = H17 at s17 hmm hPA17 ⊢
    -- behind
    refine ⟨_, rfl, _, rfl, .ref t2, o, T2, os, rfl, tab9.tx (tx15.trans (same_tx s17)), ok2, s17 _ _ ho, hos, fun v3 T3 H18 s18 tab18 ok3 em3 hT => ?_⟩
    refine ⟨_, rfl, _, rfl, _, rfl, .ref wv, o, wc, os, rfl, ⟨wv, rfl, s18 _ _ (s17 _ _ hwv15)⟩, s18 _ _ (s17 _ _ ho), rgo hwR, by omega, fun v4 H19 s19 hv4 => ?_⟩
    have s1519 : Same H15 H19 := s17.trans (s18.trans s19)
    refine ⟨mm, v3, v4, n, T3, cols.map (fun c => c.map (cat os)), acc, wc.map (cat os), rfl, tab18.tx (same_tx s19), ok3, n1, n2, fun c hc => ?_, s19 _ _ (s18 _ _ hmm), paired_map (fun _ _ h => h.tx (same_tx (s18.trans s19))) hPA17, hv4, by rw [List.length_map]; exact hwn, fun F2 ndF2 hF2 tb ub ub2 H20 s20 hub => ?_⟩
    · obtain ⟨c0, hc0, rfl⟩ := List.mem_map.mp hc
      rw [em3]
      exact ⟨by rw [List.length_map]; exact (hcol c0 hc0).1, map_rg frg (hcol c0 hc0).2⟩
    rw [em3] at hF2
    have perm : F2.Perm (F.map fun c => c.map (cat os)) := turned_found k1 finj frg ok2.ok hcol hT ndF ndF2 hF hF2
    have hinj : ∀ c ∈ F, c.map (cat os) = wc.map (cat os) → c = wc := fun c hc e => map_inj finj (said_rg ok2.ok hcol ((hF c).mp hc)).2 hwR e
    have hiff : wc.map (cat os) ∈ F2 ↔ wc ∈ F := by
      rw [perm.mem_iff]
      refine ⟨fun h => ?_, fun h => List.mem_map.mpr ⟨wc, h, rfl⟩⟩
      obtain ⟨c, hc, e⟩ := List.mem_map.mp h
      rw [← hinj c hc e]
      exact hc
    have s1520 : Same H15 H20 := s1519.trans s20
    have dr20 := dr15.same s1520
    obtain ⟨hu20, hA20⟩ := hans15.tx (same_tx s1520)
    have eqv_said : decide (V.str "said" = V.str "said") = true := decide_eq_true rfl
    refine ⟨fun hin2 htb => ?_, fun G2 hnin2 htb hPG2 hpG2 hsG2 => ?_⟩
    · -- said behind
      rcases hA20 with ⟨hin, htf⟩ | ⟨hnin, _⟩
      · refine ⟨_, rfl, tf, _, 0, _, rfl, rfl, SqT.of htf, atI_nat (j := 0) rfl, rfl, _, rfl, ?_⟩
        refine ite2 (fun _ => ?_) (fun z => absurd eqv_said z)
        refine ⟨_, rfl, tb, _, 0, _, rfl, rfl, SqT.of htb, atI_nat (j := 0) rfl, rfl, ?_⟩
        rw [eqv_said]
        exact q _ dr20
      · exact absurd (hiff.mp hin2) hnin
    · -- unsaid behind
      rcases hA20 with ⟨hin, _⟩ | ⟨hnin, htf, hPG, hpG, hsG⟩
      · exact absurd (hiff.mpr hin) hnin2
      refine ⟨_, rfl, tf, _, 0, _, rfl, rfl, SqT.of htf, atI_nat (j := 0) rfl, rfl, _, rfl, ?_⟩
      refine ite2 (fun z => by rw [ne_word] at z; cases z) (fun _ => ?_)
      -- behind == ("unsaid", tuple(sorted([..])))
      refine ⟨_, rfl, _, rfl, tf, _, 1, _, rfl, rfl, SqT.of htf, atI_nat (j := 1) rfl, u, rfl, ⟨us, SqT.of hu20⟩, fun D5 nD5 => ?_⟩
      have ho20 := s1520 _ _ ho
      refine lc_tup (K := K) (a := u) (xs := us) (fun i H21 => ∃ acc : List V, H21 D5 = some (.lst acc) ∧ Paired (Col H21) acc ((G.map fun c => c.map (cat os)).take i) ∧ acc.length = i ∧ Same H20 H21) ⟨[], upd_same, .nil, rfl, same_new nD5⟩ (fun i H21 _ hw => by obtain ⟨_, _, _, _, s21⟩ := hw; exact SqT.of (s21 _ _ hu20)) ?_ ?_
      · rintro i x H21 hi ⟨acc5, hD5, hPA5, hAl5, s21⟩
        obtain ⟨c, hc, hcx⟩ := paired_at hPG hi
        have hcF := said_rg ok2.ok hcol ((hF c).mp (hpG.mem_iff.mp (List.mem_of_getElem? hc)))
        have hil : i < G.length := (List.getElem?_eq_some_iff.mp hc).1
        have hGl : G.length ≤ 16 := by
          rw [hpG.length_eq]
          exact cols_few k1 n2 ndF fun c hc => said_rg ok2.ok hcol ((hF c).mp hc)
        refine ⟨rfl, ?_⟩
        refine ⟨_, rfl, _, rfl, x, o, c, os, rfl, hcx.tx (same_tx s21), s21 _ _ ho20, rgo hcF.2, by omega, fun v H22 s22 hv => ?_⟩
        have hD22 := s22 _ _ hD5
        have tx22 : Tx H21 (upd H22 D5 (.lst (acc5 ++ [v]))) := (same_tx s22).trans (tx_lst hD22)
        have hc' : (G.map fun c => c.map (cat os))[i]? = some (c.map (cat os)) := by rw [List.getElem?_map, hc]; rfl
        refine ⟨acc5, hD22, (by rw [sizeLine_eq]; omega), acc5 ++ [v], upd_same, ?_, by simp [hAl5], same_at (s21.trans s22) nD5⟩
        rw [take_snoc hc']
        exact paired_snoc (paired_map (fun _ _ h => h.tx tx22) hPA5) (hv.tx (tx_lst hD22))
      rintro H21 ⟨acc5, hD5, hPA5, hAl5, s21⟩
      rw [List.take_of_length_le (by rw [List.length_map, paired_len hPG]; exact Nat.le_refl _)] at hPA5
      have hGl : G.length ≤ 16 := by
        rw [hpG.length_eq]
        exact cols_few k1 n2 ndF fun c hc => said_rg ok2.ok hcol ((hF c).mp hc)
      have hrG : ∀ d ∈ G.map (fun c => c.map (cat os)), d.length = n ∧ Rg T2.many d := fun d hd => by
        obtain ⟨c, hc, rfl⟩ := List.mem_map.mp hd
        obtain ⟨r1, r2⟩ := said_rg ok2.ok hcol ((hF c).mp (hpG.mem_iff.mp hc))
        exact ⟨by rw [List.length_map]; exact r1, map_rg frg r2⟩
      refine ⟨n, n1, D5, acc5, rfl, SqL.of hD5, (by rw [hAl5, paired_len hPG]; omega), fun y hy => ?_, fun ys b hp hs nb => ?_⟩
      · obtain ⟨d, hd, hdy⟩ := paired_left hPA5 y hy
        obtain ⟨r1, r2⟩ := hrG d hd
        exact ⟨d, tupI_col hdy, r1, bd4 k1 r2⟩
      obtain ⟨h1, h2, h3⟩ := sorted_cols hPA5 hp hs
      refine ⟨b, _, rfl, .inl ⟨SqL.of upd_same, fun u3 nu3 => ?_⟩⟩
      refine ⟨(by show 2 ≤ sizeLine; decide), fun t3 nt3 => ?_⟩
      have s24 : Same H21 (upd (upd (upd H21 b (.lst ys)) u3 (.tup ys)) t3 (.tup [.str "unsaid", .ref u3])) := ((same_new nb).trans (same_new nu3)).trans (same_new nt3)
      have hu3 : (upd (upd (upd H21 b (.lst ys)) u3 (.tup ys)) t3 (.tup [.str "unsaid", .ref u3])) u3 = some (.tup ys) := same_new nt3 _ _ upd_same
      have ht3 : (upd (upd (upd H21 b (.lst ys)) u3 (.tup ys)) t3 (.tup [.str "unsaid", .ref u3])) t3 = some (.tup [.str "unsaid", .ref u3]) := upd_same
      generalize upd (upd (upd H21 b (.lst ys)) u3 (.tup ys)) t3 (.tup [.str "unsaid", .ref u3]) = H24 at s24 hu3 ht3 ⊢
      have s2024 : Same H20 H24 := s21.trans s24
      have same : G2 = ys.map (colOf H21) := by
        have hr2 : ∀ d ∈ G2, d.length = n ∧ Rg T2.many d := fun d hd => by
          have := perm.mem_iff.mp (hpG2.mem_iff.mp hd)
          obtain ⟨c, hc, rfl⟩ := List.mem_map.mp this
          obtain ⟨r1, r2⟩ := said_rg ok2.ok hcol ((hF c).mp hc)
          exact ⟨by rw [List.length_map]; exact r1, map_rg frg r2⟩
        refine sorted_same k1 ?_ hsG2 h3 hr2
        exact (hpG2.trans perm).trans ((hpG.map _).symm.trans h2.symm)
      refine ⟨datA G2, datA G2, ?_, ?_, shaped_ans _, shaped_ans _, ?_⟩
      · exact .tup (SqT.of (s2024 _ _ htb)) (.cons (.str _) (.cons (.tup (SqT.of (s2024 _ _ hub)) (dp_cols (paired_map (fun _ _ h => h.tx (same_tx s2024)) hPG2))) .nil))
      · rw [same]
        exact .tup (SqT.of ht3) (.cons (.str _) (.cons (.tup (SqT.of hu3) (dp_cols (paired_map (fun _ _ h => h.tx (same_tx s24)) h1))) .nil))
      · rw [SeqAt.eqv_refl _ (SeqAt.canLay_of_shaped (shaped_ans _))]
        exact q _ (dr20.same s2024)
end
end K28

/-! law -/
namespace K28
open PySem PySem.Spec PyProof.Rows L2
section
variable {P : Program} {w : World} {K : PySem.W.Frag} {mg : Str → Option Value} {base : Heap}
theorem scLaw : FnScope ["_law_script", "_law_k"] ["_law_script"] (defScope sLaw) := ⟨rfl, rfl, rfl, by decide +kernel, rfl, by decide +kernel, by decide +kernel⟩
def spLaw (K : PySem.W.Frag) : Sp := fun vs H Q _ => ∃ (a : Addr) (ns : List Int), vs = [.ref a] ∧ SqL K H a (ns.map V.int) ∧ ns.length ≤ 63 ∧ ∀ H', Q (.bl true) H'
theorem ok_law {f fWe fRi : Addr} {fd fdWe fdRi : FuncData} {k : Nat} (F : Fun K "law" "law" sLaw f fd)
    (FWe : Fun K "_law_well" "_law_well" sWell fWe fdWe) (bWe : Binds K fdWe ["_law_script", "_law_place"] []) (gWe : mg "_law_well" = some (.ref fWe)) (GWe : FnOk P w K mg base CX0 k fWe fdWe ["_law_script", "_law_place"] (spWell K))
    (FRi : Fun K "_law_right" "_law_right" sRight fRi fdRi) (bRi : Binds K fdRi ["_law_well_here"] []) (gRi : mg "_law_right" = some (.ref fRi)) (GRi : FnOk P w K mg base CX0 k fRi fdRi ["_law_well_here"] spRight)
    (mr : mg "range" = none) (ml : mg "len" = none) (mall : mg "all" = none) (mmax : mg "max" = none) (mmin : mg "min" = none) : FnOk P w K mg base CX0 (k + 1) f fd ["_law_script"] (spLaw K) := by
  refine F.ok scLaw (fun vs H Q E h => ?_) (fun cdv A outer s H vs Q E hr h => ?_)
  · obtain ⟨a, ns, rfl, _⟩ := h
    rfl
  · obtain ⟨a, ns, rfl, hS, hlen, q⟩ := h
    have nd := scLaw.nd
    refine ⟨_,
      (pss_one (ps_ret (pe_callB (cr_allK (K := K)) (by rfl) mall (by decide +kernel) (pa_cons (pe_lc (own := [("_law_k", 1)]) (g := gName 1) (tt := tYes) (by rfl) nd (pi_range1 (by rfl) mr (pa_cons (pe_callB (call_max2 rfl) (by rfl) mmax (by decide +kernel) (pa_cons pe_int (pa_cons (pe_callB (call_min2 rfl) (by rfl) mmin (by decide +kernel) (pa_cons (pe_callB (cr_lenK (K := K)) (by rfl) ml (by decide +kernel) (pa_cons (pv 0) pa_nil)) (pa_cons pe_int pa_nil))) pa_nil))) pa_nil)) (blkOk_by (own := [("_law_k", 1)]) (N := ["_law_script", "_law_k"]) (sc := defScope sLaw) (by decide +kernel)) (fun _ _ _ _ _ => (pg_name (i := 1) nd rfl (.inl rfl))) (fun _ _ _ _ _ => pts_nil) (fun _ _ _ _ _ => (pe_call GRi hr (by rfl) gRi FRi.kp bRi .nil pass0 (pa_cons (pe_call GWe hr (by rfl) gWe FWe.kp bWe .nil pass0 (pa_cons (pv 0) (pa_cons (pv 1) pa_nil))) pa_nil)))) pa_nil))))
      , ?_⟩
    refine ⟨_, rfl, a, _, rfl, .inl hS, _, _, rfl, _, _, rfl, ?_⟩
    have hv : ∀ z : Int, z = (if (if (4 : Int) < (((ns.map V.int).length : Nat) : Int) then (4 : Int) else (((ns.map V.int).length : Nat) : Int)) > 1 then (if (4 : Int) < (((ns.map V.int).length : Nat) : Int) then (4 : Int) else (((ns.map V.int).length : Nat) : Int)) else 1) → -(2 ^ 62) ≤ z ∧ z < 2 ^ 62 ∧ z ≤ 63 := by
      intro z hz
      rw [List.length_map] at hz
      split at hz <;> split at hz <;> omega
    obtain ⟨b0, b1, b2⟩ := hv _ rfl
    refine ⟨_, rfl, b0, b1, fun D nD => ?_⟩
    generalize (if (if (4 : Int) < (((ns.map V.int).length : Nat) : Int) then (4 : Int) else (((ns.map V.int).length : Nat) : Int)) > 1 then (if (4 : Int) < (((ns.map V.int).length : Nat) : Int) then (4 : Int) else (((ns.map V.int).length : Nat) : Int)) else 1) = N at b2 ⊢
    refine lc_range (lo := 0) (n := N.toNat) (fun i H3 => H3 D = some (.lst ((List.replicate i true).map V.bl)) ∧ Same H H3) ⟨upd_same, same_new nD⟩ ?_ ?_
    · rintro i H3 hi ⟨hD, s3⟩
      refine ⟨rfl, ?_⟩
      refine ⟨_, rfl, _, rfl, a, ns, _, rfl, s3.seq hS, fun p H4 s4 np wl => ?_⟩
      refine ⟨p, rfl, wl, fun H5 d5 => ?_⟩
      have s5 : Same H3 H5 := fun b o e => d5.but b o (s4 b o e) (ne_of_none e np)
      refine ⟨_, s5 _ _ hD, (by rw [List.length_map, List.length_replicate, sizeLine_eq]; omega), ?_, same_at (s3.trans s5) nD⟩
      rw [upd_same, List.replicate_succ', List.map_append]
      rfl
    · rintro H3 ⟨hD, s3⟩
      refine ⟨D, _, rfl, SqL.of hD, ?_⟩
      have e : (List.replicate N.toNat true).all id = true := by
        rw [List.all_eq_true]
        intro b hb
        exact (List.mem_replicate.mp hb).2
      rw [e]
      exact q H3
end
end K28

/-! the end -/
namespace K28
open PySem PySem.Spec PyProof.Rows L2
theorem all_mk {l : PySem.W.OpenLaw} {w : World} {K : PySem.W.Frag} {h : Heap} {mg : Str → Option Value} {fa C fA fJ fSa fWe fD fN fCe fTa fR fKe fOr fTu fCo fRi fL fIn fTk fBe fGo : Addr} {tk : Tok} (X : K.In h) (G : h.Ns mainGlobals mg) (hfa : mg "law" = some (.ref fa))
    {odA anA : Option Addr} {slA : Array (Option Value)} {ocA kVA dcA pmA cdA ctA : Value}
    {odJ anJ : Option Addr} {slJ : Array (Option Value)} {ocJ kVJ dcJ pmJ cdJ ctJ : Value}
    {odSa anSa : Option Addr} {slSa : Array (Option Value)} {ocSa kVSa dcSa pmSa cdSa ctSa : Value}
    {odWe anWe : Option Addr} {slWe : Array (Option Value)} {ocWe kVWe dcWe pmWe cdWe ctWe : Value}
    {odD anD : Option Addr} {slD : Array (Option Value)} {ocD kVD dcD pmD cdD ctD : Value}
    {odN anN : Option Addr} {slN : Array (Option Value)} {ocN kVN dcN pmN cdN ctN : Value}
    {odCe anCe : Option Addr} {slCe : Array (Option Value)} {ocCe kVCe dcCe pmCe cdCe ctCe : Value}
    {odTa anTa : Option Addr} {slTa : Array (Option Value)} {ocTa kVTa dcTa pmTa cdTa ctTa : Value}
    {odR anR : Option Addr} {slR : Array (Option Value)} {ocR kVR dcR pmR cdR ctR : Value}
    {odKe anKe : Option Addr} {slKe : Array (Option Value)} {ocKe kVKe dcKe pmKe cdKe ctKe : Value}
    {odOr anOr : Option Addr} {slOr : Array (Option Value)} {ocOr kVOr dcOr pmOr cdOr ctOr : Value}
    {odTu anTu : Option Addr} {slTu : Array (Option Value)} {ocTu kVTu dcTu pmTu cdTu ctTu : Value}
    {odCo anCo : Option Addr} {slCo : Array (Option Value)} {ocCo kVCo dcCo pmCo cdCo ctCo : Value}
    {odRi anRi : Option Addr} {slRi : Array (Option Value)} {ocRi kVRi dcRi pmRi cdRi ctRi : Value}
    {odL anL : Option Addr} {slL : Array (Option Value)} {ocL kVL dcL pmL cdL ctL : Value}
    {odIn anIn : Option Addr} {slIn : Array (Option Value)} {ocIn kVIn dcIn pmIn cdIn ctIn : Value}
    {odTk anTk : Option Addr} {slTk : Array (Option Value)} {ocTk kVTk dcTk pmTk cdTk ctTk : Value}
    {odBe anBe : Option Addr} {slBe : Array (Option Value)} {ocBe kVBe dcBe pmBe cdBe ctBe : Value}
    {odGo anGo : Option Addr} {slGo : Array (Option Value)} {ocGo kVGo dcGo pmGo cdGo ctGo : Value}
    (aA : PySem.W.nsIn K mainGlobals "cell_at" = some (some (.ref fA)))
    (lA : K.lookup fA = some ⟨ocA, odA, .func (PySem.W.fnOf "cell_at" "cell_at" (defArgs sCellAt) (defBody sCellAt) (defScope sCellAt) .none kVA dcA pmA anA cdA ctA), slA⟩)
    (cA : PySem.W.codeIn K cdA "cell_at" = true) (kA : PySem.W.keepIn K (.ref fA) = true)
    (aJ : PySem.W.nsIn K mainGlobals "joined" = some (some (.ref fJ)))
    (lJ : K.lookup fJ = some ⟨ocJ, odJ, .func (PySem.W.fnOf "joined" "joined" (defArgs sJoined) (defBody sJoined) (defScope sJoined) .none kVJ dcJ pmJ anJ cdJ ctJ), slJ⟩)
    (cJ : PySem.W.codeIn K cdJ "joined" = true) (kJ : PySem.W.keepIn K (.ref fJ) = true)
    (aSa : PySem.W.nsIn K mainGlobals "sayable" = some (some (.ref fSa)))
    (lSa : K.lookup fSa = some ⟨ocSa, odSa, .func (PySem.W.fnOf "sayable" "sayable" (defArgs sSayable) (defBody sSayable) (defScope sSayable) .none kVSa dcSa pmSa anSa cdSa ctSa), slSa⟩)
    (cSa : PySem.W.codeIn K cdSa "sayable" = true) (kSa : PySem.W.keepIn K (.ref fSa) = true)
    (aWe : PySem.W.nsIn K mainGlobals "_law_well" = some (some (.ref fWe)))
    (lWe : K.lookup fWe = some ⟨ocWe, odWe, .func (PySem.W.fnOf "_law_well" "_law_well" (defArgs sWell) (defBody sWell) (defScope sWell) .none kVWe dcWe pmWe anWe cdWe ctWe), slWe⟩)
    (cWe : PySem.W.codeIn K cdWe "_law_well" = true) (kWe : PySem.W.keepIn K (.ref fWe) = true)
    (aD : PySem.W.nsIn K mainGlobals "_law_draw" = some (some (.ref fD)))
    (lD : K.lookup fD = some ⟨ocD, odD, .func (PySem.W.fnOf "_law_draw" "_law_draw" (defArgs sDraw) (defBody sDraw) (defScope sDraw) .none kVD dcD pmD anD cdD ctD), slD⟩)
    (cD : PySem.W.codeIn K cdD "_law_draw" = true) (kD : PySem.W.keepIn K (.ref fD) = true)
    (aN : PySem.W.nsIn K mainGlobals "_law_names" = some (some (.ref fN)))
    (lN : K.lookup fN = some ⟨ocN, odN, .func (PySem.W.fnOf "_law_names" "_law_names" (defArgs sNames) (defBody sNames) (defScope sNames) .none kVN dcN pmN anN cdN ctN), slN⟩)
    (cN : PySem.W.codeIn K cdN "_law_names" = true) (kN : PySem.W.keepIn K (.ref fN) = true)
    (aCe : PySem.W.nsIn K mainGlobals "_law_cells" = some (some (.ref fCe)))
    (lCe : K.lookup fCe = some ⟨ocCe, odCe, .func (PySem.W.fnOf "_law_cells" "_law_cells" (defArgs sCells) (defBody sCells) (defScope sCells) .none kVCe dcCe pmCe anCe cdCe ctCe), slCe⟩)
    (cCe : PySem.W.codeIn K cdCe "_law_cells" = true) (kCe : PySem.W.keepIn K (.ref fCe) = true)
    (aTa : PySem.W.nsIn K mainGlobals "_law_table" = some (some (.ref fTa)))
    (lTa : K.lookup fTa = some ⟨ocTa, odTa, .func (PySem.W.fnOf "_law_table" "_law_table" (defArgs sTable) (defBody sTable) (defScope sTable) .none kVTa dcTa pmTa anTa cdTa ctTa), slTa⟩)
    (cTa : PySem.W.codeIn K cdTa "_law_table" = true) (kTa : PySem.W.keepIn K (.ref fTa) = true)
    (aR : PySem.W.nsIn K mainGlobals "_law_rows" = some (some (.ref fR)))
    (lR : K.lookup fR = some ⟨ocR, odR, .func (PySem.W.fnOf "_law_rows" "_law_rows" (defArgs sRows) (defBody sRows) (defScope sRows) .none kVR dcR pmR anR cdR ctR), slR⟩)
    (cR : PySem.W.codeIn K cdR "_law_rows" = true) (kR : PySem.W.keepIn K (.ref fR) = true)
    (aKe : PySem.W.nsIn K mainGlobals "_law_kept" = some (some (.ref fKe)))
    (lKe : K.lookup fKe = some ⟨ocKe, odKe, .func (PySem.W.fnOf "_law_kept" "_law_kept" (defArgs sKept) (defBody sKept) (defScope sKept) .none kVKe dcKe pmKe anKe cdKe ctKe), slKe⟩)
    (cKe : PySem.W.codeIn K cdKe "_law_kept" = true) (kKe : PySem.W.keepIn K (.ref fKe) = true)
    (aOr : PySem.W.nsIn K mainGlobals "_law_order" = some (some (.ref fOr)))
    (lOr : K.lookup fOr = some ⟨ocOr, odOr, .func (PySem.W.fnOf "_law_order" "_law_order" (defArgs sOrder) (defBody sOrder) (defScope sOrder) .none kVOr dcOr pmOr anOr cdOr ctOr), slOr⟩)
    (cOr : PySem.W.codeIn K cdOr "_law_order" = true) (kOr : PySem.W.keepIn K (.ref fOr) = true)
    (aTu : PySem.W.nsIn K mainGlobals "_law_turned" = some (some (.ref fTu)))
    (lTu : K.lookup fTu = some ⟨ocTu, odTu, .func (PySem.W.fnOf "_law_turned" "_law_turned" (defArgs sTurned) (defBody sTurned) (defScope sTurned) .none kVTu dcTu pmTu anTu cdTu ctTu), slTu⟩)
    (cTu : PySem.W.codeIn K cdTu "_law_turned" = true) (kTu : PySem.W.keepIn K (.ref fTu) = true)
    (aCo : PySem.W.nsIn K mainGlobals "_law_column" = some (some (.ref fCo)))
    (lCo : K.lookup fCo = some ⟨ocCo, odCo, .func (PySem.W.fnOf "_law_column" "_law_column" (defArgs sColumn) (defBody sColumn) (defScope sColumn) .none kVCo dcCo pmCo anCo cdCo ctCo), slCo⟩)
    (cCo : PySem.W.codeIn K cdCo "_law_column" = true) (kCo : PySem.W.keepIn K (.ref fCo) = true)
    (aRi : PySem.W.nsIn K mainGlobals "_law_right" = some (some (.ref fRi)))
    (lRi : K.lookup fRi = some ⟨ocRi, odRi, .func (PySem.W.fnOf "_law_right" "_law_right" (defArgs sRight) (defBody sRight) (defScope sRight) .none kVRi dcRi pmRi anRi cdRi ctRi), slRi⟩)
    (cRi : PySem.W.codeIn K cdRi "_law_right" = true) (kRi : PySem.W.keepIn K (.ref fRi) = true)
    (aL : PySem.W.nsIn K mainGlobals "law" = some (some (.ref fL)))
    (lL : K.lookup fL = some ⟨ocL, odL, .func (PySem.W.fnOf "law" "law" (defArgs sLaw) (defBody sLaw) (defScope sLaw) .none kVL dcL pmL anL cdL ctL), slL⟩)
    (cL : PySem.W.codeIn K cdL "law" = true) (kL : PySem.W.keepIn K (.ref fL) = true)
    (aIn : PySem.W.findIn K (.ref C) "__init__" = some (some (.ref fIn))) (iIn : PySem.W.isFn K (.ref fIn) = true)
    (lIn : K.lookup fIn = some ⟨ocIn, odIn, .func (PySem.W.fnOf "__init__" "Sayings.__init__" (defArgs sInit) (defBody sInit) (defScope sInit) .none kVIn dcIn pmIn anIn cdIn ctIn), slIn⟩)
    (cIn : PySem.W.codeIn K cdIn "Sayings.__init__" = true) (kIn : PySem.W.keepIn K (.ref fIn) = true)
    (aTk : PySem.W.findIn K (.ref C) "take" = some (some (.ref fTk))) (iTk : PySem.W.isFn K (.ref fTk) = true)
    (lTk : K.lookup fTk = some ⟨ocTk, odTk, .func (PySem.W.fnOf "take" "Sayings.take" (defArgs sTake) (defBody sTake) (defScope sTake) .none kVTk dcTk pmTk anTk cdTk ctTk), slTk⟩)
    (cTk : PySem.W.codeIn K cdTk "Sayings.take" = true) (kTk : PySem.W.keepIn K (.ref fTk) = true)
    (aBe : PySem.W.findIn K (.ref C) "begin" = some (some (.ref fBe))) (iBe : PySem.W.isFn K (.ref fBe) = true)
    (lBe : K.lookup fBe = some ⟨ocBe, odBe, .func (PySem.W.fnOf "begin" "Sayings.begin" (defArgs sBegin) (defBody sBegin) (defScope sBegin) .none kVBe dcBe pmBe anBe cdBe ctBe), slBe⟩)
    (cBe : PySem.W.codeIn K cdBe "Sayings.begin" = true) (kBe : PySem.W.keepIn K (.ref fBe) = true)
    (aGo : PySem.W.findIn K (.ref C) "go_on" = some (some (.ref fGo))) (iGo : PySem.W.isFn K (.ref fGo) = true)
    (lGo : K.lookup fGo = some ⟨ocGo, odGo, .func (PySem.W.fnOf "go_on" "Sayings.go_on" (defArgs sGoOn) (defBody sGoOn) (defScope sGoOn) .none kVGo dcGo pmGo anGo cdGo ctGo), slGo⟩)
    (cGo : PySem.W.codeIn K cdGo "Sayings.go_on" = true) (kGo : PySem.W.keepIn K (.ref fGo) = true)
    (aC : PySem.W.nsIn K mainGlobals "Sayings" = some (some (.ref C))) (aM : PySem.W.nsIn K mainGlobals "MOST" = some (some (.int 81 tk)))
    (pg : PySem.W.plainGet K C Str.empty = true) (hd : PySem.W.hasDictIn K C = true) (po : PySem.W.plainOver K C = true) (sa : PySem.W.findIn K (.ref C) "__setattr__" = some (some (.builtin "object.__setattr__"))) (mk : PySem.W.makesIn K C = true) (kc : PySem.W.keepIn K (.ref C) = true)
    (nT : PySem.W.findIn K (.ref C) "table" = some none)
    (nS : PySem.W.findIn K (.ref C) "size" = some none)
    (nK : PySem.W.findIn K (.ref C) "known" = some none)
    (nF : PySem.W.findIn K (.ref C) "found" = some none)
    (nL : PySem.W.findIn K (.ref C) "lines" = some none)
    (z_len : PySem.W.nsIn K mainGlobals "len" = some none)
    (z_tuple : PySem.W.nsIn K mainGlobals "tuple" = some none)
    (z_sorted : PySem.W.nsIn K mainGlobals "sorted" = some none)
    (z_range : PySem.W.nsIn K mainGlobals "range" = some none)
    (z_divmod : PySem.W.nsIn K mainGlobals "divmod" = some none)
    (z_abs : PySem.W.nsIn K mainGlobals "abs" = some none)
    (z_int : PySem.W.nsIn K mainGlobals "int" = some none)
    (z_all : PySem.W.nsIn K mainGlobals "all" = some none)
    (z_list : PySem.W.nsIn K mainGlobals "list" = some none)
    (z_max : PySem.W.nsIn K mainGlobals "max" = some none)
    (z_min : PySem.W.nsIn K mainGlobals "min" = some none)
    : ∃ fd : FuncData, (∀ (s : Shared) (v : Value), BindsTo s fd ⟨[v], []⟩ [("_law_script", v)]) ∧ ∀ base : Heap, K.In base → base.Ns mainGlobals mg → FnOk l.prog w K mg base CX0 6 fa fd ["_law_script"] (spLaw K) := by
  have e := hfa.symm.trans (PySem.W.mg_of X G aL)
  cases e
  have T : Txt K mg C := ⟨⟨pg, hd, po, sa⟩, nT, nS, nK, nF, nL, PySem.W.mg_of X G aC⟩
  have FA := fun_mk (st := sCellAt) lA cA kA
  have FJ := fun_mk (st := sJoined) lJ cJ kJ
  have FSa := fun_mk (st := sSayable) lSa cSa kSa
  have FWe := fun_mk (st := sWell) lWe cWe kWe
  have FD := fun_mk (st := sDraw) lD cD kD
  have FN := fun_mk (st := sNames) lN cN kN
  have FCe := fun_mk (st := sCells) lCe cCe kCe
  have FTa := fun_mk (st := sTable) lTa cTa kTa
  have FR := fun_mk (st := sRows) lR cR kR
  have FKe := fun_mk (st := sKept) lKe cKe kKe
  have FOr := fun_mk (st := sOrder) lOr cOr kOr
  have FTu := fun_mk (st := sTurned) lTu cTu kTu
  have FCo := fun_mk (st := sColumn) lCo cCo kCo
  have FRi := fun_mk (st := sRight) lRi cRi kRi
  have FL := fun_mk (st := sLaw) lL cL kL
  have FIn := fun_mk (st := sInit) lIn cIn kIn
  have FTk := fun_mk (st := sTake) lTk cTk kTk
  have FBe := fun_mk (st := sBegin) lBe cBe kBe
  have FGo := fun_mk (st := sGoOn) lGo cGo kGo
  have bA := FA.binds (ps := ["many", "cells", "grades"]) fun _ _ _ _ _ _ us hl => match us, hl with | [_, _, _], _ => rfl
  have bJ := FJ.binds (ps := ["many", "cells", "columns"]) fun _ _ _ _ _ _ us hl => match us, hl with | [_, _, _], _ => rfl
  have bSa := FSa.binds (ps := ["table", "columns", "wish"]) fun _ _ _ _ _ _ us hl => match us, hl with | [_, _, _], _ => rfl
  have bWe := FWe.binds (ps := ["_law_script", "_law_place"]) fun _ _ _ _ _ _ us hl => match us, hl with | [_, _], _ => rfl
  have bD := FD.binds (ps := ["_law_well_here", "_law_many"]) fun _ _ _ _ _ _ us hl => match us, hl with | [_, _], _ => rfl
  have bN := FN.binds (ps := ["_law_well_here", "_law_many"]) fun _ _ _ _ _ _ us hl => match us, hl with | [_, _], _ => rfl
  have bCe := FCe.binds (ps := ["_law_well_here", "_law_many", "_law_places"]) fun _ _ _ _ _ _ us hl => match us, hl with | [_, _, _], _ => rfl
  have bTa := FTa.binds (ps := ["_law_well_here", "_law_most", "_law_some"]) fun _ _ _ _ _ _ us hl => match us, hl with | [_, _, _], _ => rfl
  have bR := FR.binds (ps := ["_law_size", "_law_places"]) fun _ _ _ _ _ _ us hl => match us, hl with | [_, _], _ => rfl
  have bKe := FKe.binds (ps := ["_law_table_here", "_law_part"]) fun _ _ _ _ _ _ us hl => match us, hl with | [_, _], _ => rfl
  have bOr := FOr.binds (ps := ["_law_well_here", "_law_many"]) fun _ _ _ _ _ _ us hl => match us, hl with | [_, _], _ => rfl
  have bTu := FTu.binds (ps := ["_law_table_here", "_law_order_here"]) fun _ _ _ _ _ _ us hl => match us, hl with | [_, _], _ => rfl
  have bCo := FCo.binds (ps := ["_law_column_here", "_law_order_here"]) fun _ _ _ _ _ _ us hl => match us, hl with | [_, _], _ => rfl
  have bRi := FRi.binds (ps := ["_law_well_here"]) fun _ _ _ _ _ _ us hl => match us, hl with | [_], _ => rfl
  have bIn := FIn.binds (ps := ["self", "table", "size"]) fun _ _ _ _ _ _ us hl => match us, hl with | [_, _, _], _ => rfl
  have bTk := FTk.binds (ps := ["self", "column", "line"]) fun _ _ _ _ _ _ us hl => match us, hl with | [_, _, _], _ => rfl
  have bBe := FBe.binds (ps := ["self", "columns"]) fun _ _ _ _ _ _ us hl => match us, hl with | [_, _], _ => rfl
  have bGo := FGo.binds (ps := ["self", "at"]) fun _ _ _ _ _ _ us hl => match us, hl with | [_, _], _ => rfl
  have gA := PySem.W.mg_of X G aA
  have gJ := PySem.W.mg_of X G aJ
  have gSa := PySem.W.mg_of X G aSa
  have gWe := PySem.W.mg_of X G aWe
  have gD := PySem.W.mg_of X G aD
  have gN := PySem.W.mg_of X G aN
  have gCe := PySem.W.mg_of X G aCe
  have gTa := PySem.W.mg_of X G aTa
  have gR := PySem.W.mg_of X G aR
  have gKe := PySem.W.mg_of X G aKe
  have gOr := PySem.W.mg_of X G aOr
  have gTu := PySem.W.mg_of X G aTu
  have gCo := PySem.W.mg_of X G aCo
  have gRi := PySem.W.mg_of X G aRi
  have m_len := PySem.W.mg_none_of X G z_len
  have m_tuple := PySem.W.mg_none_of X G z_tuple
  have m_sorted := PySem.W.mg_none_of X G z_sorted
  have m_range := PySem.W.mg_none_of X G z_range
  have m_divmod := PySem.W.mg_none_of X G z_divmod
  have m_abs := PySem.W.mg_none_of X G z_abs
  have m_int := PySem.W.mg_none_of X G z_int
  have m_all := PySem.W.mg_none_of X G z_all
  have m_list := PySem.W.mg_none_of X G z_list
  have m_max := PySem.W.mg_none_of X G z_max
  have m_min := PySem.W.mg_none_of X G z_min
  have mM := PySem.W.mg_of X G aM
  refine ⟨PySem.W.fnOf "law" "law" (defArgs sLaw) (defBody sLaw) (defScope sLaw) .none kVL dcL pmL anL cdL ctL, fun s v => .of_eq rfl, fun base _ _ => ?_⟩
  have MK : Mk K C fIn := ⟨mk, aIn, iIn, kc⟩
  have mTk : Meth K C "take" fTk := ⟨aTk, iTk, kTk⟩
  have mBe : Meth K C "begin" fBe := ⟨aBe, iBe, kBe⟩
  have mGo : Meth K C "go_on" fGo := ⟨aGo, iGo, kGo⟩
  have GD := ok_draw (P := l.prog) (w := w) (base := base) (k := 0) FD m_range m_divmod
  have GWe := ok_well (P := l.prog) (w := w) (mg := mg) (base := base) (k := 0) FWe m_abs
  have GN := ok_names (k := 1) FN FD bD gD GD m_range m_int
  have GCe := ok_cells (k := 1) FCe FD bD gD GD m_range m_len m_tuple
  have GTa := ok_table (k := 2) FTa FD bD gD (GD.mono (by decide)) FN bN gN GN FCe bCe gCe GCe m_range m_tuple
  have GA := ok_cellat (P := l.prog) (w := w) (mg := mg) (base := base) (k := 0) FA
  have GJ := ok_joined (k := 1) FJ FA bA gA GA m_range m_tuple m_len
  have GIn := ok_init (P := l.prog) (w := w) (base := base) (k := 0) FIn T
  have GTk := ok_take (P := l.prog) (w := w) (base := base) (k := 0) FTk T m_len mM
  have GBe := ok_begin (k := 1) FBe T mTk bTk GTk
  have GGo := ok_goon (k := 2) FGo T mTk bTk (GTk.mono (by decide)) FJ bJ gJ GJ m_range
  have GSa := ok_say (k := 3) FSa T MK bIn (by decide) GIn mBe bBe (GBe.mono (by decide)) mGo bGo GGo m_len m_tuple m_sorted
  have GR := ok_rows (P := l.prog) (w := w) (mg := mg) (base := base) (k := 0) FR m_range
  have GKe := ok_kept (k := 1) FKe FR bR gR GR m_len m_list m_tuple m_all
  have GOr := ok_order (k := 1) FOr FD bD gD GD m_range m_len m_list
  have GTu := ok_turned (k := 1) FTu FR bR gR GR m_list m_tuple m_sorted
  have GCo := ok_column (P := l.prog) (w := w) (mg := mg) (base := base) (k := 0) FCo m_tuple
  have GRi := ok_right (k := 4) FRi FD bD gD (GD.mono (by decide)) FTa bTa gTa (GTa.mono (by decide)) FKe bKe gKe (GKe.mono (by decide)) FSa bSa gSa GSa FOr bOr gOr (GOr.mono (by decide)) FTu bTu gTu (GTu.mono (by decide)) FCo bCo gCo (GCo.mono (by decide)) m_range m_len m_tuple m_all m_int m_sorted
  exact ok_law (k := 5) FL FWe bWe gWe (GWe.mono (by decide)) FRi bRi gRi GRi m_range m_len m_all m_max m_min
end K28

/-! the end -/
open PySem PySem.W PyProof.Rows
set_option maxRecDepth 100000 in
set_option maxHeartbeats 0 in
theorem PySem.Challenge.cw_truthgrades_k28_whole_kept_and_turned_holds : PySem.Challenge.rw_truthgrades_k28_whole_kept_and_turned.Holds := by
  w_on; o_law; k_head; (case hw => w_witness2)
  k_fill
  refine L2.walk_of (l := PySem.Challenge.rw_truthgrades_k28_whole_kept_and_turned) (n := 63) (k := 6) (x := "_law_script") (CX := fun _ => L2.CX0) (sp := fun w => K28.spLaw _) rfl (by decide) rfl ⟨rfl, by decide, by decide⟩ (fun w h Y => PySem.W.kIn_of Y) ?F (fun _ _ a ns hl _ hS => ⟨a, ns, rfl, hS, hl, fun _ => rfl⟩) (fun _ _ _ _ _ h => h)
  case F =>
    intro w mg fa h KX G hmg
    refine' K28.all_mk KX G hmg ?aA ?lA ?cA ?kA ?aJ ?lJ ?cJ ?kJ ?aSa ?lSa ?cSa ?kSa ?aWe ?lWe ?cWe ?kWe ?aD ?lD ?cD ?kD ?aN ?lN ?cN ?kN ?aCe ?lCe ?cCe ?kCe ?aTa ?lTa ?cTa ?kTa ?aR ?lR ?cR ?kR ?aKe ?lKe ?cKe ?kKe ?aOr ?lOr ?cOr ?kOr ?aTu ?lTu ?cTu ?kTu ?aCo ?lCo ?cCo ?kCo ?aRi ?lRi ?cRi ?kRi ?aL ?lL ?cL ?kL ?aIn ?iIn ?lIn ?cIn ?kIn ?aTk ?iTk ?lTk ?cTk ?kTk ?aBe ?iBe ?lBe ?cBe ?kBe ?aGo ?iGo ?lGo ?cGo ?kGo ?aC ?aM ?pg ?hd ?po ?sa ?mk ?kc ?nT ?nS ?nK ?nF ?nL ?z_len ?z_tuple ?z_sorted ?z_range ?z_divmod ?z_abs ?z_int ?z_all ?z_list ?z_max ?z_min
    (case aC => k_is)
    (case aA => k_is)
    (case lA => k_is)
    (case cA => k_is)
    (case kA => k_is)
    (case aJ => k_is)
    (case lJ => k_is)
    (case cJ => k_is)
    (case kJ => k_is)
    (case aSa => k_is)
    (case lSa => k_is)
    (case cSa => k_is)
    (case kSa => k_is)
    (case aWe => k_is)
    (case lWe => k_is)
    (case cWe => k_is)
    (case kWe => k_is)
    (case aD => k_is)
    (case lD => k_is)
    (case cD => k_is)
    (case kD => k_is)
    (case aN => k_is)
    (case lN => k_is)
    (case cN => k_is)
    (case kN => k_is)
    (case aCe => k_is)
    (case lCe => k_is)
    (case cCe => k_is)
    (case kCe => k_is)
    (case aTa => k_is)
    (case lTa => k_is)
    (case cTa => k_is)
    (case kTa => k_is)
    (case aR => k_is)
    (case lR => k_is)
    (case cR => k_is)
    (case kR => k_is)
    (case aKe => k_is)
    (case lKe => k_is)
    (case cKe => k_is)
    (case kKe => k_is)
    (case aOr => k_is)
    (case lOr => k_is)
    (case cOr => k_is)
    (case kOr => k_is)
    (case aTu => k_is)
    (case lTu => k_is)
    (case cTu => k_is)
    (case kTu => k_is)
    (case aCo => k_is)
    (case lCo => k_is)
    (case cCo => k_is)
    (case kCo => k_is)
    (case aRi => k_is)
    (case lRi => k_is)
    (case cRi => k_is)
    (case kRi => k_is)
    (case aL => k_is)
    (case lL => k_is)
    (case cL => k_is)
    (case kL => k_is)
    (case aIn => k_is)
    (case iIn => k_is)
    (case lIn => k_is)
    (case cIn => k_is)
    (case kIn => k_is)
    (case aTk => k_is)
    (case iTk => k_is)
    (case lTk => k_is)
    (case cTk => k_is)
    (case kTk => k_is)
    (case aBe => k_is)
    (case iBe => k_is)
    (case lBe => k_is)
    (case cBe => k_is)
    (case kBe => k_is)
    (case aGo => k_is)
    (case iGo => k_is)
    (case lGo => k_is)
    (case cGo => k_is)
    (case kGo => k_is)
    (case aM => k_is)
    (case pg => k_is)
    (case hd => k_is)
    (case po => k_is)
    (case sa => k_is)
    (case mk => k_is)
    (case kc => k_is)
    (case nT => k_is)
    (case nS => k_is)
    (case nK => k_is)
    (case nF => k_is)
    (case nL => k_is)
    (case z_len => k_is)
    (case z_tuple => k_is)
    (case z_sorted => k_is)
    (case z_range => k_is)
    (case z_divmod => k_is)
    (case z_abs => k_is)
    (case z_int => k_is)
    (case z_all => k_is)
    (case z_list => k_is)
    (case z_max => k_is)
    (case z_min => k_is)

