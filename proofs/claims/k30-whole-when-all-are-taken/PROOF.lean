import PyProof.Rows.All
import Wide.All
import OpenK.AllK
import Wide.FinOn
import HandS.ForMost
import KE.SortLaws
import HandS.Base
import HandS.Zip
import HandS.Walk
import HandS.TupMul
import HandS.TupAny
import HandS.SortKw
import KE.DatumOrd
import PyProof.StrOps2
import HandS.Set
import HandS.SetFor
import KE.SortData
import KE.SortKeyHeap
import HandS.Wide
import PySem.Challenge.RW_clusterhall_k30_whole_when_all_are_taken
set_option Elab.async false
set_option linter.all false
set_option autoImplicit false
set_option maxRecDepth 100000
set_option maxHeartbeats 4000000
/-! The plain law: what the takings leave, over plain lists. -/
namespace Ch
open PySem

/-- a gang, with the places where it and its want stand -/
structure Gang where
  a : Addr
  wa : Addr
  name : Str
  guild : Str
  rank : Int
  many : Int
  want : List Int
  how : Str
  len : Int

structure Row where
  a : Addr
  g : Gang
  num : Int

def whole (g : Gang) : List Int := g.want.map fun x => x * g.many
def sumA (x y : List Int) : List Int := List.zipWith (fun a b => a + b) x y
def fits (x y : List Int) : Bool := (List.zipWith (fun a b => decide (a ≤ b)) x y).all id

/-- own, lent and what is borne, from b on -/
def ownL (due : List Int) : List Int → List Gang → List Gang
  | _, [] => []
  | b, g :: r => if fits (sumA b (whole g)) due = true then g :: ownL due (sumA b (whole g)) r else ownL due b r
def lentL (due : List Int) : List Int → List Gang → List Gang
  | _, [] => []
  | b, g :: r => if fits (sumA b (whole g)) due = true then lentL due (sumA b (whole g)) r else g :: lentL due b r
def borneL (due : List Int) : List Int → List Gang → List Int
  | b, [] => b
  | b, g :: r => if fits (sumA b (whole g)) due = true then borneL due (sumA b (whole g)) r else borneL due b r

def le1 (p q : Row) : Bool := decide (-p.g.rank < -q.g.rank ∨ (-p.g.rank = -q.g.rank ∧ p.num ≤ q.num))
def le2 (p q : Row) : Bool := decide (p.g.rank < q.g.rank ∨ (p.g.rank = q.g.rank ∧ -p.num ≤ -q.num))
def inOrder (rs : List Row) : List Gang := (rs.mergeSort le1).map (·.g)
def zeros (due : List Int) : List Int := List.replicate due.length 0
def ownN (due : List Int) (rs : List Row) : List Str := (ownL due (zeros due) (inOrder rs)).map (·.name)
def lentN (due : List Int) (rs : List Row) : List Str := (lentL due (zeros due) (inOrder rs)).map (·.name)
def borne (due : List Int) (rs : List Row) : List Int := borneL due (zeros due) (inOrder rs)
def owed (due : List Int) (rs : List Row) (g : Gang) : Bool := fits (sumA (borne due rs) (whole g)) due
def atLeast (k : Int) (rs : List Row) : List Row := rs.filter fun r => decide (k ≤ r.g.rank)
def ownWith (due : List Int) (rs : List Row) (g : Gang) : Bool := owed due (atLeast g.rank rs) g
def ofGuild (rs : List Row) (x : Str) : List Row := rs.filter fun r => decide (r.g.guild = x)

/-! ### the order -/
theorem total1 : PySem.W.TotalLe le1 := by
  refine ⟨fun a b c h1 h2 => ?_, fun a b => ?_⟩
  · unfold le1 at *
    simp only [decide_eq_true_eq] at *
    omega
  · unfold le1
    simp only [decide_eq_true_eq]
    omega
/-- sorting what is kept is keeping of what is sorted -/
theorem sort_filter {α : Type} {le : α → α → Bool} (h : PySem.W.TotalLe le) (p : α → Bool) (l : List α) : (l.filter p).mergeSort le = (l.mergeSort le).filter p := by
  symm
  refine PySem.W.sort_unique h ?_ fun c => ?_
  · exact (PySem.W.sort_pairwise h l).sublist List.filter_sublist
  · rw [List.filter_filter, List.filter_filter]
    have e : ∀ m : List α, m.filter (fun a => PySem.W.sameRank le c a && p a) = (m.filter (PySem.W.sameRank le c)).filter p := fun m => by
      rw [List.filter_filter]
      exact List.filter_congr fun x _ => Bool.and_comm _ _
    rw [e, e, PySem.W.sort_stable h]
theorem inOrder_filter (p : Gang → Bool) (rs : List Row) : inOrder (rs.filter fun r => p r.g) = (inOrder rs).filter p := by
  unfold inOrder
  rw [sort_filter total1, List.filter_map]
  rfl
theorem inOrder_mem {rs : List Row} {g : Gang} : g ∈ inOrder rs ↔ ∃ r ∈ rs, r.g = g := by
  unfold inOrder
  rw [List.mem_map]
  constructor
  · rintro ⟨r, h, e⟩
    exact ⟨r, (List.mergeSort_perm rs le1).mem_iff.mp h, e⟩
  · rintro ⟨r, h, e⟩
    exact ⟨r, (List.mergeSort_perm rs le1).mem_iff.mpr h, e⟩
theorem inOrder_ranks (rs : List Row) : (inOrder rs).Pairwise fun g h => h.rank ≤ g.rank := by
  unfold inOrder
  rw [List.pairwise_map]
  refine (PySem.W.sort_pairwise total1 rs).imp fun {a b} h => ?_
  unfold le1 at h
  have h := of_decide_eq_true h
  omega

/-! ### own and lent -/
theorem own_sub {due : List Int} : ∀ {gs : List Gang} {b : List Int} {g : Gang}, g ∈ ownL due b gs → g ∈ gs
  | [], b, g, h => by cases h
  | x :: r, b, g, h => by
    unfold ownL at h
    split at h
    · rcases List.mem_cons.mp h with e | h
      · rw [e]; exact List.mem_cons_self
      · exact List.mem_cons_of_mem _ (own_sub h)
    · exact List.mem_cons_of_mem _ (own_sub h)
theorem lent_sub {due : List Int} : ∀ {gs : List Gang} {b : List Int} {g : Gang}, g ∈ lentL due b gs → g ∈ gs
  | [], b, g, h => by cases h
  | x :: r, b, g, h => by
    unfold lentL at h
    split at h
    · exact List.mem_cons_of_mem _ (lent_sub h)
    · rcases List.mem_cons.mp h with e | h
      · rw [e]; exact List.mem_cons_self
      · exact List.mem_cons_of_mem _ (lent_sub h)
/-- where all own ones are kept: own and borne as before, of the lent what is kept -/
theorem keep_own {due : List Int} (p : Gang → Bool) : ∀ (gs : List Gang) (b : List Int), (∀ g ∈ ownL due b gs, p g = true) →
    ownL due b (gs.filter p) = ownL due b gs ∧ lentL due b (gs.filter p) = (lentL due b gs).filter p ∧ borneL due b (gs.filter p) = borneL due b gs
  | [], b, _ => ⟨rfl, rfl, rfl⟩
  | x :: r, b, h => by
    by_cases f : fits (sumA b (whole x)) due = true
    · have e1 : ownL due b (x :: r) = x :: ownL due (sumA b (whole x)) r := by rw [ownL, if_pos f]
      have e2 : lentL due b (x :: r) = lentL due (sumA b (whole x)) r := by rw [lentL, if_pos f]
      have e3 : borneL due b (x :: r) = borneL due (sumA b (whole x)) r := by rw [borneL, if_pos f]
      rw [e1] at h
      have hx : p x = true := h x List.mem_cons_self
      obtain ⟨i1, i2, i3⟩ := keep_own p r (sumA b (whole x)) fun g hg => h g (List.mem_cons_of_mem _ hg)
      rw [List.filter_cons_of_pos hx, e1, e2, e3]
      refine ⟨?_, ?_, ?_⟩
      · rw [ownL, if_pos f, i1]
      · rw [lentL, if_pos f, i2]
      · rw [borneL, if_pos f, i3]
    · have e1 : ownL due b (x :: r) = ownL due b r := by rw [ownL, if_neg f]
      have e2 : lentL due b (x :: r) = x :: lentL due b r := by rw [lentL, if_neg f]
      have e3 : borneL due b (x :: r) = borneL due b r := by rw [borneL, if_neg f]
      rw [e1] at h
      obtain ⟨i1, i2, i3⟩ := keep_own p r b h
      rw [e1, e2, e3]
      cases hx : p x with
      | true =>
        rw [List.filter_cons_of_pos hx]
        refine ⟨?_, ?_, ?_⟩
        · rw [ownL, if_neg f, i1]
        · rw [lentL, if_neg f, i2, List.filter_cons_of_pos hx]
        · rw [borneL, if_neg f, i3]
      | false =>
        have hx' : ¬ p x = true := by rw [hx]; exact Bool.false_ne_true
        rw [List.filter_cons_of_neg hx']
        refine ⟨i1, ?_, i3⟩
        rw [i2, List.filter_cons_of_neg hx']

/-- what is borne grows, ware by ware -/
def leA (x y : List Int) : Prop := x.length = y.length ∧ ∀ i, i < x.length → x.getD i 0 ≤ y.getD i 0
theorem leA_refl (x : List Int) : leA x x := ⟨rfl, fun _ _ => Int.le_refl _⟩
theorem leA_trans {x y z : List Int} (a : leA x y) (b : leA y z) : leA x z :=
  ⟨a.1.trans b.1, fun i h => Int.le_trans (a.2 i h) (b.2 i (by rw [← a.1]; exact h))⟩
theorem sumA_getD : ∀ (x y : List Int) (i : Nat), i < x.length → i < y.length → (sumA x y).getD i 0 = x.getD i 0 + y.getD i 0
  | [], _, _, h, _ => absurd h (Nat.not_lt_zero _)
  | _ :: _, [], _, _, h => absurd h (Nat.not_lt_zero _)
  | a :: x, b :: y, 0, _, _ => rfl
  | a :: x, b :: y, i + 1, h, h' => sumA_getD x y i (Nat.lt_of_succ_lt_succ h) (Nat.lt_of_succ_lt_succ h')
theorem sumA_len (x y : List Int) : (sumA x y).length = min x.length y.length := List.length_zipWith
theorem fits_iff : ∀ (x y : List Int), fits x y = true ↔ ∀ i, i < x.length → i < y.length → x.getD i 0 ≤ y.getD i 0
  | [], y => ⟨fun _ i h => absurd h (Nat.not_lt_zero _), fun _ => rfl⟩
  | a :: x, [] => ⟨fun _ i _ h => absurd h (Nat.not_lt_zero _), fun _ => rfl⟩
  | a :: x, b :: y => by
    have ih := fits_iff x y
    have e : fits (a :: x) (b :: y) = (decide (a ≤ b) && fits x y) := rfl
    rw [e, Bool.and_eq_true, decide_eq_true_eq, ih]
    constructor
    · rintro ⟨h1, h2⟩ i hi hj
      cases i with
      | zero => exact h1
      | succ i => exact h2 i (Nat.lt_of_succ_lt_succ hi) (Nat.lt_of_succ_lt_succ hj)
    · intro h
      exact ⟨h 0 (Nat.succ_pos _) (Nat.succ_pos _), fun i hi hj => h (i + 1) (Nat.succ_lt_succ hi) (Nat.succ_lt_succ hj)⟩
theorem fits_mono {x y w due : List Int} (h : leA x y) (hf : fits (sumA y w) due = true) : fits (sumA x w) due = true := by
  rw [fits_iff] at hf ⊢
  intro i h1 h2
  rw [sumA_len] at h1
  have a1 : i < x.length := by omega
  have a2 : i < w.length := by omega
  have q := hf i (by rw [sumA_len, ← h.1]; exact h1) h2
  rw [sumA_getD _ _ _ (by rw [← h.1]; exact a1) a2] at q
  rw [sumA_getD _ _ _ a1 a2]
  have := h.2 i a1
  omega
theorem leA_sum {b w : List Int} (hl : w.length = b.length) (h0 : ∀ z ∈ w, 0 ≤ z) : leA b (sumA b w) := by
  refine ⟨by rw [sumA_len]; omega, fun i hi => ?_⟩
  rw [sumA_getD _ _ _ hi (by omega)]
  have q : w.getD i 0 ∈ w := by
    rw [List.getD_eq_getElem?_getD, List.getElem?_eq_getElem (by omega)]
    exact List.getElem_mem _
  have := h0 _ q
  omega
/-- what a gang wants has a number for each ware, none below nought -/
def WantOk (n : Nat) (g : Gang) : Prop := g.want.length = n ∧ (∀ z ∈ g.want, 0 ≤ z) ∧ 0 ≤ g.many
theorem whole_len {n : Nat} {g : Gang} (h : WantOk n g) : (whole g).length = n := by
  unfold whole
  rw [List.length_map]
  exact h.1
theorem whole_pos {n : Nat} {g : Gang} (h : WantOk n g) : ∀ z ∈ whole g, 0 ≤ z := by
  intro z hz
  unfold whole at hz
  obtain ⟨x, hx, rfl⟩ := List.mem_map.mp hz
  exact Int.mul_nonneg (h.2.1 x hx) h.2.2
theorem borne_mono {due : List Int} {n : Nat} : ∀ (gs : List Gang) (b : List Int), b.length = n → (∀ g ∈ gs, WantOk n g) → leA b (borneL due b gs)
  | [], b, _, _ => leA_refl b
  | x :: r, b, hb, h => by
    have hx := h x List.mem_cons_self
    have hr := fun g hg => h g (List.mem_cons_of_mem x hg)
    by_cases f : fits (sumA b (whole x)) due = true
    · rw [borneL, if_pos f]
      have s := leA_sum (b := b) (w := whole x) (by rw [whole_len hx, hb]) (whole_pos hx)
      exact leA_trans s (borne_mono r _ (by rw [← s.1]; exact hb) hr)
    · rw [borneL, if_neg f]
      exact borne_mono r b hb hr
theorem borne_append {due : List Int} : ∀ (gs hs : List Gang) (b : List Int), borneL due b (gs ++ hs) = borneL due (borneL due b gs) hs
  | [], hs, b => rfl
  | x :: r, hs, b => by
    rw [List.cons_append]
    by_cases f : fits (sumA b (whole x)) due = true
    · rw [borneL, if_pos f, borneL, if_pos f, borne_append r hs]
    · rw [borneL, if_neg f, borneL, if_neg f, borne_append r hs]
/-- those of a great rank stand ahead -/
theorem ranks_split (k : Int) : ∀ gs : List Gang, (gs.Pairwise fun g h => h.rank ≤ g.rank) → gs = (gs.filter fun g => decide (k ≤ g.rank)) ++ (gs.filter fun g => !decide (k ≤ g.rank))
  | [], _ => rfl
  | x :: r, h => by
    obtain ⟨h1, h2⟩ := List.pairwise_cons.mp h
    have ih := ranks_split k r h2
    by_cases c : k ≤ x.rank
    · have e1 : (x :: r).filter (fun g => decide (k ≤ g.rank)) = x :: r.filter (fun g => decide (k ≤ g.rank)) := List.filter_cons_of_pos (by simpa using c)
      have e2 : (x :: r).filter (fun g => !decide (k ≤ g.rank)) = r.filter (fun g => !decide (k ≤ g.rank)) := List.filter_cons_of_neg (by simpa using c)
      rw [e1, e2, List.cons_append, ← ih]
    · have e1 : (x :: r).filter (fun g => decide (k ≤ g.rank)) = [] := by
        rw [List.filter_eq_nil_iff]
        intro g hg
        rcases List.mem_cons.mp hg with e | hg
        · rw [e]; simpa using c
        · have := h1 g hg
          have : ¬ k ≤ g.rank := by omega
          simpa using this
      have e2 : (x :: r).filter (fun g => !decide (k ≤ g.rank)) = x :: r := by
        rw [List.filter_eq_self]
        intro g hg
        rcases List.mem_cons.mp hg with e | hg
        · rw [e]; simpa using c
        · have := h1 g hg
          have : ¬ k ≤ g.rank := by omega
          simpa using this
      rw [e1, e2]
      rfl
/-- whoever fits with all own ones fits with those of no lesser rank -/
theorem owed_own {due : List Int} {rs : List Row} {g : Gang} {n : Nat} (hn : due.length = n) (hw : ∀ r ∈ rs, WantOk n r.g) (h : owed due rs g = true) : ownWith due rs g = true := by
  unfold ownWith owed borne atLeast
  rw [inOrder_filter (fun x => decide (g.rank ≤ x.rank))]
  refine fits_mono ?_ h
  unfold borne
  have e := ranks_split g.rank (inOrder rs) (inOrder_ranks rs)
  have hz : (zeros due).length = n := by unfold zeros; rw [List.length_replicate]; exact hn
  have hg : ∀ x ∈ inOrder rs, WantOk n x := fun x hx => by
    obtain ⟨r, hr, rfl⟩ := inOrder_mem.mp hx
    exact hw r hr
  have a := borne_mono (due := due) ((inOrder rs).filter fun x => decide (g.rank ≤ x.rank)) (zeros due) hz fun x hx => hg x (List.mem_filter.mp hx).1
  have b := borne_mono (due := due) ((inOrder rs).filter fun x => !decide (g.rank ≤ x.rank)) (borneL due (zeros due) ((inOrder rs).filter fun x => decide (g.rank ≤ x.rank))) (by rw [← a.1]; exact hz) fun x hx => hg x (List.mem_filter.mp hx).1
  rw [← borne_append, ← e] at b
  exact b

/-! ### what is taken -/
/-- a guild's due -/
def dueOf (ds : List (Str × Addr × List Int)) (x : Str) : Option (List Int) := (ds.find? fun d => decide (d.1 = x)).map (·.2.2)
/-- whether a row is lent by all rows of its guild -/
def isLent (ds : List (Str × Addr × List Int)) (rs : List Row) (x : Str) : Bool :=
  rs.any fun r => decide (r.g.name ∈ lentN ((dueOf ds r.g.guild).getD []) (ofGuild rs r.g.guild)) && decide (r.g.name = x)
def grounds (isOwed isOwn : Bool) (mine : Str) (rank : Int) (lent : Bool) (o : Gang) : Option Str :=
  if lent = false ∧ ¬ (o.guild = mine ∧ isOwn = true) then none
  else if ¬ o.guild = mine ∧ isOwed = true then some "share"
  else if o.rank < rank then some "rank"
  else none
/-- the shape of what is handed in -/
structure AllOk (n : Nat) (ds : List (Str × Addr × List Int)) (rs : List Row) (g : Gang) : Prop where
  names : (rs.map fun r => r.g.name).Nodup
  wants : ∀ r ∈ rs, WantOk n r.g
  want : WantOk n g
  dues : ∀ d ∈ ds, d.2.2.length = n
  keys : (ds.map (·.1)).Nodup
  guilds : ∀ r ∈ rs, r.g.guild ∈ ds.map (·.1)
  guild : g.guild ∈ ds.map (·.1)

theorem nodup_inj {rs : List Row} (h : (rs.map fun r => r.g.name).Nodup) {p q : Row} (hp : p ∈ rs) (hq : q ∈ rs) (e : p.g.name = q.g.name) : p = q := by
  obtain ⟨i, hi, rfl⟩ := List.mem_iff_getElem.mp hp
  obtain ⟨j, hj, rfl⟩ := List.mem_iff_getElem.mp hq
  have e' : (rs.map fun r => r.g.name)[i]'(by rw [List.length_map]; exact hi) = (rs.map fun r => r.g.name)[j]'(by rw [List.length_map]; exact hj) := by
    rw [List.getElem_map, List.getElem_map]; exact e
  have := (List.getElem_inj h).mp e'
  subst this
  rfl
theorem dueOf_mem {n : Nat} {ds : List (Str × Addr × List Int)} {x : Str} (hd : ∀ d ∈ ds, d.2.2.length = n) (h : x ∈ ds.map (·.1)) : ∃ a due, (x, a, due) ∈ ds ∧ dueOf ds x = some due ∧ due.length = n := by
  unfold dueOf
  cases e : ds.find? fun d => decide (d.1 = x) with
  | none =>
    obtain ⟨d, hd', hx⟩ := List.mem_map.mp h
    have := List.find?_eq_none.mp e d hd'
    rw [hx] at this
    simp at this
  | some d =>
    have h1 := List.find?_some e
    have h2 := List.mem_of_find?_eq_some e
    have h1 : d.1 = x := of_decide_eq_true h1
    refine ⟨d.2.1, d.2.2, ?_, rfl, hd d h2⟩
    rw [← h1]
    exact h2
theorem dueOf_eq {ds : List (Str × Addr × List Int)} (hk : (ds.map (·.1)).Nodup) {d : Str × Addr × List Int} (h : d ∈ ds) : dueOf ds d.1 = some d.2.2 := by
  unfold dueOf
  cases e : ds.find? fun z => decide (z.1 = d.1) with
  | none =>
    have := List.find?_eq_none.mp e d h
    simp at this
  | some z =>
    have h1 := List.find?_some e
    have h1 : z.1 = d.1 := of_decide_eq_true h1
    have h2 := List.mem_of_find?_eq_some e
    obtain ⟨i, hi, e1⟩ := List.mem_iff_getElem.mp h
    obtain ⟨j, hj, e2⟩ := List.mem_iff_getElem.mp h2
    have e' : (ds.map (·.1))[i]'(by rw [List.length_map]; exact hi) = (ds.map (·.1))[j]'(by rw [List.length_map]; exact hj) := by
      rw [List.getElem_map, List.getElem_map, e1, e2, h1]
    have := (List.getElem_inj hk).mp e'
    subst this
    rw [← e2, e1]
    rfl
theorem ofGuild_mem {rs : List Row} {x : Str} {r : Row} : r ∈ ofGuild rs x ↔ r ∈ rs ∧ r.g.guild = x := by
  unfold ofGuild
  rw [List.mem_filter, decide_eq_true_eq]
theorem names_filter {rs : List Row} (h : (rs.map fun r => r.g.name).Nodup) (p : Row → Bool) : ((rs.filter p).map fun r => r.g.name).Nodup :=
  h.sublist (List.filter_sublist.map _)
theorem lentN_mem {due : List Int} {rs : List Row} {x : Str} (h : x ∈ lentN due rs) : ∃ r ∈ rs, r.g.name = x ∧ r.g ∈ lentL due (zeros due) (inOrder rs) := by
  unfold lentN at h
  obtain ⟨g, hg, rfl⟩ := List.mem_map.mp h
  obtain ⟨r, hr, rfl⟩ := inOrder_mem.mp (lent_sub hg)
  exact ⟨r, hr, rfl, hg⟩
/-- of a row: whether it is lent -/
theorem isLent_iff {n : Nat} {ds : List (Str × Addr × List Int)} {rs : List Row} {g : Gang} (ok : AllOk n ds rs g) {r : Row} (hr : r ∈ rs) :
    isLent ds rs r.g.name = true ↔ r.g.name ∈ lentN ((dueOf ds r.g.guild).getD []) (ofGuild rs r.g.guild) := by
  unfold isLent
  rw [List.any_eq_true]
  constructor
  · rintro ⟨q, hq, h⟩
    simp only [Bool.and_eq_true, decide_eq_true_eq] at h
    have e := nodup_inj ok.names hq hr h.2
    subst e
    exact h.1
  · intro h
    exact ⟨r, hr, by simp [h]⟩
def taken (ds : List (Str × Addr × List Int)) (rs : List Row) (g : Gang) (r : Row) : Bool :=
  (grounds (owed ((dueOf ds g.guild).getD []) (ofGuild rs g.guild) g) (ownWith ((dueOf ds g.guild).getD []) (ofGuild rs g.guild) g) g.guild g.rank (isLent ds rs r.g.name) r.g).isSome
/-- own and lent ones part -/
theorem own_lent {due : List Int} : ∀ {gs : List Gang} {b : List Int} {x : Gang}, (gs.map (·.name)).Nodup → x ∈ ownL due b gs → ∀ y ∈ lentL due b gs, y.name ≠ x.name
  | [], b, x, _, h => by cases h
  | z :: r, b, x, hn, h => by
    rw [List.map_cons] at hn
    obtain ⟨h1, h2⟩ := List.nodup_cons.mp hn
    intro y hy
    by_cases f : fits (sumA b (whole z)) due = true
    · rw [ownL, if_pos f] at h
      rw [lentL, if_pos f] at hy
      rcases List.mem_cons.mp h with e | h
      · subst e
        intro e
        exact h1 (List.mem_map.mpr ⟨y, lent_sub hy, e⟩)
      · exact own_lent h2 h y hy
    · rw [ownL, if_neg f] at h
      rw [lentL, if_neg f] at hy
      rcases List.mem_cons.mp hy with e | hy
      · subst e
        intro e
        exact h1 (List.mem_map.mpr ⟨x, own_sub h, e.symm⟩)
      · exact own_lent h2 h y hy
theorem inOrder_nodup {rs : List Row} (h : (rs.map fun r => r.g.name).Nodup) : ((inOrder rs).map (·.name)).Nodup := by
  unfold inOrder
  rw [List.map_map]
  exact ((List.mergeSort_perm rs le1).map _).nodup_iff.mpr h

section
variable {n : Nat} {ds : List (Str × Addr × List Int)} {rs : List Row} {g : Gang}
/-- what is left of a guild -/
theorem left_guild (x : Str) : ofGuild (rs.filter fun r => !taken ds rs g r) x = (ofGuild rs x).filter fun r => !taken ds rs g r := by
  unfold ofGuild
  rw [List.filter_filter, List.filter_filter]
  exact List.filter_congr fun r _ => Bool.and_comm _ _
/-- by names -/
def keptName (ds : List (Str × Addr × List Int)) (rs : List Row) (g : Gang) (o : Gang) : Bool :=
  !(grounds (owed ((dueOf ds g.guild).getD []) (ofGuild rs g.guild) g) (ownWith ((dueOf ds g.guild).getD []) (ofGuild rs g.guild) g) g.guild g.rank (isLent ds rs o.name) o).isSome
theorem own_left {x : Str} {due : List Int} (ok : AllOk n ds rs g) (hd : dueOf ds x = some due) (hx : x ≠ g.guild ∨ ownWith ((dueOf ds g.guild).getD []) (ofGuild rs g.guild) g = false) :
    ownL due (zeros due) (inOrder (ofGuild (rs.filter fun r => !taken ds rs g r) x)) = ownL due (zeros due) (inOrder (ofGuild rs x)) ∧
    lentL due (zeros due) (inOrder (ofGuild (rs.filter fun r => !taken ds rs g r) x)) = (lentL due (zeros due) (inOrder (ofGuild rs x))).filter (keptName ds rs g) ∧
    borneL due (zeros due) (inOrder (ofGuild (rs.filter fun r => !taken ds rs g r) x)) = borneL due (zeros due) (inOrder (ofGuild rs x)) := by
  rw [left_guild, show (fun r => !taken ds rs g r) = (fun r : Row => keptName ds rs g r.g) from rfl, inOrder_filter]
  refine keep_own _ _ _ fun o ho => ?_
  obtain ⟨r, hr, rfl⟩ := inOrder_mem.mp (own_sub ho)
  obtain ⟨hr1, hr2⟩ := ofGuild_mem.mp hr
  have nl : isLent ds rs r.g.name = false := by
    cases e : isLent ds rs r.g.name with
    | false => rfl
    | true =>
      have q := (isLent_iff ok hr1).mp e
      rw [hr2, hd] at q
      unfold lentN at q
      obtain ⟨y, hy, ey⟩ := List.mem_map.mp q
      exact absurd ey (own_lent (inOrder_nodup (names_filter ok.names _)) ho y hy)
  unfold keptName grounds
  rw [nl, if_pos]
  · rfl
  · refine ⟨rfl, fun z => ?_⟩
    rcases hx with h | h
    · exact h (hr2.symm.trans z.1)
    · rw [h] at z
      exact Bool.false_ne_true z.2
theorem lent_is {x : Str} {due : List Int} (ok : AllOk n ds rs g) (hd : dueOf ds x = some due) {o : Gang} (h : o ∈ lentL due (zeros due) (inOrder (ofGuild rs x))) : isLent ds rs o.name = true ∧ o.guild = x := by
  obtain ⟨r, hr, rfl⟩ := inOrder_mem.mp (lent_sub h)
  obtain ⟨hr1, hr2⟩ := ofGuild_mem.mp hr
  refine ⟨(isLent_iff ok hr1).mpr ?_, hr2⟩
  rw [hr2, hd]
  exact List.mem_map.mpr ⟨r.g, h, rfl⟩
/-- a lent one that is left is of no lesser rank; of another guild none is left where the gang is owed -/
theorem lent_left {x : Str} {due : List Int} (ok : AllOk n ds rs g) (hd : dueOf ds x = some due) (hx : x ≠ g.guild ∨ ownWith ((dueOf ds g.guild).getD []) (ofGuild rs g.guild) g = false)
    {o : Gang} (h : o ∈ lentL due (zeros due) (inOrder (ofGuild (rs.filter fun r => !taken ds rs g r) x))) :
    g.rank ≤ o.rank ∧ ¬ (x ≠ g.guild ∧ owed ((dueOf ds g.guild).getD []) (ofGuild rs g.guild) g = true) := by
  rw [(own_left ok hd hx).2.1] at h
  obtain ⟨h1, h2⟩ := List.mem_filter.mp h
  obtain ⟨l1, l2⟩ := lent_is ok hd h1
  unfold keptName grounds at h2
  rw [l1, if_neg (fun z => absurd z.1 (by decide)), l2] at h2
  by_cases c : ¬ x = g.guild ∧ owed ((dueOf ds g.guild).getD []) (ofGuild rs g.guild) g = true
  · rw [if_pos c] at h2
    exact absurd h2 (by decide)
  · rw [if_neg c] at h2
    refine ⟨?_, c⟩
    by_cases k : o.rank < g.rank
    · rw [if_pos k] at h2
      exact absurd h2 (by decide)
    · omega
/-- where it would be own: those of its guild that are left are those of no lesser rank -/
theorem mine_left (ok : AllOk n ds rs g) (h : ownWith ((dueOf ds g.guild).getD []) (ofGuild rs g.guild) g = true) :
    ofGuild (rs.filter fun r => !taken ds rs g r) g.guild = atLeast g.rank (ofGuild rs g.guild) := by
  rw [left_guild]
  unfold atLeast
  refine List.filter_congr fun r hr => ?_
  obtain ⟨hr1, hr2⟩ := ofGuild_mem.mp hr
  unfold taken grounds
  rw [h, if_neg (fun z => z.2 ⟨hr2, rfl⟩), if_neg (fun z => z.1 hr2)]
  by_cases k : r.g.rank < g.rank
  · rw [if_pos k, decide_eq_false (by omega)]
    rfl
  · rw [if_neg k, decide_eq_true (by omega)]
    rfl
end
end Ch
namespace Ch
open PySem
theorem own_append {due : List Int} : ∀ (gs hs : List Gang) (b : List Int), ownL due b (gs ++ hs) = ownL due b gs ++ ownL due (borneL due b gs) hs
  | [], hs, b => rfl
  | x :: r, hs, b => by
    rw [List.cons_append]
    by_cases f : fits (sumA b (whole x)) due = true
    · rw [ownL, if_pos f, ownL, if_pos f, borneL, if_pos f, own_append r hs, List.cons_append]
    · rw [ownL, if_neg f, ownL, if_neg f, borneL, if_neg f, own_append r hs]
theorem lent_append {due : List Int} : ∀ (gs hs : List Gang) (b : List Int), lentL due b (gs ++ hs) = lentL due b gs ++ lentL due (borneL due b gs) hs
  | [], hs, b => rfl
  | x :: r, hs, b => by
    rw [List.cons_append]
    by_cases f : fits (sumA b (whole x)) due = true
    · rw [lentL, if_pos f, lentL, if_pos f, borneL, if_pos f, lent_append r hs]
    · rw [lentL, if_neg f, lentL, if_neg f, borneL, if_neg f, lent_append r hs, List.cons_append]
theorem borne_len {due : List Int} : ∀ (gs : List Gang) (b : List Int), (borneL due b gs).length ≤ b.length
  | [], b => Nat.le_refl _
  | x :: r, b => by
    by_cases f : fits (sumA b (whole x)) due = true
    · rw [borneL, if_pos f]
      refine Nat.le_trans (borne_len r _) ?_
      rw [sumA_len]
      omega
    · rw [borneL, if_neg f]
      exact borne_len r b
theorem own_len {due : List Int} : ∀ (gs : List Gang) (b : List Int), (ownL due b gs).length ≤ gs.length
  | [], b => Nat.le_refl _
  | x :: r, b => by
    by_cases f : fits (sumA b (whole x)) due = true
    · rw [ownL, if_pos f]
      exact Nat.succ_le_succ (own_len r _)
    · rw [ownL, if_neg f]
      exact Nat.le_succ_of_le (own_len r _)
theorem lent_len {due : List Int} : ∀ (gs : List Gang) (b : List Int), (lentL due b gs).length ≤ gs.length
  | [], b => Nat.le_refl _
  | x :: r, b => by
    by_cases f : fits (sumA b (whole x)) due = true
    · rw [lentL, if_pos f]
      exact Nat.le_succ_of_le (lent_len r _)
    · rw [lentL, if_neg f]
      exact Nat.succ_le_succ (lent_len r _)
theorem inOrder_len (rs : List Row) : (inOrder rs).length = rs.length := by
  unfold inOrder
  rw [List.length_map, (List.mergeSort_perm _ _).length_eq]
end Ch

/-! Rules that the layer lacks: zip of tuples as a walk, (0,) * n, the greatest of a tuple, text * int, a slice with a step. -/
namespace Ch
open PySem PySem.Spec PyProof.Rows L2

/-- zip of two tuples, as a walk -/
theorem walk_zipT {K : PySem.W.Frag} {a b : Addr} {xs ys : List V} {n : Nat} (hn : n = min xs.length ys.length) :
    Walk (RZ.ItzT K a b) n (fun H => SqT K H a xs ∧ SqT K H b ys) (YPair (fun i => xs[i]?) (fun i => ys[i]?)) := by
  subst hn
  constructor
  · intro i H hi q
    have h1 : i < xs.length := by omega
    have h2 : i < ys.length := by omega
    exact ⟨xs, ys, xs[i], ys[i], q.1, q.2, List.getElem?_eq_getElem h1, List.getElem?_eq_getElem h2⟩
  · intro H q
    exact ⟨xs, ys, q.1, q.2, by omega⟩
  · rintro i H v H' _ q ⟨T, x, z, h1, h2, h3, h4, h5⟩
    exact ⟨T, x, z, h1, h2, h3, h4 xs q.1, h5 ys q.2⟩

/-! ### t * 1 is t -/
theorem tuple_mul1 (l : Addr) (items : Array Value) (n : Nat) (dd : Option Addr) (sl : Array (Option Value)) (u : Tok) :
    Meets (Builtin.«tuple.__mul__» ⟨[.ref l, .int 1 u], []⟩) (fun _ R s => s.heap.get? l = some { cls := .type "tuple", dict := dd, data := .seq items n, slots := sl } ∧ R (.ok (.ret (.ref l))) s) :=
  .of_wp fun prog w A R s h => by
    obtain ⟨hp, g, d, tk, os⟩ := s
    obtain ⟨hl, h⟩ := h
    have f1 := AutoSeq1.idx_int
    have c1 : (items.isEmpty || (1 : Int) == 1) = true := by rw [Bool.or_eq_true]; exact .inr rfl
    wp_walk using wpAny_loadPart' hl
    repeat (first
      | (refine wpAny_ite_false (decide_eq_false (by decide)) ?_; wp_walk using wpAny_loadPart' hl)
      | (refine wpAny_ite_true (decide_eq_true c1) ?_; wp_walk using wpAny_loadPart' hl))
    exact ⟨_, rfl, h⟩
/-- t * n, n from 1 on -/
def rRep1 (K : PySem.W.Frag) : R2 := fun x y H Q => ∃ l k xs, x = .ref l ∧ y = .int k ∧ SqT K H l xs ∧ xs ≠ [] ∧ 1 ≤ k ∧ k ≤ 1000 ∧ xs.length ≤ 1000 ∧
  (k = 1 → Q (.ref l) H) ∧ (2 ≤ k → ∀ p, H p = none → Q (.ref p) (upd H p (.tup (List.replicate k.toNat xs).flatten)))
section
variable {X : Cx}
theorem op_rep1 : OpR X (binaryOp .Mult) (rRep1 X.K) := by
  intro pins s σ H x y v u Q I rx ry h
  obtain ⟨l, k, xs, hx, hy, hT, hne, h1, h2, hz, q1, q2⟩ := h
  by_cases e : k = 1
  · subst hx hy e
    cases rx
    obtain ⟨t, rfl⟩ := ry
    obtain ⟨its, r, ⟨⟨cls, dd, data, sl⟩, ho, hc, n, hd⟩, hs⟩ := I.tuple hT
    simp only at hc hd
    subst hc hd
    have run := call_meets (s := s) F.slot_int_rmul (typeIs_int s 1 t) F.entry_int_rmul (F.args_int_rmul_2 _ _) (int_rmul_tuple 1 t l its.toArray n dd sl)
      (A := X.A) (prog := X.prog) (w := X.w) (E := X.xe) (Q := fun v s' => v = .notImplemented ∧ s'.TypeIs (.ref l) "tuple" ∧ wpAny (model X.prog X.w) X.A (call (.builtin "tuple.__mul__") [.ref l, .int 1 t]) (EP X pins σ Q) X.xe s')
      ⟨ho, rfl, ⟨_, ho, rfl⟩, call_meets F.slot_tuple_mul ⟨_, ho, rfl⟩ F.entry_tuple_mul (F.args_tuple_mul_2 _ _) (tuple_mul1 l its.toArray n dd sl t) ⟨ho, ⟨.ref l, H, I, rfl, q1 rfl⟩⟩⟩
    exact wpAny_binaryOp_repeat_ref (T := "tuple") (U := "int") (by decide) ⟨_, ho, rfl⟩ (fun s' => typeIs_int s' 1 t) noFill_tuple_mul F.fills_int_mul F.slot_int_rmul repeat_tuple F.slot_int_index.lookup run
  · exact op_repT pins s σ H x y v u Q I rx ry ⟨l, k, xs, hx, hy, hT, hne, by omega, h2, hz, q2 (by omega)⟩

/-! ### the greatest of a tuple of whole numbers: some whole number -/
theorem holds_ints {h : Heap} : ∀ {us : List Value} {ns : List Int}, IntsAre us ns → PySem.W.HoldAll h us ns
  | _, _, .nil => ⟨[], .nil⟩
  | _, _, .cons n t r => by
    obtain ⟨as, q⟩ := holds_ints (h := h) r
    exact ⟨_, .cons (.int n t) q⟩
def rMaxT (K : PySem.W.Frag) : List V → Hp → VK → Prop := fun vs H Q => ∃ (a : Addr) (ns : List Int), vs = [V.ref a] ∧ SqT K H a (ns.map V.int) ∧ 0 < ns.length ∧ ∀ m, Q (.int m) H
theorem cr_maxT (hc : X.calm = true) (hu : X.A.units + 1 < cLine) : CallR X (.builtin "max") (rMaxT X.K) := by
  intro pins s σ H vs us Q I r h
  obtain ⟨a, ns, rfl, hs, hne, q⟩ := h
  obtain ⟨its, rv, hl, _⟩ := I.tuple hs
  rw [Vals.ref1 r]
  cases ns with
  | nil => exact absurd hne (Nat.lt_irrefl _)
  | cons x xs =>
    refine PySem.W.max_tuple_datum (α := Int) (x := x) (xs := xs) (I.ok.hd hc) (show s.heap.IsTuple a its.toArray from hl) (by simpa using holds_ints rv.ints) hu fun i v h' tk _ hv hk => ?_
    obtain ⟨as, hv⟩ := hv
    have hv : Reads h' v (.int (PySem.W.maxOf x xs)) as := hv
    cases hv
    exact ⟨.int _, H, I.kept (t' := tk) hk, ⟨_, rfl⟩, q _⟩

/-! ### a text, so many times -/
def repS (z : Str) (k : Int) : Str := ⟨(List.replicate k.toNat z.cps).foldl (fun a b => a ++ b) #[]⟩
theorem repS_one (z : Str) : repS z 1 = z := by
  show (⟨#[] ++ z.cps⟩ : Str) = z
  rw [Array.empty_append]
theorem repS_len (z : Str) : ∀ (n : Nat) (acc : Array Nat), ((List.replicate n z.cps).foldl (fun a b => a ++ b) acc).size = acc.size + n * z.cps.size
  | 0, acc => by rw [List.replicate_zero, List.foldl_nil, Nat.zero_mul, Nat.add_zero]
  | n + 1, acc => by
    rw [List.replicate_succ, List.foldl_cons, repS_len z n, Array.size_append, Nat.succ_mul]
    omega
def rRepS : R2 := fun x y H Q => ∃ z k, x = .str z ∧ y = .int k ∧ 1 ≤ k ∧ k ≤ 1000 ∧ z.length ≤ 1000 ∧ Q (.str (repS z k)) H
theorem op_repS : OpR X (binaryOp .Mult) rRepS := by
  intro pins s σ H x y v u Q I rx ry h
  obtain ⟨z, k, rfl, rfl, h1, h2, hz, q⟩ := h
  obtain ⟨t, rfl⟩ := rx
  obtain ⟨t', rfl⟩ := ry
  have hm : (z.length : Nat) * k.toNat ≤ 1000 * 1000 := Nat.mul_le_mul hz (by omega)
  have hl : sizeLine = 16777216 := sizeLine_eq
  refine P.mul_str (by rw [decide_eq_false (by omega), decide_eq_false (by omega)]; rfl) (fun _ _ => ?_) (fun _ _ => ?_) ?_
  · have : (1000 : Int) ≤ (2 ^ 63 - 1) / k := by
      rw [Int.le_ediv_iff_mul_le (by omega)]
      omega
    omega
  · unfold Builtin.Str.tooLong
    exact decide_eq_false (by omega)
  · rw [if_neg (by omega)]
    by_cases e : (k == 1 || z.length == 0) = true
    · rw [if_pos e]
      refine ⟨.str z, H, I, ⟨_, rfl⟩, ?_⟩
      rw [Bool.or_eq_true] at e
      rcases e with e | e
      · rw [beq_iff_eq.mp e, repS_one] at q
        exact q
      · have e : z.cps.size = 0 := beq_iff_eq.mp e
        have e2 : repS z k = z := by
          have z1 : (repS z k).cps.size = 0 := by
            show ((List.replicate k.toNat z.cps).foldl (fun a b => a ++ b) #[]).size = 0
            rw [repS_len, e]
            rfl
          cases z with
          | mk c =>
            cases hr : repS ⟨c⟩ k with
            | mk d =>
              rw [hr] at z1
              have z2 : d.size = 0 := z1
              have z3 : c.size = 0 := e
              rw [Array.eq_empty_of_size_eq_zero z2, Array.eq_empty_of_size_eq_zero z3]
        rw [e2] at q
        exact q
    · rw [if_neg e]
      refine ⟨?_, .str (repS z k), H, I.tok _, ⟨_, rfl⟩, q⟩
      show ((List.replicate k.toNat z.cps).foldl (fun a b => a ++ b) #[]).size ≤ sizeLine
      rw [repS_len]
      have hz' : z.cps.size ≤ 1000 := hz
      have : k.toNat * z.cps.size ≤ 1000 * 1000 := Nat.mul_le_mul (by omega) hz'
      have z0 : (#[] : Array Nat).size = 0 := rfl
      omega

/-! ### xs[::k] -/
theorem vals_pick {xs : List V} {us : List Value} (r : Vals xs us) : ∀ ix : List Nat, ∃ ys : List V, Vals ys (ix.filterMap fun i => us.toArray[i]?) ∧ ∀ y ∈ ys, y ∈ xs
  | [] => ⟨[], .nil, fun y h => by cases h⟩
  | i :: ix => by
    obtain ⟨ys, h1, h2⟩ := vals_pick r ix
    have e : us.toArray[i]? = us[i]? := List.getElem?_toArray
    cases q : us[i]? with
    | none =>
      rw [List.filterMap_cons, e, q]
      exact ⟨ys, h1, h2⟩
    | some u =>
      rw [List.filterMap_cons, e, q]
      have hi : i < xs.length := by
        rw [r.length]
        exact (List.getElem?_eq_some_iff.mp q).1
      obtain ⟨u', e', ru⟩ := r.get (List.getElem?_eq_getElem hi)
      rw [q] at e'
      cases e'
      refine ⟨xs[i] :: ys, .cons ru h1, fun y hy => ?_⟩
      rcases List.mem_cons.mp hy with z | z
      · rw [z]; exact List.getElem_mem _
      · exact h2 y z
def tStep (K : PySem.W.Frag) (te ts : TE) : TE := fun σ H Q => te σ H fun x H1 => ts σ H1 fun y H2 => ∃ a xs k, x = .ref a ∧ y = .int k ∧ 0 < k ∧ SqL K H2 a xs ∧
  ∀ (ys : List V) p, (∀ z ∈ ys, z ∈ xs) → H2 p = none → Q (.ref p) (upd H2 p (.lst ys))
theorem pe_step {e st : Expr} {te ts : TE} {p3 pos : Pos} (he : PE X e te) (hst : PE X st ts) : PE X (.Subscript e (.Slice none none (some st) p3) pos) (tStep X.K te ts) := by
  refine ⟨fun pins s σ H Q I h => ?_⟩
  refine Subscript_ (thn (he.run pins s σ H _ I h) fun v s1 ⟨x, H1, I1, r1, q1⟩ => ?_)
  refine wpAny_Slice (thn (po_none.run pins s1 σ H1 (fun o H2 => o = none ∧ H2 = H1) I1 ⟨rfl, rfl⟩) fun vl s2 ⟨l, H2, I2, pl, el, e2⟩ => ?_)
  subst el e2
  refine thn (po_none.run pins s2 σ H2 (fun o H3 => o = none ∧ H3 = H2) I2 ⟨rfl, rfl⟩) fun vu s3 ⟨u, H3, I3, pu, eu, e3⟩ => ?_
  subst eu e3
  rw [evalPart_some]
  refine thn (hst.run pins s3 σ H3 _ I3 q1) fun w4 s4 ⟨y, H4, I4, r4, a, xs, k, ex, ey, hk, hx, q⟩ => ?_
  subst ex ey
  cases r1
  obtain ⟨tk, rfl⟩ := r4
  have I5 : Inv X pins σ H4 { s4 with heap := s4.heap.push { cls := .type "slice", data := .fields #[vl, vu, .int k tk] } } := I4.kept (t' := s4.toks) fun b ob q => Heap.get?_push_of_some _ q
  obtain ⟨its, r, ht, hz⟩ := I5.list hx
  show wpAny (model X.prog X.w) X.A (subscriptTail e (.Slice none none (some st) p3) (.ref a) (.ref s4.heap.objs.size)) (EP X pins σ Q) X.xe { s4 with heap := s4.heap.push { cls := .type "slice", data := .fields #[vl, vu, .int k tk] } }
  refine tail_any (ops := [.ref a, .ref s4.heap.objs.size]) ht.isList.typeIs (PySem.slot_list_getitem.lookup) ?_ (by with_unfolding_all rfl)
  have hsz : its.toArray.size ≤ sizeLine := by rw [List.size_toArray, ← r.length]; exact hz
  refine wpAny_getItem_list_slice ht.isList (Heap.IsSliceOf.new _ vl vu (.int k tk)) pl pu (.int k tk) (by intro z; injection z with z; omega) ?_ hsz
  have hle := slicePick_size_le its.toArray none none (some k)
  unfold slicePick at hle ⊢
  obtain ⟨ys, hv, hm⟩ := vals_pick r (sliceRange (sliceBounds none none (some k) its.toArray.size).1 (sliceBounds none none (some k) its.toArray.size).2.1 (sliceBounds none none (some k) its.toArray.size).2.2)
  refine ⟨.ref _, _, I5.laid (t' := s4.toks) (o := .lst ys) (fun b ob q => Heap.get?_push_of_some _ q) (Nat.le_refl _) ⟨?_, _, 0, hv, Heap.get?_push_size _ rfl⟩, rfl, q ys _ hm (I5.hok.fresh (Nat.le_refl _))⟩
  rw [hv.length]
  rw [List.size_toArray] at hle
  exact Nat.le_trans hle hsz
end
end Ch

/-! Sets of texts: set(a list of texts), and sorted of such a set: some list of the same texts. -/
namespace Ch
open PySem PySem.Spec PyProof.Rows L2

/-- a set of texts: what it holds, at most n; its table rises and can be walked -/
def SetS (P : Program) (w : World) (h : Heap) (a : Addr) (S : Str → Prop) (n : Nat) : Prop :=
  ∃ o es ep t, h.get? a = some o ∧ o.ExactSet ∧ o.data = .set es ep t ∧ ElemsOf (PySem.strKind P w) es.toList ∧ (∀ x, S x ↔ ∃ e ∈ es.toList, (PySem.strKind P w).is x e.2 = true) ∧
    es.size ≤ n ∧ n < scanBound ∧ t.fits es.size = true ∧ Ris t.place.toList ∧ (w.params.followText "set-order" = true ∨ t.led = true)
theorem SetS.at {P : Program} {w : World} {h h' : Heap} {a : Addr} {S : Str → Prop} {n : Nat} (R : SetS P w h a S n) (k : ∀ o, h.get? a = some o → h'.get? a = some o) : SetS P w h' a S n := by
  obtain ⟨o, es, ep, t, ho, r⟩ := R
  exact ⟨o, es, ep, t, k o ho, r⟩
theorem SetS.congr {P : Program} {w : World} {h : Heap} {a : Addr} {S S' : Str → Prop} {n : Nat} (R : SetS P w h a S n) (e : ∀ x, S' x ↔ S x) : SetS P w h a S' n := by
  obtain ⟨o, es, ep, t, ho, hx, hd, g, m, r⟩ := R
  exact ⟨o, es, ep, t, ho, hx, hd, g, fun x => (e x).trans (m x), r⟩
section
variable {P : Program} {w : World} {A : Around} {E : Value → Shared → Prop} {s : Shared} {a : Addr} {S : Str → Prop} {n : Nat}

theorem setS_tail {g : Bool → Sem Unit} (hg : ∀ (b : Bool) (s₁ : Shared) (Q' : Unit → Shared → Prop), Q' () s₁ → wpAny (model P w) A (g b) Q' E s₁)
    {o : Obj} {es : Array (Int × Value)} {ep : Nat} {t : SetTable} (ho : s.heap.get? a = some o) (hex : o.ExactSet) (hd : o.data = .set es ep t)
    {es1 : Array (Int × Value)} {t2 : SetTable} (g1 : ElemsOf (PySem.strKind P w) es1.toList) (m1 : ∀ x, S x ↔ ∃ e ∈ es1.toList, (PySem.strKind P w).is x e.2 = true)
    (hn : es1.size ≤ n) (hb : n < scanBound) (hf2 : t2.fits es1.size = true) (hr : Ris t2.place.toList) (hl : w.params.followText "set-order" = true ∨ t2.led = true) {wasDummy : Bool} {R : Option Bool → Shared → Prop}
    (hR : ∀ h', Heap.SameBut a s.heap h' → SetS P w h' a S n → R (some true) { s with heap := h' }) :
    wpAny (model P w) A (do
        storeSet a es1 t2
        if (!wasDummy && t2.tooFull) = true then do
            g (relayAll t2 es1 (SetTable.grown es1.size)).2.2
            storeSet a (relayAll t2 es1 (SetTable.grown es1.size)).1 (relayAll t2 es1 (SetTable.grown es1.size)).2.1
            pure (some true)
          else pure (some true)) R E s := by
  have hb1 : es1.size < scanBound := Nat.lt_of_le_of_lt hn hb
  refine wpAny_bind (wpAny_storeSet_of ho hd ?_ (fits_of_scanBound hb1))
  have p1 := store_at (es' := es1) (t' := t2) ho hd
  have sb := Heap.SameBut.update s.heap a (Obj.putSet es1 t2)
  by_cases full : (!wasDummy && t2.tooFull) = true
  · rw [if_pos full]
    have pm := relayAll_perm t2 es1 (SetTable.grown es1.size)
    have f3 := relayAll_fits t2 es1 (SetTable.grown es1.size)
    have r3 := relayAll_ris t2 es1 (SetTable.grown es1.size)
    have l3 := relayAll_led t2 es1 (SetTable.grown es1.size)
    generalize relayAll t2 es1 (SetTable.grown es1.size) = Z at pm f3 r3 l3 ⊢
    obtain ⟨es2, t3, gave⟩ := Z
    dsimp only at pm f3 r3 l3 ⊢
    have z : es2.size = es1.size := by rw [← Array.length_toList, pm.length_eq, Array.length_toList]
    refine wpAny_bind (hg _ _ _ (wpAny_bind (wpAny_storeSet_of p1 rfl ?_ (fits_of_scanBound (by rw [z]; exact hb1)))))
    refine wpAny_pure (hR _ (sb.trans (Heap.SameBut.update _ a _)) ⟨_, es2, _, t3, store_at (es' := es2) (t' := t3) p1 rfl, hex, rfl, g1.perm pm, fun x => (m1 x).trans ?_, by rw [z]; exact hn, hb, f3, r3, ?_⟩)
    · exact ⟨fun ⟨e, he, q⟩ => ⟨e, pm.mem_iff.mpr he, q⟩, fun ⟨e, he, q⟩ => ⟨e, pm.mem_iff.mp he, q⟩⟩
    · rw [l3]; exact hl
  · rw [if_neg full]
    exact wpAny_pure (hR _ sb ⟨_, es1, _, t2, p1, hex, rfl, g1, m1, hn, hb, hf2, hr, hl⟩)

theorem setS_add {x : Str} {tk : Tok} {Q : Bool → Shared → Prop} (R : SetS P w s.heap a S n) (room : n + 1 < scanBound)
    (hQ : ∀ b h', Heap.SameBut a s.heap h' → SetS P w h' a (fun y => S y ∨ y = x) (n + 1) → Q b { s with heap := h' }) :
    wpAny (model P w) A (setAddHashed a (.str x tk) ((PySem.strKind P w).hash x)) Q E s := by
  obtain ⟨o, es, ep, t, ho, hex, hd, g, hm, hn, hb, hf, hr, hl⟩ := R
  have hkey : (PySem.strKind P w).is x (.str x tk) = true := strKind_is P w x tk
  have hsc : (Value.str x tk).scannable = true := rfl
  unfold setAddHashed setAddHashedIn
  refine wpAny_holding (wpAny_bind (wpAny_setState_of ho hd hf ?_))
  dsimp only
  rw [byScan_of hsc (Nat.lt_of_le_of_lt hn hb) g]
  simp only [↓reduceIte]
  unfold setAddByScan
  refine wpAny_bind (wpAny_bind (wpAny_rule (wpAny_bind (wpAny_setScan_of hkey ho hd hf g ?_))))
  cases hfi : List.findIdx? (fun e => (PySem.strKind P w).is x e.2) es.toList with
  | some j =>
    dsimp only
    obtain ⟨hj, pj, _⟩ := List.findIdx?_eq_some_iff_getElem.mp hfi
    have hx : S x := (hm x).2 ⟨es.toList[j], List.getElem_mem hj, pj⟩
    refine wpAny_pure (wpAny_pure (hQ _ s.heap (Heap.SameBut.refl a s.heap) ⟨o, es, ep, t, ho, hex, hd, g, fun y => ?_, by omega, room, hf, hr, hl⟩))
    rw [← hm y]
    exact ⟨fun z => z.elim id (fun e => e ▸ hx), .inl⟩
  | none =>
    dsimp only
    have hgw : ∀ (b : Bool) {s₁ : Shared} {Q' : Unit → Shared → Prop}, Q' () s₁ → wpAny (model P w) A (match b with | true => rule "set.scan.the-table-gave-way" | false => pure ()) Q' E s₁ := by
      intro b s₁ Q' q
      cases b
      · exact wpAny_pure q
      · exact wpAny_rule q
    have pm := layNew_perm t es ((PySem.strKind P w).hash x) (.str x tk)
    have f1 := layNew_fits t es ((PySem.strKind P w).hash x) (.str x tk)
    have r1 := layNew_ris t es ((PySem.strKind P w).hash x) (.str x tk) hr
    have l1 := layNew_led t es ((PySem.strKind P w).hash x) (.str x tk)
    generalize layNew t es ((PySem.strKind P w).hash x) (.str x tk) = Z at pm f1 r1 l1 ⊢
    obtain ⟨es1, t1, wasDummy, gave⟩ := Z
    dsimp only at pm f1 r1 l1 ⊢
    rw [Array.toList_push] at pm
    have pc : es1.toList.Perm (((PySem.strKind P w).hash x, Value.str x tk) :: es.toList) := pm.trans (List.perm_append_singleton _ _)
    have g1 : ElemsOf (PySem.strKind P w) es1.toList := fun e he => by
      rcases List.mem_cons.mp (pc.mem_iff.mp he) with z | z
      · rw [z]; exact ⟨⟨x, hkey, rfl⟩, hsc⟩
      · exact g e z
    have m1 : ∀ y, (S y ∨ y = x) ↔ ∃ e ∈ es1.toList, (PySem.strKind P w).is y e.2 = true := fun y => by
      constructor
      · rintro (z | z)
        · obtain ⟨e, he, q⟩ := (hm y).1 z
          exact ⟨e, pc.mem_iff.mpr (List.mem_cons_of_mem _ he), q⟩
        · exact ⟨_, pc.mem_iff.mpr List.mem_cons_self, by rw [z]; exact hkey⟩
      · rintro ⟨e, he, q⟩
        rcases List.mem_cons.mp (pc.mem_iff.mp he) with z | z
        · rw [z] at q
          exact .inr ((PySem.strKind P w).inj _ _ _ q hkey)
        · exact .inl ((hm y).2 ⟨e, z, q⟩)
    have n1 : es1.size ≤ n + 1 := by
      rw [← Array.length_toList, pc.length_eq, List.length_cons, Array.length_toList]
      omega
    have led1 : w.params.followText "set-order" = true ∨ t1.led = true := by rw [l1]; exact hl
    refine wpAny_bind (hgw _ ?_)
    split
    · refine wpAny_bind ?_
      rw [hashByValue_scannable 8 hsc]
      refine wpAny_pure ?_
      refine setS_tail ?_ ho hex hd g1 m1 n1 room ?_ ?_ ?_ ?_
      · intro b s₁ Q' q
        cases b
        · exact wpAny_pure q
        · exact wpAny_rule q
      · first | (split <;> first | exact f1 | exact SetTable.fits_plain_off f1) | exact f1
      · first | (split <;> exact r1) | exact r1
      · first | (split <;> exact led1) | exact led1
      · intro h' sb r
        dsimp only
        exact wpAny_pure (hQ _ h' sb r)
    · refine wpAny_bind (wpAny_pure ?_)
      simp only [↓reduceIte]
      refine setS_tail ?_ ho hex hd g1 m1 n1 room f1 r1 led1 ?_
      · intro b s₁ Q' q
        cases b
        · exact wpAny_pure q
        · exact wpAny_rule q
      · intro h' sb r
        dsimp only
        exact wpAny_pure (hQ _ h' sb r)

theorem strs_get : ∀ {us : List Value} {xs : List Str}, StrsAre us xs → ∀ (i : Nat) (v : Value), us[i]? = some v → ∃ x t, xs[i]? = some x ∧ v = .str x t
  | _, _, .nil, i, v, h => by simp at h
  | _, _, .cons x t r, 0, v, h => by
    simp at h
    exact ⟨x, t, rfl, h.symm⟩
  | _, _, .cons x t r, i + 1, v, h => by
    simp only [List.getElem?_cons_succ] at h
    obtain ⟨y, t', e, q⟩ := strs_get r i v h
    exact ⟨y, t', by simpa using e, q⟩

/-- the items go in, one by one -/
theorem setS_loop {I : Addr} {fp wr : List Addr} {G : Array GenState → Array GenState → Prop} {m : Nat} {Pv : Nat → Value → Prop} {St : Nat → Shared → Prop} {R : Result → Shared → Prop}
    (W : WalksS P w A.in1 I fp wr G m Pv St) (D : Addr) (hD : D ∉ fp) (xs : List Str) (hm : m = xs.length) (hb : xs.length + 1 < scanBound) (hval : ∀ i v, Pv i v → ∃ x t, xs[i]? = some x ∧ v = .str x t) :
    ∀ (k i : Nat) (s : Shared), m - i = k → i ≤ m → St i s → SetS P w s.heap D (fun y => y ∈ xs.take i) i →
      (∀ s', Moved (D :: wr) G s s' → SetS P w s'.heap D (fun y => y ∈ xs) m → R (.ok (.ret .none)) s') →
      codeAny (model P w) A (.builtin "set.update.loop" ⟨[.ref D, .ref I], []⟩) R s := by
  have hDw : D ∉ wr := fun h => hD (W.sub _ h)
  have sub : ∀ b ∈ wr, b ∈ D :: wr := fun b hb => List.mem_cons_of_mem _ hb
  intro k
  induction k with
  | zero =>
    intro i s hk hi hst hS hR
    obtain rfl : i = m := by omega
    refine codeAny_builtin F.entry_set_update_loop ?_
    rw [Around.under_plainId F.plain_set_update_loop _]
    show wpAny _ A.in1 (pyNext (.ref I) >>= _) _ _ s
    refine wpAny_bind (W.done s _ _ hst fun s' mv => ?_)
    show wpAny _ A.in1 (ret Value.none) _ _ s'
    rw [List.take_of_length_le (Nat.le_of_eq hm.symm)] at hS
    exact wpAny_pure (hR s' (mv.mono sub) (hS.at fun o e => mv.heap D o hDw e))
  | succ k ih =>
    intro i s hk hi hst hS hR
    have lt : i < m := by omega
    refine codeAny_builtin F.entry_set_update_loop ?_
    rw [Around.under_plainId F.plain_set_update_loop _]
    show wpAny _ A.in1 (pyNext (.ref I) >>= _) _ _ s
    refine wpAny_bind (W.item i s _ _ lt hst fun v s' hP hst' mv => ?_)
    obtain ⟨x, t, hx, rfl⟩ := hval i v hP
    have hS' : SetS P w s'.heap D (fun y => y ∈ xs.take i) i := hS.at fun o e => mv.heap D o hDw e
    show wpAny _ A.in1 (holding [Value.str x t] (setAdd D (.str x t)) >>= _) _ _ s'
    refine wpAny_bind (wpAny_holding ?_)
    unfold setAdd
    refine wpAny_holding (wpAny_bind ((PySem.strKind P w).pyHash (k := x) (strKind_is _ _ _ _) ?_))
    refine setS_add (s := { s' with toks := s'.toks + 1 }) hS' (by omega) fun _ h' sb hS2 => ?_
    have hS3 : SetS P w h' D (fun y => y ∈ xs.take (i + 1)) (i + 1) := hS2.congr fun y => by
      rw [List.take_add_one, hx, List.mem_append]
      simp
    refine wpAny_pure ⟨plainId_quiet F.plain_set_update_loop _, ih (i + 1) _ (by omega) lt (W.frame _ s' _ _ hst' (Nat.le_succ _) fun b hb o e => ?_) hS3 fun s'' mv2 hS'' => ?_⟩
    · exact (sb.2 b fun h : b = D => hD (by rw [← h]; exact hb)).trans e
    · refine hR s'' (Moved.trans W.gtrans ((mv.mono sub).then_heap (Nat.le_succ _) fun b o hb e => ?_) mv2) hS''
      exact (sb.2 b fun h : b = D => hb (by rw [h]; exact List.mem_cons_self)).trans e

/-- the new empty set -/
abbrev eSet (w : World) : Obj := { cls := .type "set", dict := none, data := .set #[] 0 (.fresh 0 0 (!w.params.followText "set-order")) }
theorem setS_new {h : Heap} {xs : List Str} (ho : h.get? a = some (eSet w)) : SetS P w h a (fun y => y ∈ xs.take 0) 0 := by
  refine ⟨_, #[], 0, _, ho, ⟨rfl, rfl, rfl⟩, rfl, fun e he => by simp at he, fun k => by simp, Nat.le_refl _, by decide, rfl, List.Pairwise.nil, ?_⟩
  cases w.params.followText "set-order"
  · exact .inr rfl
  · exact .inl rfl

theorem call_setS {l : Addr} {items : Array Value} (xs : List Str) {Q : Value → Shared → Prop} (hh : A.handled = none) (hl : s.heap.IsList l items) (hit : StrsAre items.toList xs) (hb : xs.length + 1 < scanBound)
    (h : ∀ (h' : Heap) (tk : Nat), SetS P w h' s.heap.objs.size (fun y => y ∈ xs) xs.length → (∀ b o, s.heap.get? b = some o → h'.get? b = some o) → Q (.ref s.heap.objs.size) { s with heap := h', toks := tk }) :
    wpAny (model P w) A (call (.type "set") [.ref l]) Q E s := by
  have hz : items.size = xs.length := by
    have q := StrsAre.length hit
    rw [Array.length_toList] at q
    exact q
  obtain ⟨c, tl, hmro⟩ := F.called_set.mro
  have hmade := F.called_set.made
  have hsub := F.called_set.sub
  refine wpAny_call (codeAny_of_tree ?_)
  show wpAny _ _ (callAny (.type "set") _) _ _ _
  refine wpAny_pure ⟨Code.quiet_builtin _ (by decide +kernel), codeAny_builtin F.entry_type_call ?_⟩
  rw [Around.under_plain (weight_type_call_type "set" [.ref l] []) rfl]
  have h1 := F.called_set.notType
  have h2 := F.called_set.canCreate
  have hct := F.typeCall_set_1 (.ref l)
  repeat (any_goals (first | assumption | wp_step))
  refine codeAny_mono (code_set_led1 (.ref l) (E := E) (Q₁ := fun obj s₁ => obj = .ref s.heap.objs.size ∧ s₁ = { s with heap := s.heap.push (eSet w) }) ⟨rfl, rfl⟩) fun r s₁ hr => ?_
  cases r with
  | error e => exact hr
  | ok fl =>
    cases fl with
    | ret obj =>
      obtain ⟨rfl, rfl⟩ := hr
      have hS : (s.heap.push (eSet w)).get? s.heap.objs.size = some (eSet w) := Heap.get?_push_size _ rfl
      have hT : Shared.TypeIs { s with heap := s.heap.push (eSet w) } (.ref s.heap.objs.size) "set" := ⟨_, hS, rfl⟩
      have hli := F.called_set.init.lookup
      have hbi := F.called_set.init.bind (.ref s.heap.objs.size)
      repeat (any_goals (first | assumption | wp_step))
      refine codeAny_mono (codeAny_call_builtin (R := wants (fun r s₂ => r = .none ∧ ∃ h' tk, s₂ = { s with heap := h', toks := tk } ∧ SetS P w h' s.heap.objs.size (fun y => y ∈ xs) xs.length ∧
          (∀ b o, s.heap.get? b = some o → h'.get? b = some o)) E) F.called_set.init.plain F.entry_set_init (check_set_init_1 hT ?_)) fun r₂ s₂ hr₂ => ?_
      · obtain ⟨⟨ocls, odict, odata, oslots⟩, hol, hcl, nl, hdl⟩ := hl
        simp only at hcl hdl
        subst hcl
        subst hdl
        have hol' : (s.heap.push (eSet w)).get? l = some { cls := .type "list", dict := odict, data := .seq items nl, slots := oslots } := Heap.get?_push_of_some _ hol
        have hsls := F.sub_list_set
        have hslf := F.sub_list_frozenset
        have hne : (Value.type "list" == Value.type "dict") = false := by decide
        have hl1 : (s.heap.push (eSet w)).IsList l items := ⟨_, hol', rfl, nl, rfl⟩
        unfold Builtin.«set.__init__» noKeywords Builtin.Frozenset.updateFrom
        generalize hPI : pyIter = PI
        wp_walk
        subst hPI
        refine wpAny_pyIter_list hl1 (wpAny_bind (wpAny_runValue ?_))
        have hlS : l < s.heap.objs.size := Heap.lt_size hol
        have hh3 : A.in1.in1.in1.handled = none := by simp [hh]
        have z1 : (s.heap.push (eSet w)).objs.size = s.heap.objs.size + 1 := Heap.size_push ..
        have neI : l ≠ (s.heap.push (eSet w)).objs.size := by
          rw [z1]
          exact Nat.ne_of_lt (Nat.lt_succ_of_lt hlS)
        have nfp : s.heap.objs.size ∉ [(s.heap.push (eSet w)).objs.size, l] := by
          rw [z1]
          simp only [List.mem_cons, List.not_mem_nil, or_false, not_or]
          exact ⟨Nat.ne_of_lt (Nat.lt_succ_self _), Nat.ne_of_gt hlS⟩
        refine setS_loop ((Walks.list hh3 _ l neI items).toS) s.heap.objs.size nfp xs hz hb (fun i v hv => strs_get hit i v (by rw [Array.getElem?_toList]; exact hv)) (items.size - 0) 0 _ (by omega) (Nat.zero_le _)
          ⟨⟨_, Heap.get?_push_size _ rfl, rfl, rfl⟩, (hl1.push _)⟩ (setS_new (Heap.get?_push_of_some _ hS)) ?_
        intro s' mv hS'
        obtain ⟨h', g2, d', tk', os'⟩ := s'
        have eg : g2 = s.gens := mv.gens
        have ed : d' = s.drawn := mv.drawn
        have eo : os' = s.os := mv.os
        subst eg; subst ed; subst eo
        show wpAny _ _ _ _ _ _
        refine wpAny_pure ?_
        show wpAny _ _ (ret Value.none) _ _ _
        rw [hz] at hS'
        refine wpAny_pure ⟨rfl, h', tk', rfl, hS', fun b o e => ?_⟩
        have hb0 : b < s.heap.objs.size := Heap.lt_size e
        refine mv.heap b o ?_ (Heap.get?_push_of_some _ (Heap.get?_push_of_some _ e))
        simp only [List.mem_cons, List.not_mem_nil, or_false, not_or]
        exact ⟨Nat.ne_of_lt hb0, by rw [z1]; exact Nat.ne_of_lt (Nat.lt_succ_of_lt hb0)⟩
      · cases r₂ with
        | error e => exact hr₂
        | ok fl₂ =>
          cases fl₂ with
          | ret r =>
            obtain ⟨rfl, h', tk, rfl, hS', hk'⟩ := hr₂
            repeat (any_goals (first | assumption | wp_step))
            exact h _ _ hS' hk'
          | _ => exact hr₂.elim
    | _ => exact hr.elim

theorem strs_of : ∀ (l : List Value), (∀ v ∈ l, ∃ x tk, v = Value.str x tk) → ∃ xs, StrsAre l xs
  | [], _ => ⟨[], .nil⟩
  | v :: l, h => by
    obtain ⟨x, tk, rfl⟩ := h v List.mem_cons_self
    obtain ⟨xs, r⟩ := strs_of l fun u hu => h u (List.mem_cons_of_mem _ hu)
    exact ⟨x :: xs, .cons x tk r⟩
theorem strs_mem {x : Str} : ∀ {l : List Value} {xs : List Str}, StrsAre l xs → (x ∈ xs ↔ ∃ tk, Value.str x tk ∈ l)
  | _, _, .nil => by simp
  | _, _, .cons y t r => by
    have ih := strs_mem (x := x) r
    rw [List.mem_cons, ih]
    constructor
    · rintro (rfl | ⟨tk, h⟩)
      · exact ⟨t, List.mem_cons_self⟩
      · exact ⟨tk, List.mem_cons_of_mem _ h⟩
    · rintro ⟨tk, h⟩
      rcases List.mem_cons.mp h with z | z
      · injection z with z1 z2
        exact .inl z1
      · exact .inr ⟨tk, z⟩

theorem each_strs : ∀ {us : List Value} {xs : List Str}, StrsAre us xs → PySem.W.EachIs (fun v x => ∃ tk, v = Value.str x tk) us xs
  | _, _, .nil => .nil
  | _, _, .cons x t r => .cons ⟨t, rfl⟩ (each_strs r)
theorem strs_each : ∀ {us : List Value} {xs : List Str}, PySem.W.EachIs (fun v x => ∃ tk, v = Value.str x tk) us xs → StrsAre us xs
  | _, _, .nil => .nil
  | _, _, .cons ⟨t, e⟩ r => by
    subst e
    exact .cons _ t (strs_each r)
theorem sortable_strs (ys : List Str) : PySem.W.Sortable (ys.map PyData.str) := PySem.W.Sortable.others (enc := PyData.str) fun b => by
  constructor
  · intro e
    cases e
  · intro xs e
    cases e
/-- sorted of such a set -/
theorem sorted_setS {Q : Value → Shared → Prop} (R : SetS P w s.heap a S n) (hh : A.handled = none) (hu : A.units + 64 < cLine)
    (hQ : ∀ s' p (out : List Value) (c : Nat) (xs : List Str), (∀ b o, s.heap.get? b = some o → s'.heap.get? b = some o) → s'.gens = s.gens → s'.os = s.os → s.heap.objs.size ≤ p →
      s'.heap.get? p = some (seqObj "list" out.toArray c) → StrsAre out xs → (∀ x, x ∈ xs ↔ S x) → xs.length ≤ n → Q (.ref p) s') :
    wpAny (model P w) A (call (.builtin "sorted") [.ref a]) Q E s := by
  obtain ⟨o, es, ep, t, ho, hex, hd, g, hm, hn, hb, hf, hr, hl⟩ := R
  refine Calls.call_function_entry kind_sorted plain_sorted entry_sorted (args_sorted1 _) ?_
  unfold Builtin.«sorted»
  refine wpAny_bind (m := checkCount "sorted" 1 1 _) (wpAny_pure ?_)
  refine wpAny_bind (collect_set (A := A.in1) hh ⟨o, ho, hex.1, hd⟩ hf (Nat.lt_of_le_of_lt hn hb) hr hl fun s1 vs k1 z g1 o1 pm => ?_)
  have vl : vs.length ≤ n := by rw [pm.length_eq, List.length_map, Array.length_toList]; exact hn
  have vz : vs.length ≤ sizeLine := fits_of_scanBound (Nat.lt_of_le_of_lt vl hb)
  obtain ⟨ys, hI⟩ := strs_of vs fun v hv => by
    obtain ⟨e, he, q⟩ := List.mem_map.mp (pm.mem_iff.mp hv)
    obtain ⟨⟨x, q1, _⟩, _⟩ := g e he
    obtain ⟨tk, q2⟩ := Value.isStrOf_shape (show Value.isStrOf x e.2 = true from q1)
    exact ⟨x, tk, by rw [← q]; exact q2⟩
  have yl := StrsAre.length hI
  refine wpAny_bind (wpAny_newList ?_ vz)
  have hoL : (s1.heap.push (seqObj "list" vs.toArray 0)).get? s1.heap.objs.size = some (seqObj "list" vs.toArray 0) := Heap.get?_push_size _ rfl
  have er : PySem.W.EachIs (fun v x => ∃ as, Reads (s1.heap.push (seqObj "list" vs.toArray 0)) v (PyData.str x) as ∧ s1.heap.objs.size ∉ as) vs ys :=
    (each_strs hI).mono fun v x ⟨tk, e⟩ => ⟨[], by rw [e]; exact .str x tk, by simp⟩
  refine wpAny_bind (wpAny_holding (PySem.W.list_sort_data (s := { s1 with heap := s1.heap.push (seqObj "list" vs.toArray 0) }) (enc := PyData.str) hoL (each_strs hI) er (PySem.W.AllAlike.of fun _ _ => by simp only [PySem.W.alike]) (sortable_strs ys)
    (by rw [← yl]; exact vz) (fun b _ => ?_) fun out hlen ro => ?_))
  · have e0 : (PyData.str b).depth = 0 := rfl
    rw [e0]
    show A.units + 1 + 1 + 0 < cLine
    omega
  · obtain ⟨c, hc⟩ := sortedHeap_at (vs := vs) (out := out.toArray) hoL
    have a1 := strs_each ro
    have a2 := List.mergeSort_perm ys (PySem.W.dataLe false PyData.str)
    refine wpAny_pure ⟨_, rfl, hQ _ s1.heap.objs.size out c _ (fun b u e => ?_) g1 o1 z hc a1 (fun x => ?_) ?_⟩
    · have q := k1 b u e
      have lt := Heap.lt_size q
      refine (sortedHeap_old (Nat.ne_of_lt lt) (by rw [size_push']; exact Nat.lt_succ_of_lt lt)).trans ?_
      exact Heap.get?_push_of_some _ q
    · rw [a2.mem_iff, strs_mem hI, hm x]
      constructor
      · rintro ⟨tk, h⟩
        obtain ⟨e, he, q⟩ := List.mem_map.mp (pm.mem_iff.mp h)
        exact ⟨e, he, by rw [q]; exact strKind_is P w x tk⟩
      · rintro ⟨e, he, q⟩
        obtain ⟨tk, q2⟩ := Value.isStrOf_shape (show Value.isStrOf x e.2 = true from q)
        exact ⟨tk, pm.mem_iff.mpr (List.mem_map.mpr ⟨e, he, q2⟩)⟩
    · rw [a2.length_eq, ← yl]
      exact vl
end

/-! ### over the layer -/
theorem strs_back : ∀ {xs : List Str} {us : List Value}, Vals (xs.map V.str) us → StrsAre us xs
  | [], us, r => by
    cases r
    exact .nil
  | x :: xs, us, r => by
    rw [List.map_cons] at r
    cases r with
    | cons r1 r2 =>
      obtain ⟨t, rfl⟩ := r1
      exact .cons x t (strs_back r2)
def SetSO (P : Program) (w : World) (a : Addr) (xs : List Str) : HO := .ext fun h => SetS P w h a (fun y => y ∈ xs) xs.length
section
variable {X : Cx}
def rSetS (K : PySem.W.Frag) (P : Program) (w : World) : List V → Hp → VK → Prop := fun vs H Q => ∃ (a : Addr) (xs : List Str), vs = [V.ref a] ∧ SqL K H a (xs.map V.str) ∧ xs.length ≤ 1000 ∧ ∀ p, H p = none → Q (.ref p) (upd H p (SetSO P w p xs))
theorem cr_setS (hc : X.calm = true) : CallR X (.type "set") (rSetS X.K X.prog X.w) := by
  intro pins s σ H vs us Q I r h
  obtain ⟨a, xs, rfl, hs, hz, q⟩ := h
  obtain ⟨its, rv, hl, _⟩ := I.list hs
  rw [Vals.ref1 r]
  refine call_setS xs (I.ok.hd hc) hl.isList (by simpa using strs_back rv) (by unfold scanBound; omega) fun h' tk R k => ?_
  refine ⟨.ref _, _, I.laid (t' := tk) (o := SetSO X.prog X.w s.heap.objs.size xs) k (Nat.le_refl _) ?_, rfl, q _ (I.hok.fresh (Nat.le_refl _))⟩
  obtain ⟨o, _, _, _, ho, _⟩ := id R
  exact ⟨R, ⟨o, ho⟩, fun h1 h2 z k => z.at k⟩
def rSortedS2 (P : Program) (w : World) : List V → Hp → VK → Prop := fun vs H Q => ∃ (a : Addr) (xs : List Str), vs = [V.ref a] ∧ H a = some (SetSO P w a xs) ∧
  ∀ (ys : List Str) (p : Addr), (∀ y, y ∈ ys ↔ y ∈ xs) → ys.length ≤ xs.length → H p = none → Q (.ref p) (upd H p (.lst (ys.map V.str)))
theorem vals_strs : ∀ {us : List Value} {xs : List Str}, StrsAre us xs → Vals (xs.map V.str) us
  | _, _, .nil => .nil
  | _, _, .cons x t r => .cons ⟨t, rfl⟩ (vals_strs r)
theorem cr_sortedS2 (hc : X.calm = true) (hu : X.A.units + 64 < cLine) : CallR X (.builtin "sorted") (rSortedS2 X.prog X.w) := by
  intro pins s σ H vs us Q I r h
  obtain ⟨a, xs, rfl, ha, q⟩ := h
  rw [Vals.ref1 r]
  obtain ⟨R, _, _⟩ := I.hok a _ ha
  have R : SetS X.prog X.w s.heap a (fun y => y ∈ xs) xs.length := R
  have nb : xs.length < scanBound := by
    obtain ⟨_, _, _, _, _, _, _, _, _, _, h, _⟩ := id R
    exact h
  refine sorted_setS R (I.ok.hd hc) hu fun s' p out c ys k hg ho hp hq hI hm hl => ?_
  obtain ⟨h', g', d', tk, os'⟩ := s'
  have hg : g' = s.gens := hg
  have ho : os' = s.os := ho
  subst hg ho
  have hf : H p = none := I.hok.fresh hp
  have un : Un X.fs [] H (upd H p (.lst (ys.map V.str))) s.heap h' := Un.laid k hp hf
  have hz : (ys.map V.str).length ≤ sizeLine := by
    rw [List.length_map]
    exact fits_of_scanBound (Nat.lt_of_le_of_lt hl nb)
  have hok := I.hok.laid k hp (o := .lst (ys.map V.str)) ⟨hz, out, c, vals_strs hI, hq⟩
  refine ⟨.ref p, _, I.call (g' := s.gens) (d' := d') (t' := tk) (ch := []) (un.mono (fun b hb => ?_) fun b hb => hb) hok I.bare (fun b z => absurd z (by simp)), rfl, q ys p hm hl hf⟩
  rcases I.ok.stk with e | ⟨e, hfr⟩
  · rw [e]; exact hb
  · rw [e]
    unfold frs
    rw [List.filterMap_cons, hfr]
    exact List.mem_cons_of_mem _ hb
end
end Ch

/-! The text by places. -/
namespace Ch
open PySem L2
def top (i : Nat) : Stmt := PySem.Challenge.pw_clusterhall_k30_whole_when_all_are_taken.main.body.getD i (.Pass ⟨0, 0, 0, 0⟩)
abbrev sNothing : Stmt := top 1
abbrev sSum : Stmt := top 2
abbrev sFits : Stmt := top 3
abbrev sTimes : Stmt := top 4
abbrev sWhole : Stmt := top 6
abbrev sStands : Stmt := top 7
abbrev sOrder : Stmt := top 8
abbrev sShInit : Stmt := inClass (top 10) 0
abbrev sShRoom : Stmt := inClass (top 10) 1
abbrev sShAdd : Stmt := inClass (top 10) 2
abbrev sParted : Stmt := top 11
abbrev sOwed : Stmt := top 12
abbrev sOwn : Stmt := top 13
abbrev sRows : Stmt := top 14
abbrev sTakenBy : Stmt := top 15
abbrev sTkInit : Stmt := inClass (top 16) 0
abbrev sTkGround : Stmt := inClass (top 16) 1
abbrev sMay : Stmt := top 17
abbrev sBox : Stmt := top 19
abbrev sTake : Stmt := top 20
abbrev sGang : Stmt := top 21
abbrev sDue : Stmt := top 22
abbrev sState : Stmt := top 23
abbrev sGuild : Stmt := top 24
abbrev sRight : Stmt := top 25
abbrev sLaw : Stmt := top 26
end Ch

/-! sorted(rows, key=f), f one of the two defs that tell what a row stands by. -/
namespace Ch
open PySem PySem.Spec PyProof.Rows L2
section
variable {P : Program} {w : World} {A : Around} {E : Value → Shared → Prop} {env : Env}
/-- e is read: the heap stays, its value is as told -/
def Evr (P : Program) (w : World) (A : Around) (E : Value → Shared → Prop) (env : Env) (h : Heap) (e : Expr) (p : Value → Prop) : Prop :=
  ∀ (s : Shared), s.heap = h → ∀ (Q : Value → Shared → Prop), (∀ u tk, p u → Q u { s with toks := tk }) → wpAny (model P w) A (eval e env) Q E s
theorem evr_name {h : Heap} {m : Str → Option Value} {x : Str} {u : Value} {pos : Pos} (hk : env.scope.kind = .function) (hl : env.kindOf x = some .local) (hn : h.Ns env.locals m) (hv : m x = some u) (hd : (x == ("__debug__" : Str)) = false := by decide) :
    Evr P w A E env h (.Name x pos) (fun v => v = u) := fun s e Q q => by
  subst e
  exact wpAny_Name (wpAny_loadName_local hk hl hn hv (q u s.toks rfl)) hd
theorem evr_ix {h : Heap} {e : Expr} {t : Addr} {items : Array Value} {k : Nat} {u : Value} {i : Nat} {p1 pos : Pos} (he : Evr P w A E env h e (fun v => v = .ref t)) (ht : IsTup h t items) (hx : items[k]? = some u) (hk : k < 100) :
    Evr P w A E env h (.Subscript e (.Constant (.int k) i p1) pos) (fun v => v = u) := fun s e0 Q q => by
  subst e0
  refine Subscript_ (he s rfl _ fun v tk ev => ?_)
  subst ev
  refine wpAny_Constant_int ?_
  have lt : k < items.size := (Array.getElem?_eq_some_iff.mp hx).1
  refine subscriptTail_builtinR (x := u) (T := "tuple") (IsTup.typeIs (s := { s with toks := tk + 1 }) ht) slot_tuple_getitem.lookup ?_
  refine PyProof.Rows.getItem_tuple (s := { s with toks := tk + 1 }) (j := k) ht (by omega) (by omega) ?_ hx ⟨rfl, q _ _ rfl⟩
  have e0 : ¬ ((k : Nat) : Int) < 0 := by omega
  have e1 : (decide (0 ≤ ((k : Nat) : Int)) && decide (((k : Nat) : Int) < ((items.size : Nat) : Int))) = true := by
    rw [decide_eq_true (by omega), decide_eq_true (by omega)]
    rfl
  unfold seqIndex?
  simp only [if_neg e0]
  rw [if_pos e1]
  rfl
theorem evr_neg {h : Heap} {e : Expr} {i : Int} {pos : Pos} (he : Evr P w A E env h e (fun v => ∃ t, v = .int i t)) : Evr P w A E env h (.UnaryOp .USub e pos) (fun v => ∃ t, v = .int (-i) t) := fun s e0 Q q => by
  subst e0
  refine UnaryOp_ (he s rfl _ fun v tk ev => ?_)
  obtain ⟨t, rfl⟩ := ev
  exact neg_int (q _ (tk + 1) ⟨_, rfl⟩)
theorem evr_mono {h : Heap} {e : Expr} {p p' : Value → Prop} (he : Evr P w A E env h e p) (k : ∀ v, p v → p' v) : Evr P w A E env h e p' := fun s e0 Q q => he s e0 Q fun u tk hu => q u tk (k u hu)
/-- a pair of two that are read -/
theorem evr_pair {h : Heap} {e1 e2 : Expr} {p1 p2 : Value → Prop} {x1} {pos : Pos} {s : Shared} {Q : Value → Shared → Prop} (hs : s.heap = h) (h1 : Evr P w A E env h e1 p1) (h2 : Evr P w A E env h e2 p2)
    (q : ∀ u1 u2 tk, p1 u1 → p2 u2 → Q (.ref h.objs.size) { s with heap := h.push { cls := .type "tuple", data := .seq #[u1, u2] }, toks := tk })
    (hs1 : starEach [e1, e2] env = [(false, eval e1 env), (false, eval e2 env)] := by rfl) : wpAny (model P w) A (eval (.Tuple [e1, e2] x1 pos) env) Q E s := by
  subst hs
  refine wpAny_Tuple_spliced ?_
  rw [hs1]
  show wpAny _ _ (spliced ((false, eval e1 env) :: backTo pos [(false, eval e2 env)])) _ _ s
  refine Calls.spliced_cons (h1 s rfl _ fun u1 t1 hu1 => ?_)
  show wpAny _ _ (spliced ((false, eval e2 env) :: backTo pos [])) _ _ _
  refine Calls.spliced_cons (h2 { s with toks := t1 } rfl _ fun u2 t2 hu2 => ?_)
  refine Calls.spliced_nil ⟨?_, q u1 u2 t2 hu1 hu2⟩
  show 2 ≤ sizeLine
  decide
end

/-! ### a row, where it stands -/
def gangV (g : Gang) : List V := [.str g.name, .str g.guild, .int g.rank, .int g.many, .ref g.wa, .str g.how, .int g.len]
def GangAt (K : PySem.W.Frag) (H : Hp) (g : Gang) : Prop := SqT K H g.a (gangV g) ∧ SqT K H g.wa (g.want.map V.int)
def RowAt (K : PySem.W.Frag) (H : Hp) (r : Row) : Prop := SqT K H r.a [.ref r.g.a, .int r.num] ∧ GangAt K H r.g
def rowsV (rs : List Row) : List V := rs.map fun r => V.ref r.a
def RowsAt (K : PySem.W.Frag) (H : Hp) (rs : List Row) : Prop := ∀ r ∈ rs, RowAt K H r
theorem same_tup {K : PySem.W.Frag} {H H' : Hp} {a : Addr} {xs : List V} (e : Same H H') (h : SqT K H a xs) : SqT K H' a xs := by
  rcases h with (h | ⟨o, h⟩) | h
  · exact .inl (.inl (e _ _ h))
  · exact .inl (.inr ⟨o, e _ _ h⟩)
  · exact .inr h
theorem same_gang {K : PySem.W.Frag} {H H' : Hp} {g : Gang} (e : Same H H') (h : GangAt K H g) : GangAt K H' g := ⟨same_tup e h.1, same_tup e h.2⟩
theorem same_row {K : PySem.W.Frag} {H H' : Hp} {r : Row} (e : Same H H') (h : RowAt K H r) : RowAt K H' r := ⟨same_tup e h.1, same_gang e h.2⟩
theorem same_rows {K : PySem.W.Frag} {H H' : Hp} {rs : List Row} (e : Same H H') (h : RowsAt K H rs) : RowsAt K H' rs := fun r hr => same_row e (h r hr)

/-- what the def at f gives, called with a row by sorted -/
def KeyDef (P : Program) (w : World) (K : PySem.W.Frag) (f : Addr) (key : Row → PyData) : Prop :=
  ∀ (A : Around) (s : Shared) (r : Row) (i1 i2 : Array Value), Room 1 A → K.In s.heap → s.heap.NoLimit → (∃ u t, i1[0]? = some (.ref r.g.a) ∧ i1[1]? = some (.int u t) ∧ u = r.num) → (∃ t, i2[2]? = some (.int r.g.rank t)) →
    IsTup s.heap r.a i1 → IsTup s.heap r.g.a i2 → wpAny (model P w) A (call (.ref f) [.ref r.a]) (PySem.W.KeyPure (key r) s) (fun _ _ => False) s
section
variable {P : Program} {w : World} {K : PySem.W.Frag}
/-- the frame of a def with the one parameter row: what its body gives is what the call gives -/
theorem key_frame {x : Str} {st : Stmt} {f : Addr} {fd : FuncData} {key : Row → PyData} (F : Fun K x x st f fd) (S : FnScope ["row"] ["row"] (defScope st)) (b : Binds K fd ["row"] []) (hl : (defScope st).names.lookup ("row" : Str) = some NameKind.local)
    (body : ∀ (A : Around) (E : Value → Shared → Prop) (env : Env) (m : Str → Option Value) (s : Shared) (r : Row) (i1 i2 : Array Value), env.scope = defScope st → env.scope.kind = .function → env.kindOf "row" = some .local → s.heap.Ns env.locals m → m "row" = some (.ref r.a) →
      (∃ u t, i1[0]? = some (.ref r.g.a) ∧ i1[1]? = some (.int u t) ∧ u = r.num) → (∃ t, i2[2]? = some (.int r.g.rank t)) → IsTup s.heap r.a i1 → IsTup s.heap r.g.a i2 →
      ∀ Q : Value → Shared → Prop, (∀ u s', PySem.W.KeyPure (key r) s u s' → Q u s') → wpAny (model P w) A (execs (defBody st) env) (fun fl s' => ∃ u, fl = .ret u ∧ Q u s') E s) : KeyDef P w K f key := by
  intro A s r i1 i2 hr hK lim h1 h2 t1 t2
  obtain ⟨oc, od, kV, doc, pm, an, cdv, ct, osl, rfl, lk, hcd⟩ := F.ex
  refine wpAny_call ?_
  refine codeAny_call_function hr.depth (hK _ _ lk) rfl S.co S.gen rfl (PySem.W.codeRec_of hK hcd) (b s [.ref r.a] hK rfl _ _ _ _ ?_)
  refine wpAny_newFunctionEnv_cells S.kind (fun y hy => ?_) fun env he s1 z => ?_
  · have hy : y ∈ ([(("row" : Str), Value.ref r.a)] : List (Str × Value)) := hy
    have e : y = (("row" : Str), Value.ref r.a) := List.mem_singleton.mp hy
    rw [e]
    exact .inl hl
  · subst he
    refine ⟨lim.keeps z.toInCall.keep, codeAny_func ?_⟩
    obtain ⟨h', tk, e1, kp⟩ := z.done
    refine wpAny_mono (body _ _ _ _ s1 r i1 i2 (by rfl) (by exact S.kind) (by exact hl) z.toInCall.ns ?_ h1 h2 (t1.keeps z.toInCall.keep) (t2.keeps z.toInCall.keep) (fun u s' => PySem.W.KeyPure (key r) s u s') fun u s' hq => ?_) (fun fl s' hq => ?_) fun e s' hq => hq
    · exact bindL_get (P := ["row"]) S.nd (i := 0) rfl rfl hl
    · obtain ⟨h2, tk2, e2, k2, rd⟩ := hq
      subst e1
      exact ⟨h2, tk2, e2, fun b o q => k2 b o (kp b o q), rd⟩
    · obtain ⟨u, rfl, q⟩ := hq
      exact q
end
/-! ### the two keys -/
theorem scStands : FnScope ["row"] ["row"] (defScope sStands) := ⟨rfl, rfl, rfl, by decide +kernel, rfl, by decide +kernel, by decide +kernel⟩
theorem scTakenBy : FnScope ["row"] ["row"] (defScope sTakenBy) := ⟨rfl, rfl, rfl, by decide +kernel, rfl, by decide +kernel, by decide +kernel⟩
def key1 (r : Row) : PyData := .tuple [.int (-r.g.rank), .int r.num]
def key2 (r : Row) : PyData := .tuple [.int r.g.rank, .int (-r.num)]
section
variable {P : Program} {w : World} {K : PySem.W.Frag}
theorem key_ret {st : Stmt} {A : Around} {E : Value → Shared → Prop} {env : Env} {s : Shared} {k : PyData} {e1 e2 : Expr} {x1} {pos rp : Pos} {a b : Int} {Q : Value → Shared → Prop} (hk : k = .tuple [.int a, .int b])
    (h1 : Evr P w A E env s.heap e1 fun v => ∃ t, v = .int a t) (h2 : Evr P w A E env s.heap e2 fun v => ∃ t, v = .int b t)
    (q : ∀ u s', PySem.W.KeyPure k s u s' → Q u s') (hs1 : starEach [e1, e2] env = [(false, eval e1 env), (false, eval e2 env)] := by rfl) :
    wpAny (model P w) A (execs [.Return (some (.Tuple [e1, e2] x1 pos)) rp] env) (fun fl s' => ∃ u, fl = .ret u ∧ Q u s') E s := by
  subst hk
  refine wpAny_execs_cons (wpAny_Return_some (evr_pair rfl h1 h2 (fun u1 u2 tk q1 q2 => ?_) hs1))
  obtain ⟨t1, rfl⟩ := q1
  obtain ⟨t2, rfl⟩ := q2
  refine ⟨_, rfl, q _ _ ⟨_, tk, rfl, fun b o e => Heap.get?_push_of_some _ e, ?_⟩⟩
  exact .tuple (Heap.get?_push_size _ rfl) rfl rfl (.cons (.int _ _) (.cons (.int _ _) .nil))
theorem key_stands {f : Addr} {fd : FuncData} (F : Fun K "stands_by" "stands_by" sStands f fd) (b : Binds K fd ["row"] []) : KeyDef P w K f key1 := by
  refine key_frame F scStands b (by decide +kernel) fun A E env m s r i1 i2 es hk hl hn hm h1 h2 t1 t2 Q q => ?_
  obtain ⟨u, t, a1, a2, rfl⟩ := h1
  obtain ⟨t', a3⟩ := h2
  exact key_ret (st := sStands) rfl (evr_neg (evr_mono (evr_ix (evr_ix (evr_name hk hl hn hm) t1 a1 (by decide)) t2 a3 (by decide)) fun v e => ⟨_, e⟩)) (evr_mono (evr_ix (evr_name hk hl hn hm) t1 a2 (by decide)) fun v e => ⟨_, e⟩) q
theorem key_taken {f : Addr} {fd : FuncData} (F : Fun K "taken_by" "taken_by" sTakenBy f fd) (b : Binds K fd ["row"] []) : KeyDef P w K f key2 := by
  refine key_frame F scTakenBy b (by decide +kernel) fun A E env m s r i1 i2 es hk hl hn hm h1 h2 t1 t2 Q q => ?_
  obtain ⟨u, t, a1, a2, rfl⟩ := h1
  obtain ⟨t', a3⟩ := h2
  exact key_ret (st := sTakenBy) rfl (evr_mono (evr_ix (evr_ix (evr_name hk hl hn hm) t1 a1 (by decide)) t2 a3 (by decide)) fun v e => ⟨_, e⟩) (evr_neg (evr_mono (evr_ix (evr_name hk hl hn hm) t1 a2 (by decide)) fun v e => ⟨_, e⟩)) q
end
/-! ### sorted by such a key -/
def ordK (key : Row → PyData) : Row → Row → Bool := PySem.W.dataLe false key
section
variable {X : Cx}
def rSortK (K : PySem.W.Frag) (f : Addr) (key : Row → PyData) : List V → List V → Hp → VK → Prop := fun vs zs H Q => ∃ (a : Addr) (rs : List Row), vs = [V.ref a] ∧ zs = [V.ref f] ∧ SqL K H a (rowsV rs) ∧ RowsAt K H rs ∧ rs.length ≤ 1000 ∧
  ∀ p, H p = none → Q (.ref p) (upd H p (.lst (rowsV (rs.mergeSort (ordK key)))))
theorem rows_back {K : PySem.W.Frag} : ∀ {rs : List Row} {us : List Value}, Vals (rowsV rs) us → PySem.W.EachIs (fun v (r : Row) => v = Value.ref r.a) us rs
  | [], us, r => by
    cases r
    exact .nil
  | x :: xs, us, r => by
    have r : Vals (V.ref x.a :: rowsV xs) us := r
    cases r with
    | cons r1 r2 => exact .cons r1 (rows_back (K := K) r2)
theorem rows_vals : ∀ {us : List Value} {rs : List Row}, PySem.W.EachIs (fun v (r : Row) => v = Value.ref r.a) us rs → Vals (rowsV rs) us
  | _, _, .nil => .nil
  | _, _, .cons (b := x) e r => by
    subst e
    exact Paired.cons (F := RelV) (a := V.ref x.a) rfl (rows_vals r)
theorem cr_sortK {f : Addr} {key : Row → PyData} (hr : Room 3 X.A) (D : KeyDef X.prog X.w X.K f key) (hk : ∀ r, ∃ i j, key r = .tuple [.int i, .int j]) : CallRK X (.builtin "sorted") [Str.ofString "key"] (rSortK X.K f key) := by
  intro pins s σ H vs zs us ws Q I r rz h
  obtain ⟨a, rs, rfl, rfl, hs, hR, hz, q⟩ := h
  obtain ⟨its, rv, hl, hz2⟩ := I.list hs
  rw [Vals.ref1 r]
  obtain ⟨w1, rfl, e1⟩ := vals1 rz
  obtain rfl : w1 = Value.ref f := e1
  have hlen : rs.length ≤ sizeLine := Nat.le_trans hz (by decide)
  have e := rows_back (K := X.K) rv
  refine PySem.W.sorted_key_data (b := false) key hl.isList e ?_ ?_ hlen (fun x _ => ?_) (ksk_s1 _ _) (fun _ => ksk_l1 _ _) (fun _ => ksk_t1 _ _) (fun v x hv hx h' tk kp => ?_) fun out c h' tk kp _ hD _ eo => ?_
  · refine PySem.W.AllAlike.of fun x y => ?_
    obtain ⟨i, j, e1⟩ := hk x
    obtain ⟨i', j', e2⟩ := hk y
    rw [e1, e2]
    simp [PySem.W.alike, PySem.W.alikeAll]
  · exact PySem.W.Sortable.tuples fun x => by
      obtain ⟨i, j, e1⟩ := hk x
      exact ⟨_, _, e1⟩
  · obtain ⟨i, j, e1⟩ := hk x
    have hd : (key x).depth = 1 := by rw [e1]; simp [PyData.depth, PyData.depthAll]
    have := hr.un
    omega
  · subst hv
    obtain ⟨k1, k2⟩ := hR x hx
    obtain ⟨i1, v1, p1, _⟩ := I.tuple k1
    obtain ⟨i2, v2, p2, _⟩ := I.tuple k2.1
    obtain ⟨u1, g1, r1⟩ := v1.get (i := 0) rfl
    obtain ⟨u2, g2, r2⟩ := v1.get (i := 1) rfl
    obtain ⟨u3, g3, r3⟩ := v2.get (i := 2) rfl
    cases r1
    obtain ⟨t2, rfl⟩ := r2
    obtain ⟨t3, rfl⟩ := r3
    refine D X.A.in1.in1 { s with heap := h', toks := tk } x i1.toArray i2.toArray (hr.in1.in1) (I.kIn.keeps kp) (I.nolimit.keeps kp) ⟨_, t2, by simpa using g1, by simpa using g2, rfl⟩ ⟨t3, by simpa using g3⟩ (p1.keeps kp) (p2.keeps kp)
  · have ro := rows_vals eo
    refine ⟨.ref _, _, I.laid (a := s.heap.objs.size + 1) (o := .lst (rowsV (rs.mergeSort (ordK key)))) (t' := tk) kp (Nat.le_succ _) ⟨?_, out, c, ro, hD⟩, rfl, q _ (I.hok.fresh (Nat.le_succ _))⟩
    unfold rowsV
    rw [List.length_map, (List.mergeSort_perm _ _).length_eq]
    exact hlen
end
theorem ord1 : ordK key1 = le1 := by
  unfold ordK
  rw [show key1 = (fun r : Row => PyData.tuple [.int (-r.g.rank), .int r.num]) from rfl, PySem.W.dataLe_ii (β := Row) (fun r => -r.g.rank) (fun r => r.num)]
  rfl
theorem ord2 : ordK key2 = le2 := by
  unfold ordK
  rw [show key2 = (fun r : Row => PyData.tuple [.int r.g.rank, .int (-r.num)]) from rfl, PySem.W.dataLe_ii (β := Row) (fun r => r.g.rank) (fun r => -r.num)]
  rfl
end Ch

/-! Comprehensions that leave all that was tracked as it was. -/
namespace Ch
open PySem PySem.Spec PyProof.Rows L2
theorem same_new {H : Hp} {p : Addr} {o : HO} (h : H p = none) : Same H (upd H p o) := fun b u e => by
  rw [upd_ne (ne_of_none e h)]
  exact e
/-- a tuple stays where a thing that may be written is written -/
theorem tup_upd {K : PySem.W.Frag} {H : Hp} {a p : Addr} {xs : List V} {o : HO} (m : Mut (H p)) (h : SqT K H a xs) : SqT K (upd H p o) a xs := by
  have ne : ∀ {u : HO}, H a = some u → ¬ Mut (some u) → a ≠ p := fun e nm q => by
    subst q
    rw [e] at m
    exact nm m
  rcases h with (h | ⟨ob, h⟩) | h
  · exact .inl (.inl (by rw [upd_ne (ne h fun z => z)]; exact h))
  · exact .inl (.inr ⟨ob, by rw [upd_ne (ne h fun z => z)]; exact h⟩)
  · exact .inr h
theorem gang_upd {K : PySem.W.Frag} {H : Hp} {p : Addr} {g : Gang} {o : HO} (m : Mut (H p)) (h : GangAt K H g) : GangAt K (upd H p o) g := ⟨tup_upd m h.1, tup_upd m h.2⟩
theorem row_upd {K : PySem.W.Frag} {H : Hp} {p : Addr} {r : Row} {o : HO} (m : Mut (H p)) (h : RowAt K H r) : RowAt K (upd H p o) r := ⟨tup_upd m h.1, gang_upd m h.2⟩
theorem mut_lst {H : Hp} {p : Addr} {xs : List V} (h : H p = some (.lst xs)) : Mut (H p) := by rw [h]; trivial
theorem mut_ins {H : Hp} {p C dx : Addr} {fs : List (Str × V)} (h : H p = some (.ins C dx fs)) : Mut (H p) := by rw [h]; trivial
/-- all that H0 knows is kept where a thing that it doesn't know is written -/
theorem same_upd {H0 H : Hp} {p : Addr} {o : HO} (s : Same H0 H) (h : H0 p = none) : Same H0 (upd H p o) := fun b u e => by
  rw [upd_ne (ne_of_none e h)]
  exact s _ _ e
theorem len1000 {n : Nat} (h : n ≤ 1000) : n < sizeLine := Nat.lt_of_le_of_lt h (by decide)
/-- all but the thing at a is as it was -/
def KeepBut (a : Addr) (H H' : Hp) : Prop := ∀ b o, H b = some o → b ≠ a → H' b = some o
theorem KeepBut.refl (a : Addr) (H : Hp) : KeepBut a H H := fun b o e _ => e
theorem KeepBut.same {a : Addr} {H H1 H2 : Hp} (k : KeepBut a H H1) (s : Same H1 H2) : KeepBut a H H2 := fun b o e h => s _ _ (k b o e h)
theorem KeepBut.upd {a : Addr} {H H1 : Hp} {o : HO} (k : KeepBut a H H1) : KeepBut a H (L2.upd H1 a o) := fun b u e h => by
  rw [upd_ne h]
  exact k b u e h
theorem KeepBut.trans {a : Addr} {H H1 H2 : Hp} (k : KeepBut a H H1) (k' : KeepBut a H1 H2) : KeepBut a H H2 := fun b u e h => k' b u (k b u e h) h
/-- what H0 knows, where it doesn't know a -/
theorem KeepBut.from {a : Addr} {H0 H H' : Hp} (k : KeepBut a H H') (s : Same H0 H) (h : H0 a = none) : Same H0 H' := fun b u e => k b u (s _ _ e) (ne_of_none e h)
/-- a test that changes nothing and answers b -/
def Evt (t : TT) (σ : L2.St) (H : Hp) (b : Bool) : Prop := ∀ R : Bool → Hp → Prop, R b H → t σ H R
theorem evt_use {t : TT} {σ : L2.St} {H : Hp} {R : Bool → Hp → Prop} (b : Bool) (h : Evt t σ H b) (r : R b H) : t σ H R := h R r
theorem evt_and {t u : TT} {σ : L2.St} {H : Hp} {a b : Bool} (h : Evt t σ H a) (h' : a = true → Evt u σ H b) : Evt (tAnd t u) σ H (a && b) := fun R r => h _ (by
  cases a with
  | true =>
    show if true = true then u σ H R else R false H
    rw [if_pos rfl]
    exact h' rfl R r
  | false =>
    show if false = true then u σ H R else R false H
    rw [if_neg Bool.false_ne_true]
    exact r)
theorem evt_or {t u : TT} {σ : L2.St} {H : Hp} {a b : Bool} (h : Evt t σ H a) (h' : a = false → Evt u σ H b) : Evt (tOr t u) σ H (a || b) := fun R r => h _ (by
  cases a with
  | true =>
    show if true = true then R true H else u σ H R
    rw [if_pos rfl]
    exact r
  | false =>
    show if false = true then R true H else u σ H R
    rw [if_neg Bool.false_ne_true]
    exact h' rfl R r)
theorem evt_not {t : TT} {σ : L2.St} {H : Hp} {a : Bool} (h : Evt t σ H a) : Evt (tNot t) σ H (!a) := fun R r => h _ r
theorem seqIf {c : TT} {t u v : TS} {D : Ends} {σ : L2.St} {H : Hp} (b : Bool) (h : Evt c σ H b) (r : if b = true then t { D with nx := v D } σ H else u { D with nx := v D } σ H) : tSeq (tIfS c t u) v D σ H := h (fun b H1 => if b = true then t { D with nx := v D } σ H1 else u { D with nx := v D } σ H1) r
theorem oneIf {c : TT} {t u : TS} {D : Ends} {σ : L2.St} {H : Hp} (b : Bool) (h : Evt c σ H b) (r : if b = true then t D σ H else u D σ H) : tIfS c t u D σ H := h (fun b H1 => if b = true then t D σ H1 else u D σ H1) r
theorem yesT {σ : L2.St} {H : Hp} {A B : Hp → Prop} (h : A H) : tYes σ H fun b H3 => if b = true then A H3 else B H3 := by
  show if true = true then A H else B H
  rw [if_pos rfl]
  exact h
theorem ixT {X : Cx} (K : PySem.W.Frag) (h : X.K = K) : IxR X (rIxT K) := h ▸ ix_tup
theorem ixL {X : Cx} (K : PySem.W.Frag) (h : X.K = K) : IxR X (rIxL K) := h ▸ ix_list
section
variable {J : It} {n : Nat} {G : Hp → Prop} {Y : Nat → Hp → V → Hp → Prop}
/-- what f gives at each turn -/
def runF (f : Nat → Option V) (i : Nat) : List V := (List.range i).filterMap f
theorem runF_len (f : Nat → Option V) (i : Nat) : (runF f i).length ≤ i := by
  unfold runF
  exact Nat.le_trans (List.length_filterMap_le _ _) (by rw [List.length_range]; exact Nat.le_refl _)
theorem runF_succ (f : Nat → Option V) (i : Nat) : runF f (i + 1) = runF f i ++ (f i).toList := by
  unfold runF
  rw [List.range_succ, List.filterMap_append]
  cases e : f i <;> simp [e]
theorem lc_fm (w : Walk J n G Y) {g : TG} {tt : TT} {te : TE} {vs : List Nat} {σ : L2.St} {H1 : Hp} {D : Addr} {Qd : Hp → Prop} (f : Nat → Option V) (hD : H1 D = none) (hn : n ≤ 1000) (hG : ∀ H, Same H1 H → G H)
    (hs : ∀ i x H H' (N : VK) (S : Hp → Prop), i < n → Same H1 H → Y i H x H' → (∀ y H4, f i = some y → Same H H4 → N y H4) → (∀ H3, f i = none → Same H H3 → S H3) →
      g x (wipe σ vs) H' fun σ2 H2 => wipe σ2 vs = wipe σ vs ∧ tt σ2 H2 fun b H3 => if b = true then te σ2 H3 N else S H3)
    (hd : ∀ H, Same H1 H → H D = some (.lst (runF f n)) → Qd H) :
    ∃ W : Nat → Nat → Hp → Prop, (∃ m, W 0 m (upd H1 D (.lst []))) ∧ ∀ i m H, W i m H →
      (J.stop i H ∧ Qd H) ∨ (J.go i H ∧ ∃ Nx : Hp → Prop, (∀ H', Nx H' → ∃ m', m' < m ∧ W (i + 1) m' H') ∧ ∀ x H', J.yld i H x H' → g x (wipe σ vs) H' fun σ2 H2 => wipe σ2 vs = wipe σ vs ∧ tt σ2 H2 fun b H3 =>
        if b = true then te σ2 H3 fun y H4 => ∃ acc, H4 D = some (.lst acc) ∧ acc.length < sizeLine ∧ Nx (upd H4 D (.lst (acc ++ [y]))) else Nx H3) := by
  refine lc_it w (fun i H => Same H1 H ∧ H D = some (.lst (runF f i))) ⟨same_new hD, upd_same⟩ (fun i H _ p => hG H p.1) (fun i x H H' hi p y => ?_) fun H p => hd H p.1 p.2
  have ar : ∀ H4 : Hp, Same H H4 → H4 D = some (.lst (runF f i)) := fun H4 s => s _ _ p.2
  refine hs i x H H' _ _ hi p.1 y (fun v H4 e s => ?_) fun H3 e s => ?_
  · refine ⟨_, ar H4 s, Nat.lt_of_le_of_lt (runF_len f i) (len1000 (by omega)), fun b o eb => ?_, ?_⟩
    · rw [upd_ne (ne_of_none eb hD)]
      exact s _ _ (p.1 _ _ eb)
    · rw [upd_same, runF_succ, e]
      rfl
  · refine ⟨p.1.trans s, ?_⟩
    rw [ar H3 s, runF_succ, e]
    exact congrArg (fun l => some (HO.lst l)) (List.append_nil _).symm
theorem runF_list {α : Type} (xs : List α) (F : α → Option V) : runF (fun i => (xs[i]?).bind F) xs.length = xs.filterMap F := by
  unfold runF
  induction xs with
  | nil => rfl
  | cons x r ih =>
    rw [List.length_cons, List.range_succ_eq_map, List.filterMap_cons, List.filterMap_map, List.filterMap_cons]
    have e : (fun i => ((x :: r)[i]?).bind F) ∘ Nat.succ = fun i => (r[i]?).bind F := by
      funext i
      show ((x :: r)[i + 1]?).bind F = _
      rw [List.getElem?_cons_succ]
    rw [e, ih]
    have e0 : ((x :: r)[0]?).bind F = F x := rfl
    rw [e0]
end
/-- over a list of things that stand as enc tells -/
theorem lc_over {K : PySem.W.Frag} {a : Addr} {α : Type} (xs : List α) (enc : α → V) (F : α → Option V) {g : TG} {tt : TT} {te : TE} {vs : List Nat} {σ : L2.St} {H1 : Hp} {D : Addr} {Qd : Hp → Prop} (hD : H1 D = none) (hn : xs.length ≤ 1000) (hS : SqL K H1 a (xs.map enc))
    (hs : ∀ x H (N : VK) (S : Hp → Prop), x ∈ xs → Same H1 H → (∀ y H4, F x = some y → Same H H4 → N y H4) → (∀ H3, F x = none → Same H H3 → S H3) →
      g (enc x) (wipe σ vs) H fun σ2 H2 => wipe σ2 vs = wipe σ vs ∧ tt σ2 H2 fun b H3 => if b = true then te σ2 H3 N else S H3)
    (hd : ∀ H, Same H1 H → H D = some (.lst (xs.filterMap F)) → Qd H) :
    ∃ W : Nat → Nat → Hp → Prop, (∃ m, W 0 m (upd H1 D (.lst []))) ∧ ∀ i m H, W i m H →
      ((Itl K a).stop i H ∧ Qd H) ∨ ((Itl K a).go i H ∧ ∃ Nx : Hp → Prop, (∀ H', Nx H' → ∃ m', m' < m ∧ W (i + 1) m' H') ∧ ∀ x H', (Itl K a).yld i H x H' → g x (wipe σ vs) H' fun σ2 H2 => wipe σ2 vs = wipe σ vs ∧ tt σ2 H2 fun b H3 =>
        if b = true then te σ2 H3 fun y H4 => ∃ acc, H4 D = some (.lst acc) ∧ acc.length < sizeLine ∧ Nx (upd H4 D (.lst (acc ++ [y]))) else Nx H3) := by
  have hn' : (xs.map enc).length ≤ 1000 := by rw [List.length_map]; exact hn
  refine lc_fm (walk_list (xs := xs.map enc)) (fun i => (xs[i]?).bind F) hD hn' (fun H s => s.seq hS) (fun i x H H' N S hi s y kN kS => ?_) fun H s e => hd H s ?_
  · obtain ⟨rfl, y⟩ := y
    rw [List.getElem?_map] at y
    cases q : xs[i]? with
    | none => rw [q] at y; cases y
    | some z =>
      rw [q] at y
      cases y
      refine hs z H' N S (List.mem_of_getElem? q) s (fun y H4 e => kN y H4 ?_) fun H3 e => kS H3 ?_
      · show (xs[i]?).bind F = some y
        rw [q]; exact e
      · show (xs[i]?).bind F = none
        rw [q]; exact e
  · rw [List.length_map, runF_list] at e
    exact e
/-- over a tuple -/
theorem lc_overT {K : PySem.W.Frag} {a : Addr} {α : Type} (xs : List α) (enc : α → V) (F : α → Option V) {g : TG} {tt : TT} {te : TE} {vs : List Nat} {σ : L2.St} {H1 : Hp} {D : Addr} {Qd : Hp → Prop} (hD : H1 D = none) (hn : xs.length ≤ 1000) (hS : SqT K H1 a (xs.map enc))
    (hs : ∀ x H (N : VK) (S : Hp → Prop), x ∈ xs → Same H1 H → (∀ y H4, F x = some y → Same H H4 → N y H4) → (∀ H3, F x = none → Same H H3 → S H3) →
      g (enc x) (wipe σ vs) H fun σ2 H2 => wipe σ2 vs = wipe σ vs ∧ tt σ2 H2 fun b H3 => if b = true then te σ2 H3 N else S H3)
    (hd : ∀ H, Same H1 H → H D = some (.lst (xs.filterMap F)) → Qd H) :
    ∃ W : Nat → Nat → Hp → Prop, (∃ m, W 0 m (upd H1 D (.lst []))) ∧ ∀ i m H, W i m H →
      ((Itt K a).stop i H ∧ Qd H) ∨ ((Itt K a).go i H ∧ ∃ Nx : Hp → Prop, (∀ H', Nx H' → ∃ m', m' < m ∧ W (i + 1) m' H') ∧ ∀ x H', (Itt K a).yld i H x H' → g x (wipe σ vs) H' fun σ2 H2 => wipe σ2 vs = wipe σ vs ∧ tt σ2 H2 fun b H3 =>
        if b = true then te σ2 H3 fun y H4 => ∃ acc, H4 D = some (.lst acc) ∧ acc.length < sizeLine ∧ Nx (upd H4 D (.lst (acc ++ [y]))) else Nx H3) := by
  have hn' : (xs.map enc).length ≤ 1000 := by rw [List.length_map]; exact hn
  refine lc_fm (walk_tup (xs := xs.map enc)) (fun i => (xs[i]?).bind F) hD hn' (fun H s => same_tup s hS) (fun i x H H' N S hi s y kN kS => ?_) fun H s e => hd H s ?_
  · obtain ⟨rfl, y⟩ := y
    rw [List.getElem?_map] at y
    cases q : xs[i]? with
    | none => rw [q] at y; cases y
    | some z =>
      rw [q] at y
      cases y
      refine hs z H' N S (List.mem_of_getElem? q) s (fun y H4 e => kN y H4 ?_) fun H3 e => kS H3 ?_
      · show (xs[i]?).bind F = some y
        rw [q]; exact e
      · show (xs[i]?).bind F = none
        rw [q]; exact e
  · rw [List.length_map, runF_list] at e
    exact e
theorem runF_zip (f : Int → Int → V) : ∀ (xs ys : List Int), runF (fun i => (xs[i]?).bind fun x => (ys[i]?).map fun y => f x y) (min xs.length ys.length) = List.zipWith f xs ys
  | [], ys => by
    rw [List.length_nil, Nat.zero_min]
    rfl
  | x :: xs, [] => rfl
  | x :: xs, y :: ys => by
    have ih := runF_zip f xs ys
    unfold runF at ih ⊢
    rw [List.length_cons, List.length_cons, Nat.succ_min_succ, List.range_succ_eq_map, List.filterMap_cons, List.filterMap_map]
    have e : (fun i => ((x :: xs)[i]?).bind fun x' => ((y :: ys)[i]?).map fun y' => f x' y') ∘ Nat.succ = fun i => (xs[i]?).bind fun x' => (ys[i]?).map fun y' => f x' y' := by
      funext i
      show (((x :: xs)[i + 1]?).bind fun x' => ((y :: ys)[i + 1]?).map fun y' => f x' y') = _
      rw [List.getElem?_cons_succ, List.getElem?_cons_succ]
    rw [e, ih]
    rfl
/-- over the pairs of two tuples of whole numbers: [.. for a, b in zip(x, y)], a and b in the slots i and j -/
theorem lc_zip {K : PySem.W.Frag} {a b : Addr} (xs ys : List Int) (f : Int → Int → V) {i j : Nat} {te : TE} {σ : L2.St} {H1 : Hp} {D : Addr} {Qd : Hp → Prop} (hD : H1 D = none) (hn : xs.length ≤ 1000) (hx : SqT K H1 a (xs.map V.int)) (hy : SqT K H1 b (ys.map V.int))
    (hw : ∀ u v : V, wipe (((wipe σ [i, j]).set i (some u)).set j (some v)) [i, j] = wipe σ [i, j])
    (hs : ∀ (x y : Int) H (N : VK), (∀ H4, Same H H4 → N (f x y) H4) → te (((wipe σ [i, j]).set i (some (.int x))).set j (some (.int y))) H N)
    (hd : ∀ H, Same H1 H → H D = some (.lst (List.zipWith f xs ys)) → Qd H) :
    ∃ W : Nat → Nat → Hp → Prop, (∃ m, W 0 m (upd H1 D (.lst []))) ∧ ∀ k m H, W k m H →
      ((RZ.ItzT K a b).stop k H ∧ Qd H) ∨ ((RZ.ItzT K a b).go k H ∧ ∃ Nx : Hp → Prop, (∀ H', Nx H' → ∃ m', m' < m ∧ W (k + 1) m' H') ∧ ∀ x H', (RZ.ItzT K a b).yld k H x H' →
        gTup K 2 (gCons (gName i) (gCons (gName j) gNil)) x (wipe σ [i, j]) H' fun σ2 H2 => wipe σ2 [i, j] = wipe σ [i, j] ∧ tYes σ2 H2 fun b H3 =>
        if b = true then te σ2 H3 fun y H4 => ∃ acc, H4 D = some (.lst acc) ∧ acc.length < sizeLine ∧ Nx (upd H4 D (.lst (acc ++ [y]))) else Nx H3) := by
  have hm : min (xs.map V.int).length (ys.map V.int).length = min xs.length ys.length := by rw [List.length_map, List.length_map]
  refine lc_fm (walk_zipT hm.symm) (fun k => (xs[k]?).bind fun x => (ys[k]?).map fun y => f x y) hD (by omega) (fun H s => ⟨same_tup s hx, same_tup s hy⟩) (fun k x H H' N S hi s y kN kS => ?_) fun H s e => hd H s (by rw [e, runF_zip])
  obtain ⟨T, u, v, rfl, hT, rfl, e1, e2⟩ := y
  have e1 : (xs.map V.int)[k]? = some u := e1
  have e2 : (ys.map V.int)[k]? = some v := e2
  rw [List.getElem?_map] at e1 e2
  cases q1 : xs[k]? with
  | none => rw [q1] at e1; cases e1
  | some x =>
    cases q2 : ys[k]? with
    | none => rw [q2] at e2; cases e2
    | some y =>
      rw [q1] at e1
      rw [q2] at e2
      cases e1
      cases e2
      refine ⟨T, _, rfl, .inl (.inl upd_same), rfl, _, _, rfl, _, _, rfl, rfl, hw _ _, ?_⟩
      refine iteT (B := S (upd H T (.tup [.int x, .int y]))) (hs x y _ N fun H4 s4 => kN _ H4 ?_ ((same_new hT).trans s4))
      show ((xs[k]?).bind fun x => (ys[k]?).map fun y => f x y) = some (f x y)
      rw [q1, q2]
      rfl
end Ch

/-! Amounts, and the order of gangs. -/
namespace Ch
open PySem PySem.Spec PyProof.Rows L2
/-- what the module's names hold, as far as these defs ask -/
structure Blt (mg : Str → Option Value) : Prop where
  tuple : mg "tuple" = none
  zip : mg "zip" = none
  all : mg "all" = none
  len : mg "len" = none
  sorted : mg "sorted" = none
  set : mg "set" = none
  dict : mg "dict" = none
  abs : mg "abs" = none
  max : mg "max" = none
  min : mg "min" = none
  sum : mg "sum" = none
  any : mg "any" = none
  int : mg "int" = none
  range : mg "range" = none
def intV (xs : List Int) : List V := xs.map V.int
/-- a tuple of whole numbers is handed back; all that was tracked is as it was -/
def TupBack (K : PySem.W.Frag) (H : Hp) (xs : List Int) (Q : VK) : Prop := ∀ (p : Addr) (H' : Hp), Same H H' → SqT K H' p (intV xs) → Q (.ref p) H'
def spNothing (K : PySem.W.Frag) : Sp := fun vs H Q _ => ∃ n : Nat, vs = [.int n] ∧ 1 ≤ n ∧ n ≤ 100 ∧ TupBack K H (List.replicate n 0) Q
def spSum (K : PySem.W.Frag) : Sp := fun vs H Q _ => ∃ (a b : Addr) (xs ys : List Int), vs = [.ref a, .ref b] ∧ SqT K H a (intV xs) ∧ SqT K H b (intV ys) ∧ xs.length ≤ 1000 ∧ TupBack K H (sumA xs ys) Q
def spFits (K : PySem.W.Frag) : Sp := fun vs H Q _ => ∃ (a b : Addr) (xs ys : List Int), vs = [.ref a, .ref b] ∧ SqT K H a (intV xs) ∧ SqT K H b (intV ys) ∧ xs.length ≤ 1000 ∧ ∀ H', Same H H' → Q (.bl (fits xs ys)) H'
def Mul64 (xs : List Int) : Prop := ∀ x ∈ xs, -(2 ^ 64) < x ∧ x < 2 ^ 64
def spTimes (K : PySem.W.Frag) : Sp := fun vs H Q _ => ∃ (a : Addr) (xs : List Int) (n : Int), vs = [.ref a, .int n] ∧ SqT K H a (intV xs) ∧ xs.length ≤ 1000 ∧ Mul64 xs ∧ TupBack K H (xs.map fun x => x * n) Q
def WhOk (g : Gang) : Prop := g.want.length ≤ 1000 ∧ Mul64 g.want
def spWhole (K : PySem.W.Frag) : Sp := fun vs H Q _ => ∃ g : Gang, vs = [.ref g.a] ∧ GangAt K H g ∧ WhOk g ∧ TupBack K H (whole g) Q
def gangsV (gs : List Gang) : List V := gs.map fun g => V.ref g.a
def spOrder (K : PySem.W.Frag) : Sp := fun vs H Q _ => ∃ (a : Addr) (rs : List Row), vs = [.ref a] ∧ SqL K H a (rowsV rs) ∧ RowsAt K H rs ∧ rs.length ≤ 100 ∧ ∀ (p : Addr) (H' : Hp), Same H H' → H p = none → H' p = some (.lst (gangsV (inOrder rs))) → Q (.ref p) H'

theorem scNothing : FnScope ["wares"] ["wares"] (defScope sNothing) := ⟨rfl, rfl, rfl, by decide +kernel, rfl, by decide +kernel, by decide +kernel⟩
theorem scSum : FnScope ["one", "other", "a", "b"] ["one", "other"] (defScope sSum) := ⟨rfl, rfl, rfl, by decide +kernel, rfl, by decide +kernel, by decide +kernel⟩
theorem scFits : FnScope ["one", "other", "a", "b"] ["one", "other"] (defScope sFits) := ⟨rfl, rfl, rfl, by decide +kernel, rfl, by decide +kernel, by decide +kernel⟩
theorem scTimes : FnScope ["one", "n", "a"] ["one", "n"] (defScope sTimes) := ⟨rfl, rfl, rfl, by decide +kernel, rfl, by decide +kernel, by decide +kernel⟩
theorem scWhole : FnScope ["gang"] ["gang"] (defScope sWhole) := ⟨rfl, rfl, rfl, by decide +kernel, rfl, by decide +kernel, by decide +kernel⟩
theorem scOrder : FnScope ["rows", "row"] ["rows"] (defScope sOrder) := ⟨rfl, rfl, rfl, by decide +kernel, rfl, by decide +kernel, by decide +kernel⟩

section
variable {P : Program} {w : World} {K : PySem.W.Frag} {mg : Str → Option Value} {base : Heap}
theorem flat_rep (n : Nat) : (List.replicate n [V.int 0]).flatten = intV (List.replicate n 0) := by
  induction n with
  | zero => rfl
  | succ n ih =>
    rw [List.replicate_succ, List.flatten_cons, ih, List.replicate_succ]
    rfl
theorem ok_nothing {f : Addr} {fd : FuncData} (F : Fun K "nothing_of" "nothing_of" sNothing f fd) : FnOk P w K mg base CX0 1 f fd ["wares"] (spNothing K) := by
  refine F.ok scNothing (fun vs H Q E h => ?_) (fun cdv A outer s H vs Q E hr h => ?_)
  · obtain ⟨n, rfl, _⟩ := h
    rfl
  · obtain ⟨n, rfl, h1, h2, k⟩ := h
    refine ⟨_, pss_one (ps_ret (pe_op op_rep1 (pe_tup (pa_cons pe_int pa_nil)) (pv 0))), ?_⟩
    refine ⟨by show 1 ≤ sizeLine; decide, fun p hp => ⟨_, rfl, p, n, [.int 0], rfl, rfl, .inl (.inl upd_same), by simp, by omega, by omega, by show 1 ≤ 1000; decide, fun e => ?_, fun e q hq => ?_⟩⟩
    · refine k p _ (same_new hp) (.inl (.inl ?_))
      have : n = 1 := by omega
      rw [this]
      exact upd_same
    · refine k q _ ((same_new hp).trans (same_new hq)) (.inl (.inl ?_))
      rw [upd_same]
      have : ((n : Int)).toNat = n := by omega
      rw [this, flat_rep]
theorem ok_sum {f : Addr} {fd : FuncData} (F : Fun K "amount_sum" "amount_sum" sSum f fd) (B : Blt mg) : FnOk P w K mg base CX0 1 f fd ["one", "other"] (spSum K) := by
  refine F.ok scSum (fun vs H Q E h => ?_) (fun cdv A outer s H vs Q E hr h => ?_)
  · obtain ⟨a, b, xs, ys, rfl, _⟩ := h
    rfl
  · obtain ⟨a, b, xs, ys, rfl, hx, hy, hz, k⟩ := h
    refine ⟨_, pss_one (ps_ret (pe_callTy call_tuple_of (by rfl) B.tuple (by decide +kernel) (pa_cons
      (pe_lc (own := [("a", 2), ("b", 3)]) (g := gTup K 2 (gCons (gName 2) (gCons (gName 3) gNil))) (tt := tYes) rfl scSum.nd (RZ.pi_zipA (by rfl) B.zip (pa_cons (pv 0) (pa_cons (pv 1) pa_nil))) (blkOk_by (N := ["one", "other", "a", "b"]) (sc := defScope sSum) (by decide +kernel))
        (fun _ _ _ _ _ => pg_tup rfl (pgs_cons (pg_name (i := 2) scSum.nd rfl (Or.inl rfl)) (pgs_cons (pg_name (i := 3) scSum.nd rfl (Or.inl rfl)) pgs_nil))) (fun _ _ _ _ _ => pts_nil) (fun _ _ _ _ _ => pe_op op_add (pv 2) (pv 3))) pa_nil))), ?_⟩
    refine ⟨_, rfl, _, rfl, a, b, intV xs, intV ys, rfl, .inr ⟨hx, hy, fun D hD => ?_⟩⟩
    refine lc_zip xs ys (fun x y => .int (x + y)) hD hz hx hy (fun u v => rfl) (fun x y H1 N q => ⟨_, rfl, _, rfl, x, y, rfl, rfl, q _ (Same.refl _)⟩) fun H1 s1 e => ?_
    have eq : List.zipWith (fun x y : Int => V.int (x + y)) xs ys = intV (sumA xs ys) := by
      unfold intV sumA
      rw [List.map_zipWith]
    rw [eq] at e
    refine ⟨D, _, rfl, .inl ⟨SqL.of e, fun l hl => ?_⟩⟩
    exact k l _ (s1.trans (same_new hl)) (.inl (.inl upd_same))
theorem ok_fits {f : Addr} {fd : FuncData} (F : Fun K "amount_fits" "amount_fits" sFits f fd) (B : Blt mg) : FnOk P w K mg base CX0 1 f fd ["one", "other"] (spFits K) := by
  refine F.ok scFits (fun vs H Q E h => ?_) (fun cdv A outer s H vs Q E hr h => ?_)
  · obtain ⟨a, b, xs, ys, rfl, _⟩ := h
    rfl
  · obtain ⟨a, b, xs, ys, rfl, hx, hy, hz, k⟩ := h
    refine ⟨_, pss_one (ps_ret (pe_callB (cr_all rfl) (by rfl) B.all (by decide +kernel) (pa_cons
      (pe_lc (own := [("a", 2), ("b", 3)]) (g := gTup K 2 (gCons (gName 2) (gCons (gName 3) gNil))) (tt := tYes) rfl scFits.nd (RZ.pi_zipA (by rfl) B.zip (pa_cons (pv 0) (pa_cons (pv 1) pa_nil))) (blkOk_by (N := ["one", "other", "a", "b"]) (sc := defScope sFits) (by decide +kernel))
        (fun _ _ _ _ _ => pg_tup rfl (pgs_cons (pg_name (i := 2) scFits.nd rfl (Or.inl rfl)) (pgs_cons (pg_name (i := 3) scFits.nd rfl (Or.inl rfl)) pgs_nil))) (fun _ _ _ _ _ => pts_nil) (fun _ _ _ _ _ => pe_cmpR op_le (pv 2) (pv 3) (nomark _))) pa_nil))), ?_⟩
    refine ⟨_, rfl, _, rfl, a, b, intV xs, intV ys, rfl, .inr ⟨hx, hy, fun D hD => ?_⟩⟩
    refine lc_zip xs ys (fun x y => .bl (decide (x ≤ y))) hD hz hx hy (fun u v => rfl) (fun x y H1 N q => ⟨_, rfl, _, rfl, x, y, rfl, rfl, q _ (Same.refl _)⟩) fun H1 s1 e => ?_
    have eq : List.zipWith (fun x y : Int => V.bl (decide (x ≤ y))) xs ys = (List.zipWith (fun x y : Int => decide (x ≤ y)) xs ys).map V.bl := by
      rw [List.map_zipWith]
    rw [eq] at e
    exact ⟨D, _, rfl, SqL.of e, k _ s1⟩
theorem ok_times {f : Addr} {fd : FuncData} (F : Fun K "amount_times" "amount_times" sTimes f fd) (B : Blt mg) : FnOk P w K mg base CX0 1 f fd ["one", "n"] (spTimes K) := by
  refine F.ok scTimes (fun vs H Q E h => ?_) (fun cdv A outer s H vs Q E hr h => ?_)
  · obtain ⟨a, xs, n, rfl, _⟩ := h
    rfl
  · obtain ⟨a, xs, n, rfl, hx, hz, h64, k⟩ := h
    refine ⟨_, pss_one (ps_ret (pe_callTy call_tuple_of (by rfl) B.tuple (by decide +kernel) (pa_cons
      (pe_lc (own := [("a", 2)]) (g := gName 2) (tt := tYes) rfl scTimes.nd (pi_tup (pv 0)) (blkOk_by (N := ["one", "n", "a"]) (sc := defScope sTimes) (by decide +kernel))
        (fun _ _ _ _ _ => pg_name (i := 2) scTimes.nd rfl (Or.inl rfl)) (fun _ _ _ _ _ => pts_nil) (fun _ _ _ _ _ => pe_op op_mul (pv 2) (pv 1))) pa_nil))), ?_⟩
    refine ⟨_, rfl, a, rfl, ⟨_, hx⟩, fun D hD => ?_⟩
    refine lc_overT xs V.int (fun x => some (.int (x * n))) hD hz hx (fun x H1 N S hm s1 q _ => ⟨rfl, yesT ⟨_, rfl, _, rfl, x, n, rfl, rfl, .inl (h64 x hm), q _ _ rfl (Same.refl _)⟩⟩) fun H1 s1 e => ?_
    have eq : xs.filterMap (fun x => some (V.int (x * n))) = intV (xs.map fun x => x * n) := by
      unfold intV
      rw [List.filterMap_eq_map', List.map_map]
      rfl
    rw [eq] at e
    refine ⟨D, _, rfl, .inl ⟨SqL.of e, fun l hl => ?_⟩⟩
    exact k l _ (s1.trans (same_new hl)) (.inl (.inl upd_same))
theorem ok_whole {f fT : Addr} {fd fdT : FuncData} (F : Fun K "whole_of" "whole_of" sWhole f fd) (FT : Fun K "amount_times" "amount_times" sTimes fT fdT) (bT : Binds K fdT ["one", "n"] []) (gT : mg "amount_times" = some (.ref fT)) (B : Blt mg) :
    FnOk P w K mg base CX0 2 f fd ["gang"] (spWhole K) := by
  have GT : FnOk P w K mg base CX0 1 fT fdT ["one", "n"] (spTimes K) := ok_times FT B
  refine F.ok scWhole (fun vs H Q E h => ?_) (fun cdv A outer s H vs Q E hr h => ?_)
  · obtain ⟨g, rfl, _⟩ := h
    rfl
  · obtain ⟨g, rfl, hg, hw, k⟩ := h
    refine ⟨_, pss_one (ps_ret (pe_call GT hr (by rfl) gT FT.kp bT .nil pass0 (pa_cons (pe_ix (ixT K rfl) (pv 0) pe_int (fun _ _ => rfl)) (pa_cons (pe_ix (ixT K rfl) (pv 0) pe_int (fun _ _ => rfl)) pa_nil)))), ?_⟩
    refine ⟨_, rfl, g.a, gangV g, 4, .ref g.wa, rfl, rfl, hg.1, atI_nat (j := 4) rfl, ?_⟩
    refine ⟨_, rfl, g.a, gangV g, 3, .int g.many, rfl, rfl, hg.1, atI_nat (j := 3) rfl, ?_⟩
    exact ⟨g.wa, g.want, g.many, rfl, hg.2, hw.1, hw.2, k⟩
theorem ok_order {f fS : Addr} {fd fdS : FuncData} (F : Fun K "in_order" "in_order" sOrder f fd) (FS : Fun K "stands_by" "stands_by" sStands fS fdS) (bS : Binds K fdS ["row"] []) (gS : mg "stands_by" = some (.ref fS)) (B : Blt mg) :
    FnOk P w K mg base CX0 4 f fd ["rows"] (spOrder K) := by
  refine F.ok scOrder (fun vs H Q E h => ?_) (fun cdv A outer s H vs Q E hr h => ?_)
  · obtain ⟨a, rs, rfl, _⟩ := h
    rfl
  · obtain ⟨a, rs, rfl, hS, hR, hz, k⟩ := h
    refine ⟨_, pss_one (ps_ret (pe_lc (own := [("row", 1)]) (g := gName 1) (tt := tYes) rfl scOrder.nd
      (pi_list (pe_callBK (cr_sortK (key := key1) hr (key_stands FS bS) (fun r => ⟨_, _, rfl⟩)) (by rfl) B.sorted (by decide +kernel) (pa_cons (pv 0) pa_nil) (pk_cons (pe_glob (v := .ref fS) (by rfl) gS rfl) pk_nil)))
      (blkOk_by (N := ["rows", "row"]) (sc := defScope sOrder) (by decide +kernel)) (fun _ _ _ _ _ => pg_name (i := 1) scOrder.nd rfl (Or.inl rfl)) (fun _ _ _ _ _ => pts_nil) (fun _ _ _ _ _ => pe_ix (ixT K rfl) (pv 1) pe_int (fun _ _ => rfl)))), ?_⟩
    refine ⟨_, rfl, a, rs, rfl, rfl, hS, hR, by omega, fun p hp => ?_⟩
    have s0 : Same H (upd H p (.lst (rowsV (rs.mergeSort (ordK key1))))) := same_new hp
    have hR1 := same_rows s0 hR
    refine ⟨p, rfl, ⟨_, SqL.of upd_same⟩, fun D hD => ?_⟩
    have hl : (rs.mergeSort (ordK key1)).length = rs.length := (List.mergeSort_perm _ _).length_eq
    refine lc_over (rs.mergeSort (ordK key1)) (fun r => V.ref r.a) (fun r => some (.ref r.g.a)) hD (by omega) (SqL.of upd_same) (fun r H1 N S hm s1 q _ => ⟨rfl, by
      have hr1 := same_row s1 (hR1 r ((List.mergeSort_perm _ _).mem_iff.mp hm))
      exact yesT ⟨_, rfl, r.a, _, 0, .ref r.g.a, rfl, rfl, hr1.1, atI_nat (j := 0) rfl, q _ _ rfl (Same.refl _)⟩⟩) fun H1 s1 e => ?_
    refine k D H1 (s0.trans s1) ?_ ?_
    · exact s0.free hD
    · rw [e]
      unfold gangsV inOrder
      rw [List.filterMap_eq_map', List.map_map, ord1]
      rfl
end
end Ch

/-! A guild's share. -/
namespace Ch
open PySem PySem.Spec PyProof.Rows L2
/-- the fields, in the order in which they are stored -/
def shF (da ba o l : Addr) : List (Str × V) := [("due", .ref da), ("borne", .ref ba), ("own_names", .ref o), ("lent_names", .ref l)]
def strV (xs : List Str) : List V := xs.map V.str
/-- behind the heap H0 (all of it kept) a share stands at p -/
structure ShAt (K : PySem.W.Frag) (C : Addr) (H0 H : Hp) (p da : Addr) (due b : List Int) (own lent : List Str) : Prop where
  same : Same H0 H
  p0 : H0 p = none
  d0 : SqT K H0 da (intV due)
  ex : ∃ dx ba o l, H0 o = none ∧ H0 l = none ∧ o ≠ l ∧ H p = some (.ins C dx (shF da ba o l)) ∧ SqT K H ba (intV b) ∧ H o = some (.lst (strV own)) ∧ H l = some (.lst (strV lent))
theorem ShAt.down {K : PySem.W.Frag} {C : Addr} {H0 H1 H : Hp} {p da : Addr} {due b : List Int} {own lent : List Str} (s : ShAt K C H1 H p da due b own lent) (h : Same H0 H1) (hd : SqT K H0 da (intV due)) : ShAt K C H0 H p da due b own lent := by
  obtain ⟨h1, h2, h3, dx, ba, o, l, e1, e2, r⟩ := s
  exact ⟨h.trans h1, h.free h2, hd, dx, ba, o, l, h.free e1, h.free e2, r⟩
/-- what stands besides may be counted to what is kept -/
theorem ShAt.up {K : PySem.W.Frag} {C : Addr} {H0 H : Hp} {p da q : Addr} {u : HO} {due b : List Int} {own lent : List Str} (s : ShAt K C H0 H p da due b own lent) (hq : H q = none) : ShAt K C (upd H0 q u) (upd H q u) p da due b own lent := by
  obtain ⟨h1, h2, h3, dx, ba, o, l, e1, e2, e3, e4, e5, e6, e7⟩ := s
  have q0 : H0 q = none := h1.free hq
  have np : p ≠ q := ne_of_none e4 hq
  have no : o ≠ q := ne_of_none e6 hq
  have nl : l ≠ q := ne_of_none e7 hq
  have sm : Same (upd H0 q u) (upd H q u) := fun c v e => by
    by_cases hc : c = q
    · subst hc
      rw [upd_same] at e ⊢
      exact e
    · rw [upd_ne hc] at e ⊢
      exact h1 _ _ e
  refine ⟨sm, by rw [upd_ne np]; exact h2, same_tup (same_new q0) h3, dx, ba, o, l, by rw [upd_ne no]; exact e1, by rw [upd_ne nl]; exact e2, e3, by rw [upd_ne np]; exact e4, same_tup (same_new hq) e5, by rw [upd_ne no]; exact e6, by rw [upd_ne nl]; exact e7⟩
theorem ShAt.keep {K : PySem.W.Frag} {C : Addr} {H0 H H' : Hp} {p da : Addr} {due b : List Int} {own lent : List Str} (s : ShAt K C H0 H p da due b own lent) (h : Same H H') : ShAt K C H0 H' p da due b own lent := by
  obtain ⟨h1, h2, h3, dx, ba, o, l, e1, e2, e3, e4, e5, e6, e7⟩ := s
  exact ⟨h1.trans h, h2, h3, dx, ba, o, l, e1, e2, e3, h _ _ e4, same_tup h e5, h _ _ e6, h _ _ e7⟩
def spRoom (K : PySem.W.Frag) (C : Addr) : Sp := fun vs H Q _ => ∃ (H0 : Hp) (p da : Addr) (due b : List Int) (own lent : List Str) (g : Gang), vs = [.ref p, .ref g.a] ∧ ShAt K C H0 H p da due b own lent ∧ b.length ≤ 100 ∧ GangAt K H g ∧ WhOk g ∧
  ∀ H', Same H H' → Q (.bl (fits (sumA b (whole g)) due)) H'
def spAdd (K : PySem.W.Frag) (C : Addr) : Sp := fun vs H Q _ => ∃ (H0 : Hp) (p da : Addr) (due b : List Int) (own lent : List Str) (g : Gang), vs = [.ref p, .ref g.a] ∧ ShAt K C H0 H p da due b own lent ∧ b.length ≤ 100 ∧ own.length ≤ 100 ∧ lent.length ≤ 100 ∧ GangAt K H g ∧ WhOk g ∧
  ∀ H', ShAt K C H0 H' p da due (if fits (sumA b (whole g)) due = true then sumA b (whole g) else b) (if fits (sumA b (whole g)) due = true then own ++ [g.name] else own) (if fits (sumA b (whole g)) due = true then lent else lent ++ [g.name]) → Q .non H'
/-- rows as a share takes them -/
structure RsOk (K : PySem.W.Frag) (H : Hp) (ra : Addr) (rs : List Row) : Prop where
  at_ : SqL K H ra (rowsV rs)
  rows : RowsAt K H rs
  few : rs.length ≤ 100
  wh : ∀ r ∈ rs, WhOk r.g
theorem RsOk.keep {K : PySem.W.Frag} {H H' : Hp} {ra : Addr} {rs : List Row} (r : RsOk K H ra rs) (s : Same H H') : RsOk K H' ra rs := ⟨s.seq r.at_, same_rows s r.rows, r.few, r.wh⟩
def spShInit (K : PySem.W.Frag) (C : Addr) : Sp := fun vs H Q _ => ∃ (H0 : Hp) (p dx da ra : Addr) (due : List Int) (rs : List Row), vs = [.ref p, .ref da, .ref ra] ∧ Same H0 H ∧ H0 p = none ∧ H p = some (.ins C dx []) ∧ SqT K H0 da (intV due) ∧ 1 ≤ due.length ∧ due.length ≤ 100 ∧ RsOk K H0 ra rs ∧
  ∀ H', ShAt K C H0 H' p da due (borne due rs) (ownN due rs) (lentN due rs) → Q .non H'
structure ShTxt (K : PySem.W.Frag) (mg : Str → Option Value) (C : Addr) : Prop where
  cl : Cls K C
  nD : NoAttr K C "due"
  nB : NoAttr K C "borne"
  nO : NoAttr K C "own_names"
  nL : NoAttr K C "lent_names"
  mgC : mg "Share" = some (.ref C)

theorem scShInit : FnScope ["self", "due", "rows", "gang"] ["self", "due", "rows"] (defScope sShInit) := ⟨rfl, rfl, rfl, by decide +kernel, rfl, by decide +kernel, by decide +kernel⟩
theorem scShRoom : FnScope ["self", "gang"] ["self", "gang"] (defScope sShRoom) := ⟨rfl, rfl, rfl, by decide +kernel, rfl, by decide +kernel, by decide +kernel⟩
theorem scShAdd : FnScope ["self", "gang"] ["self", "gang"] (defScope sShAdd) := ⟨rfl, rfl, rfl, by decide +kernel, rfl, by decide +kernel, by decide +kernel⟩
/-- the defs that a share calls, each with what it promises -/
structure AmEnv (P : Program) (w : World) (K : PySem.W.Frag) (mg : Str → Option Value) (base : Heap) : Prop where
  nothing : ∃ f fd, FnOk P w K mg base CX0 1 f fd ["wares"] (spNothing K) ∧ Binds K fd ["wares"] [] ∧ mg "nothing_of" = some (.ref f) ∧ PySem.W.keepIn K (.ref f) = true
  sum : ∃ f fd, FnOk P w K mg base CX0 1 f fd ["one", "other"] (spSum K) ∧ Binds K fd ["one", "other"] [] ∧ mg "amount_sum" = some (.ref f) ∧ PySem.W.keepIn K (.ref f) = true
  fits : ∃ f fd, FnOk P w K mg base CX0 1 f fd ["one", "other"] (spFits K) ∧ Binds K fd ["one", "other"] [] ∧ mg "amount_fits" = some (.ref f) ∧ PySem.W.keepIn K (.ref f) = true
  whole : ∃ f fd, FnOk P w K mg base CX0 2 f fd ["gang"] (spWhole K) ∧ Binds K fd ["gang"] [] ∧ mg "whole_of" = some (.ref f) ∧ PySem.W.keepIn K (.ref f) = true
  order : ∃ f fd, FnOk P w K mg base CX0 4 f fd ["rows"] (spOrder K) ∧ Binds K fd ["rows"] [] ∧ mg "in_order" = some (.ref f) ∧ PySem.W.keepIn K (.ref f) = true
section
variable {P : Program} {w : World} {K : PySem.W.Frag} {mg : Str → Option Value} {base : Heap}
theorem ok_room {f C : Addr} {fd : FuncData} (F : Fun K "has_room_for" "Share.has_room_for" sShRoom f fd) (T : ShTxt K mg C) (E : AmEnv P w K mg base) : FnOk P w K mg base CX0 3 f fd ["self", "gang"] (spRoom K C) := by
  obtain ⟨fS, fdS, GS, bS, mS, kS⟩ := E.sum
  obtain ⟨fF, fdF, GF, bF, mF, kF⟩ := E.fits
  obtain ⟨fW, fdW, GW, bW, mW, kW⟩ := E.whole
  refine F.ok scShRoom (fun vs H Q E h => ?_) (fun cdv A outer s H vs Q E hr h => ?_)
  · obtain ⟨H0, p, da, due, b, own, lent, g, rfl, _⟩ := h
    rfl
  · obtain ⟨H0, p, da, due, b, own, lent, g, rfl, S, hb, hg, hw, k⟩ := h
    have hr1 : Room 1 _ := hr.mono (by decide)
    refine ⟨_, pss_one (ps_ret (pe_call GF hr1 (by rfl) mF kF bF .nil pass0 (pa_cons (pe_call GS hr1 (by rfl) mS kS bS .nil pass0 (pa_cons (pe_fld (pv 0) rfl) (pa_cons (pe_call GW hr (by rfl) mW kW bW .nil pass0 (pa_cons (pv 1) pa_nil)) pa_nil))) (pa_cons (pe_fld (pv 0) rfl) pa_nil)))), ?_⟩
    obtain ⟨h1, h2, h3, dx, ba, o, l, e1, e2, e3, e4, e5, e6, e7⟩ := id S
    refine ⟨_, rfl, p, C, dx, _, _, rfl, e4, T.cl, T.nB, (by rfl : (shF da ba o l).lookup ("borne" : Str) = some (.ref ba)), _, rfl, ?_⟩
    refine ⟨g, rfl, hg, hw, fun wa H1 s1 w1 => ?_⟩
    refine ⟨ba, wa, b, whole g, rfl, same_tup s1 e5, w1, by omega, fun sa H2 s2 w2 => ?_⟩
    refine ⟨_, rfl, p, C, dx, _, _, rfl, s2 _ _ (s1 _ _ e4), T.cl, T.nD, (by rfl : (shF da ba o l).lookup ("due" : Str) = some (.ref da)), ?_⟩
    refine ⟨sa, da, _, due, rfl, w2, same_tup ((h1.trans s1).trans s2) h3, ?_, fun H3 s3 => k H3 ((s1.trans s2).trans s3)⟩
    rw [sumA_len]
    omega
theorem ok_add {f fR C : Addr} {fd fdR : FuncData} (F : Fun K "add_gang" "Share.add_gang" sShAdd f fd) (T : ShTxt K mg C) (E : AmEnv P w K mg base) (GR : FnOk P w K mg base CX0 3 fR fdR ["self", "gang"] (spRoom K C)) (bR : Binds K fdR ["self", "gang"] []) (mR : Meth K C "has_room_for" fR) :
    FnOk P w K mg base CX0 4 f fd ["self", "gang"] (spAdd K C) := by
  obtain ⟨fS, fdS, GS, bS, mS, kS⟩ := E.sum
  obtain ⟨fW, fdW, GW, bW, mW, kW⟩ := E.whole
  refine F.ok scShAdd (fun vs H Q E h => ?_) (fun cdv A outer s H vs Q E hr h => ?_)
  · obtain ⟨H0, p, da, due, b, own, lent, g, rfl, _⟩ := h
    rfl
  · obtain ⟨H0, p, da, due, b, own, lent, g, rfl, S, hb, ho, hl, hg, hw, k⟩ := h
    have hr1 : Room 1 _ := hr.mono (by decide)
    have hr2 : Room 2 _ := hr.mono (by decide)
    refine ⟨_, pss_one (ps_if (pt_val (pe_meth (pv 0) T.cl mR GR hr bR .nil pass0 (pa_cons (pv 1) pa_nil)))
      (pss_cons (ps_fld (pv 0) (pe_call GS hr1 (by rfl) mS kS bS .nil pass0 (pa_cons (pe_fld (pv 0) rfl) (pa_cons (pe_call GW hr2 (by rfl) mW kW bW .nil pass0 (pa_cons (pv 1) pa_nil)) pa_nil))) rfl)
        (pss_one (ps_expr (pe_bm PySem.F.plainAttrs_list PySem.F.slot_list_append PySem.F.type_list_append mt_append (pe_fld (pv 0) rfl) (pa_cons (pe_ix (ixT K rfl) (pv 1) pe_int (fun _ _ => rfl)) pa_nil)))))
      (pss_one (ps_expr (pe_bm PySem.F.plainAttrs_list PySem.F.slot_list_append PySem.F.type_list_append mt_append (pe_fld (pv 0) rfl) (pa_cons (pe_ix (ixT K rfl) (pv 1) pe_int (fun _ _ => rfl)) pa_nil))))), ?_⟩
    obtain ⟨h1, h2, h3, dx, ba, o, l, e1, e2, e3, e4, e5, e6, e7⟩ := id S
    refine ⟨_, rfl, p, dx, _, rfl, e4, (by rfl : (shF da ba o l).lookup ("has_room_for" : Str) = none), _, rfl, ?_⟩
    refine ⟨H0, p, da, due, b, own, lent, g, rfl, S, hb, hg, hw, fun H1 s1 => ⟨_, rfl, ?_⟩⟩
    refine ite2 (fun c => ?_) (fun c => ?_)
    · rw [if_pos c, if_pos c, if_pos c] at k
      have f4 := s1 _ _ e4
      refine ⟨_, rfl, p, C, dx, _, _, rfl, f4, T.cl, T.nB, (by rfl : (shF da ba o l).lookup ("borne" : Str) = some (.ref ba)), _, rfl, ?_⟩
      refine ⟨g, rfl, same_gang s1 hg, hw, fun wa H2 s2 w2 => ?_⟩
      refine ⟨ba, wa, b, whole g, rfl, same_tup (s1.trans s2) e5, w2, by omega, fun sa H3 s3 w3 => ?_⟩
      have t3 : Same H H3 := (s1.trans s2).trans s3
      have g4 := t3 _ _ e4
      have g6 := t3 _ _ e6
      have g7 := t3 _ _ e7
      refine ⟨_, rfl, p, C, dx, _, rfl, g4, T.cl, T.nB, (by show 4 < 1000; decide), ?_⟩
      have po : o ≠ p := ne_of g6 g4 (by intro z; cases z)
      have pl : l ≠ p := ne_of g7 g4 (by intro z; cases z)
      have a4 : (upd H3 p (.ins C dx (putF "borne" (.ref sa) (shF da ba o l)))) p = some (.ins C dx (shF da sa o l)) := upd_same
      refine ⟨_, rfl, p, C, dx, _, _, rfl, a4, T.cl, T.nO, (by rfl : (shF da sa o l).lookup ("own_names" : Str) = some (.ref o)), ?_⟩
      have a6 : (upd H3 p (.ins C dx (putF "borne" (.ref sa) (shF da ba o l)))) o = some (.lst (strV own)) := by rw [upd_ne po]; exact g6
      have gg : GangAt K (upd H3 p (.ins C dx (putF "borne" (.ref sa) (shF da ba o l)))) g := gang_upd (mut_ins g4) (same_gang t3 hg)
      refine ⟨.inl ⟨rfl, _, SqL.of a6⟩, _, rfl, g.a, gangV g, 0, .str g.name, rfl, rfl, gg.1, atI_nat (j := 0) rfl, o, _, _, rfl, rfl, a6, ?_, ?_⟩
      · show (strV own).length < sizeLine
        unfold strV
        rw [List.length_map]
        exact len1000 (by omega)
      · refine k _ ⟨same_upd (same_upd (h1.trans t3) h2) e1, h2, h3, dx, sa, o, l, e1, e2, e3, ?_, ?_, ?_, ?_⟩
        · rw [upd_ne po.symm]
          exact a4
        · exact tup_upd (mut_lst a6) (tup_upd (mut_ins g4) w3)
        · rw [upd_same]
          unfold strV
          rw [List.map_append]
          rfl
        · rw [upd_ne e3.symm, upd_ne pl]
          exact g7
    · rw [if_neg c, if_neg c, if_neg c] at k
      have g4 := s1 _ _ e4
      have g6 := s1 _ _ e6
      have g7 := s1 _ _ e7
      have pl : l ≠ p := ne_of g7 g4 (by intro z; cases z)
      refine ⟨_, rfl, p, C, dx, _, _, rfl, g4, T.cl, T.nL, (by rfl : (shF da ba o l).lookup ("lent_names" : Str) = some (.ref l)), ?_⟩
      refine ⟨.inl ⟨rfl, _, SqL.of g7⟩, _, rfl, g.a, gangV g, 0, .str g.name, rfl, rfl, (same_gang s1 hg).1, atI_nat (j := 0) rfl, l, _, _, rfl, rfl, g7, ?_, ?_⟩
      · show (strV lent).length < sizeLine
        unfold strV
        rw [List.length_map]
        exact len1000 (by omega)
      · refine k _ ⟨same_upd (h1.trans s1) e2, h2, h3, dx, ba, o, l, e1, e2, e3, ?_, ?_, ?_, ?_⟩
        · rw [upd_ne pl.symm]
          exact g4
        · exact tup_upd (mut_lst g7) (same_tup s1 e5)
        · rw [upd_ne e3]
          exact g6
        · rw [upd_same]
          unfold strV
          rw [List.map_append]
          rfl
/-- what a share has counted of the first ones -/
theorem stepOf {due b0 : List Int} (pre : List Gang) (g : Gang) :
    borneL due b0 (pre ++ [g]) = (if fits (sumA (borneL due b0 pre) (whole g)) due = true then sumA (borneL due b0 pre) (whole g) else borneL due b0 pre) ∧
    (ownL due b0 (pre ++ [g])).map (·.name) = (if fits (sumA (borneL due b0 pre) (whole g)) due = true then (ownL due b0 pre).map (·.name) ++ [g.name] else (ownL due b0 pre).map (·.name)) ∧
    (lentL due b0 (pre ++ [g])).map (·.name) = (if fits (sumA (borneL due b0 pre) (whole g)) due = true then (lentL due b0 pre).map (·.name) else (lentL due b0 pre).map (·.name) ++ [g.name]) := by
  rw [borne_append, own_append, lent_append, List.map_append, List.map_append]
  by_cases c : fits (sumA (borneL due b0 pre) (whole g)) due = true
  · rw [if_pos c, if_pos c, if_pos c, borneL, if_pos c, ownL, if_pos c, lentL, if_pos c]
    refine ⟨rfl, rfl, ?_⟩
    exact List.append_nil _
  · rw [if_neg c, if_neg c, if_neg c, borneL, if_neg c, ownL, if_neg c, lentL, if_neg c]
    refine ⟨rfl, ?_, rfl⟩
    exact List.append_nil _
theorem ok_shInit {f fA C : Addr} {fd fdA : FuncData} (F : Fun K "__init__" "Share.__init__" sShInit f fd) (T : ShTxt K mg C) (B : Blt mg) (E : AmEnv P w K mg base) (GA : FnOk P w K mg base CX0 4 fA fdA ["self", "gang"] (spAdd K C)) (bA : Binds K fdA ["self", "gang"] []) (mA : Meth K C "add_gang" fA) :
    FnOk P w K mg base CX0 5 f fd ["self", "due", "rows"] (spShInit K C) := by
  obtain ⟨fN, fdN, GN, bN, mN, kN⟩ := E.nothing
  obtain ⟨fO, fdO, GO, bO, mO, kO⟩ := E.order
  refine F.ok scShInit (fun vs H Q E h => ?_) (fun cdv A outer s H vs Q E hr h => ?_)
  · obtain ⟨H0, p, dx, da, ra, due, rs, rfl, _⟩ := h
    rfl
  · obtain ⟨H0, p, dx, da, ra, due, rs, rfl, h1, h2, hp, hd, hn1, hn2, R, k⟩ := h
    have hr1 : Room 1 _ := hr.mono (by decide)
    refine ⟨_, pss_cons (ps_fld (pv 0) (pv 1) rfl) (pss_cons (ps_fld (pv 0) (pe_call GN hr1 (by rfl) mN kN bN .nil pass0 (pa_cons (pe_callB call_len_seq (by rfl) B.len PySem.boot_len (pa_cons (pv 1) pa_nil)) pa_nil)) rfl)
      (pss_cons (ps_fld (pv 0) (pe_lst pa_nil) rfl) (pss_cons (ps_fld (pv 0) (pe_lst pa_nil) rfl)
      (pss_one (ps_for PassesOwn.never rfl (pi_list (pe_call GO hr (by rfl) mO kO bO .nil pass0 (pa_cons (pv 2) pa_nil))) (pg_name (i := 3) scShInit.nd rfl (Or.inl rfl))
        (pss_one (ps_expr (pe_meth (pv 0) T.cl mA GA hr bA .nil pass0 (pa_cons (pv 3) pa_nil))))))))), ?_⟩
    -- self.due = due
    refine ⟨_, rfl, _, rfl, p, C, dx, [], rfl, hp, T.cl, T.nD, (by show 0 < 1000; decide), ?_⟩
    generalize hH1 : upd H p (.ins C dx (putF "due" (.ref da) [])) = H1
    have p1 : H1 p = some (.ins C dx [("due", .ref da)]) := by rw [← hH1]; exact upd_same
    have s1 : Same H0 H1 := by rw [← hH1]; exact same_upd h1 h2
    -- self.borne = nothing_of(len(due))
    refine ⟨_, rfl, da, intV due, rfl, .inr (same_tup s1 hd), ?_⟩
    have dl : (intV due).length = due.length := by unfold intV; rw [List.length_map]
    refine ⟨(intV due).length, rfl, by rw [dl]; exact hn1, by rw [dl]; exact hn2, fun za H2 s2 z2 => ?_⟩
    have p2 : H2 p = some (.ins C dx [("due", .ref da)]) := s2 _ _ p1
    refine ⟨_, rfl, p, C, dx, _, rfl, p2, T.cl, T.nB, (by show 1 < 1000; decide), ?_⟩
    generalize hH3 : upd H2 p (.ins C dx (putF "borne" (.ref za) [("due", .ref da)])) = H3
    have p3 : H3 p = some (.ins C dx [("due", .ref da), ("borne", .ref za)]) := by rw [← hH3]; exact upd_same
    have s3 : Same H0 H3 := by rw [← hH3]; exact same_upd (s1.trans s2) h2
    have z3 : SqT K H3 za (intV (zeros due)) := by
      rw [← hH3]
      rw [dl] at z2
      exact tup_upd (mut_ins p2) z2
    -- self.own_names = []
    refine ⟨Nat.zero_le _, fun o ho => ?_⟩
    have po : p ≠ o := ne_of_none p3 ho
    refine ⟨_, rfl, p, C, dx, _, rfl, (by rw [upd_ne po]; exact p3), T.cl, T.nO, (by show 2 < 1000; decide), ?_⟩
    generalize hH4 : upd (upd H3 o (.lst [])) p (.ins C dx (putF "own_names" (.ref o) [("due", .ref da), ("borne", .ref za)])) = H4
    have p4 : H4 p = some (.ins C dx [("due", .ref da), ("borne", .ref za), ("own_names", .ref o)]) := by rw [← hH4]; exact upd_same
    have s4 : Same H0 H4 := by rw [← hH4]; exact same_upd (s3.trans (same_new ho)) h2
    have o4 : H4 o = some (.lst []) := by rw [← hH4, upd_ne po.symm]; exact upd_same
    have z4 : SqT K H4 za (intV (zeros due)) := by
      rw [← hH4]
      exact tup_upd (mut_ins (by rw [upd_ne po]; exact p3)) (same_tup (same_new ho) z3)
    -- self.lent_names = []
    refine ⟨Nat.zero_le _, fun l hl => ?_⟩
    have pl : p ≠ l := ne_of_none p4 hl
    have ol : o ≠ l := ne_of_none o4 hl
    refine ⟨_, rfl, p, C, dx, _, rfl, (by rw [upd_ne pl]; exact p4), T.cl, T.nL, (by show 3 < 1000; decide), ?_⟩
    generalize hH5 : upd (upd H4 l (.lst [])) p (.ins C dx (putF "lent_names" (.ref l) [("due", .ref da), ("borne", .ref za), ("own_names", .ref o)])) = H5
    have p5 : H5 p = some (.ins C dx (shF da za o l)) := by rw [← hH5]; exact upd_same
    have s5 : Same H0 H5 := by rw [← hH5]; exact same_upd (s4.trans (same_new hl)) h2
    have o5 : H5 o = some (.lst []) := by rw [← hH5, upd_ne po.symm, upd_ne ol]; exact o4
    have l5 : H5 l = some (.lst []) := by rw [← hH5, upd_ne pl.symm]; exact upd_same
    have z5 : SqT K H5 za (intV (zeros due)) := by
      rw [← hH5]
      exact tup_upd (mut_ins (by rw [upd_ne pl]; exact p4)) (same_tup (same_new hl) z4)
    have S5 : ShAt K C H0 H5 p da due (borneL due (zeros due) []) ((ownL due (zeros due) []).map (·.name)) ((lentL due (zeros due) []).map (·.name)) := ⟨s5, h2, hd, dx, za, o, l, s3.free ho, s4.free hl, ol, p5, z5, o5, l5⟩
    -- for gang in in_order(rows)
    refine ⟨_, rfl, ra, rs, rfl, s5.seq R.at_, same_rows s5 R.rows, R.few, fun q H6 s6 hq h6 => ?_⟩
    have e0 : upd H6 q (.lst (gangsV (inOrder rs))) = H6 := by
      funext c
      by_cases hc : c = q
      · rw [hc, upd_same, h6]
      · rw [upd_ne hc]
    have S6 : ShAt K C (upd H0 q (.lst (gangsV (inOrder rs)))) H6 p da due (borneL due (zeros due) []) ((ownL due (zeros due) []).map (·.name)) ((lentL due (zeros due) []).map (·.name)) := by
      have up := S5.up (u := .lst (gangsV (inOrder rs))) hq
      refine up.keep fun c v e => ?_
      by_cases hc : c = q
      · rw [hc, upd_same] at e
        rw [hc, h6]
        exact e
      · rw [upd_ne hc] at e
        exact s6 _ _ e
    have q0 : H0 q = none := s5.free hq
    have gl := inOrder_len rs
    have few := R.few
    refine ⟨q, rfl, ⟨_, SqL.of h6⟩, for_list (K := K) (a := q) (xs := gangsV (inOrder rs)) (fun i σ H' => ∃ v : Option V, σ = [some (.ref p), some (.ref da), some (.ref ra), v] ∧
      ShAt K C (upd H0 q (.lst (gangsV (inOrder rs)))) H' p da due (borneL due (zeros due) ((inOrder rs).take i)) ((ownL due (zeros due) ((inOrder rs).take i)).map (·.name)) ((lentL due (zeros due) ((inOrder rs).take i)).map (·.name)))
      ⟨none, rfl, S6⟩ (fun i σ H' _ ⟨_, _, S⟩ => SqL.of (S.same _ _ upd_same)) ?_ ?_⟩
    · rintro i y σ H' hi ⟨v, rfl, S⟩
      have hi' : ((inOrder rs).map fun g => V.ref g.a)[i]? = some y := hi
      rw [List.getElem?_map] at hi'
      cases e : (inOrder rs)[i]? with
      | none => rw [e] at hi'; cases hi'
      | some g =>
        rw [e] at hi'
        cases hi'
        have hil : i < (inOrder rs).length := (List.getElem?_eq_some_iff.mp e).1
        obtain ⟨r, hr0, rfl⟩ := inOrder_mem.mp (List.mem_of_getElem? e)
        obtain ⟨_, _, _, dx', _, _, _, _, _, _, e4, _⟩ := id S
        have tl : ((inOrder rs).take i).length ≤ 100 := by rw [List.length_take]; omega
        refine ⟨_, rfl, p, dx', _, rfl, e4, (by rfl : (shF da _ _ _).lookup ("add_gang" : Str) = none), _, rfl, ?_⟩
        refine ⟨_, p, da, due, _, _, _, r.g, rfl, S, Nat.le_trans (borne_len _ _) ?_, ?_, ?_, same_gang ((same_new q0).trans S.same) (R.rows r hr0).2, R.wh r hr0, fun H7 S7 => ?_⟩
        · unfold zeros
          rw [List.length_replicate]
          exact hn2
        · rw [List.length_map]
          exact Nat.le_trans (own_len _ _) tl
        · rw [List.length_map]
          exact Nat.le_trans (lent_len _ _) tl
        · obtain ⟨t1, t2, t3⟩ := stepOf (due := due) (b0 := zeros due) ((inOrder rs).take i) r.g
          have et : (inOrder rs).take (i + 1) = (inOrder rs).take i ++ [r.g] := by
            rw [List.take_add_one, e]
            rfl
          refine ⟨_, rfl, ?_⟩
          rw [et, t1, t2, t3]
          exact S7
    · rintro σ H' ⟨v, rfl, S⟩
      have gz : (gangsV (inOrder rs)).length = (inOrder rs).length := by unfold gangsV; rw [List.length_map]
      rw [gz, List.take_length] at S
      exact k H' (S.down (same_new q0) hd)
end
end Ch

/-! parted, owed, own_with, rows_of_guild. -/
namespace Ch
open PySem PySem.Spec PyProof.Rows L2
structure DueOk (K : PySem.W.Frag) (H : Hp) (da : Addr) (due : List Int) : Prop where
  at_ : SqT K H da (intV due)
  one : 1 ≤ due.length
  few : due.length ≤ 100
theorem DueOk.keep {K : PySem.W.Frag} {H H' : Hp} {da : Addr} {due : List Int} (d : DueOk K H da due) (s : Same H H') : DueOk K H' da due := ⟨same_tup s d.at_, d.one, d.few⟩
def spParted (K : PySem.W.Frag) : Sp := fun vs H Q _ => ∃ (da ra : Addr) (due : List Int) (rs : List Row), vs = [.ref da, .ref ra] ∧ DueOk K H da due ∧ RsOk K H ra rs ∧
  ∀ (p o l : Addr) (H' : Hp), Same H H' → H o = none → H l = none → o ≠ l → SqT K H' p [.ref o, .ref l] → H' o = some (.lst (strV (ownN due rs))) → H' l = some (.lst (strV (lentN due rs))) → Q (.ref p) H'
def spOwed (K : PySem.W.Frag) : Sp := fun vs H Q _ => ∃ (da ra : Addr) (due : List Int) (rs : List Row) (g : Gang), vs = [.ref da, .ref ra, .ref g.a] ∧ DueOk K H da due ∧ RsOk K H ra rs ∧ GangAt K H g ∧ WhOk g ∧ ∀ H', Same H H' → Q (.bl (owed due rs g)) H'
def spOwn (K : PySem.W.Frag) : Sp := fun vs H Q _ => ∃ (da ra : Addr) (due : List Int) (rs : List Row) (g : Gang), vs = [.ref da, .ref ra, .ref g.a] ∧ DueOk K H da due ∧ RsOk K H ra rs ∧ GangAt K H g ∧ WhOk g ∧ ∀ H', Same H H' → Q (.bl (ownWith due rs g)) H'
def spGuild (K : PySem.W.Frag) : Sp := fun vs H Q _ => ∃ (ra : Addr) (x : Str) (rs : List Row), vs = [.ref ra, .str x] ∧ RsOk K H ra rs ∧ ∀ (q : Addr) (H' : Hp), Same H H' → H q = none → H' q = some (.lst (rowsV (ofGuild rs x))) → Q (.ref q) H'
theorem scParted : FnScope ["due", "rows", "share"] ["due", "rows"] (defScope sParted) := ⟨rfl, rfl, rfl, by decide +kernel, rfl, by decide +kernel, by decide +kernel⟩
theorem scOwed : FnScope ["due", "rows", "gang"] ["due", "rows", "gang"] (defScope sOwed) := ⟨rfl, rfl, rfl, by decide +kernel, rfl, by decide +kernel, by decide +kernel⟩
theorem scOwn : FnScope ["due", "rows", "gang", "row"] ["due", "rows", "gang"] (defScope sOwn) := ⟨rfl, rfl, rfl, by decide +kernel, rfl, by decide +kernel, by decide +kernel⟩
theorem scRows : FnScope ["rows", "guild", "row"] ["rows", "guild"] (defScope sRows) := ⟨rfl, rfl, rfl, by decide +kernel, rfl, by decide +kernel, by decide +kernel⟩
theorem scGuild : FnScope ["_law_rows", "_law_guild_here", "_law_row"] ["_law_rows", "_law_guild_here"] (defScope sGuild) := ⟨rfl, rfl, rfl, by decide +kernel, rfl, by decide +kernel, by decide +kernel⟩
theorem same_make {H : Hp} {x dx C : Addr} (nx : H x = none) (ndx : H dx = none) : Same H (upd (upd H dx (.own x)) x (.ins C dx [])) := fun b o e => by
  rw [upd_ne (ne_of_none e nx), upd_ne (ne_of_none e ndx)]
  exact e
theorem RsOk.sub {K : PySem.W.Frag} {H : Hp} {ra q : Addr} {rs : List Row} (r : RsOk K H ra rs) (p : Row → Bool) (h : H q = some (.lst (rowsV (rs.filter p)))) : RsOk K H q (rs.filter p) :=
  ⟨SqL.of h, fun x hx => r.rows x (List.mem_filter.mp hx).1, Nat.le_trans (List.length_filter_le _ _) r.few, fun x hx => r.wh x (List.mem_filter.mp hx).1⟩
theorem filterMap_rows (rs : List Row) (p : Row → Bool) : rs.filterMap (fun r => if p r = true then some (V.ref r.a) else none) = rowsV (rs.filter p) := by
  unfold rowsV
  induction rs with
  | nil => rfl
  | cons r rs ih =>
    rw [List.filterMap_cons, List.filter_cons]
    cases h : p r with
    | true => rw [if_pos rfl, if_pos rfl, List.map_cons, ih]
    | false => rw [if_neg Bool.false_ne_true, if_neg Bool.false_ne_true, ih]
/-- the share's own defs, as they promise -/
structure ShEnv (P : Program) (w : World) (K : PySem.W.Frag) (mg : Str → Option Value) (base : Heap) (C : Addr) : Prop where
  txt : ShTxt K mg C
  init : ∃ f fd, Mk K C f ∧ FnOk P w K mg base CX0 5 f fd ["self", "due", "rows"] (spShInit K C) ∧ Binds K fd ["self", "due", "rows"] []
  room : ∃ f fd, FnOk P w K mg base CX0 3 f fd ["self", "gang"] (spRoom K C) ∧ Binds K fd ["self", "gang"] [] ∧ Meth K C "has_room_for" f
section
variable {P : Program} {w : World} {K : PySem.W.Frag} {mg : Str → Option Value} {base : Heap}
theorem ok_parted {f C : Addr} {fd : FuncData} (F : Fun K "parted" "parted" sParted f fd) (S : ShEnv P w K mg base C) : FnOk P w K mg base CX0 7 f fd ["due", "rows"] (spParted K) := by
  obtain ⟨fI, fdI, MI, GI, bI⟩ := S.init
  have T := S.txt
  refine F.ok scParted (fun vs H Q E h => ?_) (fun cdv A outer s H vs Q E hr h => ?_)
  · obtain ⟨da, ra, due, rs, rfl, _⟩ := h
    rfl
  · obtain ⟨da, ra, due, rs, rfl, hd, hR, k⟩ := h
    refine ⟨_, pss_cons (ps_set (i := 2) scParted.nd rfl (Or.inl rfl) (pe_make MI GI hr (by rfl) T.mgC bI .nil pass0 (pa_cons (pv 0) (pa_cons (pv 1) pa_nil))))
      (pss_one (ps_ret (pe_tup (pa_cons (pe_fld (pv 2) rfl) (pa_cons (pe_fld (pv 2) rfl) pa_nil))))), ?_⟩
    refine ⟨_, rfl, _, rfl, ?_⟩
    intro x dx nx ndx nex
    refine ⟨H, x, dx, da, ra, due, rs, rfl, same_make nx ndx, nx, upd_same, hd.at_, hd.one, hd.few, hR, fun H1 S1 => ⟨rfl, ?_⟩⟩
    obtain ⟨h1, h2, h3, dx', ba, o, l, e1, e2, e3, e4, e5, e6, e7⟩ := S1
    refine ⟨_, rfl, x, C, dx', _, _, rfl, e4, T.cl, T.nO, (by rfl : (shF da ba o l).lookup ("own_names" : Str) = some (.ref o)), ?_⟩
    refine ⟨_, rfl, x, C, dx', _, _, rfl, e4, T.cl, T.nL, (by rfl : (shF da ba o l).lookup ("lent_names" : Str) = some (.ref l)), ?_⟩
    refine ⟨by show 2 ≤ sizeLine; decide, fun p hp => ?_⟩
    have sp := same_new (o := .tup [.ref o, .ref l]) hp
    exact k p o l _ (h1.trans sp) e1 e2 e3 (.inl (.inl upd_same)) (sp _ _ e6) (sp _ _ e7)
theorem ok_owed {f C : Addr} {fd : FuncData} (F : Fun K "owed" "owed" sOwed f fd) (S : ShEnv P w K mg base C) : FnOk P w K mg base CX0 7 f fd ["due", "rows", "gang"] (spOwed K) := by
  obtain ⟨fI, fdI, MI, GI, bI⟩ := S.init
  obtain ⟨fR, fdR, GR, bR, mR⟩ := S.room
  have T := S.txt
  refine F.ok scOwed (fun vs H Q E h => ?_) (fun cdv A outer s H vs Q E hr h => ?_)
  · obtain ⟨da, ra, due, rs, g, rfl, _⟩ := h
    rfl
  · obtain ⟨da, ra, due, rs, g, rfl, hd, hR, hg, hw, k⟩ := h
    refine ⟨_, pss_one (ps_ret (pe_meth (pe_make MI GI hr (by rfl) T.mgC bI .nil pass0 (pa_cons (pv 0) (pa_cons (pv 1) pa_nil))) T.cl mR GR (hr.mono (by decide)) bR .nil pass0 (pa_cons (pv 2) pa_nil))), ?_⟩
    refine ⟨_, rfl, _, rfl, ?_⟩
    intro x dx nx ndx nex
    refine ⟨H, x, dx, da, ra, due, rs, rfl, same_make nx ndx, nx, upd_same, hd.at_, hd.one, hd.few, hR, fun H1 S1 => ⟨rfl, ?_⟩⟩
    obtain ⟨h1, h2, h3, dx', ba, o, l, e1, e2, e3, e4, e5, e6, e7⟩ := id S1
    refine ⟨x, dx', _, rfl, e4, (by rfl : (shF da ba o l).lookup ("has_room_for" : Str) = none), _, rfl, ?_⟩
    refine ⟨H, x, da, due, _, _, _, g, rfl, S1, ?_, same_gang h1 hg, hw, fun H2 s2 => k H2 (h1.trans s2)⟩
    refine Nat.le_trans (borne_len _ _) ?_
    unfold zeros
    rw [List.length_replicate]
    exact hd.few
theorem ok_own {f C : Addr} {fd : FuncData} (F : Fun K "own_with" "own_with" sOwn f fd) (S : ShEnv P w K mg base C) : FnOk P w K mg base CX0 7 f fd ["due", "rows", "gang"] (spOwn K) := by
  obtain ⟨fI, fdI, MI, GI, bI⟩ := S.init
  obtain ⟨fR, fdR, GR, bR, mR⟩ := S.room
  have T := S.txt
  refine F.ok scOwn (fun vs H Q E h => ?_) (fun cdv A outer s H vs Q E hr h => ?_)
  · obtain ⟨da, ra, due, rs, g, rfl, _⟩ := h
    rfl
  · obtain ⟨da, ra, due, rs, g, rfl, hd, hR, hg, hw, k⟩ := h
    refine ⟨_, pss_one (ps_ret (pe_meth (pe_make MI GI hr (by rfl) T.mgC bI .nil pass0 (pa_cons (pv 0) (pa_cons
      (pe_lc (own := [("row", 3)]) (g := gName 3) rfl scOwn.nd (pi_list (pv 1)) (blkOk_by (N := ["due", "rows", "gang", "row"]) (sc := defScope sOwn) (by decide +kernel)) (fun _ _ _ _ _ => pg_name (i := 3) scOwn.nd rfl (Or.inl rfl))
        (fun _ _ _ _ _ => pts_one (pt_cmpR op_ge (pe_ix (ixT K rfl) (pe_ix (ixT K rfl) (pv 3) pe_int (fun _ _ => rfl)) pe_int (fun _ _ => rfl)) (pe_ix (ixT K rfl) (pv 2) pe_int (fun _ _ => rfl)) (nomark _))) (fun _ _ _ _ _ => pv 3)) pa_nil))) T.cl mR GR (hr.mono (by decide)) bR .nil pass0 (pa_cons (pv 2) pa_nil))), ?_⟩
    refine ⟨_, rfl, _, rfl, ra, rfl, ⟨_, hR.at_⟩, fun D hD => ?_⟩
    refine lc_over rs (fun r => V.ref r.a) (fun r => if decide (g.rank ≤ r.g.rank) = true then some (V.ref r.a) else none) hD (Nat.le_trans hR.few (by decide)) hR.at_ (fun r H1 N S hm s1 q1 q2 => ?_) fun H1 s1 e => ?_
    · have hr1 := same_row s1 (hR.rows r hm)
      refine ⟨rfl, _, rfl, r.a, _, 0, .ref r.g.a, rfl, rfl, hr1.1, atI_nat (j := 0) rfl, r.g.a, gangV r.g, 2, .int r.g.rank, rfl, rfl, hr1.2.1, atI_nat (j := 2) rfl, ?_⟩
      refine ⟨_, rfl, g.a, gangV g, 2, .int g.rank, rfl, rfl, (same_gang s1 hg).1, atI_nat (j := 2) rfl, _, _, rfl, rfl, _, rfl, ?_⟩
      refine ite2 (fun c => ?_) (fun c => ?_)
      · exact ⟨_, rfl, q1 _ _ (if_pos c) (Same.refl _)⟩
      · exact q2 _ (if_neg c) (Same.refl _)
    · rw [filterMap_rows] at e
      have hR1 : RsOk K H1 D (atLeast g.rank rs) := (hR.keep s1).sub _ e
      intro x dx nx ndx nex
      refine ⟨H1, x, dx, da, D, due, _, rfl, same_make nx ndx, nx, upd_same, (hd.keep s1).at_, hd.one, hd.few, hR1, fun H2 S2 => ⟨rfl, ?_⟩⟩
      obtain ⟨h1, h2, h3, dx', ba, o, l, e1, e2, e3, e4, e5, e6, e7⟩ := id S2
      refine ⟨x, dx', _, rfl, e4, (by rfl : (shF da ba o l).lookup ("has_room_for" : Str) = none), _, rfl, ?_⟩
      refine ⟨H1, x, da, due, _, _, _, g, rfl, S2, ?_, same_gang (s1.trans h1) hg, hw, fun H3 s3 => k H3 ((s1.trans h1).trans s3)⟩
      refine Nat.le_trans (borne_len _ _) ?_
      unfold zeros
      rw [List.length_replicate]
      exact hd.few
theorem ok_rows {f : Addr} {fd : FuncData} (F : Fun K "rows_of_guild" "rows_of_guild" sRows f fd) : FnOk P w K mg base CX0 1 f fd ["rows", "guild"] (spGuild K) := by
  refine F.ok scRows (fun vs H Q E h => ?_) (fun cdv A outer s H vs Q E hr h => ?_)
  · obtain ⟨ra, x, rs, rfl, _⟩ := h
    rfl
  · obtain ⟨ra, x, rs, rfl, hR, k⟩ := h
    refine ⟨_, pss_one (ps_ret
      (pe_lc (own := [("row", 2)]) (g := gName 2) rfl scRows.nd (pi_list (pv 0)) (blkOk_by (N := ["rows", "guild", "row"]) (sc := defScope sRows) (by decide +kernel)) (fun _ _ _ _ _ => pg_name (i := 2) scRows.nd rfl (Or.inl rfl))
        (fun _ _ _ _ _ => pts_one (pt_cmpR op_eq (pe_ix (ixT K rfl) (pe_ix (ixT K rfl) (pv 2) pe_int (fun _ _ => rfl)) pe_int (fun _ _ => rfl)) (pv 1) (nomark _))) (fun _ _ _ _ _ => pv 2))), ?_⟩
    refine ⟨_, rfl, ra, rfl, ⟨_, hR.at_⟩, fun D hD => ?_⟩
    refine lc_over rs (fun r => V.ref r.a) (fun r => if decide (r.g.guild = x) = true then some (V.ref r.a) else none) hD (Nat.le_trans hR.few (by decide)) hR.at_ (fun r H1 N S hm s1 q1 q2 => ?_) fun H1 s1 e => ?_
    · have hr1 := same_row s1 (hR.rows r hm)
      refine ⟨rfl, _, rfl, r.a, _, 0, .ref r.g.a, rfl, rfl, hr1.1, atI_nat (j := 0) rfl, r.g.a, gangV r.g, 1, .str r.g.guild, rfl, rfl, hr1.2.1, atI_nat (j := 1) rfl, ?_⟩
      refine ⟨_, rfl, rfl, _, rfl, ?_⟩
      refine ite2 (fun c => ?_) (fun c => ?_)
      · have c' : r.g.guild = x := V.str.inj (of_decide_eq_true c)
        exact ⟨_, rfl, q1 _ _ (if_pos (decide_eq_true c')) (Same.refl _)⟩
      · have c' : ¬ r.g.guild = x := fun z => c (decide_eq_true (by rw [z]))
        exact q2 _ (if_neg (by rw [decide_eq_false c']; exact Bool.false_ne_true)) (Same.refl _)
    · rw [filterMap_rows] at e
      exact k D H1 s1 hD e
theorem ok_guild {f : Addr} {fd : FuncData} (F : Fun K "_law_guild" "_law_guild" sGuild f fd) : FnOk P w K mg base CX0 1 f fd ["_law_rows", "_law_guild_here"] (spGuild K) := by
  refine F.ok scGuild (fun vs H Q E h => ?_) (fun cdv A outer s H vs Q E hr h => ?_)
  · obtain ⟨ra, x, rs, rfl, _⟩ := h
    rfl
  · obtain ⟨ra, x, rs, rfl, hR, k⟩ := h
    refine ⟨_, pss_one (ps_ret
      (pe_lc (own := [("_law_row", 2)]) (g := gName 2) rfl scGuild.nd (pi_list (pv 0)) (blkOk_by (N := ["_law_rows", "_law_guild_here", "_law_row"]) (sc := defScope sGuild) (by decide +kernel)) (fun _ _ _ _ _ => pg_name (i := 2) scGuild.nd rfl (Or.inl rfl))
        (fun _ _ _ _ _ => pts_one (pt_cmpR op_eq (pe_ix (ixT K rfl) (pe_ix (ixT K rfl) (pv 2) pe_int (fun _ _ => rfl)) pe_int (fun _ _ => rfl)) (pv 1) (nomark _))) (fun _ _ _ _ _ => pv 2))), ?_⟩
    refine ⟨_, rfl, ra, rfl, ⟨_, hR.at_⟩, fun D hD => ?_⟩
    refine lc_over rs (fun r => V.ref r.a) (fun r => if decide (r.g.guild = x) = true then some (V.ref r.a) else none) hD (Nat.le_trans hR.few (by decide)) hR.at_ (fun r H1 N S hm s1 q1 q2 => ?_) fun H1 s1 e => ?_
    · have hr1 := same_row s1 (hR.rows r hm)
      refine ⟨rfl, _, rfl, r.a, _, 0, .ref r.g.a, rfl, rfl, hr1.1, atI_nat (j := 0) rfl, r.g.a, gangV r.g, 1, .str r.g.guild, rfl, rfl, hr1.2.1, atI_nat (j := 1) rfl, ?_⟩
      refine ⟨_, rfl, rfl, _, rfl, ?_⟩
      refine ite2 (fun c => ?_) (fun c => ?_)
      · have c' : r.g.guild = x := V.str.inj (of_decide_eq_true c)
        exact ⟨_, rfl, q1 _ _ (if_pos (decide_eq_true c')) (Same.refl _)⟩
      · have c' : ¬ r.g.guild = x := fun z => c (decide_eq_true (by rw [z]))
        exact q2 _ (if_neg (by rw [decide_eq_false c']; exact Bool.false_ne_true)) (Same.refl _)
    · rw [filterMap_rows] at e
      exact k D H1 s1 hD e
end
end Ch

/-! A gang that may take from others. -/
namespace Ch
open PySem PySem.Spec PyProof.Rows L2
/-! ### the dues -/
abbrev Dues := List (Str × Addr × List Int)
def dsV (ds : Dues) : List (Key × V) := ds.map fun d => (Sum.inr d.1, V.ref d.2.1)
structure DsOk (K : PySem.W.Frag) (H : Hp) (dd : Addr) (ds : Dues) : Prop where
  at_ : Rd H dd (.dK (dsV ds))
  dues : ∀ d ∈ ds, DueOk K H d.2.1 d.2.2
theorem rd_same {H H' : Hp} {a : Addr} {u : HO} (r : Rd H a u) (s : Same H H') : Rd H' a u := by
  rcases r with r | ⟨o, r⟩
  · exact .inl (s _ _ r)
  · exact .inr ⟨o, s _ _ r⟩
theorem DsOk.keep {K : PySem.W.Frag} {H H' : Hp} {dd : Addr} {ds : Dues} (d : DsOk K H dd ds) (s : Same H H') : DsOk K H' dd ds := ⟨rd_same d.at_ s, fun x hx => (d.dues x hx).keep s⟩
theorem ds_val (x : Str) : ∀ ds : Dues, valV (dsV ds) (Sum.inr x : Key) = (ds.find? fun d => decide (d.1 = x)).map fun d => V.ref d.2.1
  | [] => rfl
  | d :: ds => by
    have ih := ds_val x ds
    by_cases e : d.1 = x
    · have e1 : valV (dsV (d :: ds)) (Sum.inr x : Key) = some (V.ref d.2.1) := valV_pos (p := ((Sum.inr d.1 : Key), V.ref d.2.1)) (r := dsV ds) (by rw [e])
      rw [e1, List.find?_cons, decide_eq_true e]
      rfl
    · have e1 : valV (dsV (d :: ds)) (Sum.inr x : Key) = valV (dsV ds) (Sum.inr x : Key) := valV_neg (p := ((Sum.inr d.1 : Key), V.ref d.2.1)) (r := dsV ds) (fun z => e (Sum.inr.inj z))
      rw [e1, ih, List.find?_cons, decide_eq_false e]
/-- a guild's due, as the dict tells it -/
theorem ds_get {K : PySem.W.Frag} {H : Hp} {dd : Addr} {ds : Dues} {x : Str} (d : DsOk K H dd ds) (h : x ∈ ds.map (·.1)) : ∃ a due, DGet H dd (.str x) (some (.ref a)) ∧ dueOf ds x = some due ∧ DueOk K H a due := by
  cases e : ds.find? fun d => decide (d.1 = x) with
  | none =>
    obtain ⟨z, hz, hx⟩ := List.mem_map.mp h
    have := List.find?_eq_none.mp e z hz
    rw [hx] at this
    simp at this
  | some z =>
    refine ⟨z.2.1, z.2.2, .inl ⟨dsV ds, Sum.inr x, d.at_, rfl, ?_⟩, ?_, d.dues z (List.mem_of_find?_eq_some e)⟩
    · rw [ds_val, e]
      rfl
    · unfold dueOf
      rw [e]
      rfl
/-! ### the taker -/
def tkF (ga : Addr) (o w : Bool) (l : Addr) : List (Str × V) := [("gang", .ref ga), ("is_owed", .bl o), ("is_own", .bl w), ("all_lent", .ref l)]
structure TkAt (K : PySem.W.Frag) (C : Addr) (H0 H : Hp) (p ga : Addr) (o w : Bool) (lent : List Str) : Prop where
  same : Same H0 H
  p0 : H0 p = none
  ex : ∃ dx l, H0 l = none ∧ H p = some (.ins C dx (tkF ga o w l)) ∧ H l = some (.lst (strV lent))
theorem TkAt.down {K : PySem.W.Frag} {C : Addr} {H0 H1 H : Hp} {p ga : Addr} {o w : Bool} {lent : List Str} (s : TkAt K C H1 H p ga o w lent) (h : Same H0 H1) : TkAt K C H0 H p ga o w lent := by
  obtain ⟨h1, h2, dx, l, e1, r⟩ := s
  exact ⟨h.trans h1, h.free h2, dx, l, h.free e1, r⟩
theorem TkAt.keep {K : PySem.W.Frag} {C : Addr} {H0 H H' : Hp} {p ga : Addr} {o w : Bool} {lent : List Str} (s : TkAt K C H0 H p ga o w lent) (h : Same H H') : TkAt K C H0 H' p ga o w lent := by
  obtain ⟨h1, h2, dx, l, e1, e2, e3⟩ := s
  exact ⟨h1.trans h, h2, dx, l, e1, h _ _ e2, h _ _ e3⟩
/-- behind a heap that has one thing more, which was free -/
theorem TkAt.up {K : PySem.W.Frag} {C : Addr} {H0 H H' : Hp} {p ga q : Addr} {u : HO} {o w : Bool} {lent : List Str} (s : TkAt K C H0 H p ga o w lent) (hq : H q = none) (h : Same H H') (h' : H' q = some u) : TkAt K C (upd H0 q u) H' p ga o w lent := by
  obtain ⟨h1, h2, dx, l, e1, e2, e3⟩ := s
  have np : p ≠ q := ne_of_none e2 hq
  have nl : l ≠ q := ne_of_none e3 hq
  refine ⟨fun c v e => ?_, by rw [upd_ne np]; exact h2, dx, l, by rw [upd_ne nl]; exact e1, h _ _ e2, h _ _ e3⟩
  by_cases hc : c = q
  · rw [hc, upd_same] at e
    rw [hc, h']
    exact e
  · rw [upd_ne hc] at e
    exact h _ _ (h1 _ _ e)
structure TkTxt (K : PySem.W.Frag) (mg : Str → Option Value) (C : Addr) : Prop where
  cl : Cls K C
  nG : NoAttr K C "gang"
  nO : NoAttr K C "is_owed"
  nW : NoAttr K C "is_own"
  nL : NoAttr K C "all_lent"
  mgC : mg "Taker" = some (.ref C)
/-- what stands where a gang asks whom it may take from -/
structure AskOk (K : PySem.W.Frag) (H : Hp) (dd ra : Addr) (ds : Dues) (rs : List Row) (g : Gang) : Prop where
  dsk : DsOk K H dd ds
  rsk : RsOk K H ra rs
  gang : GangAt K H g
  wh : WhOk g
  guilds : ∀ r ∈ rs, r.g.guild ∈ ds.map (·.1)
  guild : g.guild ∈ ds.map (·.1)
theorem AskOk.keep {K : PySem.W.Frag} {H H' : Hp} {dd ra : Addr} {ds : Dues} {rs : List Row} {g : Gang} (a : AskOk K H dd ra ds rs g) (s : Same H H') : AskOk K H' dd ra ds rs g :=
  ⟨a.dsk.keep s, a.rsk.keep s, same_gang s a.gang, a.wh, a.guilds, a.guild⟩
def isOwed (ds : Dues) (rs : List Row) (g : Gang) : Bool := owed ((dueOf ds g.guild).getD []) (ofGuild rs g.guild) g
def isOwn (ds : Dues) (rs : List Row) (g : Gang) : Bool := ownWith ((dueOf ds g.guild).getD []) (ofGuild rs g.guild) g
def spTkInit (K : PySem.W.Frag) (C : Addr) : Sp := fun vs H Q _ => ∃ (H0 : Hp) (p dx dd ra : Addr) (ds : Dues) (rs : List Row) (g : Gang), vs = [.ref p, .ref dd, .ref ra, .ref g.a] ∧ Same H0 H ∧ H0 p = none ∧ H p = some (.ins C dx []) ∧ AskOk K H0 dd ra ds rs g ∧
  ∀ (H' : Hp) (lent : List Str), (∀ x, x ∈ lent ↔ isLent ds rs x = true) → TkAt K C H0 H' p g.a (isOwed ds rs g) (isOwn ds rs g) lent → Q .non H'
def gV : Option Str → V
  | none => .non
  | some s => .str s
def spGround (K : PySem.W.Frag) (C : Addr) : Sp := fun vs H Q _ => ∃ (H0 : Hp) (p : Addr) (g o : Gang) (io iw : Bool) (lent : List Str), vs = [.ref p, .ref o.a] ∧ TkAt K C H0 H p g.a io iw lent ∧ GangAt K H o ∧ GangAt K H g ∧ Q (gV (grounds io iw g.guild g.rank (decide (o.name ∈ lent)) o)) H
theorem scTkInit : FnScope ["self", "dues", "rows", "gang", "mine", "guild", "row"] ["self", "dues", "rows", "gang"] (defScope sTkInit) := ⟨rfl, rfl, rfl, by decide +kernel, rfl, by decide +kernel, by decide +kernel⟩
theorem scGround : FnScope ["self", "other", "is_mine"] ["self", "other"] (defScope sTkGround) := ⟨rfl, rfl, rfl, by decide +kernel, rfl, by decide +kernel, by decide +kernel⟩
/-- the shares' defs, as they promise -/
structure PaEnv (P : Program) (w : World) (K : PySem.W.Frag) (mg : Str → Option Value) (base : Heap) : Prop where
  parted : ∃ f fd, FnOk P w K mg base CX0 7 f fd ["due", "rows"] (spParted K) ∧ Binds K fd ["due", "rows"] [] ∧ mg "parted" = some (.ref f) ∧ PySem.W.keepIn K (.ref f) = true
  owed : ∃ f fd, FnOk P w K mg base CX0 7 f fd ["due", "rows", "gang"] (spOwed K) ∧ Binds K fd ["due", "rows", "gang"] [] ∧ mg "owed" = some (.ref f) ∧ PySem.W.keepIn K (.ref f) = true
  own : ∃ f fd, FnOk P w K mg base CX0 7 f fd ["due", "rows", "gang"] (spOwn K) ∧ Binds K fd ["due", "rows", "gang"] [] ∧ mg "own_with" = some (.ref f) ∧ PySem.W.keepIn K (.ref f) = true
  rows : ∃ f fd, FnOk P w K mg base CX0 1 f fd ["rows", "guild"] (spGuild K) ∧ Binds K fd ["rows", "guild"] [] ∧ mg "rows_of_guild" = some (.ref f) ∧ PySem.W.keepIn K (.ref f) = true
/-- the lent ones of some guilds -/
def lentOf (ds : Dues) (rs : List Row) (gs : List Str) : List Str := gs.flatMap fun x => lentN ((dueOf ds x).getD []) (ofGuild rs x)
theorem lentOf_mem {ds : Dues} {rs : List Row} {gs : List Str} (h : ∀ y, y ∈ gs ↔ y ∈ rs.map fun r => r.g.guild) (x : Str) : x ∈ lentOf ds rs gs ↔ isLent ds rs x = true := by
  unfold lentOf isLent
  rw [List.mem_flatMap, List.any_eq_true]
  constructor
  · rintro ⟨y, hy, hx⟩
    obtain ⟨r, hr, e, _⟩ := lentN_mem hx
    obtain ⟨h1, h2⟩ := ofGuild_mem.mp hr
    refine ⟨r, h1, ?_⟩
    rw [h2, e]
    simp [hx]
  · rintro ⟨r, hr, e⟩
    simp only [Bool.and_eq_true, decide_eq_true_eq] at e
    refine ⟨r.g.guild, (h _).mpr (List.mem_map.mpr ⟨r, hr, rfl⟩), ?_⟩
    rw [← e.2]
    exact e.1
theorem lentN_len (due : List Int) (rs : List Row) : (lentN due rs).length ≤ rs.length := by
  unfold lentN
  rw [List.length_map]
  exact Nat.le_trans (lent_len _ _) (Nat.le_of_eq (inOrder_len rs))
theorem ownN_len (due : List Int) (rs : List Row) : (ownN due rs).length ≤ rs.length := by
  unfold ownN
  rw [List.length_map]
  exact Nat.le_trans (own_len _ _) (Nat.le_of_eq (inOrder_len rs))
theorem ofGuild_len (rs : List Row) (x : Str) : (ofGuild rs x).length ≤ rs.length := List.length_filter_le _ _
section
variable {P : Program} {w : World} {K : PySem.W.Frag} {mg : Str → Option Value} {base : Heap}
theorem ok_tkInit {f C : Addr} {fd : FuncData} (F : Fun K "__init__" "Taker.__init__" sTkInit f fd) (T : TkTxt K mg C) (B : Blt mg) (E : PaEnv P w K mg base) : FnOk P w K mg base CX0 8 f fd ["self", "dues", "rows", "gang"] (spTkInit K C) := by
  obtain ⟨fP, fdP, GP, bP, mP, kP⟩ := E.parted
  obtain ⟨fO, fdO, GO, bO, mO, kO⟩ := E.owed
  obtain ⟨fW, fdW, GW, bW, mW, kW⟩ := E.own
  obtain ⟨fR, fdR, GR, bR, mR, kR⟩ := E.rows
  refine F.ok scTkInit (fun vs H Q E h => ?_) (fun cdv A outer s H vs Q E hr h => ?_)
  · obtain ⟨H0, p, dx, dd, ra, ds, rs, g, rfl, _⟩ := h
    rfl
  · obtain ⟨H0, p, dx, dd, ra, ds, rs, g, rfl, h1, h2, hp, ok, k⟩ := h
    have hr1 : Room 1 _ := hr.mono (by decide)
    have hu := hu_of hr
    refine ⟨_, pss_cons (ps_fld (pv 0) (pv 3) rfl)
      (pss_cons (ps_set (i := 4) scTkInit.nd rfl (Or.inl rfl) (pe_call GR hr1 (by rfl) mR kR bR .nil pass0 (pa_cons (pv 2) (pa_cons (pe_ix (ixT K rfl) (pv 3) pe_int (fun _ _ => rfl)) pa_nil))))
      (pss_cons (ps_fld (pv 0) (pe_call GO hr (by rfl) mO kO bO .nil pass0 (pa_cons (pe_dget hu (pv 1) (pe_ix (ixT K rfl) (pv 3) pe_int (fun _ _ => rfl)) (fun _ _ => rfl)) (pa_cons (pv 4) (pa_cons (pv 3) pa_nil)))) rfl)
      (pss_cons (ps_fld (pv 0) (pe_call GW hr (by rfl) mW kW bW .nil pass0 (pa_cons (pe_dget hu (pv 1) (pe_ix (ixT K rfl) (pv 3) pe_int (fun _ _ => rfl)) (fun _ _ => rfl)) (pa_cons (pv 4) (pa_cons (pv 3) pa_nil)))) rfl)
      (pss_cons (ps_fld (pv 0) (pe_lst pa_nil) rfl)
      (pss_one (ps_for PassesOwn.never rfl (pi_list (pe_callB (cr_sortedS2 rfl hr.units) (by rfl) B.sorted (by decide +kernel) (pa_cons (pe_callTy (cr_setS rfl) (by rfl) B.set (by decide +kernel) (pa_cons
          (pe_lc (own := [("row", 6)]) (g := gName 6) (tt := tYes) rfl scTkInit.nd (pi_list (pv 2)) (blkOk_by (N := ["self", "dues", "rows", "gang", "mine", "guild", "row"]) (sc := defScope sTkInit) (by decide +kernel)) (fun _ _ _ _ _ => pg_name (i := 6) scTkInit.nd rfl (Or.inl rfl)) (fun _ _ _ _ _ => pts_nil)
            (fun _ _ _ _ _ => pe_ix (ixT K rfl) (pe_ix (ixT K rfl) (pv 6) pe_int (fun _ _ => rfl)) pe_int (fun _ _ => rfl))) pa_nil)) pa_nil)))
        (pg_name (i := 5) scTkInit.nd rfl (Or.inl rfl))
        (pss_one (ps_expr (pe_bm PySem.F.plainAttrs_list PySem.F.slot_list_extend PySem.F.type_list_extend mt_extend (pe_fld (pv 0) rfl) (pa_cons (pe_ix (ixT K rfl)
          (pe_call GP hr (by rfl) mP kP bP .nil pass0 (pa_cons (pe_dget hu (pv 1) (pv 5) (fun _ _ => rfl)) (pa_cons (pe_call GR hr1 (by rfl) mR kR bR .nil pass0 (pa_cons (pv 2) (pa_cons (pv 5) pa_nil))) pa_nil))) pe_int (fun _ _ => rfl)) pa_nil)))))))))), ?_⟩
    -- self.gang = gang
    refine ⟨_, rfl, _, rfl, p, C, dx, [], rfl, hp, T.cl, T.nG, (by show 0 < 1000; decide), ?_⟩
    generalize hH1 : upd H p (.ins C dx (putF "gang" (.ref g.a) [])) = H1
    have p1 : H1 p = some (.ins C dx [("gang", .ref g.a)]) := by rw [← hH1]; exact upd_same
    have s1 : Same H0 H1 := by rw [← hH1]; exact same_upd h1 h2
    -- mine = rows_of_guild(rows, gang[1])
    have ok1 := ok.keep s1
    refine ⟨_, rfl, _, rfl, g.a, gangV g, 1, .str g.guild, rfl, rfl, ok1.gang.1, atI_nat (j := 1) rfl, ra, g.guild, rs, rfl, ok1.rsk, fun ma H2 s2 hma m2 => ?_⟩
    have p2 := s2 _ _ p1
    have t2 := s1.trans s2
    have R2 : RsOk K H2 ma (ofGuild rs g.guild) := (ok1.rsk.keep s2).sub _ m2
    -- self.is_owed = owed(dues[gang[1]], mine, gang)
    have ok2 := ok1.keep s2
    obtain ⟨da, due, dg, de, dok⟩ := ds_get ok2.dsk ok2.guild
    have ed : (dueOf ds g.guild).getD [] = due := by rw [de]; rfl
    refine ⟨_, rfl, _, rfl, g.a, gangV g, 1, .str g.guild, rfl, rfl, ok2.gang.1, atI_nat (j := 1) rfl, dd, _, rfl, dg, _, rfl, _, rfl, ?_⟩
    refine ⟨da, ma, due, _, g, rfl, dok, R2, ok2.gang, ok2.wh, fun H3 s3 => ?_⟩
    have p3 := s3 _ _ p2
    refine ⟨_, rfl, p, C, dx, _, rfl, p3, T.cl, T.nO, (by show 1 < 1000; decide), ?_⟩
    generalize hH4 : upd H3 p (.ins C dx (putF "is_owed" (.bl (owed due (ofGuild rs g.guild) g)) [("gang", .ref g.a)])) = H4
    have p4 : H4 p = some (.ins C dx [("gang", .ref g.a), ("is_owed", .bl (isOwed ds rs g))]) := by
      rw [← hH4]
      unfold isOwed
      rw [ed]
      exact upd_same
    have s4 : Same H0 H4 := by rw [← hH4]; exact same_upd (t2.trans s3) h2
    have m4 : H4 ma = some (.lst (rowsV (ofGuild rs g.guild))) := by
      rw [← hH4, upd_ne (ne_of_none p1 hma).symm]
      exact s3 _ _ m2
    have ok4 := ok.keep s4
    have R4 : RsOk K H4 ma (ofGuild rs g.guild) := ok4.rsk.sub _ m4
    -- self.is_own = own_with(dues[gang[1]], mine, gang)
    obtain ⟨da', due', dg', de', dok'⟩ := ds_get ok4.dsk ok4.guild
    obtain rfl : due = due' := Option.some.inj (de.symm.trans de')
    refine ⟨_, rfl, _, rfl, g.a, gangV g, 1, .str g.guild, rfl, rfl, ok4.gang.1, atI_nat (j := 1) rfl, dd, _, rfl, dg', _, rfl, _, rfl, ?_⟩
    refine ⟨da', ma, due, _, g, rfl, dok', R4, ok4.gang, ok4.wh, fun H5 s5 => ?_⟩
    have p5 := s5 _ _ p4
    refine ⟨_, rfl, p, C, dx, _, rfl, p5, T.cl, T.nW, (by show 2 < 1000; decide), ?_⟩
    generalize hH6 : upd H5 p (.ins C dx (putF "is_own" (.bl (ownWith due (ofGuild rs g.guild) g)) [("gang", .ref g.a), ("is_owed", .bl (isOwed ds rs g))])) = H6
    have p6 : H6 p = some (.ins C dx [("gang", .ref g.a), ("is_owed", .bl (isOwed ds rs g)), ("is_own", .bl (isOwn ds rs g))]) := by
      rw [← hH6]
      unfold isOwn
      rw [ed]
      exact upd_same
    have s6 : Same H0 H6 := by rw [← hH6]; exact same_upd (s4.trans s5) h2
    -- self.all_lent = []
    refine ⟨Nat.zero_le _, fun l hl => ?_⟩
    have pl : p ≠ l := ne_of_none p6 hl
    refine ⟨_, rfl, p, C, dx, _, rfl, (by rw [upd_ne pl]; exact p6), T.cl, T.nL, (by show 3 < 1000; decide), ?_⟩
    generalize hH7 : upd (upd H6 l (.lst [])) p (.ins C dx (putF "all_lent" (.ref l) [("gang", .ref g.a), ("is_owed", .bl (isOwed ds rs g)), ("is_own", .bl (isOwn ds rs g))])) = H7
    have p7 : H7 p = some (.ins C dx (tkF g.a (isOwed ds rs g) (isOwn ds rs g) l)) := by rw [← hH7]; exact upd_same
    have s7 : Same H0 H7 := by rw [← hH7]; exact same_upd (s6.trans (same_new hl)) h2
    have l7 : H7 l = some (.lst (strV [])) := by rw [← hH7, upd_ne pl.symm]; exact upd_same
    have T7 : TkAt K C H0 H7 p g.a (isOwed ds rs g) (isOwn ds rs g) [] := ⟨s7, h2, dx, l, s6.free hl, p7, l7⟩
    have ok7 := ok.keep s7
    -- the guilds
    refine ⟨_, rfl, ra, rfl, ⟨_, ok7.rsk.at_⟩, fun D hD => ?_⟩
    refine lc_over rs (fun r => V.ref r.a) (fun r => some (.str r.g.guild)) hD (Nat.le_trans ok.rsk.few (by decide)) ok7.rsk.at_ (fun r H8 N S hm s8 q _ => ⟨rfl, ?_⟩) fun H8 s8 e8 => ?_
    · have hr1 := same_row s8 (ok7.rsk.rows r hm)
      exact yesT ⟨_, rfl, r.a, _, 0, .ref r.g.a, rfl, rfl, hr1.1, atI_nat (j := 0) rfl, r.g.a, gangV r.g, 1, .str r.g.guild, rfl, rfl, hr1.2.1, atI_nat (j := 1) rfl, q _ _ rfl (Same.refl _)⟩
    · have eg : rs.filterMap (fun r => some (V.str r.g.guild)) = (rs.map fun r => r.g.guild).map V.str := by
        rw [List.filterMap_eq_map', List.map_map]
        rfl
      rw [eg] at e8
      have few := ok.rsk.few
      refine ⟨D, _, rfl, SqL.of e8, by rw [List.length_map]; omega, fun sa hsa => ?_⟩
      refine ⟨sa, _, rfl, upd_same, fun ys q hys hyl hq => ?_⟩
      generalize hH9 : upd (upd H8 sa (SetSO _ _ sa (rs.map fun r => r.g.guild))) q (.lst (ys.map V.str)) = H9
      have s9 : Same H7 H9 := by
        rw [← hH9]
        exact (s8.trans (same_new hsa)).trans (same_new hq)
      have q9 : H9 q = some (.lst (strV ys)) := by rw [← hH9]; exact upd_same
      have q7 : H7 q = none := (s8.trans (same_new hsa)).free hq
      have T9 : TkAt K C (upd H0 q (.lst (strV ys))) H9 p g.a (isOwed ds rs g) (isOwn ds rs g) (lentOf ds rs (ys.take 0)) := T7.up q7 s9 q9
      have q0 : H0 q = none := s7.free q7
      have okU : AskOk K (upd H0 q (.lst (strV ys))) dd ra ds rs g := ok.keep (same_new q0)
      rw [List.length_map] at hyl
      refine ⟨q, rfl, ⟨_, SqL.of q9⟩, for_list (K := K) (a := q) (xs := strV ys) (fun i σ H' => ∃ v v6 : Option V, σ = [some (.ref p), some (.ref dd), some (.ref ra), some (.ref g.a), some (.ref ma), v, v6] ∧
        TkAt K C (upd H0 q (.lst (strV ys))) H' p g.a (isOwed ds rs g) (isOwn ds rs g) (lentOf ds rs (ys.take i)) ∧ (lentOf ds rs (ys.take i)).length ≤ i * 100)
        ⟨none, none, rfl, T9, Nat.zero_le _⟩ (fun i σ H' _ ⟨_, _, _, S, _⟩ => SqL.of (S.same _ _ upd_same)) ?_ ?_⟩
      · rintro i y σ H' hi ⟨v, v6, rfl, S, hlen⟩
        have hi' : (ys.map V.str)[i]? = some y := hi
        rw [List.getElem?_map] at hi'
        cases e : ys[i]? with
        | none => rw [e] at hi'; cases hi'
        | some x =>
          rw [e] at hi'
          cases hi'
          have hil : i < ys.length := (List.getElem?_eq_some_iff.mp e).1
          have okS := okU.keep S.same
          obtain ⟨_, _, dx', l', l0, pS, lS⟩ := id S
          have hx : x ∈ ds.map (·.1) := by
            obtain ⟨r, hr0, er⟩ := List.mem_map.mp ((hys x).mp (List.mem_of_getElem? e))
            rw [← er]
            exact ok.guilds r hr0
          obtain ⟨dx1, due1, dg1, de1, dok1⟩ := ds_get okS.dsk hx
          refine ⟨_, rfl, p, C, dx', _, _, rfl, pS, T.cl, T.nL, (by rfl : (tkF g.a (isOwed ds rs g) (isOwn ds rs g) l').lookup ("all_lent" : Str) = some (.ref l')), .inl ⟨rfl, _, SqL.of lS⟩, ?_⟩
          refine ⟨_, rfl, _, rfl, dd, _, rfl, dg1, _, rfl, _, rfl, ra, x, rs, rfl, okS.rsk, fun mx H10 s10 hmx m10 => ?_⟩
          refine ⟨dx1, mx, due1, ofGuild rs x, rfl, dok1.keep s10, (okS.rsk.keep s10).sub _ m10, fun pp po pl2 H11 s11 ho hl2 nol tp tpo tpl => ?_⟩
          have l11 : H11 l' = some (.lst (strV (lentOf ds rs (ys.take i)))) := s11 _ _ (s10 _ _ lS)
          have nn : pl2 ≠ l' := (ne_of_none (s10 _ _ lS) hl2).symm
          have zl : (lentN due1 (ofGuild rs x)).length ≤ 100 := Nat.le_trans (lentN_len _ _) (Nat.le_trans (ofGuild_len _ _) few)
          refine ⟨pp, _, 1, .ref pl2, rfl, rfl, tp, atI_nat (j := 1) rfl, l', pl2, _, _, rfl, rfl, l11, tpl, ?_, ?_⟩
          · have z1 : (strV (lentOf ds rs (ys.take i))).length ≤ i * 100 := by unfold strV; rw [List.length_map]; exact hlen
            have z2 : (strV (lentN due1 (ofGuild rs x))).length ≤ 100 := by unfold strV; rw [List.length_map]; exact zl
            have z3 : sizeLine = 16777216 := sizeLine_eq
            have z4 : i * 100 ≤ 100 * 100 := Nat.mul_le_mul_right 100 (by omega)
            omega
          · have et : lentOf ds rs (ys.take (i + 1)) = lentOf ds rs (ys.take i) ++ lentN due1 (ofGuild rs x) := by
              unfold lentOf
              rw [List.take_add_one, e, List.flatMap_append]
              show _ ++ (lentN ((dueOf ds x).getD []) (ofGuild rs x) ++ []) = _
              rw [de1, List.append_nil]
              rfl
            have pn : p ≠ l' := ne_of pS lS (by intro z; cases z)
            refine ⟨_, _, rfl, ⟨same_upd ((S.same.trans s10).trans s11) l0, S.p0, dx', l', l0, ?_, ?_⟩, ?_⟩
            · rw [upd_ne pn]
              exact s11 _ _ (s10 _ _ pS)
            · rw [upd_same, et]
              unfold strV
              rw [List.map_append]
            · rw [et, List.length_append, Nat.succ_mul]
              omega
      · rintro σ H' ⟨v, v6, rfl, S, hlen⟩
        have z : (strV ys).length = ys.length := by unfold strV; rw [List.length_map]
        rw [z, List.take_length] at S
        exact k H' _ (lentOf_mem hys) (S.down (same_new q0))
end
end Ch

/-! ground_for, may_take. -/
namespace Ch
open PySem PySem.Spec PyProof.Rows L2
theorem flat_strV (xs : List Str) : (strV xs).all flatV = true := by
  unfold strV
  rw [List.all_map]
  exact List.all_eq_true.mpr fun x _ => rfl
theorem in_strV (x : Str) (xs : List Str) : inV (.str x) (strV xs) = decide (x ∈ xs) := by
  unfold inV strV
  rw [List.any_map]
  rw [Bool.eq_iff_iff, List.any_eq_true, decide_eq_true_eq]
  constructor
  · rintro ⟨y, hy, e⟩
    have e : (y == x) = true := e
    rw [← beq_iff_eq.mp e]
    exact hy
  · intro h
    exact ⟨x, h, (beq_iff_eq.mpr rfl : (x == x) = true)⟩
/-- what is handed back of those that may be taken -/
abbrev Got := List (Addr × Str × Str)
def gotV (ts : Got) : List V := ts.map fun t => V.ref t.1
def GotAt (K : PySem.W.Frag) (H : Hp) (ts : Got) : Prop := ∀ t ∈ ts, SqT K H t.1 [.str t.2.1, .str t.2.2]
def groundOf (ds : Dues) (rs : List Row) (g : Gang) (r : Row) : Option Str := grounds (isOwed ds rs g) (isOwn ds rs g) g.guild g.rank (isLent ds rs r.g.name) r.g
theorem taken_eq (ds : Dues) (rs : List Row) (g : Gang) (r : Row) : taken ds rs g r = (groundOf ds rs g r).isSome := rfl
def keptRow (ds : Dues) (rs : List Row) (g : Gang) (nms : List Str) (r : Row) : Bool := decide (r.g.name ∈ nms) && taken ds rs g r
def spMay (K : PySem.W.Frag) : Sp := fun vs H Q _ => ∃ (dd ra na : Addr) (ds : Dues) (rs : List Row) (nms : List Str) (g : Gang), vs = [.ref dd, .ref ra, .ref na, .ref g.a] ∧ AskOk K H dd ra ds rs g ∧ SqL K H na (strV nms) ∧
  ∀ (q : Addr) (H' : Hp) (ts : Got), Same H H' → H q = none → H' q = some (.lst (gotV ts)) → GotAt K H' ts → ts.map (fun t => t.2.1) = ((rs.mergeSort le2).filter (keptRow ds rs g nms)).map (fun r => r.g.name) → Q (.ref q) H'
theorem scMay : FnScope ["dues", "rows", "names", "gang", "taker", "found", "other", "number", "ground"] ["dues", "rows", "names", "gang"] (defScope sMay) := ⟨rfl, rfl, rfl, by decide +kernel, rfl, by decide +kernel, by decide +kernel⟩
section
variable {P : Program} {w : World} {K : PySem.W.Frag} {mg : Str → Option Value} {base : Heap}
theorem ok_ground {f C : Addr} {fd : FuncData} (F : Fun K "ground_for" "Taker.ground_for" sTkGround f fd) (T : TkTxt K mg C) : FnOk P w K mg base CX0 1 f fd ["self", "other"] (spGround K C) := by
  refine F.ok scGround (fun vs H Q E h => ?_) (fun cdv A outer s H vs Q E hr h => ?_)
  · obtain ⟨H0, p, g, o, io, iw, lent, rfl, _⟩ := h
    rfl
  · obtain ⟨H0, p, g, o, io, iw, lent, rfl, S, ho, hg, k⟩ := h
    refine ⟨_, pss_cons (ps_set (i := 2) scGround.nd rfl (Or.inl rfl) (pe_cmpR op_eq (pe_ix (ixT K rfl) (pv 1) pe_int (fun _ _ => rfl)) (pe_ix (ixT K rfl) (pe_fld (pv 0) rfl) pe_int (fun _ _ => rfl)) (nomark _)))
      (pss_cons (ps_if (PW.pt (pw_and (pt_cmpR op_notIn_seq (pe_ix (ixT K rfl) (pv 1) pe_int (fun _ _ => rfl)) (pe_fld (pv 0) rfl) (by rfl)) (pw_and1 (pt_not (PW.pt (pw_and (pt_val (pv 2)) (pw_and1 (pt_val (pe_fld (pv 0) rfl))))))))) (pss_one (ps_ret pe_non)) pss_nil)
      (pss_cons (ps_if (PW.pt (pw_and (pt_not (pt_val (pv 2))) (pw_and1 (pt_val (pe_fld (pv 0) rfl))))) (pss_one (ps_ret pe_str)) pss_nil)
      (pss_cons (ps_if (pt_cmpR op_lt (pe_ix (ixT K rfl) (pv 1) pe_int (fun _ _ => rfl)) (pe_ix (ixT K rfl) (pe_fld (pv 0) rfl) pe_int (fun _ _ => rfl)) (nomark _)) (pss_one (ps_ret pe_str)) pss_nil)
      (pss_one (ps_ret pe_non))))), ?_⟩
    obtain ⟨_, _, dx, l, l0, pS, lS⟩ := id S
    have e1 : (tkF g.a io iw l).lookup ("gang" : Str) = some (.ref g.a) := by rfl
    have e2 : (tkF g.a io iw l).lookup ("is_owed" : Str) = some (.bl io) := by rfl
    have e3 : (tkF g.a io iw l).lookup ("is_own" : Str) = some (.bl iw) := by rfl
    have e4 : (tkF g.a io iw l).lookup ("all_lent" : Str) = some (.ref l) := by rfl
    refine ⟨_, rfl, o.a, gangV o, 1, .str o.guild, rfl, rfl, ho.1, atI_nat (j := 1) rfl, _, rfl, p, C, dx, _, _, rfl, pS, T.cl, T.nG, e1, g.a, gangV g, 1, .str g.guild, rfl, rfl, hg.1, atI_nat (j := 1) rfl, rfl, ?_⟩
    have gE : (decide (V.str o.guild = V.str g.guild)) = decide (o.guild = g.guild) := by
      by_cases c : o.guild = g.guild
      · rw [decide_eq_true c, decide_eq_true (by rw [c])]
      · rw [decide_eq_false c, decide_eq_false (fun z => c (V.str.inj z))]
    rw [gE]
    -- other[0] not in self.all_lent and not (is_mine and self.is_own)
    dsimp only [gName]
    refine seqIf (!decide (o.name ∈ lent) && !(decide (o.guild = g.guild) && iw)) (evt_and (fun R r => ?_) fun _ => evt_not (evt_and (fun R r => ?_) fun _ R r => ?_)) ?_
    · refine ⟨_, rfl, o.a, gangV o, 0, .str o.name, rfl, rfl, ho.1, atI_nat (j := 0) rfl, _, rfl, p, C, dx, _, _, rfl, pS, T.cl, T.nL, e4, l, _, rfl, .inl (SqL.of lS), rfl, flat_strV _, _, rfl, ?_⟩
      rw [in_strV]
      exact r
    · exact ⟨_, rfl, _, rfl, r⟩
    · exact ⟨_, rfl, p, C, dx, _, _, rfl, pS, T.cl, T.nW, e3, _, rfl, r⟩
    · by_cases c1 : decide (o.name ∈ lent) = false ∧ ¬ (o.guild = g.guild ∧ iw = true)
      · have t1 : (!decide (o.name ∈ lent) && !(decide (o.guild = g.guild) && iw)) = true := by
          rw [c1.1]
          by_cases m : o.guild = g.guild
          · have : iw = false := by
              cases iw with
              | false => rfl
              | true => exact absurd ⟨m, rfl⟩ c1.2
            rw [this, Bool.and_false]
            rfl
          · rw [decide_eq_false m]
            rfl
        rw [t1]
        refine iteT ?_
        have e : grounds io iw g.guild g.rank (decide (o.name ∈ lent)) o = none := by
          unfold grounds
          rw [if_pos c1]
        rw [e] at k
        exact k
      · have t1 : (!decide (o.name ∈ lent) && !(decide (o.guild = g.guild) && iw)) = false := by
          cases hl : decide (o.name ∈ lent) with
          | true => rfl
          | false =>
            by_cases m : o.guild = g.guild ∧ iw = true
            · rw [decide_eq_true m.1, m.2]
              rfl
            · exact absurd ⟨hl, m⟩ c1
        rw [t1]
        refine iteF ?_
        -- not is_mine and self.is_owed
        dsimp only [tNext]
        refine seqIf (!decide (o.guild = g.guild) && io) (evt_and (evt_not fun R r => ?_) fun _ R r => ?_) ?_
        · exact ⟨_, rfl, _, rfl, r⟩
        · exact ⟨_, rfl, p, C, dx, _, _, rfl, pS, T.cl, T.nO, e2, _, rfl, r⟩
        · by_cases c2 : ¬ o.guild = g.guild ∧ io = true
          · rw [decide_eq_false c2.1, c2.2]
            refine iteT ?_
            have e : grounds io iw g.guild g.rank (decide (o.name ∈ lent)) o = some ("share" : Str) := by
              unfold grounds
              rw [if_neg c1, if_pos c2]
            rw [e] at k
            exact k
          · have t2 : (!decide (o.guild = g.guild) && io) = false := by
              by_cases m : o.guild = g.guild
              · rw [decide_eq_true m]
                rfl
              · cases io with
                | false => exact Bool.and_false _
                | true => exact absurd ⟨m, rfl⟩ c2
            rw [t2]
            refine iteF ?_
            refine ⟨_, rfl, o.a, gangV o, 2, .int o.rank, rfl, rfl, ho.1, atI_nat (j := 2) rfl, _, rfl, p, C, dx, _, _, rfl, pS, T.cl, T.nG, e1, g.a, gangV g, 2, .int g.rank, rfl, rfl, hg.1, atI_nat (j := 2) rfl, _, _, rfl, rfl, _, rfl, ?_⟩
            refine ite2 (fun c3 => ?_) (fun c3 => ?_)
            · have c3 := of_decide_eq_true c3
              have e : grounds io iw g.guild g.rank (decide (o.name ∈ lent)) o = some ("rank" : Str) := by
                unfold grounds
                rw [if_neg c1, if_neg c2, if_pos c3]
              rw [e] at k
              exact k
            · have c3 : ¬ o.rank < g.rank := fun z => c3 (decide_eq_true z)
              have e : grounds io iw g.guild g.rank (decide (o.name ∈ lent)) o = none := by
                unfold grounds
                rw [if_neg c1, if_neg c2, if_neg c3]
              rw [e] at k
              exact k
/-- what the first turns have found -/
def GotUp (ds : Dues) (rs : List Row) (g : Gang) (nms : List Str) (some_ : List Row) (ts : Got) : Prop := ts.map (fun t => t.2.1) = (some_.filter (keptRow ds rs g nms)).map (fun r => r.g.name)
theorem ok_may {f fI fG fB C : Addr} {fd fdI fdG fdB : FuncData} (F : Fun K "may_take" "may_take" sMay f fd) (T : TkTxt K mg C) (B : Blt mg) (MI : Mk K C fI) (GI : FnOk P w K mg base CX0 8 fI fdI ["self", "dues", "rows", "gang"] (spTkInit K C)) (bI : Binds K fdI ["self", "dues", "rows", "gang"] [])
    (GG : FnOk P w K mg base CX0 1 fG fdG ["self", "other"] (spGround K C)) (bG : Binds K fdG ["self", "other"] []) (mG : Meth K C "ground_for" fG) (FB : Fun K "taken_by" "taken_by" sTakenBy fB fdB) (bB : Binds K fdB ["row"] []) (gB : mg "taken_by" = some (.ref fB)) :
    FnOk P w K mg base CX0 10 f fd ["dues", "rows", "names", "gang"] (spMay K) := by
  refine F.ok scMay (fun vs H Q E h => ?_) (fun cdv A outer s H vs Q E hr h => ?_)
  · obtain ⟨dd, ra, na, ds, rs, nms, g, rfl, _⟩ := h
    rfl
  · obtain ⟨dd, ra, na, ds, rs, nms, g, rfl, ok, hN, k⟩ := h
    refine ⟨_, pss_cons (ps_set (i := 4) scMay.nd rfl (Or.inl rfl) (pe_make MI GI hr (by rfl) T.mgC bI .nil pass0 (pa_cons (pv 0) (pa_cons (pv 1) (pa_cons (pv 3) pa_nil)))))
      (pss_cons (ps_set (i := 5) scMay.nd rfl (Or.inl rfl) (pe_lst pa_nil))
      (pss_cons (ps_for PassesOwn.never rfl (pi_list (pe_callBK (cr_sortK (key := key2) (hr.mono (by decide)) (key_taken FB bB) (fun r => ⟨_, _, rfl⟩)) (by rfl) B.sorted (by decide +kernel) (pa_cons (pv 1) pa_nil) (pk_cons (pe_glob (v := .ref fB) (by rfl) gB rfl) pk_nil)))
        (pg_tup (by rfl) (pgs_cons (pg_name (i := 6) scMay.nd rfl (Or.inl rfl)) (pgs_cons (pg_name (i := 7) scMay.nd rfl (Or.inl rfl)) pgs_nil)))
        (pss_cons (ps_set (i := 8) scMay.nd rfl (Or.inl rfl) (pe_meth (pv 4) T.cl mG GG (hr.mono (by decide)) bG .nil pass0 (pa_cons (pv 6) pa_nil)))
        (pss_one (ps_if (PW.pt (pw_and (pt_cmpR op_in_seq (pe_ix (ixT K rfl) (pv 6) pe_int (fun _ _ => rfl)) (pv 2) (by rfl)) (pw_and1 (pt_cmpR op_notN (pv 8) pe_non (nomark _)))))
          (pss_one (ps_expr (pe_bm PySem.F.plainAttrs_list PySem.F.slot_list_append PySem.F.type_list_append mt_append (pv 5) (pa_cons (pe_tup (pa_cons (pe_ix (ixT K rfl) (pv 6) pe_int (fun _ _ => rfl)) (pa_cons (pv 8) pa_nil))) pa_nil)))) pss_nil))))
      (pss_one (ps_ret (pv 5))))), ?_⟩
    -- taker = Taker(dues, rows, gang)
    refine ⟨_, rfl, _, rfl, _, rfl, ?_⟩
    intro x dx nx ndx nex
    refine ⟨H, x, dx, dd, ra, ds, rs, g, rfl, same_make nx ndx, nx, upd_same, ok, fun H1 lent hl S1 => ⟨rfl, ?_⟩⟩
    -- found = []
    refine ⟨Nat.zero_le _, fun fo hfo => ?_⟩
    have s2 : Same H1 (upd H1 fo (.lst [])) := same_new hfo
    have ok2 := ok.keep (S1.same.trans s2)
    -- the loop
    have few := ok.rsk.few
    refine ⟨_, rfl, ra, rs, rfl, rfl, ok2.rsk.at_, ok2.rsk.rows, by omega, fun q hq => ?_⟩
    have hlen : (rs.mergeSort (ordK key2)).length = rs.length := (List.mergeSort_perm _ _).length_eq
    have nqf : fo ≠ q := ne_of_none upd_same hq
    have f0 : H fo = none := S1.same.free hfo
    have q1 : H1 q = none := s2.free hq
    have q0 : H q = none := S1.same.free q1
    obtain ⟨b1, b2, dx', l', l0, pS1, lS1⟩ := id S1
    have xf : x ≠ fo := ne_of_none pS1 hfo
    have lf : l' ≠ fo := ne_of_none lS1 hfo
    have s3 : Same H1 (upd (upd H1 fo (.lst [])) q (.lst (rowsV (rs.mergeSort (ordK key2))))) := s2.trans (same_new hq)
    generalize hH3 : upd (upd H1 fo (.lst [])) q (.lst (rowsV (rs.mergeSort (ordK key2)))) = H3 at s3
    have q3 : H3 q = some (.lst (rowsV (rs.mergeSort (ordK key2)))) := by rw [← hH3]; exact upd_same
    have f3 : H3 fo = some (.lst (gotV [])) := by rw [← hH3, upd_ne nqf]; exact upd_same
    -- what stands in each turn
    have stand : ∀ {H' : Hp}, KeepBut fo H3 H' → TkAt K C H H' x g.a (isOwed ds rs g) (isOwn ds rs g) lent ∧ AskOk K H' dd ra ds rs g ∧ Same H H' ∧ H' q = some (.lst (rowsV (rs.mergeSort (ordK key2)))) := fun {H'} kb => by
      have sm : Same H H' := kb.from (S1.same.trans s3) f0
      exact ⟨⟨sm, b2, dx', l', l0, kb _ _ (s3 _ _ pS1) xf, kb _ _ (s3 _ _ lS1) lf⟩, ok.keep sm, sm, kb _ _ q3 nqf.symm⟩
    refine ⟨q, rfl, ⟨_, SqL.of q3⟩, for_list (K := K) (a := q) (xs := rowsV (rs.mergeSort (ordK key2))) (fun i σ H' => ∃ (ts : Got) (v6 v7 v8 : Option V), σ = [some (.ref dd), some (.ref ra), some (.ref na), some (.ref g.a), some (.ref x), some (.ref fo), v6, v7, v8] ∧
        KeepBut fo H3 H' ∧ H' fo = some (.lst (gotV ts)) ∧ GotAt K H' ts ∧ GotUp ds rs g nms ((rs.mergeSort (ordK key2)).take i) ts)
        ⟨[], none, none, none, rfl, KeepBut.refl _ _, f3, fun t ht => by (cases ht), rfl⟩ (fun i σ H' _ ⟨_, _, _, _, _, S, _⟩ => SqL.of (stand S).2.2.2) ?_ ?_⟩
    · rintro i y σ H' hi ⟨ts, v6, v7, v8, rfl, S, hf, hG, hU⟩
      have hi' : ((rs.mergeSort (ordK key2)).map fun r => V.ref r.a)[i]? = some y := hi
      rw [List.getElem?_map] at hi'
      cases e : (rs.mergeSort (ordK key2))[i]? with
      | none => rw [e] at hi'; cases hi'
      | some r =>
        rw [e] at hi'
        cases hi'
        have hil : i < (rs.mergeSort (ordK key2)).length := (List.getElem?_eq_some_iff.mp e).1
        have hr0 : r ∈ rs := (List.mergeSort_perm _ _).mem_iff.mp (List.mem_of_getElem? e)
        obtain ⟨TS, okS, sm, _⟩ := stand S
        have hrow := okS.rsk.rows r hr0
        have pS : H' x = some (.ins C dx' (tkF g.a (isOwed ds rs g) (isOwn ds rs g) l')) := S _ _ (s3 _ _ pS1) xf
        have et : (rs.mergeSort (ordK key2)).take (i + 1) = (rs.mergeSort (ordK key2)).take i ++ [r] := by
          rw [List.take_add_one, e]
          rfl
        have tl : ts.length ≤ 100 := by
          have z := congrArg List.length hU
          rw [List.length_map, List.length_map] at z
          rw [z]
          refine Nat.le_trans (List.length_filter_le _ _) ?_
          rw [List.length_take]
          omega
        refine ⟨r.a, _, rfl, hrow.1, rfl, _, _, rfl, _, _, rfl, rfl, ?_⟩
        refine ⟨_, rfl, x, dx', _, rfl, pS, (by rfl : (tkF g.a (isOwed ds rs g) (isOwn ds rs g) l').lookup ("ground_for" : Str) = none), _, rfl, ?_⟩
        refine ⟨_, x, g, r.g, _, _, lent, rfl, TS, hrow.2, okS.gang, ?_⟩
        have eL : decide (r.g.name ∈ lent) = isLent ds rs r.g.name := by
          rw [Bool.eq_iff_iff, decide_eq_true_eq]
          exact hl _
        rw [eL]
        have eG : grounds (isOwed ds rs g) (isOwn ds rs g) g.guild g.rank (isLent ds rs r.g.name) r.g = groundOf ds rs g r := rfl
        rw [eG]
        dsimp only [gName]
        refine oneIf (decide (r.g.name ∈ nms) && (groundOf ds rs g r).isSome) (evt_and (fun R z => ?_) fun _ R z => ?_) ?_
        · refine ⟨_, rfl, r.g.a, gangV r.g, 0, .str r.g.name, rfl, rfl, hrow.2.1, atI_nat (j := 0) rfl, _, rfl, na, _, rfl, .inl (sm.seq hN), rfl, flat_strV _, _, rfl, ?_⟩
          rw [in_strV]
          exact z
        · refine ⟨_, rfl, rfl, _, rfl, ?_⟩
          cases hg : groundOf ds rs g r with
          | none => rw [hg] at z; exact z
          | some t => rw [hg] at z; exact z
        · have eK : keptRow ds rs g nms r = (decide (r.g.name ∈ nms) && (groundOf ds rs g r).isSome) := rfl
          cases hb : (decide (r.g.name ∈ nms) && (groundOf ds rs g r).isSome) with
          | true =>
            rw [hb] at eK
            obtain ⟨t, ht⟩ : ∃ t, groundOf ds rs g r = some t := Option.isSome_iff_exists.mp (Bool.and_eq_true_iff.mp hb).2
            rw [ht]
            refine iteT ?_
            refine ⟨_, rfl, .inl ⟨rfl, _, SqL.of hf⟩, _, rfl, r.g.a, gangV r.g, 0, .str r.g.name, rfl, rfl, hrow.2.1, atI_nat (j := 0) rfl, _, rfl, by show 2 ≤ sizeLine; decide, fun tp htp => ?_⟩
            have nf : fo ≠ tp := ne_of_none hf htp
            have hf' : (upd H' tp (.tup [.str r.g.name, gV (some t)])) fo = some (.lst (gotV ts)) := by rw [upd_ne nf]; exact hf
            refine ⟨fo, _, _, rfl, rfl, hf', ?_, ?_⟩
            · show (gotV ts).length < sizeLine
              unfold gotV
              rw [List.length_map]
              exact len1000 (by omega)
            · refine ⟨ts ++ [(tp, r.g.name, t)], _, _, _, rfl, ?_, ?_, ?_, ?_⟩
              · exact (S.same (same_new htp)).upd
              · rw [upd_same]
                unfold gotV
                rw [List.map_append]
                rfl
              · intro u hu
                rcases List.mem_append.mp hu with hu | hu
                · exact tup_upd (mut_lst hf') (same_tup (same_new htp) (hG u hu))
                · rw [List.mem_singleton.mp hu]
                  exact tup_upd (mut_lst hf') (.inl (.inl upd_same))
              · unfold GotUp at hU ⊢
                rw [et, List.filter_append, List.map_append, List.map_append, hU, List.filter_cons, eK]
                rfl
          | false =>
            rw [hb] at eK
            refine iteF ?_
            refine ⟨ts, _, _, _, rfl, S, hf, hG, ?_⟩
            unfold GotUp at hU ⊢
            rw [et, List.filter_append, List.map_append, hU, List.filter_cons, eK]
            exact (List.append_nil _).symm
    · rintro σ H' ⟨ts, v6, v7, v8, rfl, S, hf, hG, hU⟩
      have z : (rowsV (rs.mergeSort (ordK key2))).length = (rs.mergeSort (ordK key2)).length := by unfold rowsV; rw [List.length_map]
      unfold GotUp at hU
      rw [z, List.take_length, ord2] at hU
      exact ⟨_, rfl, k fo H' ts (stand S).2.2.1 f0 hf hG hU⟩
end
end Ch

/-! A cell's box, and what is drawn from it. -/
namespace Ch
open PySem PySem.Spec PyProof.Rows L2
/-- a box that was drawn from at most n times -/
def BoxAt (H : Hp) (b : Addr) (n : Int) : Prop := ∃ d m c : Int, H b = some (.lst [.int d, .int m, .int c]) ∧ 0 ≤ d ∧ 0 ≤ m ∧ m < 2147483648 ∧ 0 ≤ c ∧ c ≤ n
theorem BoxAt.mono {H : Hp} {b : Addr} {n k : Int} (x : BoxAt H b n) (h : n ≤ k) : BoxAt H b k := by
  obtain ⟨d, m, c, e, h1, h2, h3, h4, h5⟩ := x
  exact ⟨d, m, c, e, h1, h2, h3, h4, by omega⟩
theorem BoxAt.same {H H' : Hp} {b : Addr} {n : Int} (x : BoxAt H b n) (s : Same H H') : BoxAt H' b n := by
  obtain ⟨d, m, c, e, r⟩ := x
  exact ⟨d, m, c, s _ _ e, r⟩
theorem BoxAt.keep {H H' : Hp} {a b : Addr} {n : Int} (x : BoxAt H b n) (s : KeepBut a H H') (h : b ≠ a) : BoxAt H' b n := by
  obtain ⟨d, m, c, e, r⟩ := x
  exact ⟨d, m, c, s _ _ e h, r⟩
theorem BoxAt.mut_ {H : Hp} {b : Addr} {n : Int} (x : BoxAt H b n) : Mut (H b) := by
  obtain ⟨d, m, c, e, _⟩ := x
  exact mut_lst e
theorem BoxAt.some_ {H : Hp} {b : Addr} {n : Int} (x : BoxAt H b n) : ∃ o, H b = some o := by
  obtain ⟨d, m, c, e, _⟩ := x
  exact ⟨_, e⟩
/-- a new thing is no box -/
theorem BoxAt.ne {H : Hp} {a b : Addr} {n : Int} (x : BoxAt H b n) (h : H a = none) : a ≠ b := by
  obtain ⟨d, m, c, e, _⟩ := x
  exact (ne_of_none e h).symm
/-- a list that doesn't begin with a number is no box -/
theorem BoxAt.ne_lst {H : Hp} {a b : Addr} {n : Int} {v : V} {xs : List V} (x : BoxAt H b n) (h : H a = some (.lst (v :: xs))) (hv : ∀ z, v ≠ .int z) : a ≠ b := by
  obtain ⟨d, m, c, e, _⟩ := x
  refine ne_of h e fun z => ?_
  injection z with z
  injection z with z1 z2
  exact hv d z1
theorem tup_keep {K : PySem.W.Frag} {H H' : Hp} {a b : Addr} {xs : List V} (k : KeepBut b H H') (m : Mut (H b)) (h : SqT K H a xs) : SqT K H' a xs := by
  have ne : ∀ {u : HO}, H a = some u → ¬ Mut (some u) → a ≠ b := fun e nm q => by
    subst q
    rw [e] at m
    exact nm m
  rcases h with (h | ⟨ob, h⟩) | h
  · exact .inl (.inl (k _ _ h (ne h fun z => z)))
  · exact .inl (.inr ⟨ob, k _ _ h (ne h fun z => z)⟩)
  · exact .inr h
theorem gang_keep {K : PySem.W.Frag} {H H' : Hp} {b : Addr} {g : Gang} (k : KeepBut b H H') (m : Mut (H b)) (h : GangAt K H g) : GangAt K H' g := ⟨tup_keep k m h.1, tup_keep k m h.2⟩
theorem row_keep {K : PySem.W.Frag} {H H' : Hp} {b : Addr} {r : Row} (k : KeepBut b H H') (m : Mut (H b)) (h : RowAt K H r) : RowAt K H' r := ⟨tup_keep k m h.1, gang_keep k m h.2⟩
def spBox (K : PySem.W.Frag) : Sp := fun vs H Q _ => ∃ (a : Addr) (ns : List Int) (k : Nat), vs = [.ref a, .int k] ∧ SqL K H a (ns.map V.int) ∧ ns.length ≤ 63 ∧ k ≤ 100 ∧ ∀ (p : Addr) (H' : Hp), Same H H' → H p = none → BoxAt H' p 0 → Q (.ref p) H'
def spTake (K : PySem.W.Frag) : Sp := fun vs H Q _ => ∃ (b : Addr) (many n : Int), vs = [.ref b, .int many] ∧ 1 ≤ many ∧ many ≤ 10000000000000000 ∧ BoxAt H b n ∧ n ≤ 1000000 ∧ ∀ (v : Int) (H' : Hp), KeepBut b H H' → BoxAt H' b (n + 1) → 0 ≤ v → v < many → Q (.int v) H'
theorem scBox : FnScope ["_law_script", "_law_k", "_law_cell", "_law_digits"] ["_law_script", "_law_k"] (defScope sBox) := ⟨rfl, rfl, rfl, by decide +kernel, rfl, by decide +kernel, by decide +kernel⟩
theorem scTake : FnScope ["_law_box_here", "_law_many", "_law_found", "_law_once"] ["_law_box_here", "_law_many"] (defScope sTake) := ⟨rfl, rfl, rfl, by decide +kernel, rfl, by decide +kernel, by decide +kernel⟩
section
variable {P : Program} {w : World} {K : PySem.W.Frag} {mg : Str → Option Value} {base : Heap}
theorem ok_box {f : Addr} {fd : FuncData} (F : Fun K "_law_box" "_law_box" sBox f fd) (B : Blt mg) : FnOk P w K mg base CX0 1 f fd ["_law_script", "_law_k"] (spBox K) := by
  refine F.ok scBox (fun vs H Q E h => ?_) (fun cdv A outer s H vs Q E hr h => ?_)
  · obtain ⟨a, ns, k, rfl, _⟩ := h
    rfl
  · obtain ⟨a, ns, k, rfl, hS, hz, hk, q⟩ := h
    refine ⟨_, pss_cons (ps_set (i := 2) scBox.nd rfl (Or.inl rfl) pe_int)
      (pss_cons (ps_if (pt_cmpR op_lt (pv 1) (pe_callB call_len_seq (by rfl) B.len PySem.boot_len (pa_cons (pv 0) pa_nil)) (nomark _)) (pss_one (ps_set (i := 2) scBox.nd rfl (Or.inl rfl) (pe_ix (ixL K rfl) (pv 0) (pv 1) (fun _ _ => rfl)))) pss_nil)
      (pss_cons (ps_set (i := 3) scBox.nd rfl (Or.inl rfl) pe_int)
      (pss_cons (ps_if (pt_cmpR op_ge (pe_callB call_abs (by rfl) B.abs (by decide +kernel) (pa_cons (pv 2) pa_nil)) (pe_op op_pow pe_int pe_int) (nomark _)) (pss_one (ps_set (i := 3) scBox.nd rfl (Or.inl rfl) (pe_callB call_abs (by rfl) B.abs (by decide +kernel) (pa_cons (pv 2) pa_nil)))) pss_nil)
      (pss_one (ps_ret (pe_lst (pa_cons (pv 3) (pa_cons (pe_op op_mod (pe_op op_mul (pe_op op_add (pe_op op_add (pe_op op_mod (pv 2) pe_int) (pe_op op_mul pe_int (pv 1))) pe_int) pe_int) pe_int) (pa_cons pe_int pa_nil))))))))), ?_⟩
    refine ⟨_, rfl, _, rfl, a, _, rfl, .inl hS, _, _, rfl, rfl, _, rfl, ?_⟩
    refine ite2 (fun c => ?x1) (fun c => ?x2)
    case' x1 =>
      have lt : k < ns.length := by
        have c := of_decide_eq_true c
        rw [List.length_map] at c
        omega
      refine ⟨_, rfl, _, rfl, a, _, k, .int ns[k], rfl, rfl, hS, atI_nat (j := k) (by rw [List.getElem?_map, List.getElem?_eq_getElem lt]; rfl), ?_⟩
    -- abs(cell) >= 10 ** 18
    all_goals
      refine ⟨_, rfl, _, rfl, _, _, rfl, rfl, ⟨by decide, by decide, by decide⟩, _, _, rfl, rfl, _, rfl, ?_⟩
      refine ite2 (fun c2 => ?_) (fun c2 => ?_)
    all_goals
      first
        | refine ⟨_, rfl, _, rfl, _, _, rfl, rfl, (by show (0 : Int) < 2147483647; decide), _, rfl, _, _, rfl, rfl, .inl ⟨by decide, by decide⟩, _, _, rfl, rfl, _, _, rfl, rfl, _, _, rfl, rfl, .inr ⟨by decide, by decide⟩, _, _, rfl, rfl, (by show (0 : Int) < 2147483629; decide), ?_⟩
        | (refine ⟨_, rfl, _, rfl, ?_⟩
           refine ⟨_, rfl, _, rfl, _, _, rfl, rfl, (by show (0 : Int) < 2147483647; decide), _, rfl, _, _, rfl, rfl, .inl ⟨by decide, by decide⟩, _, _, rfl, rfl, _, _, rfl, rfl, _, _, rfl, rfl, .inr ⟨by decide, by decide⟩, _, _, rfl, rfl, (by show (0 : Int) < 2147483629; decide), ?_⟩)
      refine ⟨by show 3 ≤ sizeLine; decide, fun p hp => ?_⟩
      refine q p _ (same_new hp) hp ⟨_, _, 0, upd_same, ?_, Int.emod_nonneg _ (by decide), Int.lt_trans (Int.emod_lt_of_pos _ (by decide)) (by decide), Int.le_refl _, Int.le_refl _⟩
      first
        | exact Int.le_refl _
        | (split <;> omega)
theorem ok_take {f : Addr} {fd : FuncData} (F : Fun K "_law_take" "_law_take" sTake f fd) : FnOk P w K mg base CX0 1 f fd ["_law_box_here", "_law_many"] (spTake K) := by
  refine F.ok scTake (fun vs H Q E h => ?_) (fun cdv A outer s H vs Q E hr h => ?_)
  · obtain ⟨b, many, n, rfl, _⟩ := h
    rfl
  · obtain ⟨b, many, n, rfl, h1, h2, hb, hn, k⟩ := h
    refine ⟨_, pss_cons (ps_if (pt_cmpR op_gt (pe_ix (ixL K rfl) (pv 0) pe_int (fun _ _ => rfl)) pe_int (nomark _))
        (pss_cons (ps_set (i := 2) scTake.nd rfl (Or.inl rfl) (pe_op op_mod (pe_ix (ixL K rfl) (pv 0) pe_int (fun _ _ => rfl)) (pv 1)))
        (pss_cons (ps_asg (pe_op op_fdivW (pe_ix (ixL K rfl) (pv 0) pe_int (fun _ _ => rfl)) (pv 1)) (pg_sub (pv 0) pe_int set_list))
        (pss_one (ps_ret (pv 2))))) pss_nil)
      (pss_cons (ps_asg (pe_op op_add (pe_ix (ixL K rfl) (pv 0) pe_int (fun _ _ => rfl)) pe_int) (pg_sub (pv 0) pe_int set_list))
      (pss_cons (ps_set (i := 3) scTake.nd rfl (Or.inl rfl) (pe_op op_mod (pe_op op_mul (pe_op op_add (pe_ix (ixL K rfl) (pv 0) pe_int (fun _ _ => rfl)) (pe_op op_mul pe_int (pe_ix (ixL K rfl) (pv 0) pe_int (fun _ _ => rfl)))) (pe_op op_add pe_int (pe_ix (ixL K rfl) (pv 0) pe_int (fun _ _ => rfl)))) pe_int))
      (pss_cons (ps_asg (pe_op op_mod (pe_op op_add (pe_op op_mul (pv 3) (pe_op op_add (pe_op op_mod (pv 3) pe_int) pe_int)) (pe_ix (ixL K rfl) (pv 0) pe_int (fun _ _ => rfl))) pe_int) (pg_sub (pv 0) pe_int set_list))
      (pss_one (ps_ret (pe_op op_mod (pe_op op_fdiv (pe_op op_mod (pe_op op_mul (pe_ix (ixL K rfl) (pv 0) pe_int (fun _ _ => rfl)) (pe_op op_add (pe_op op_mod (pe_ix (ixL K rfl) (pv 0) pe_int (fun _ _ => rfl)) pe_int) pe_int)) pe_int) pe_int) (pv 1))))))), ?_⟩
    obtain ⟨d, m, c, e, d0, m0, m1, c0, c1⟩ := hb
    have n1 : many.natAbs < 2 ^ 60 := by omega
    refine ⟨_, rfl, b, _, 0, .int d, rfl, rfl, SqL.of e, atI_nat (j := 0) rfl, _, _, rfl, rfl, _, rfl, ?_⟩
    refine ite2 (fun _ => ?_) (fun _ => ?_)
    · refine ⟨_, rfl, b, _, 0, .int d, rfl, rfl, SqL.of e, atI_nat (j := 0) rfl, _, rfl, _, _, rfl, rfl, (by show (0 : Int) < many; omega), ?_⟩
      refine ⟨_, rfl, b, _, 0, .int d, rfl, rfl, SqL.of e, atI_nat (j := 0) rfl, _, rfl, _, _, rfl, rfl, wide_div (by omega) n1 (by decide) (by decide), ?_⟩
      refine ⟨_, rfl, b, _, 0, 0, rfl, rfl, e, rfl, ?_⟩
      refine ⟨_, rfl, k _ _ (KeepBut.refl b H).upd ⟨d / many, m, _, upd_same, Int.ediv_nonneg d0 (by omega), m0, m1, c0, by omega⟩ (Int.emod_nonneg _ (by omega)) (Int.emod_lt_of_pos _ (by omega))⟩
    · -- box[2] = box[2] + 1
      refine ⟨_, rfl, b, _, 2, .int _, rfl, rfl, SqL.of e, atI_nat (j := 2) rfl, _, _, rfl, rfl, ?_⟩
      refine ⟨_, rfl, b, _, 2, 2, rfl, rfl, e, rfl, ?_⟩
      -- once
      have g0 : 0 ≤ c + 1 := by omega
      have g1 : c + 1 ≤ 1000001 := by omega
      refine ⟨_, rfl, b, _, 1, .int m, rfl, rfl, SqL.of upd_same, atI_nat (j := 1) rfl, _, rfl, b, _, 2, .int (c + 1), rfl, rfl, SqL.of upd_same, atI_nat (j := 2) rfl, _, _, rfl, rfl, .inl ⟨by decide, by decide⟩, _, _, rfl, rfl, ?_⟩
      refine ⟨_, rfl, b, _, 2, .int (c + 1), rfl, rfl, SqL.of upd_same, atI_nat (j := 2) rfl, _, _, rfl, rfl, _, _, rfl, rfl, .inl ⟨by omega, by omega⟩, _, _, rfl, rfl, (by show (0 : Int) < 2147483647; decide), ?_⟩
      dsimp only
      generalize ho : (m + 39373 * (c + 1)) * (48271 + (c + 1)) % 2147483647 = o
      have o0 : 0 ≤ o := by rw [← ho]; exact Int.emod_nonneg _ (by decide)
      have o1 : o < 2147483647 := by rw [← ho]; exact Int.emod_lt_of_pos _ (by decide)
      -- box[1] = ..
      refine ⟨_, rfl, _, rfl, _, _, rfl, rfl, (by show (0 : Int) < 40009; decide), _, _, rfl, rfl, _, _, rfl, rfl, .inl ⟨by omega, by omega⟩, _, rfl, b, _, 2, .int (c + 1), rfl, rfl, SqL.of upd_same, atI_nat (j := 2) rfl, _, _, rfl, rfl, _, _, rfl, rfl, (by show (0 : Int) < 2147483629; decide), ?_⟩
      refine ⟨_, rfl, b, _, 1, 1, rfl, rfl, upd_same, rfl, ?_⟩
      dsimp only
      generalize hm : (o * (o % 40009 + 7) + (c + 1)) % 2147483629 = m'
      have r0 : 0 ≤ m' := by rw [← hm]; exact Int.emod_nonneg _ (by decide)
      have r1 : m' < 2147483629 := by rw [← hm]; exact Int.emod_lt_of_pos _ (by decide)
      -- what is told
      refine ⟨_, rfl, b, _, 1, .int m', rfl, rfl, SqL.of upd_same, atI_nat (j := 1) rfl, _, rfl, b, _, 1, .int m', rfl, rfl, SqL.of upd_same, atI_nat (j := 1) rfl, _, _, rfl, rfl, (by show (0 : Int) < 1009; decide), _, _, rfl, rfl, _, _, rfl, rfl, .inl ⟨by omega, by omega⟩, _, _, rfl, rfl, (by show (0 : Int) < 998244353; decide), _, _, rfl, rfl, ⟨by decide, by decide⟩, _, rfl, _, _, rfl, rfl, (by show (0 : Int) < many; omega), ?_⟩
      exact k _ _ (KeepBut.refl b H).upd.upd ⟨d, m', c + 1, upd_same, d0, r0, by omega, g0, by omega⟩ (Int.emod_nonneg _ (by omega)) (Int.emod_lt_of_pos _ (by omega))
end
end Ch

/-! A gang, a guild's due, drawn from a box. -/
namespace Ch
open PySem PySem.Spec PyProof.Rows L2
theorem keep_new {a p : Addr} {H : Hp} {o : HO} (h : H p = none) : KeepBut a H (upd H p o) := fun b u e _ => same_new h _ _ e
/-- [.. for k in range(n)], each a number drawn from the box at b -/
theorem lc_draw {b : Addr} {n0 lo : Int} {n : Nat} (Pv : Int → Prop) {g : TG} {te : TE} {vs : List Nat} {σ : L2.St} {H1 : Hp} {D : Addr} {Qd : Hp → Prop} (hD : H1 D = none) (hn : n ≤ 1000) (hb : BoxAt H1 b n0)
    (hs : ∀ (i : Nat) H (N : VK) (S : Hp → Prop), i < n → BoxAt H b (n0 + i) → KeepBut b H1 H → (∀ (v : Int) H4, KeepBut b H H4 → BoxAt H4 b (n0 + i + 1) → Pv v → N (.int v) H4) →
      g (.int (lo + i)) (wipe σ vs) H fun σ2 H2 => wipe σ2 vs = wipe σ vs ∧ tYes σ2 H2 fun y H3 => if y = true then te σ2 H3 N else S H3)
    (hd : ∀ H (xs : List Int), KeepBut b H1 H → BoxAt H b (n0 + n) → xs.length = n → (∀ x ∈ xs, Pv x) → H D = some (.lst (intV xs)) → Qd H) :
    ∃ W : Nat → Nat → Hp → Prop, (∃ m, W 0 m (upd H1 D (.lst []))) ∧ ∀ i m H, W i m H →
      ((Itr lo n).stop i H ∧ Qd H) ∨ ((Itr lo n).go i H ∧ ∃ Nx : Hp → Prop, (∀ H', Nx H' → ∃ m', m' < m ∧ W (i + 1) m' H') ∧ ∀ x H', (Itr lo n).yld i H x H' → g x (wipe σ vs) H' fun σ2 H2 => wipe σ2 vs = wipe σ vs ∧ tYes σ2 H2 fun y H3 =>
        if y = true then te σ2 H3 fun y H4 => ∃ acc, H4 D = some (.lst acc) ∧ acc.length < sizeLine ∧ Nx (upd H4 D (.lst (acc ++ [y]))) else Nx H3) := by
  have nb : D ≠ b := hb.ne hD
  refine lc_it walk_range (fun i H => KeepBut b H1 H ∧ BoxAt H b (n0 + i) ∧ ∃ xs : List Int, H D = some (.lst (intV xs)) ∧ xs.length = i ∧ ∀ x ∈ xs, Pv x)
    ⟨keep_new hD, (hb.same (same_new hD)).mono (by omega), [], upd_same, rfl, fun x hx => by (cases hx)⟩ (fun _ _ _ _ => trivial) (fun i x H H' hi p y => ?_) fun H ⟨k, q, xs, e, l, a⟩ => hd H xs k q l a e
  obtain ⟨rfl, rfl⟩ := y
  obtain ⟨k, q, xs, e, l, a⟩ := p
  refine hs i H' _ _ hi q k fun v H4 k4 q4 pv => ?_
  refine ⟨_, k4 _ _ e nb, ?_, fun c u ec hc => ?_, ?_, xs ++ [v], ?_, ?_, ?_⟩
  · unfold intV
    rw [List.length_map, l]
    exact len1000 (by omega)
  · rw [upd_ne (ne_of_none ec hD)]
    exact k4 _ _ (k _ _ ec hc) hc
  · obtain ⟨d, m, z, eb, r⟩ := q4
    refine ⟨d, m, z, by rw [upd_ne nb.symm]; exact eb, ?_⟩
    have : n0 + ((i + 1 : Nat) : Int) = n0 + i + 1 := by omega
    rw [this]
    exact r
  · rw [upd_same]
    unfold intV
    rw [List.map_append]
    rfl
  · rw [List.length_append, l]
    rfl
  · intro x hx
    rcases List.mem_append.mp hx with hx | hx
    · exact a x hx
    · rw [List.mem_singleton.mp hx]
      exact pv
/-- some item of a list, by a drawn place -/
theorem at_some {xs : List V} {i : Int} (h0 : 0 ≤ i) (h1 : i < (xs.length : Nat)) : ∃ v ∈ xs, atI xs i = some v := by
  have lt : i.toNat < xs.length := by omega
  refine ⟨xs[i.toNat], List.getElem_mem lt, ?_⟩
  have e : ((i.toNat : Nat) : Int) = i := by omega
  have q := atI_nat (List.getElem?_eq_getElem lt)
  rw [e] at q
  exact q
theorem KeepBut.fresh {a p : Addr} {H H1 : Hp} {o : HO} (k : KeepBut a H H1) (h : H p = none) : KeepBut a H (L2.upd H1 p o) := fun b u e hb => by
  rw [upd_ne (ne_of_none e h)]
  exact k b u e hb
theorem KeepBut.free {a p : Addr} {H H1 : Hp} (k : KeepBut a H H1) (h : H1 p = none) (hp : p ≠ a) : H p = none := by
  cases e : H p with
  | none => rfl
  | some o =>
    have := k _ _ e hp
    rw [h] at this
    cases this
def spGang (K : PySem.W.Frag) : Sp := fun vs H Q _ => ∃ (b ga : Addr) (name : Str) (gs : List Str) (wares : Nat) (wide n : Int), vs = [.ref b, .str name, .ref ga, .int wares, .int wide] ∧ BoxAt H b n ∧ n ≤ 100000 ∧ H ga = some (.lst (strV gs)) ∧ 0 < gs.length ∧ gs.length ≤ 100 ∧ 1 ≤ wares ∧ wares ≤ 8 ∧ 1 ≤ wide ∧ wide ≤ 1000000000000 ∧
  ∀ (g : Gang) (H' : Hp), KeepBut b H H' → BoxAt H' b (n + 30) → GangAt K H' g → H g.a = none → g.name = name → g.guild ∈ gs → WantOk wares g → Mul64 g.want → -(2 ^ 64) < g.many → g.many < 2 ^ 64 → PyData.strOk g.how = true → Q (.ref g.a) H'
def spDue (K : PySem.W.Frag) : Sp := fun vs H Q _ => ∃ (b : Addr) (wares : Nat) (wide n : Int), vs = [.ref b, .int wares, .int wide] ∧ BoxAt H b n ∧ n ≤ 100000 ∧ 1 ≤ wares ∧ wares ≤ 8 ∧ 1 ≤ wide ∧ wide ≤ 1000000000000 ∧
  ∀ (p : Addr) (due : List Int) (H' : Hp), KeepBut b H H' → BoxAt H' b (n + 20) → SqT K H' p (intV due) → due.length = wares → Q (.ref p) H'
theorem scGang : FnScope ["_law_box_here", "_law_name", "_law_guilds", "_law_wares", "_law_wide", "_law_want", "_law_many", "_law_rank", "_law_how", "_law_k"] ["_law_box_here", "_law_name", "_law_guilds", "_law_wares", "_law_wide"] (defScope sGang) := ⟨rfl, rfl, rfl, by decide +kernel, rfl, by decide +kernel, by decide +kernel⟩
theorem scDue : FnScope ["_law_box_here", "_law_wares", "_law_wide", "_law_much", "_law_due_here", "_law_k"] ["_law_box_here", "_law_wares", "_law_wide"] (defScope sDue) := ⟨rfl, rfl, rfl, by decide +kernel, rfl, by decide +kernel, by decide +kernel⟩
/-- the cells' defs, as they promise -/
structure BxEnv (P : Program) (w : World) (K : PySem.W.Frag) (mg : Str → Option Value) (base : Heap) : Prop where
  take : ∃ f fd, FnOk P w K mg base CX0 1 f fd ["_law_box_here", "_law_many"] (spTake K) ∧ Binds K fd ["_law_box_here", "_law_many"] [] ∧ mg "_law_take" = some (.ref f) ∧ PySem.W.keepIn K (.ref f) = true
section
variable {P : Program} {w : World} {K : PySem.W.Frag} {mg : Str → Option Value} {base : Heap}
theorem ok_due {f : Addr} {fd : FuncData} (F : Fun K "_law_due" "_law_due" sDue f fd) (B : Blt mg) (X : BxEnv P w K mg base) : FnOk P w K mg base CX0 2 f fd ["_law_box_here", "_law_wares", "_law_wide"] (spDue K) := by
  obtain ⟨fT, fdT, GT, bT, mT, kT⟩ := X.take
  refine F.ok scDue (fun vs H Q E h => ?_) (fun cdv A outer s H vs Q E hr h => ?_)
  · obtain ⟨b, wares, wide, n, rfl, _⟩ := h
    rfl
  · obtain ⟨b, wares, wide, n, rfl, hb, hn, w1, w2, v1, v2, k⟩ := h
    refine ⟨_, pss_cons (ps_set (i := 3) scDue.nd rfl (Or.inr rfl) (pe_op op_mul (pe_ix (ixL K rfl) (pe_lst (pa_cons pe_int (pa_cons pe_int (pa_cons pe_int (pa_cons pe_int (pa_cons pe_int pa_nil)))))) (pe_call GT hr (by rfl) mT kT bT .nil pass0 (pa_cons (pv 0) (pa_cons pe_int pa_nil))) (fun _ _ => rfl)) (pv 2)))
      (pss_cons (ps_setLc (i := 4) (own := [("_law_k", 5)]) (g := gName 5) (tt := tYes) rfl scDue.nd rfl rfl (sw_true rfl rfl rfl (by decide +kernel)) (pi_range1 rfl B.range (pa_cons (pv 1) pa_nil)) (blkOk_by (N := ["_law_box_here", "_law_wares", "_law_wide", "_law_much", "_law_due_here", "_law_k"]) (sc := defScope sDue) (by decide +kernel))
        (fun _ _ _ _ _ => pg_name (i := 5) scDue.nd rfl (Or.inl rfl)) (fun _ _ _ _ _ => pts_nil)
        (fun _ _ _ _ _ => pe_callB (call_min2 rfl) (by rfl) B.min (by decide +kernel) (pa_cons (pe_op op_pow pe_int pe_int) (pa_cons (pe_op op_add (pe_op op_fdiv (pv 3) pe_int) (pe_call GT hr (by rfl) mT kT bT .nil pass0 (pa_cons (pv 0) (pa_cons (pe_op op_add (pv 3) pe_int) pa_nil)))) pa_nil))))
      (pss_cons (ps_if (pt_cmpR op_eq (pe_call GT hr (by rfl) mT kT bT .nil pass0 (pa_cons (pv 0) (pa_cons pe_int pa_nil))) pe_int (nomark _)) (pss_one (ps_asg pe_int (pg_sub (pv 4) (pe_call GT hr (by rfl) mT kT bT .nil pass0 (pa_cons (pv 0) (pa_cons (pv 1) pa_nil))) set_list))) pss_nil)
      (pss_one (ps_ret (pe_callTy call_tuple_of (by rfl) B.tuple (by decide +kernel) (pa_cons (pv 4) pa_nil)))))), ?_⟩
    -- much
    have hbm := hb.mut_
    refine ⟨by show 5 ≤ sizeLine; decide, fun l hl => ?_⟩
    have nl := hb.ne hl
    refine ⟨_, rfl, b, 5, n, rfl, by decide, by decide, hb.same (same_new hl), by omega, fun v H1 k1 b1 v0 v1 => ?_⟩
    have K1 : KeepBut b H H1 := (keep_new hl).trans k1
    have l1 : H1 l = some (.lst [.int 0, .int 2, .int 8, .int 40, .int 300]) := k1 _ _ upd_same nl
    obtain ⟨y, hy, ay⟩ := at_some (xs := [V.int 0, .int 2, .int 8, .int 40, .int 300]) v0 v1
    obtain ⟨z, rfl, z0, z1⟩ : ∃ z : Int, y = .int z ∧ 0 ≤ z ∧ z ≤ 300 := by
      simp only [List.mem_cons, List.not_mem_nil, or_false] at hy
      rcases hy with h | h | h | h | h
      · exact ⟨0, h, by decide, by decide⟩
      · exact ⟨2, h, by decide, by decide⟩
      · exact ⟨8, h, by decide, by decide⟩
      · exact ⟨40, h, by decide, by decide⟩
      · exact ⟨300, h, by decide, by decide⟩
    refine ⟨l, _, v, .int z, rfl, rfl, SqL.of l1, ay, _, rfl, z, wide, rfl, rfl, .inl ⟨by omega, by omega⟩, ?_⟩
    have m0 : 0 ≤ z * wide := Int.mul_nonneg z0 (by omega)
    have m1 : z * wide ≤ 300 * 1000000000000 := Int.le_trans (Int.mul_le_mul_of_nonneg_right z1 (by omega)) (Int.mul_le_mul_of_nonneg_left v2 (by decide))
    -- the amounts
    refine ⟨_, rfl, wares, rfl, by omega, by omega, fun D hD => ?_⟩
    refine lc_draw (b := b) (n0 := n + 1) (n := wares) (fun _ => True) hD (by omega) b1 (fun i H2 N S hi hb2 kb hN => ?_) fun H2 xs k2 b2 xl _ e2 => ?_
    · refine ⟨rfl, yesT ⟨_, _, rfl, rfl, ⟨by decide, by decide, by decide⟩, _, rfl, _, _, rfl, rfl, ⟨by decide, by decide⟩, _, rfl, _, rfl, _, _, rfl, rfl, ?_⟩⟩
      refine ⟨b, z * wide + 1, n + 1 + i, rfl, by omega, by omega, hb2, by omega, fun u H3 k3 b3 u0 u1 => ?_⟩
      refine ⟨_, _, rfl, rfl, _, _, rfl, ?_⟩
      exact hN _ H3 k3 b3 trivial
    · have K2 : KeepBut b H H2 := K1.trans k2
      have D0 : H D = none := K1.free hD (b1.ne hD)
      have nD := b1.ne hD
      -- if take(box, 8) == 0
      refine ⟨_, rfl, b, 8, _, rfl, by decide, by decide, b2, by omega, fun u H3 k3 b3 u0 u1 => ?_⟩
      have K3 : KeepBut b H H3 := K2.trans k3
      have e3 : H3 D = some (.lst (intV xs)) := k3 _ _ e2 nD
      refine ⟨rfl, _, rfl, ?_⟩
      refine ite2 (fun c => ?_) (fun c => ?_)
      · refine ⟨_, rfl, _, rfl, _, rfl, b, wares, _, rfl, by omega, by omega, b3, by omega, fun j H4 k4 b4 j0 j1 => ?_⟩
        have e4 : H4 D = some (.lst (intV xs)) := k4 _ _ e3 nD
        refine ⟨D, _, j, j.toNat, rfl, rfl, e4, ?_, ?_⟩
        · unfold ixN intV
          rw [List.length_map, xl, if_pos j0, if_pos j1]
        · refine ⟨_, rfl, D, _, rfl, .inl ⟨SqL.of upd_same, fun p hp => ?_⟩⟩
          have es : (intV xs).set j.toNat (.int 0) = intV (xs.set j.toNat 0) := by
            unfold intV
            rw [List.map_set]
          have pD : p ≠ D := fun z => by
            rw [z, upd_same] at hp
            cases hp
          rw [upd_ne pD] at hp
          have K5 := ((K3.trans k4).fresh (o := .lst ((intV xs).set j.toNat (.int 0))) D0)
          refine k p (xs.set j.toNat 0) _ (K5.fresh ((K3.trans k4).free hp (b4.ne hp))) ?_ ?_ ?_
          · have b5 : BoxAt (upd H4 D (.lst ((intV xs).set j.toNat (.int 0)))) b _ := b4.keep ((KeepBut.refl D H4).upd) nD.symm
            exact (b5.same (same_new (by rw [upd_ne pD]; exact hp))).mono (by omega)
          · rw [es]
            exact .inl (.inl upd_same)
          · rw [List.length_set]
            exact xl
      · refine ⟨_, rfl, D, _, rfl, .inl ⟨SqL.of e3, fun p hp => ?_⟩⟩
        exact k p xs _ (K3.trans (keep_new hp)) ((b3.same (same_new hp)).mono (by omega)) (.inl (.inl upd_same)) xl
end
end Ch

/-! A gang drawn from a box. -/
namespace Ch
open PySem PySem.Spec PyProof.Rows L2
theorem cut_last (xs : List V) (h : 0 < xs.length) : cutV xs none (some (-1)) = xs.dropLast := by
  unfold cutV HT.sIx
  show (xs.drop 0).take ((if (-1 : Int) < 0 then ((-1 : Int) + (xs.length : Nat)).toNat else min (-1 : Int).toNat xs.length) - 0) = xs.dropLast
  rw [if_pos (by decide), List.drop_zero, List.dropLast_eq_take]
  congr 1
  omega
theorem not_whole {n : Nat} (h : 0 < n) : ¬ (HT.sIx n 0 none = 0 ∧ HT.sIx n n (some (-1)) = n) := by
  rintro ⟨_, z⟩
  have z : (if (-1 : Int) < 0 then ((-1 : Int) + (n : Nat)).toNat else min (-1 : Int).toNat n) = n := z
  rw [if_pos (by decide)] at z
  omega
theorem intV_dropLast (xs : List Int) : (intV xs).dropLast = intV xs.dropLast := by
  unfold intV
  exact (List.map_dropLast).symm
section
variable {P : Program} {w : World} {K : PySem.W.Frag} {mg : Str → Option Value} {base : Heap}
theorem ok_gang {f : Addr} {fd : FuncData} (F : Fun K "_law_gang" "_law_gang" sGang f fd) (B : Blt mg) (X : BxEnv P w K mg base) : FnOk P w K mg base CX0 2 f fd ["_law_box_here", "_law_name", "_law_guilds", "_law_wares", "_law_wide"] (spGang K) := by
  obtain ⟨fT, fdT, GT, bT, mT, kT⟩ := X.take
  refine F.ok scGang (fun vs H Q E h => ?_) (fun cdv A outer s H vs Q E hr h => ?_)
  · obtain ⟨b, ga, name, gs, wares, wide, n, rfl, _⟩ := h
    rfl
  · obtain ⟨b, ga, name, gs, wares, wide, n, rfl, hb, hn, hg, g0, g1, w1, w2, v1, v2, k⟩ := h
    refine ⟨_, pss_cons (ps_set (i := 5) scGang.nd rfl (Or.inl rfl) (pe_callTy call_tuple_of (by rfl) B.tuple (by decide +kernel) (pa_cons
        (pe_lc (own := [("_law_k", 9)]) (g := gName 9) (tt := tYes) rfl scGang.nd (pi_range1 rfl B.range (pa_cons (pv 3) pa_nil)) (blkOk_by (N := ["_law_box_here", "_law_name", "_law_guilds", "_law_wares", "_law_wide", "_law_want", "_law_many", "_law_rank", "_law_how", "_law_k"]) (sc := defScope sGang) (by decide +kernel))
          (fun _ _ _ _ _ => pg_name (i := 9) scGang.nd rfl (Or.inl rfl)) (fun _ _ _ _ _ => pts_nil) (fun _ _ _ _ _ => pe_call GT hr (by rfl) mT kT bT .nil pass0 (pa_cons (pv 0) (pa_cons (pe_op op_add (pv 4) pe_int) pa_nil)))) pa_nil)))
      (pss_cons (ps_if (pt_cmpR op_eq (pe_callB (cr_maxT rfl (hu_of hr)) (by rfl) B.max (by decide +kernel) (pa_cons (pv 5) pa_nil)) pe_int (nomark _))
        (pss_one (ps_set (i := 5) scGang.nd rfl (Or.inl rfl) (pe_op op_catA (pe_slice sl_tupA (pv 5) po_none (po_some (pe_un un_neg pe_int))) (pe_tup (pa_cons (pe_op op_add pe_int (pe_call GT hr (by rfl) mT kT bT .nil pass0 (pa_cons (pv 0) (pa_cons (pv 4) pa_nil)))) pa_nil))))) pss_nil)
      (pss_cons (ps_set (i := 6) scGang.nd rfl (Or.inl rfl) (pe_ix (ixL K rfl) (pe_lst (pa_cons pe_int (pa_cons (pe_op op_add pe_int (pe_call GT hr (by rfl) mT kT bT .nil pass0 (pa_cons (pv 0) (pa_cons pe_int pa_nil)))) (pa_cons (pe_op op_add pe_int (pe_call GT hr (by rfl) mT kT bT .nil pass0 (pa_cons (pv 0) (pa_cons pe_int pa_nil)))) pa_nil))))
          (pe_call GT hr (by rfl) mT kT bT .nil pass0 (pa_cons (pv 0) (pa_cons pe_int pa_nil))) (fun _ _ => rfl)))
      (pss_cons (ps_set (i := 7) scGang.nd rfl (Or.inl rfl) (pe_ix (ixL K rfl) (pe_lst (pa_cons (pe_call GT hr (by rfl) mT kT bT .nil pass0 (pa_cons (pv 0) (pa_cons pe_int pa_nil))) (pa_cons (pe_call GT hr (by rfl) mT kT bT .nil pass0 (pa_cons (pv 0) (pa_cons pe_int pa_nil))) pa_nil)))
          (pe_call GT hr (by rfl) mT kT bT .nil pass0 (pa_cons (pv 0) (pa_cons pe_int pa_nil))) (fun _ _ => rfl)))
      (pss_cons (ps_set (i := 8) scGang.nd rfl (Or.inl rfl) (pe_ix (ixL K rfl) (pe_lst (pa_cons pe_str (pa_cons pe_str (pa_cons pe_str (pa_cons pe_str pa_nil)))))
          (pe_call GT hr (by rfl) mT kT bT .nil pass0 (pa_cons (pv 0) (pa_cons pe_int pa_nil))) (fun _ _ => rfl)))
      (pss_one (ps_ret (pe_tup (pa_cons (pv 1) (pa_cons (pe_ix (ixL K rfl) (pv 2) (pe_call GT hr (by rfl) mT kT bT .nil pass0 (pa_cons (pv 0) (pa_cons (pe_callB call_len_seq (by rfl) B.len PySem.boot_len (pa_cons (pv 2) pa_nil)) pa_nil))) (fun _ _ => rfl))
        (pa_cons (pv 7) (pa_cons (pv 6) (pa_cons (pv 5) (pa_cons (pv 8) (pa_cons (pe_op op_add pe_int (pe_call GT hr (by rfl) mT kT bT .nil pass0 (pa_cons (pv 0) (pa_cons (pe_op op_pow pe_int pe_int) pa_nil)))) pa_nil)))))))))))))), ?_⟩
    have hbm := hb.mut_
    have hgs : (strV gs).length = gs.length := by unfold strV; rw [List.length_map]
    have ngb : ga ≠ b := by
      cases gs with
      | nil => exact absurd g0 (Nat.lt_irrefl _)
      | cons x r => exact hb.ne_lst (v := .str x) (xs := strV r) hg fun z e => by cases e
    -- want
    refine ⟨_, rfl, wares, rfl, by omega, by omega, fun D hD => ?_⟩
    refine lc_draw (b := b) (n0 := n) (n := wares) (fun x => 0 ≤ x ∧ x ≤ 1000000000000) hD (by omega) hb (fun i H2 N S hi hb2 kb hN => ?_) fun H2 xs k2 b2 xl xo e2 => ?_
    · refine ⟨rfl, yesT ⟨_, rfl, _, rfl, _, _, rfl, rfl, ?_⟩⟩
      refine ⟨b, wide + 1, n + i, rfl, by omega, by omega, hb2, by omega, fun u H3 k3 b3 u0 u1 => ?_⟩
      exact hN _ H3 k3 b3 ⟨u0, by omega⟩
    · refine ⟨D, _, rfl, .inl ⟨SqL.of e2, fun wp hp => ?_⟩⟩
      have xlen : (intV xs).length = wares := by unfold intV; rw [List.length_map, xl]
      have k3 : KeepBut b H (upd H2 wp (.tup (intV xs))) := k2.trans (keep_new hp)
      have b3 : BoxAt (upd H2 wp (.tup (intV xs))) b (n + wares) := b2.same (same_new hp)
      have t3 : SqT K (upd H2 wp (.tup (intV xs))) wp (intV xs) := .inl (.inl upd_same)
      generalize upd H2 wp (.tup (intV xs)) = H3 at k3 b3 t3
      -- if max(want) == 0
      refine ⟨_, rfl, wp, xs, rfl, t3, by omega, fun m => ⟨rfl, _, rfl, ?_⟩⟩
      refine ite2 (fun _ => ?x1) (fun _ => ?x2)
      case' x2 =>
        have b3 := b3.mono (show n + (wares : Int) ≤ n + 9 by omega)
        have xo : ∀ x ∈ xs, 0 ≤ x ∧ x ≤ 1000000000001 := fun x hx => ⟨(xo x hx).1, by have := (xo x hx).2; omega⟩
      case' x1 =>
        refine ⟨_, rfl, 1, rfl, -1, rfl, wp, _, rfl, t3, (fun z => absurd (by rw [xlen] at z; exact z) (not_whole (by omega))), fun _ q hq => ?_⟩
        have kq : KeepBut b H (upd H3 q (.tup (cutV (intV xs) none (some (-1))))) := k3.trans (keep_new hq)
        refine ⟨_, rfl, _, rfl, b, wide, _, rfl, by omega, by omega, b3.same (same_new hq), by omega, fun u H4 k4 b4 u0 u1 => ?_⟩
        have tq : SqT K H4 q (cutV (intV xs) none (some (-1))) := tup_keep k4 (b3.same (same_new hq)).mut_ (.inl (.inl upd_same))
        refine ⟨_, _, rfl, rfl, by show 1 ≤ sizeLine; decide, fun wp ht => ?_⟩
        have ec : cutV (intV xs) none (some (-1)) = intV xs.dropLast := by rw [cut_last _ (by omega), intV_dropLast]
        rw [ec] at tq
        have lc : (intV xs.dropLast).length = wares - 1 := by unfold intV; rw [List.length_map, List.length_dropLast, xl]
        have kt : KeepBut b H (upd H4 wp (.tup [.int (1 + u)])) := (kq.trans k4).trans (keep_new ht)
        have bt := (b4.same (same_new (o := .tup [.int (1 + u)]) ht)).mono (show n + (wares : Int) + 1 ≤ n + 9 by omega)
        have xo' : ∀ x ∈ xs.dropLast ++ [1 + u], 0 ≤ x ∧ x ≤ 1000000000001 := fun x hx => by
          rcases List.mem_append.mp hx with hx | hx
          · have z := xo x ((List.dropLast_sublist xs).mem hx)
            exact ⟨z.1, by omega⟩
          · rw [List.mem_singleton.mp hx]
            exact ⟨by omega, by omega⟩
        have xl' : (xs.dropLast ++ [1 + u]).length = wares := by
          rw [List.length_append, List.length_dropLast, xl, List.length_singleton]
          omega
        have tn : SqT K (upd H4 wp (.tup [.int (1 + u)])) wp [.int (1 + u)] := .inl (.inl upd_same)
        refine ⟨q, wp, intV xs.dropLast, [.int (1 + u)], rfl, rfl, same_tup (same_new ht) tq, tn, (by rw [lc]; show wares - 1 + 1 ≤ sizeLine; exact Nat.le_trans (by omega) (show 8 ≤ sizeLine by decide)), fun e0 => ?x3, fun _ z => absurd z (by simp), fun _ _ wp2 hr' => ?x4⟩
      case' x3 =>
        have e1 : intV (xs.dropLast ++ [1 + u]) = [.int (1 + u)] := by
          unfold intV at e0 ⊢
          rw [List.map_append, e0]
          rfl
        have t3 : SqT K (upd H4 wp (.tup [.int (1 + u)])) wp (intV (xs.dropLast ++ [1 + u])) := by rw [e1]; exact tn
        have k3 := kt
        have b3 := bt
        have xo := xo'
        have xl := xl'
        clear kt bt xo' xl' tn
        generalize upd H4 wp (.tup [.int (1 + u)]) = H3 at k3 b3 t3
        generalize xs.dropLast ++ [1 + u] = xs at t3 xo xl
      case' x4 =>
        have e1 : intV (xs.dropLast ++ [1 + u]) = intV xs.dropLast ++ [.int (1 + u)] := by
          unfold intV
          rw [List.map_append]
          rfl
        have t3 : SqT K (upd (upd H4 wp (.tup [.int (1 + u)])) wp2 (.tup (intV xs.dropLast ++ [.int (1 + u)]))) wp2 (intV (xs.dropLast ++ [1 + u])) := by rw [e1]; exact .inl (.inl upd_same)
        have k3 := kt.trans (keep_new (o := .tup (intV xs.dropLast ++ [.int (1 + u)])) hr')
        have b3 := bt.same (same_new (o := .tup (intV xs.dropLast ++ [.int (1 + u)])) hr')
        have xo := xo'
        have xl := xl'
        clear kt bt xo' xl' tn
        generalize upd (upd H4 wp (.tup [.int (1 + u)])) wp2 (.tup (intV xs.dropLast ++ [.int (1 + u)])) = H3 at k3 b3 t3
        generalize xs.dropLast ++ [1 + u] = xs at t3 xo xl
        clear hr' e1
        generalize wp2 = wp at t3 ⊢
      all_goals
        have ga3 : H3 ga = some (.lst (strV gs)) := k3 _ _ hg ngb
        -- many
        refine ⟨_, rfl, b, 4, _, rfl, by decide, by decide, b3, by omega, fun u1 H4 k4 b4 p0 p1 => ?_⟩
        refine ⟨_, _, rfl, rfl, _, rfl, b, 60, _, rfl, by decide, by decide, b4, by omega, fun u2 H5 k5 b5 q0 q1 => ?_⟩
        refine ⟨_, _, rfl, rfl, by show 3 ≤ sizeLine; decide, fun l hl => ?_⟩
        have nl := b5.ne hl
        refine ⟨_, rfl, b, 3, _, rfl, by decide, by decide, b5.same (same_new hl), by omega, fun u3 H6 k6 b6 r0 r1 => ?_⟩
        have l6 : H6 l = some (.lst [.int 1, .int (1 + u1), .int (1 + u2)]) := k6 _ _ upd_same nl
        obtain ⟨y, hy, ay⟩ := at_some (xs := [V.int 1, .int (1 + u1), .int (1 + u2)]) r0 r1
        obtain ⟨many, rfl, m0, m1⟩ : ∃ many : Int, y = .int many ∧ 0 ≤ many ∧ many ≤ 60 := by
          simp only [List.mem_cons, List.not_mem_nil, or_false] at hy
          rcases hy with h | h | h
          · exact ⟨1, h, by decide, by decide⟩
          · exact ⟨_, h, by omega, by omega⟩
          · exact ⟨_, h, by omega, by omega⟩
        refine ⟨l, _, u3, .int many, rfl, rfl, SqL.of l6, ay, ?_⟩
        have K6 : KeepBut b H3 H6 := ((k4.trans k5).trans (keep_new hl)).trans k6
        -- rank
        refine ⟨_, rfl, b, 3, _, rfl, by decide, by decide, b6, by omega, fun u4 H7 k7 b7 s0 s1 => ?_⟩
        refine ⟨_, rfl, b, 10, _, rfl, by decide, by decide, b7, by omega, fun u5 H8 k8 b8 s2 s3 => ?_⟩
        refine ⟨by show 2 ≤ sizeLine; decide, fun l2 hl2 => ?_⟩
        have nl2 := b8.ne hl2
        refine ⟨_, rfl, b, 2, _, rfl, by decide, by decide, b8.same (same_new hl2), by omega, fun u6 H9 k9 b9 s4 s5 => ?_⟩
        have l9 : H9 l2 = some (.lst [.int u4, .int u5]) := k9 _ _ upd_same nl2
        obtain ⟨y2, hy2, ay2⟩ := at_some (xs := [V.int u4, .int u5]) s4 s5
        obtain ⟨rank, rfl⟩ : ∃ rank : Int, y2 = .int rank := by
          simp only [List.mem_cons, List.not_mem_nil, or_false] at hy2
          rcases hy2 with h | h
          · exact ⟨_, h⟩
          · exact ⟨_, h⟩
        refine ⟨l2, _, u6, .int rank, rfl, rfl, SqL.of l9, ay2, ?_⟩
        have K9 : KeepBut b H3 H9 := K6.trans (((k7.trans k8).trans (keep_new hl2)).trans k9)
        -- how
        refine ⟨by show 4 ≤ sizeLine; decide, fun l3 hl3 => ?_⟩
        have nl3 := b9.ne hl3
        refine ⟨_, rfl, b, 4, _, rfl, by decide, by decide, b9.same (same_new hl3), by omega, fun u7 H10 k10 b10 s6 s7 => ?_⟩
        have l10 : H10 l3 = some (.lst [.str "any", .str "apart", .str "near", .str "wide"]) := k10 _ _ upd_same nl3
        obtain ⟨y3, hy3, ay3⟩ := at_some (xs := [V.str "any", .str "apart", .str "near", .str "wide"]) s6 s7
        obtain ⟨how, rfl, htx⟩ : ∃ how : Str, y3 = .str how ∧ PyData.strOk how = true := by
          simp only [List.mem_cons, List.not_mem_nil, or_false] at hy3
          rcases hy3 with h | h | h | h
          · exact ⟨_, h, by decide +kernel⟩
          · exact ⟨_, h, by decide +kernel⟩
          · exact ⟨_, h, by decide +kernel⟩
          · exact ⟨_, h, by decide +kernel⟩
        refine ⟨l3, _, u7, .str how, rfl, rfl, SqL.of l10, ay3, ?_⟩
        have K10 : KeepBut b H3 H10 := K9.trans ((keep_new hl3).trans k10)
        have ga10 : H10 ga = some (.lst (strV gs)) := K10 _ _ ga3 ngb
        -- the gang
        refine ⟨_, rfl, _, rfl, _, rfl, _, rfl, ga, _, rfl, .inl (SqL.of ga10), b, _, _, rfl, by rw [hgs]; omega, by rw [hgs]; omega, b10, by omega, fun u8 H11 k11 b11 s8 s9 => ?_⟩
        have ga11 : H11 ga = some (.lst (strV gs)) := k11 _ _ ga10 ngb
        obtain ⟨y4, hy4, ay4⟩ := at_some (xs := strV gs) s8 s9
        obtain ⟨x, hx, rfl⟩ : ∃ x ∈ gs, V.str x = y4 := List.mem_map.mp hy4
        refine ⟨ga, _, u8, .str x, rfl, rfl, SqL.of ga11, ay4, ?_⟩
        refine ⟨_, rfl, _, rfl, _, rfl, _, rfl, _, rfl, _, _, rfl, rfl, ⟨by decide, by decide, by decide⟩, b, _, _, rfl, by decide, by decide, b11, by omega, fun u9 H12 k12 b12 z0 z1 => ?_⟩
        have K12 : KeepBut b H3 H12 := (K10.trans k11).trans k12
        refine ⟨_, _, rfl, rfl, by show 7 ≤ sizeLine; decide, fun tp htp => ?_⟩
        have KF := (k3.trans K12).trans (keep_new (o := .tup [.str name, .str x, .int rank, .int many, .ref wp, .str how, .int (1 + u9)]) htp)
        refine k ⟨tp, _, name, x, rank, many, xs, how, 1 + u9⟩ _ KF ((b12.same (same_new htp)).mono (by omega)) ⟨.inl (.inl upd_same), same_tup (same_new htp) (tup_keep K12 b3.mut_ t3)⟩ ((k3.trans K12).free htp (b12.ne htp)) rfl hx ⟨xl, fun z hz => (xo z hz).1, m0⟩ (fun z hz => ?_) (by show -(2 ^ 64) < many; omega) (by show many < 2 ^ 64; omega) htx
        have := xo z hz
        constructor <;> omega
end
end Ch

/-! What stands while the dues and rows are made. -/
namespace Ch
open PySem PySem.Spec PyProof.Rows L2
/-! ### the guilds -/
def some12 : List Str := ["n", "no", "nor", "north", "s", "so", "e", "west", "westward", "ab", "a", "zz"]
theorem some12_tx : ∀ x ∈ some12, PyData.strOk x = true := by decide +kernel
theorem some12_nodup : some12.Nodup := by decide +kernel
theorem sIx_le_of {n : Nat} {t : Int} (h0 : 0 ≤ t) (d : Nat) : HT.sIx n d (some t) = min t.toNat n := by
  show (if t < 0 then (t + (n : Int)).toNat else min t.toNat n) = _
  rw [if_neg (by omega)]
theorem cut_from {xs : List V} {t : Int} (h0 : 0 ≤ t) : cutV xs (some t) none = xs.drop t.toNat := by
  unfold cutV
  rw [sIx_le_of h0]
  show (xs.drop (min t.toNat xs.length)).take (xs.length - min t.toNat xs.length) = _
  by_cases h : t.toNat ≤ xs.length
  · rw [Nat.min_eq_left h, ← List.length_drop, List.take_length]
  · rw [Nat.min_eq_right (by omega), List.drop_length, List.drop_eq_nil_of_le (by omega), List.take_nil]
theorem cut_to {xs : List V} {t : Int} (h0 : 0 ≤ t) : cutV xs none (some t) = xs.take t.toNat := by
  unfold cutV
  rw [sIx_le_of h0]
  show (xs.drop 0).take (min t.toNat xs.length - 0) = _
  rw [List.drop_zero, Nat.sub_zero, List.take_eq_take_iff]
  omega
theorem guilds_cut {t m : Int} (t0 : 0 ≤ t) (m0 : 1 ≤ m) : ∃ gs : List Str, cutV (cutV (strV some12) (some t) none ++ cutV (strV some12) none (some t)) none (some m) = strV gs ∧ gs.Nodup ∧ 0 < gs.length ∧ gs.length ≤ 12 ∧ ∀ x ∈ gs, PyData.strOk x = true := by
  refine ⟨(some12.drop t.toNat ++ some12.take t.toNat).take m.toNat, ?_, ?_, ?_, ?_, fun x hx => ?_⟩
  · rw [cut_to (by omega), cut_from t0, cut_to t0]
    unfold strV
    rw [List.map_take, List.map_append, List.map_drop, List.map_take]
  · have p : (some12.drop t.toNat ++ some12.take t.toNat).Perm some12 := List.perm_append_comm.trans (by rw [List.take_append_drop])
    exact (p.nodup_iff.mpr some12_nodup).sublist (List.take_sublist _ _)
  · have p : (some12.drop t.toNat ++ some12.take t.toNat).Perm some12 := List.perm_append_comm.trans (by rw [List.take_append_drop])
    rw [List.length_take, p.length_eq]
    show 0 < min m.toNat 12
    omega
  · have p : (some12.drop t.toNat ++ some12.take t.toNat).Perm some12 := List.perm_append_comm.trans (by rw [List.take_append_drop])
    rw [List.length_take, p.length_eq]
    show min m.toNat 12 ≤ 12
    omega
  · have p : (some12.drop t.toNat ++ some12.take t.toNat).Perm some12 := List.perm_append_comm.trans (by rw [List.take_append_drop])
    exact some12_tx x (p.mem_iff.mp (List.mem_of_mem_take hx))
/-! ### the dues -/
theorem merge_app : ∀ (kvs acc : List (Key × V)), (kvs.map (·.1)).Nodup → (∀ p ∈ kvs, valV acc p.1 = none) → mergeK acc kvs = acc ++ kvs
  | [], acc, _, _ => (List.append_nil acc).symm
  | p :: r, acc, hn, h => by
    rw [List.map_cons] at hn
    obtain ⟨h1, h2⟩ := List.nodup_cons.mp hn
    show mergeK (putK acc p.1 p.2) r = _
    have e := putK_new p.2 (h p List.mem_cons_self)
    rw [e, merge_app r _ h2 fun q hq => ?_, List.append_assoc]
    · rfl
    · rw [valV_snoc _ _ _ _ (h p List.mem_cons_self), if_neg, h q (List.mem_cons_of_mem _ hq)]
      intro z
      exact h1 (by rw [← z]; exact List.mem_map.mpr ⟨q, hq, rfl⟩)
theorem dsV_keys (ds : Dues) : (dsV ds).map (·.1) = ds.map fun d => (Sum.inr d.1 : Key) := by
  unfold dsV
  rw [List.map_map]
  rfl
theorem merge_ds {ds : Dues} (h : (ds.map (·.1)).Nodup) : mergeK [] (dsV ds) = dsV ds := by
  rw [merge_app]
  · exact List.nil_append _
  · rw [dsV_keys]
    have e : (ds.map fun d => (Sum.inr d.1 : Key)) = (ds.map (·.1)).map fun x => (Sum.inr x : Key) := by
      rw [List.map_map]
      rfl
    rw [e]
    exact List.Pairwise.map _ (fun a b n z => n (Sum.inr.inj z)) h
  · intro p _
    rfl
def dsPut (ds : Dues) (x : Str) (a : Addr) (due : List Int) : Dues := ds.map fun d => if d.1 = x then (d.1, a, due) else d
theorem dsPut_keys (ds : Dues) (x : Str) (a : Addr) (due : List Int) : (dsPut ds x a due).map (·.1) = ds.map (·.1) := by
  unfold dsPut
  rw [List.map_map]
  refine List.map_congr_left fun d _ => ?_
  show (if d.1 = x then (d.1, a, due) else d).1 = d.1
  split <;> rfl
theorem dsPut_mem {ds : Dues} {x : Str} {a : Addr} {due : List Int} {d : Str × Addr × List Int} (h : d ∈ dsPut ds x a due) : d ∈ ds ∨ d.2 = (a, due) := by
  unfold dsPut at h
  obtain ⟨z, hz, e⟩ := List.mem_map.mp h
  by_cases c : z.1 = x
  · rw [if_pos c] at e
    rw [← e]
    exact .inr rfl
  · rw [if_neg c] at e
    rw [← e]
    exact .inl hz
theorem put_ds {ds : Dues} {x : Str} {a : Addr} {due : List Int} (h : x ∈ ds.map (·.1)) : putK (dsV ds) (Sum.inr x : Key) (.ref a) = dsV (dsPut ds x a due) := by
  unfold putK
  rw [if_pos]
  · unfold dsV dsPut
    rw [List.map_map, List.map_map]
    refine List.map_congr_left fun d _ => ?_
    show (if (Sum.inr d.1 : Key) = Sum.inr x then ((Sum.inr d.1 : Key), V.ref a) else (Sum.inr d.1, V.ref d.2.1)) = (Sum.inr (if d.1 = x then (d.1, a, due) else d).1, V.ref (if d.1 = x then (d.1, a, due) else d).2.1)
    by_cases c : d.1 = x
    · rw [if_pos (by rw [c]), if_pos c]
    · rw [if_neg (fun z => c (Sum.inr.inj z)), if_neg c]
  · rw [List.any_eq_true]
    obtain ⟨d, hd, e⟩ := List.mem_map.mp h
    exact ⟨(Sum.inr d.1, V.ref d.2.1), List.mem_map.mpr ⟨d, hd, rfl⟩, decide_eq_true (by rw [e])⟩
/-! ### the names of rows -/
def signs10 : Str := "abcdefghij"
def nameAt (i : Nat) : Str := repS ⟨#[signs10.cps.getD (i / 6) 0]⟩ (1 + (i % 6 : Nat))
theorem names60 : ((List.range 60).map nameAt).Nodup := by decide +kernel
theorem names_nodup {rs : List Row} (h : rs.map (fun r => r.g.name) = (List.range rs.length).map nameAt) (hl : rs.length ≤ 60) : (rs.map fun r => r.g.name).Nodup := by
  rw [h]
  have e : (List.range rs.length).map nameAt = ((List.range 60).map nameAt).take rs.length := by
    rw [← List.map_take, List.take_range, Nat.min_eq_left hl]
  rw [e]
  exact names60.sublist (List.take_sublist _ _)
/-! ### what stands -/
/-- a gang's texts can be read -/
def TxOk (g : Gang) : Prop := PyData.strOk g.name = true ∧ PyData.strOk g.guild = true ∧ PyData.strOk g.how = true
theorem name_tx (i : Nat) (h : i < 60) : PyData.strOk (nameAt i) = true := by
  have a : ((List.range 60).map nameAt).all PyData.strOk = true := by decide +kernel
  exact List.all_eq_true.mp a _ (List.mem_map.mpr ⟨i, List.mem_range.mpr h, rfl⟩)
/-- a gang as it is drawn -/
structure GOk (wares : Nat) (gs : List Str) (g : Gang) : Prop where
  guild : g.guild ∈ gs
  want : WantOk wares g
  m64 : Mul64 g.want
  lo : -(2 ^ 64) < g.many
  hi : g.many < 2 ^ 64
  tx : TxOk g
structure StAt (K : PySem.W.Frag) (H0 H : Hp) (b : Addr) (n : Int) (ga : Addr) (gs : List Str) (dd : Addr) (ds : Dues) (ra : Addr) (rs : List Row) (wares : Nat) : Prop where
  same : Same H0 H
  box : BoxAt H b n
  b0 : H0 b = none
  gl : H ga = some (.lst (strV gs))
  ga0 : H0 ga = none
  dl : H dd = some (.dK (dsV ds))
  dd0 : H0 dd = none
  dues : ∀ d ∈ ds, SqT K H d.2.1 (intV d.2.2) ∧ d.2.2.length = wares
  keys : ds.map (·.1) = gs
  rl : H ra = some (.lst (rowsV rs))
  ra0 : H0 ra = none
  rows : ∀ r ∈ rs, RowAt K H r ∧ GOk wares gs r.g
  names : rs.map (fun r => r.g.name) = (List.range rs.length).map nameAt
  few : rs.length ≤ 60
  gn : 0 < gs.length
section
variable {K : PySem.W.Frag} {H0 H H' : Hp} {b ga dd ra c : Addr} {n m : Int} {gs : List Str} {ds : Dues} {rs : List Row} {wares : Nat}
theorem StAt.keep (s : StAt K H0 H b n ga gs dd ds ra rs wares) (h : Same H H') : StAt K H0 H' b n ga gs dd ds ra rs wares :=
  ⟨s.same.trans h, s.box.same h, s.b0, h _ _ s.gl, s.ga0, h _ _ s.dl, s.dd0, fun d hd => ⟨same_tup h (s.dues d hd).1, (s.dues d hd).2⟩, s.keys, h _ _ s.rl, s.ra0, fun r hr => ⟨same_row h (s.rows r hr).1, (s.rows r hr).2⟩, s.names, s.few, s.gn⟩
theorem StAt.nga (s : StAt K H0 H b n ga gs dd ds ra rs wares) : ga ≠ b := by
  have h := s.gl
  cases gs with
  | nil => exact absurd s.gn (Nat.lt_irrefl _)
  | cons x r => exact s.box.ne_lst (v := .str x) (xs := strV r) h fun z e => by cases e
theorem StAt.ndd (s : StAt K H0 H b n ga gs dd ds ra rs wares) : dd ≠ b := by
  obtain ⟨_, _, _, e, _⟩ := s.box
  exact ne_of s.dl e (by intro z; cases z)
theorem StAt.nra (s : StAt K H0 H b n ga gs dd ds ra rs wares) : ra ≠ b := by
  have h := s.rl
  cases rs with
  | nil =>
    obtain ⟨_, _, _, e, _⟩ := s.box
    exact ne_of h e (by intro z; injection z with z; cases z)
  | cons x r => exact s.box.ne_lst (v := .ref x.a) (xs := rowsV r) h fun z e => by cases e
theorem StAt.nrg (s : StAt K H0 H b n ga gs dd ds ra rs wares) : ra ≠ ga := by
  have h := s.rl
  have g := s.gl
  cases gs with
  | nil => exact absurd s.gn (Nat.lt_irrefl _)
  | cons x t =>
    refine ne_of h g fun z => ?_
    injection z with z
    cases rs with
    | nil => cases z
    | cons y r => cases z
theorem StAt.nrd (s : StAt K H0 H b n ga gs dd ds ra rs wares) : ra ≠ dd := ne_of s.rl s.dl (by intro z; cases z)
theorem StAt.ngd (s : StAt K H0 H b n ga gs dd ds ra rs wares) : ga ≠ dd := ne_of s.gl s.dl (by intro z; cases z)
/-- the head's box was drawn from -/
theorem StAt.drawn (s : StAt K H0 H b n ga gs dd ds ra rs wares) (k : KeepBut b H H') (x : BoxAt H' b m) : StAt K H0 H' b m ga gs dd ds ra rs wares :=
  ⟨k.from s.same s.b0, x, s.b0, k _ _ s.gl s.nga, s.ga0, k _ _ s.dl s.ndd, s.dd0, fun d hd => ⟨tup_keep k s.box.mut_ (s.dues d hd).1, (s.dues d hd).2⟩, s.keys, k _ _ s.rl s.nra, s.ra0,
    fun r hr => ⟨row_keep k s.box.mut_ (s.rows r hr).1, (s.rows r hr).2⟩, s.names, s.few, s.gn⟩
/-- another box was -/
theorem StAt.other (s : StAt K H0 H b n ga gs dd ds ra rs wares) (k : KeepBut c H H') (mc : Mut (H c)) (c0 : H0 c = none) (cb : b ≠ c) (cg : ga ≠ c) (cd : dd ≠ c) (cr : ra ≠ c) : StAt K H0 H' b n ga gs dd ds ra rs wares :=
  ⟨k.from s.same c0, s.box.keep k cb, s.b0, k _ _ s.gl cg, s.ga0, k _ _ s.dl cd, s.dd0, fun d hd => ⟨tup_keep k mc (s.dues d hd).1, (s.dues d hd).2⟩, s.keys, k _ _ s.rl cr, s.ra0,
    fun r hr => ⟨row_keep k mc (s.rows r hr).1, (s.rows r hr).2⟩, s.names, s.few, s.gn⟩
theorem StAt.mono (s : StAt K H0 H b n ga gs dd ds ra rs wares) (h : n ≤ m) : StAt K H0 H b m ga gs dd ds ra rs wares :=
  ⟨s.same, s.box.mono h, s.b0, s.gl, s.ga0, s.dl, s.dd0, s.dues, s.keys, s.rl, s.ra0, s.rows, s.names, s.few, s.gn⟩
/-- a row more -/
theorem StAt.row (s : StAt K H0 H b n ga gs dd ds ra rs wares) (r : Row) (hr : RowAt K H r) (ok : GOk wares gs r.g) (hn : r.g.name = nameAt rs.length) (few : rs.length < 60) : StAt K H0 (upd H ra (.lst (rowsV rs ++ [.ref r.a]))) b n ga gs dd ds ra (rs ++ [r]) wares := by
  have mr := mut_lst s.rl
  refine ⟨same_upd s.same s.ra0, s.box.keep (KeepBut.refl ra H).upd s.nra.symm, s.b0, by rw [upd_ne s.nrg.symm]; exact s.gl, s.ga0, by rw [upd_ne s.nrd.symm]; exact s.dl, s.dd0, fun d hd => ⟨tup_upd mr (s.dues d hd).1, (s.dues d hd).2⟩, s.keys, ?_, s.ra0, fun x hx => ?_, ?_, ?_, s.gn⟩
  · rw [upd_same]
    unfold rowsV
    rw [List.map_append]
    rfl
  · rcases List.mem_append.mp hx with hx | hx
    · exact ⟨row_upd mr (s.rows x hx).1, (s.rows x hx).2⟩
    · rw [List.mem_singleton.mp hx]
      exact ⟨row_upd mr hr, ok⟩
  · rw [List.map_append, List.length_append, List.length_singleton, List.range_succ, List.map_append, s.names]
    show _ ++ [r.g.name] = _
    rw [hn]
    rfl
  · rw [List.length_append, List.length_singleton]
    omega
/-- a due anew -/
theorem StAt.put (s : StAt K H0 H b n ga gs dd ds ra rs wares) {x : Str} (hx : x ∈ gs) {a : Addr} {due : List Int} (h : SqT K H a (intV due)) (hl : due.length = wares) :
    StAt K H0 (upd H dd (.dK (putK (dsV ds) (Sum.inr x : Key) (.ref a)))) b n ga gs dd (dsPut ds x a due) ra rs wares := by
  have md : Mut (H dd) := by rw [s.dl]; trivial
  refine ⟨same_upd s.same s.dd0, s.box.keep (KeepBut.refl dd H).upd s.ndd.symm, s.b0, by rw [upd_ne s.ngd]; exact s.gl, s.ga0, ?_, s.dd0, fun d hd => ?_, ?_, by rw [upd_ne s.nrd]; exact s.rl, s.ra0, fun r hr => ⟨row_upd md (s.rows r hr).1, (s.rows r hr).2⟩, s.names, s.few, s.gn⟩
  · rw [upd_same, put_ds (due := due) (by rw [s.keys]; exact hx)]
  · rcases dsPut_mem hd with q | q
    · exact ⟨tup_upd md (s.dues d q).1, (s.dues d q).2⟩
    · rw [q]
      exact ⟨tup_upd md h, hl⟩
  · rw [dsPut_keys]
    exact s.keys
end
end Ch

/-! The dues, the rows and the gang. -/
namespace Ch
open PySem PySem.Spec PyProof.Rows L2
theorem sumK {X : Cx} (K : PySem.W.Frag) (h : X.K = K) (hc : X.calm = true) : CallR X (.builtin "sum") (rSum K) := h ▸ cr_sum hc
theorem piL {X : Cx} {tg l : Expr} {tl : TE} (K : PySem.W.Frag) (h : X.K = K) (hl : PE X l tl) : PI X tg l (iList K tl) := h ▸ pi_list hl
def spState (K : PySem.W.Frag) : Sp := fun vs H Q _ => ∃ (a : Addr) (ns : List Int), vs = [.ref a] ∧ SqL K H a (ns.map V.int) ∧ ns.length ≤ 63 ∧
  ∀ (q : Addr) (H' : Hp) (b : Addr) (n : Int) (ga : Addr) (gs : List Str) (dd : Addr) (ds : Dues) (ra : Addr) (rs : List Row) (wares : Nat) (g : Gang), SqT K H' q [.ref dd, .ref ra, .ref g.a] → StAt K H H' b n ga gs dd ds ra rs wares → gs.Nodup → 1 ≤ wares → wares ≤ 8 → GangAt K H' g → GOk wares gs g → Q (.ref q) H'
abbrev nState : List Str := ["_law_script", "_law_head", "_law_wares", "_law_wide", "_law_some", "_law_turn", "_law_guilds", "_law_dues", "_law_rows", "_law_k", "_law_box_here", "_law_again", "_law_name", "_law_gang_here", "_law_guild_here", "_law_few", "_law_borne", "_law_row", "_law_one"]
theorem scState : FnScope nState ["_law_script"] (defScope sState) := ⟨rfl, rfl, rfl, by decide +kernel, rfl, by decide +kernel, by decide +kernel⟩
/-- the names of the outer comprehension of borne -/
def scBorne : Scope := { kind := .function, names := [(Str.ofString ".0", .local), (Str.ofString "_law_k", .cell), (Str.ofString "sum", .globalImplicit), (Str.ofString "_law_few", .free)], isGenerator := false, isCoroutine := false, more := [] }
theorem paired_imp {α β : Type} {F G : α → β → Prop} (h : ∀ a b, F a b → G a b) : ∀ {xs : List α} {ys : List β}, Paired F xs ys → Paired G xs ys
  | _, _, .nil => .nil
  | _, _, .cons a t => .cons (h _ _ a) (paired_imp h t)
/-- some of the dues are made -/
structure DsUp (K : PySem.W.Frag) (H : Hp) (D : Addr) (gs : List Str) (wares i : Nat) (ts : List Addr) (ds : Dues) : Prop where
  at_ : H D = some (.lst (ts.map V.ref))
  len : ts.length = i
  pairs : Paired (fun p (kv : Key × V) => SqT K H p [kV kv.1, kv.2]) ts (dsV ds)
  keys : ds.map (·.1) = gs.take i
  dues : ∀ d ∈ ds, SqT K H d.2.1 (intV d.2.2) ∧ d.2.2.length = wares
theorem filterMap_gangs (rs : List Row) (p : Row → Bool) : rs.filterMap (fun r => if p r = true then some (V.ref r.g.a) else none) = ((rs.filter p).map (·.g)).map fun z => V.ref z.a := by
  induction rs with
  | nil => rfl
  | cons r rs ih =>
    rw [List.filterMap_cons, List.filter_cons]
    cases h : p r with
    | true => rw [if_pos rfl, if_pos rfl, List.map_cons, List.map_cons, ih]
    | false => rw [if_neg Bool.false_ne_true, if_neg Bool.false_ne_true, ih]
structure StEnv (P : Program) (w : World) (K : PySem.W.Frag) (mg : Str → Option Value) (base : Heap) extends BxEnv P w K mg base where
  box : ∃ f fd, FnOk P w K mg base CX0 1 f fd ["_law_script", "_law_k"] (spBox K) ∧ Binds K fd ["_law_script", "_law_k"] [] ∧ mg "_law_box" = some (.ref f) ∧ PySem.W.keepIn K (.ref f) = true
  gang : ∃ f fd, FnOk P w K mg base CX0 2 f fd ["_law_box_here", "_law_name", "_law_guilds", "_law_wares", "_law_wide"] (spGang K) ∧ Binds K fd ["_law_box_here", "_law_name", "_law_guilds", "_law_wares", "_law_wide"] [] ∧ mg "_law_gang" = some (.ref f) ∧ PySem.W.keepIn K (.ref f) = true
  due : ∃ f fd, FnOk P w K mg base CX0 2 f fd ["_law_box_here", "_law_wares", "_law_wide"] (spDue K) ∧ Binds K fd ["_law_box_here", "_law_wares", "_law_wide"] [] ∧ mg "_law_due" = some (.ref f) ∧ PySem.W.keepIn K (.ref f) = true
section
variable {P : Program} {w : World} {K : PySem.W.Frag} {mg : Str → Option Value} {base : Heap}
theorem ok_state {f : Addr} {fd : FuncData} (F : Fun K "_law_state" "_law_state" sState f fd) (B : Blt mg) (X : StEnv P w K mg base) : FnOk P w K mg base CX0 3 f fd ["_law_script"] (spState K) := by
  obtain ⟨fT, fdT, GT, bT, mT, kT⟩ := X.take
  obtain ⟨fB, fdB, GB, bB, mB, kB⟩ := X.box
  obtain ⟨fG, fdG, GG, bG, mG, kG⟩ := X.gang
  obtain ⟨fD, fdD, GD, bD, mD, kD⟩ := X.due
  refine F.ok scState (fun vs H Q E h => ?_) (fun cdv A outer s H vs Q E hr h => ?_)
  · obtain ⟨a, ns, rfl, _⟩ := h
    rfl
  · obtain ⟨a, ns, rfl, hS, hz, k⟩ := h
    have hr1 : Room 1 _ := hr.mono (by decide)
    have hu := hu_of hr
    refine ⟨_, pss_cons (ps_set (i := 1) scState.nd rfl (Or.inr rfl) (pe_call GB hr1 (by rfl) mB kB bB .nil pass0 (pa_cons (pv 0) (pa_cons pe_int pa_nil))))
      (pss_cons (ps_set (i := 2) scState.nd rfl (Or.inr rfl) (pe_ix (ixL K rfl) (pe_lst (pa_cons (pe_op op_add pe_int (pe_call GT hr1 (by rfl) mT kT bT .nil pass0 (pa_cons (pv 1) (pa_cons pe_int pa_nil)))) (pa_cons (pe_op op_add pe_int (pe_call GT hr1 (by rfl) mT kT bT .nil pass0 (pa_cons (pv 1) (pa_cons pe_int pa_nil)))) pa_nil))) (pe_call GT hr1 (by rfl) mT kT bT .nil pass0 (pa_cons (pv 1) (pa_cons pe_int pa_nil))) (fun _ _ => rfl)))
      (pss_cons (ps_set (i := 3) scState.nd rfl (Or.inr rfl) (pe_ix (ixL K rfl) (pe_lst (pa_cons pe_int (pa_cons pe_int (pa_cons pe_int (pa_cons (pe_op op_pow pe_int pe_int) pa_nil))))) (pe_call GT hr1 (by rfl) mT kT bT .nil pass0 (pa_cons (pv 1) (pa_cons pe_int pa_nil))) (fun _ _ => rfl)))
      (pss_cons (ps_set (i := 4) scState.nd rfl (Or.inl rfl) (pe_lst (pa_cons pe_str (pa_cons pe_str (pa_cons pe_str (pa_cons pe_str (pa_cons pe_str (pa_cons pe_str (pa_cons pe_str (pa_cons pe_str (pa_cons pe_str (pa_cons pe_str (pa_cons pe_str (pa_cons pe_str pa_nil))))))))))))))
      (pss_cons (ps_set (i := 5) scState.nd rfl (Or.inl rfl) (pe_call GT hr1 (by rfl) mT kT bT .nil pass0 (pa_cons (pv 1) (pa_cons pe_int pa_nil))))
      (pss_cons (ps_set (i := 6) scState.nd rfl (Or.inl rfl) (pe_slice sl_list (pe_op op_cat (pe_slice sl_list (pv 4) (po_some (pv 5)) po_none) (pe_slice sl_list (pv 4) po_none (po_some (pv 5)))) po_none
        (po_some (pe_ix (ixL K rfl) (pe_lst (pa_cons pe_int (pa_cons pe_int (pa_cons pe_int (pa_cons pe_int pa_nil))))) (pe_call GT hr1 (by rfl) mT kT bT .nil pass0 (pa_cons (pv 1) (pa_cons pe_int pa_nil))) (fun _ _ => rfl)))))
      (pss_cons (ps_set (i := 7) scState.nd rfl (Or.inl rfl) (pe_callTy (call_dictP rfl) (by rfl) B.dict (by decide +kernel) (pa_cons
        (pe_lc (own := [("_law_guild_here", 14)]) (g := gName 14) (tt := tYes) rfl scState.nd (pi_list (pv 6)) (blkOk_by (N := nState) (sc := defScope sState) (by decide +kernel)) (fun _ _ _ _ _ => pg_name (i := 14) scState.nd rfl (Or.inl rfl)) (fun _ _ _ _ _ => pts_nil)
          (fun _ _ _ _ _ => pe_tup (pa_cons (pv 14) (pa_cons (pe_call GD hr (by rfl) mD kD bD .nil pass0 (pa_cons (pv 1) (pa_cons (pv 2) (pa_cons (pv 3) pa_nil)))) pa_nil)))) pa_nil)))
      (pss_cons (ps_set (i := 8) scState.nd rfl (Or.inl rfl) (pe_lst pa_nil))
      (pss_cons (ps_for PassesOwn.never rfl (pi_range2 (by rfl) B.range (pa_cons pe_int (pa_cons (pe_callB call_len_seq (by rfl) B.len PySem.boot_len (pa_cons (pv 0) pa_nil)) pa_nil))) (pg_name (i := 9) scState.nd rfl (Or.inl rfl))
        (pss_cons (ps_set (i := 10) scState.nd rfl (Or.inl rfl) (pe_call GB hr1 (by rfl) mB kB bB .nil pass0 (pa_cons (pv 0) (pa_cons (pv 9) pa_nil))))
        (pss_one (ps_for PassesOwn.never rfl (pi_range1 (by rfl) B.range (pa_cons (pe_op op_add pe_int (pe_callTy call_int1 (by rfl) B.int (by decide +kernel) (pa_cons (pe_cmpR op_eq (pe_call GT hr1 (by rfl) mT kT bT .nil pass0 (pa_cons (pv 10) (pa_cons pe_int pa_nil))) pe_int (nomark _)) pa_nil))) pa_nil)) (pg_name (i := 11) scState.nd rfl (Or.inl rfl))
          (pss_one (ps_if (pt_cmpR op_lt (pe_callB call_len_seq (by rfl) B.len PySem.boot_len (pa_cons (pv 8) pa_nil)) pe_int (nomark _))
            (pss_cons (ps_set (i := 12) scState.nd rfl (Or.inl rfl) (pe_op op_repS (pe_ix ix_str pe_str (pe_op op_fdiv (pe_callB call_len_seq (by rfl) B.len PySem.boot_len (pa_cons (pv 8) pa_nil)) pe_int) (fun _ _ => rfl)) (pe_op op_add pe_int (pe_op op_mod (pe_callB call_len_seq (by rfl) B.len PySem.boot_len (pa_cons (pv 8) pa_nil)) pe_int))))
            (pss_one (ps_expr (pe_bm PySem.F.plainAttrs_list PySem.F.slot_list_append PySem.F.type_list_append mt_append (pv 8) (pa_cons (pe_tup (pa_cons (pe_call GG hr (by rfl) mG kG bG .nil pass0 (pa_cons (pv 10) (pa_cons (pv 12) (pa_cons (pv 6) (pa_cons (pv 2) (pa_cons (pv 3) pa_nil))))))
              (pa_cons (pe_op op_add (pe_op op_mul pe_int (pe_call GT hr1 (by rfl) mT kT bT .nil pass0 (pa_cons (pv 10) (pa_cons pe_int pa_nil)))) (pe_callB call_len_seq (by rfl) B.len PySem.boot_len (pa_cons (pv 8) pa_nil))) pa_nil))) pa_nil))))) pss_nil))))))
      (pss_cons (ps_set (i := 13) scState.nd rfl (Or.inl rfl) (pe_call GG hr (by rfl) mG kG bG .nil pass0 (pa_cons (pv 1) (pa_cons (pe_ix (ixL K rfl) (pe_lst (pa_cons pe_str (pa_cons pe_str (pa_cons pe_str pa_nil)))) (pe_call GT hr1 (by rfl) mT kT bT .nil pass0 (pa_cons (pv 1) (pa_cons pe_int pa_nil))) (fun _ _ => rfl)) (pa_cons (pv 6) (pa_cons (pv 2) (pa_cons (pv 3) pa_nil)))))))
      (pss_cons (ps_for PassesOwn.never rfl (pi_list (pv 6)) (pg_name (i := 14) scState.nd rfl (Or.inr rfl))
        (pss_cons (ps_set (i := 15) scState.nd rfl (Or.inr rfl) (pe_op op_cat (pe_slice sl_list
            (pe_lc (own := [("_law_row", 17)]) (g := gName 17) rfl scState.nd (pi_list (pv 8)) (blkOk_by (N := nState) (sc := defScope sState) (by decide +kernel)) (fun _ _ _ _ _ => pg_name (i := 17) scState.nd rfl (Or.inl rfl))
              (fun _ _ _ _ _ => pts_one (pt_cmpR op_eq (pe_ix (ixT K rfl) (pe_ix (ixT K rfl) (pv 17) pe_int (fun _ _ => rfl)) pe_int (fun _ _ => rfl)) (pv 14) (nomark _))) (fun _ _ _ _ _ => pe_ix (ixT K rfl) (pv 17) pe_int (fun _ _ => rfl)))
            po_none (po_some (pe_call GT hr1 (by rfl) mT kT bT .nil pass0 (pa_cons (pv 1) (pa_cons pe_int pa_nil)))))
          (pe_slice sl_list (pe_lst (pa_cons (pv 13) pa_nil)) po_none (po_some (pe_callTy call_int1 (by rfl) B.int (by decide +kernel) (pa_cons (pe_cmpR op_eq (pv 14) (pe_ix (ixT K rfl) (pv 13) pe_int (fun _ _ => rfl)) (nomark _)) pa_nil))))))
        (pss_cons (ps_set (i := 16) scState.nd rfl (Or.inl rfl) (pe_callTy call_tuple_of (by rfl) B.tuple (by decide +kernel) (pa_cons
          (pe_lc (own := [("_law_k", 9)]) (g := gName 9) (tt := tYes) rfl scState.nd (pi_range1 (by rfl) B.range (pa_cons (pv 2) pa_nil)) (blkOk_by (N := nState) (sc := defScope sState) (by decide +kernel)) (fun _ _ _ _ _ => pg_name (i := 9) scState.nd rfl (Or.inr rfl)) (fun _ _ _ _ _ => pts_nil)
            (fun _ _ _ _ _ => pe_callB (sumK K rfl rfl) (by rfl) B.sum (by decide +kernel) (pa_cons
              (pe_lc (own := [("_law_one", 18)]) (g := gName 18) (tt := tYes) rfl scState.nd (piL K rfl (pv 15)) (blkOk_by (N := nState) (sc := relS scBorne (defScope sState)) (by decide +kernel)) (fun _ _ _ _ _ => pg_name (i := 18) scState.nd rfl (Or.inl rfl)) (fun _ _ _ _ _ => pts_nil)
                (fun _ _ _ _ _ => pe_op op_mul (pe_ix (ixT K rfl) (pv 18) pe_int (fun _ _ => rfl)) (pe_ix (ixT K rfl) (pe_ix (ixT K rfl) (pv 18) pe_int (fun _ _ => rfl)) (pv 9) (fun _ _ => rfl)))) pa_nil))) pa_nil)))
        (pss_one (ps_if (PW.pt (pw_and (pt_cmpR op_eq (pe_call GT hr1 (by rfl) mT kT bT .nil pass0 (pa_cons (pv 1) (pa_cons pe_int pa_nil))) pe_int (nomark _)) (pw_and1 (pt_cmpR op_le (pe_callB (cr_maxT rfl hu) (by rfl) B.max (by decide +kernel) (pa_cons (pv 16) pa_nil)) (pe_op op_pow pe_int pe_int) (nomark _)))))
          (pss_one (ps_dput hu (pv 7) (pv 14) (pv 16) rfl)) pss_nil)))))
      (pss_one (ps_ret (pe_tup (pa_cons (pv 7) (pa_cons (pv 8) (pa_cons (pv 13) pa_nil)))))))))))))))), ?_⟩
    -- head
    refine ⟨_, rfl, a, ns, 0, rfl, hS, hz, by decide, fun b H1 s1 hb1 x1 => ?_⟩
    -- wares
    refine ⟨_, rfl, b, 2, _, rfl, by decide, by decide, x1, by decide, fun u1 H2 k2 x2 p0 p1 => ?_⟩
    refine ⟨_, _, rfl, rfl, _, rfl, b, 8, _, rfl, by decide, by decide, x2, by decide, fun u2 H3 k3 x3 q0 q1 => ?_⟩
    refine ⟨_, _, rfl, rfl, by show 2 ≤ sizeLine; decide, fun l hl => ?_⟩
    have nl := x3.ne hl
    refine ⟨_, rfl, b, 2, _, rfl, by decide, by decide, x3.same (same_new hl), by decide, fun u3 H4 k4 x4 r0 r1 => ?_⟩
    have l4 : H4 l = some (.lst [.int (1 + u1), .int (1 + u2)]) := k4 _ _ upd_same nl
    obtain ⟨y, hy, ay⟩ := at_some (xs := [V.int (1 + u1), .int (1 + u2)]) r0 r1
    obtain ⟨wares, rfl, w1, w2⟩ : ∃ wares : Nat, y = .int wares ∧ 1 ≤ wares ∧ wares ≤ 8 := by
      simp only [List.mem_cons, List.not_mem_nil, or_false] at hy
      rcases hy with h | h
      · refine ⟨(1 + u1).toNat, ?_, by omega, by omega⟩
        rw [h]
        congr 1
        omega
      · refine ⟨(1 + u2).toNat, ?_, by omega, by omega⟩
        rw [h]
        congr 1
        omega
    refine ⟨l, _, u3, .int wares, rfl, rfl, SqL.of l4, ay, ?_⟩
    have K4 : KeepBut b H1 H4 := ((k2.trans k3).trans (keep_new hl)).trans k4
    -- wide
    refine ⟨_, _, rfl, rfl, ⟨by decide, by decide, by decide⟩, by show 4 ≤ sizeLine; decide, fun l2 hl2 => ?_⟩
    have nl2 := x4.ne hl2
    refine ⟨_, rfl, b, 4, _, rfl, by decide, by decide, x4.same (same_new hl2), by decide, fun u4 H5 k5 x5 s2 s3 => ?_⟩
    have l5 : H5 l2 = some (.lst [.int 2, .int 9, .int 1000, .int (10 ^ (12 : Int).toNat)]) := k5 _ _ upd_same nl2
    obtain ⟨y2, hy2, ay2⟩ := at_some (xs := [V.int 2, .int 9, .int 1000, .int (10 ^ (12 : Int).toNat)]) s2 s3
    obtain ⟨wide, rfl, v1, v2⟩ : ∃ wide : Int, y2 = .int wide ∧ 1 ≤ wide ∧ wide ≤ 1000000000000 := by
      simp only [List.mem_cons, List.not_mem_nil, or_false] at hy2
      rcases hy2 with h | h | h | h
      · exact ⟨_, h, by decide, by decide⟩
      · exact ⟨_, h, by decide, by decide⟩
      · exact ⟨_, h, by decide, by decide⟩
      · exact ⟨_, h, by decide, by decide⟩
    refine ⟨l2, _, u4, .int wide, rfl, rfl, SqL.of l5, ay2, ?_⟩
    have K5 : KeepBut b H1 H5 := K4.trans ((keep_new hl2).trans k5)
    -- some, turn
    refine ⟨by show 12 ≤ sizeLine; decide, fun la hla => ?_⟩
    have nla := x5.ne hla
    refine ⟨_, rfl, b, 12, _, rfl, by decide, by decide, x5.same (same_new hla), by decide, fun t H6 k6 x6 t0 t1 => ?_⟩
    have a6 : H6 la = some (.lst (strV some12)) := k6 _ _ upd_same nla
    have K6 : KeepBut b H1 H6 := K5.trans ((keep_new hla).trans k6)
    -- guilds
    refine ⟨_, rfl, _, rfl, t, rfl, la, _, rfl, SqL.of a6, fun c1 hc1 => ?_⟩
    have a7 := same_new (o := .lst (cutV (strV some12) (some t) none)) hc1 _ _ a6
    refine ⟨_, rfl, _, rfl, t, rfl, la, _, rfl, SqL.of a7, fun c2 hc2 => ?_⟩
    refine ⟨c1, c2, _, _, rfl, rfl, same_new hc2 _ _ upd_same, upd_same, ?_, fun c3 hc3 => ?_⟩
    · have e1 := cutV_length (strV some12) (some t) none
      have e2 := cutV_length (strV some12) none (some t)
      have e3 : (strV some12).length = 12 := rfl
      have e4 : sizeLine = 16777216 := sizeLine_eq
      omega
    refine ⟨by show 4 ≤ sizeLine; decide, fun l3 hl3 => ?_⟩
    have sm3 := ((same_new (o := .lst (cutV (strV some12) (some t) none)) hc1).trans (same_new hc2)).trans ((same_new hc3).trans (same_new (o := .lst [.int 1, .int 2, .int 4, .int 12]) hl3))
    have x7 := x6.same sm3
    have nl3 := (x6.same ((same_new hc1).trans ((same_new hc2).trans (same_new hc3)))).ne hl3
    have nc3 := (x6.same ((same_new hc1).trans (same_new hc2))).ne hc3
    refine ⟨_, rfl, b, 4, _, rfl, by decide, by decide, x7, by decide, fun u5 H7 k7 x8 y0 y1 => ?_⟩
    have l7 : H7 l3 = some (.lst [.int 1, .int 2, .int 4, .int 12]) := k7 _ _ upd_same nl3
    have c7 := k7 _ _ (same_new hl3 _ _ upd_same) nc3
    obtain ⟨y3, hy3, ay3⟩ := at_some (xs := [V.int 1, .int 2, .int 4, .int 12]) y0 y1
    obtain ⟨m, rfl, m1⟩ : ∃ m : Int, y3 = .int m ∧ 1 ≤ m := by
      simp only [List.mem_cons, List.not_mem_nil, or_false] at hy3
      rcases hy3 with h | h | h | h
      · exact ⟨_, h, by decide⟩
      · exact ⟨_, h, by decide⟩
      · exact ⟨_, h, by decide⟩
      · exact ⟨_, h, by decide⟩
    refine ⟨l3, _, u5, .int m, rfl, rfl, SqL.of l7, ay3, m, rfl, c3, _, rfl, SqL.of c7, fun ga hga => ?_⟩
    have K7 : KeepBut b H1 H7 := K6.trans ((KeepBut.refl b H6).same sm3 |>.trans k7)
    obtain ⟨gs, eg, gnd, gn, g12, gtx⟩ := guilds_cut t0 m1
    rw [eg]
    have K8 : KeepBut b H1 (upd H7 ga (.lst (strV gs))) := K7.trans (keep_new hga)
    have x9 := x8.same (same_new (o := .lst (strV gs)) hga)
    have g8 : (upd H7 ga (.lst (strV gs))) ga = some (.lst (strV gs)) := upd_same
    generalize upd H7 ga (.lst (strV gs)) = H8 at K8 x9 g8
    have nga : ga ≠ b := x8.ne hga
    have sm8 : Same H H8 := K8.from s1 hb1
    have ga0 : H ga = none := (K7.from s1 hb1).free hga
    -- dues
    refine ⟨_, rfl, ga, rfl, ⟨_, SqL.of g8⟩, fun D hD => ?_⟩
    have nD := x9.ne hD
    have D0 : H D = none := sm8.free hD
    have gl : (strV gs).length = gs.length := by unfold strV; rw [List.length_map]
    refine lc_it (walk_list (xs := strV gs)) (fun i H' => KeepBut b H8 H' ∧ BoxAt H' b (6 + 20 * i) ∧ ∃ ts ds, DsUp K H' D gs wares i ts ds)
      ⟨keep_new hD, (x9.same (same_new hD)).mono (by omega), [], [], upd_same, rfl, .nil, rfl, fun d hd => by (cases hd)⟩ (fun i H' _ ⟨kb, _⟩ => SqL.of (kb _ _ g8 nga)) (fun i v H9 H9' hi ⟨kb, xb, ts, ds, U⟩ y => ?_) fun H9 ⟨kb, xb, ts, ds, U⟩ => ?_
    · obtain ⟨rfl, y⟩ := y
      have y' : (gs.map V.str)[i]? = some v := y
      rw [List.getElem?_map] at y'
      cases e : gs[i]? with
      | none => rw [e] at y'; cases y'
      | some g =>
        rw [e] at y'
        cases y'
        have hil : i < gs.length := (List.getElem?_eq_some_iff.mp e).1
        refine ⟨rfl, yesT ⟨_, rfl, _, rfl, _, rfl, _, rfl, ?_⟩⟩
        refine ⟨b, wares, wide, _, rfl, xb, by omega, w1, w2, v1, v2, fun p due H10 k10 x10 tp lp => ?_⟩
        refine ⟨by show 2 ≤ sizeLine; decide, fun T hT => ?_⟩
        have aD : (upd H10 T (.tup [.str g, .ref p])) D = some (.lst (ts.map V.ref)) := same_new hT _ _ (k10 _ _ U.at_ nD)
        have TD : D ≠ T := ne_of_none (k10 _ _ U.at_ nD) hT
        refine ⟨_, aD, by rw [List.length_map, U.len]; exact len1000 (by omega), ?_, ?_, ts ++ [T], ds ++ [(g, p, due)], ?_, ?_, ?_, ?_, ?_⟩
        · exact ((kb.trans k10).same (same_new hT)).fresh hD
        · have xx := (x10.same (same_new (o := .tup [.str g, .ref p]) hT))
          refine (xx.keep (KeepBut.refl D _).upd nD.symm).mono ?_
          omega
        · rw [upd_same, List.map_append]
          rfl
        · rw [List.length_append, U.len]
          rfl
        · have e2 : dsV (ds ++ [(g, p, due)]) = dsV ds ++ [((Sum.inr g : Key), V.ref p)] := by
            unfold dsV
            rw [List.map_append]
            rfl
          rw [e2]
          refine Paired.snoc (paired_imp (fun q kv h => ?_) U.pairs) ?_
          · exact tup_upd (mut_lst aD) (same_tup (same_new hT) (tup_keep k10 xb.mut_ h))
          · exact tup_upd (mut_lst aD) (.inl (.inl upd_same))
        · rw [List.map_append, U.keys, List.take_add_one, e]
          rfl
        · intro d hd
          rcases List.mem_append.mp hd with hd | hd
          · exact ⟨tup_upd (mut_lst aD) (same_tup (same_new hT) (tup_keep k10 xb.mut_ (U.dues d hd).1)), (U.dues d hd).2⟩
          · rw [List.mem_singleton.mp hd]
            exact ⟨tup_upd (mut_lst aD) (same_tup (same_new hT) tp), lp⟩
    · rw [gl] at U xb
      have keys : ds.map (·.1) = gs := by rw [U.keys, List.take_length]
      refine ⟨D, ts, dsV ds, rfl, SqL.of U.at_, U.pairs, fun dd hdd => ?_⟩
      rw [merge_ds (by rw [keys]; exact gnd)]
      -- rows
      refine ⟨Nat.zero_le _, fun ra hra => ?_⟩
      have smA : Same H H9 := (K8.trans kb).from s1 hb1
      have S0 : StAt K H (upd (upd H9 dd (.dK (dsV ds))) ra (.lst [])) b 246 ga gs dd ds ra [] wares := by
        have st : Same H9 (upd (upd H9 dd (.dK (dsV ds))) ra (.lst [])) := (same_new hdd).trans (same_new hra)
        refine ⟨smA.trans st, (xb.same st).mono (by omega), hb1, st _ _ (kb _ _ g8 nga), ga0, same_new hra _ _ upd_same, smA.free hdd, fun d hd => ⟨same_tup st (U.dues d hd).1, (U.dues d hd).2⟩, keys, upd_same, (smA.trans (same_new hdd)).free hra, fun r hr => by (cases hr), rfl, Nat.zero_le _, gn⟩
      generalize upd (upd H9 dd (.dK (dsV ds))) ra (.lst []) = HA at S0
      -- for k in range(1, len(script))
      have nz : (ns.map V.int).length = ns.length := List.length_map ..
      refine ⟨_, rfl, a, _, rfl, .inl (S0.same.seq hS), 1, _, rfl, ⟨by decide, by decide, by omega, by rw [nz]; omega⟩, for_range (lo := 1) (fun i σ H' => ∃ (rs : List Row) (v9 v10 v11 v12 : Option V),
        σ = [some (.ref a), some (.ref b), some (.int wares), some (.int wide), some (.ref la), some (.int t), some (.ref ga), some (.ref dd), some (.ref ra), v9, v10, v11, v12, none, none, none, none, none, none] ∧ StAt K H H' b 246 ga gs dd ds ra rs wares)
        ⟨[], none, none, none, none, rfl, S0⟩ ?_ ?_⟩
      · rintro i σ HB hi ⟨rs, v9, v10, v11, v12, rfl, SB⟩
        have hik : i ≤ 63 := by
          rw [nz] at hi
          omega
        refine ⟨_, rfl, _, rfl, a, ns, 1 + i, ?_, SB.same.seq hS, hz, by omega, fun c HC sC hc xc => ?_⟩
        · have e : ((1 : Int) + (i : Nat)) = ((1 + i : Nat) : Int) := by omega
          show [V.ref a, V.int ((1 : Int) + (i : Nat))] = [V.ref a, V.int ((1 + i : Nat) : Int)]
          rw [e]
        have SC := SB.keep sC
        have c0 : H c = none := SB.same.free hc
        have cb : b ≠ c := (SB.box.ne hc).symm
        have cg : ga ≠ c := ne_of_none SB.gl hc
        have cd : dd ≠ c := ne_of_none SB.dl hc
        have cr : ra ≠ c := ne_of_none SB.rl hc
        -- for again in range(..)
        refine ⟨_, rfl, c, 3, _, rfl, by decide, by decide, xc, by decide, fun u6 HD kD xd d0 d1 => ?_⟩
        have SD := SC.other kD xc.mut_ c0 cb cg cd cr
        refine ⟨rfl, .inr ⟨_, rfl, _, _, rfl, rfl, ?_⟩⟩
        obtain ⟨j, hj, j0, j2⟩ : ∃ j : Int, j = 1 + (if decide (V.int u6 = V.int 0) = true then 1 else 0) ∧ 0 ≤ j ∧ j ≤ 2 := by
          refine ⟨_, rfl, ?_, ?_⟩ <;> split <;> omega
        refine ⟨j, by rw [hj], by omega, by omega, for_range (lo := 0) (n := j.toNat) (fun i' σ H' => ∃ (rs : List Row) (v11 v12 : Option V),
          σ = [some (.ref a), some (.ref b), some (.int wares), some (.int wide), some (.ref la), some (.int t), some (.ref ga), some (.ref dd), some (.ref ra), some (.int (1 + (i : Nat))), some (.ref c), v11, v12, none, none, none, none, none, none] ∧ StAt K H H' b 246 ga gs dd ds ra rs wares ∧ BoxAt H' c (1 + 40 * i'))
          ⟨rs, v11, v12, rfl, SD, xd.mono (by omega)⟩ ?_ ?_⟩
        · rintro i' σ HE hi' ⟨rs, v11, v12, rfl, SE, xe⟩
          have hi2 : i' < 2 := by omega
          have rl : (rowsV rs).length = rs.length := by unfold rowsV; rw [List.length_map]
          refine ⟨_, rfl, ra, _, rfl, .inl (SqL.of SE.rl), _, _, rfl, rfl, _, rfl, ?_⟩
          rw [rl]
          refine ite2 (fun few => ?_) (fun _ => ?_)
          · have few : rs.length < 60 := by
              have few := of_decide_eq_true few
              omega
            -- name
            refine ⟨_, rfl, ra, _, rfl, .inl (SqL.of SE.rl), _, _, rfl, rfl, ⟨by decide, by decide⟩, signs10, _, signs10.cps.getD (rs.length / 6) 0, rfl, rfl, by decide +kernel, ?_, ?_⟩
            · rw [rl]
              have e : ((rs.length : Nat) : Int) / 6 = ((rs.length / 6 : Nat) : Int) := by omega
              rw [e]
              refine atI_nat ?_
              have lt : rs.length / 6 < signs10.cps.size := Nat.lt_of_lt_of_le (show rs.length / 6 < 10 by omega) (by decide +kernel)
              rw [Array.getElem?_toList, Array.getD_eq_getD_getElem?, Array.getElem?_eq_getElem lt]
              rfl
            refine ⟨_, rfl, ra, _, rfl, .inl (SqL.of SE.rl), _, _, rfl, rfl, (by show (0 : Int) < 6; decide), _, _, rfl, rfl, _, _, rfl, rfl, ?_, ?_, by show 1 ≤ 1000; decide, ?_⟩
            · rw [rl]; omega
            · rw [rl]; omega
            have en : repS ⟨#[signs10.cps.getD (rs.length / 6) 0]⟩ (1 + ((rowsV rs).length : Int) % 6) = nameAt rs.length := by
              unfold nameAt
              rw [rl]
              congr 1
            dsimp only
            rw [en]
            -- the row
            refine ⟨_, rfl, .inl ⟨rfl, _, SqL.of SE.rl⟩, _, rfl, _, rfl, _, rfl, _, rfl, _, rfl, ?_⟩
            refine ⟨c, ga, nameAt rs.length, gs, wares, wide, _, rfl, xe, by omega, SE.gl, gn, by omega, w1, w2, v1, v2, fun g HF kF xf gat g0 gname gguild gwant gm glo ghi gth => ?_⟩
            have SF := SE.other kF xe.mut_ c0 cb cg cd cr
            refine ⟨_, rfl, c, 60, _, rfl, by decide, by decide, xf, by omega, fun u7 HG kG2 xg e0 e1 => ?_⟩
            have SG := SF.other kG2 xf.mut_ c0 cb cg cd cr
            have gat2 := gang_keep kG2 xf.mut_ gat
            refine ⟨_, _, rfl, rfl, .inl ⟨by decide, by decide⟩, _, rfl, ra, _, rfl, .inl (SqL.of SG.rl), _, _, rfl, rfl, by show 2 ≤ sizeLine; decide, fun T hT => ?_⟩
            have SH := SG.keep (same_new (o := .tup [.ref g.a, .int (100 * u7 + ((rowsV rs).length : Nat))]) hT)
            refine ⟨ra, _, _, rfl, rfl, SH.rl, ?_, ?_⟩
            · rw [rl]
              exact len1000 (by omega)
            · refine ⟨rs ++ [⟨T, g, 100 * u7 + ((rowsV rs).length : Nat)⟩], _, _, rfl, SH.row ⟨T, g, 100 * u7 + ((rowsV rs).length : Nat)⟩ ⟨.inl (.inl upd_same), same_gang (same_new hT) gat2⟩ ⟨gguild, gwant, gm, glo, ghi, by rw [gname]; exact name_tx _ few, gtx _ gguild, gth⟩ gname few, ?_⟩
              refine ((xg.same (same_new hT)).keep (KeepBut.refl ra _).upd cr.symm).mono ?_
              omega
          · exact ⟨rs, _, _, rfl, SE, xe.mono (by omega)⟩
        · rintro σ HE ⟨rs, v11, v12, rfl, SE, xe⟩
          exact ⟨rs, _, _, _, _, rfl, SE⟩
      · rintro σ HB ⟨rs, v9, v10, v11, v12, rfl, SB⟩
        -- gang_here
        have kb0 := SB.nga
        refine ⟨_, rfl, by show 3 ≤ sizeLine; decide, fun l4 hl4 => ?_⟩
        have nl4 := SB.box.ne hl4
        have SC := SB.keep (same_new (o := .lst [.str "z", .str "aaaaaaa", .str "zed"]) hl4)
        refine ⟨_, rfl, b, 3, _, rfl, by decide, by decide, SC.box, by decide, fun u6 HD kD xd d0 d1 => ?_⟩
        have SD := SC.drawn kD xd
        have l4d : HD l4 = some (.lst [.str "z", .str "aaaaaaa", .str "zed"]) := kD _ _ upd_same nl4
        obtain ⟨y4, hy4, ay4⟩ := at_some (xs := [V.str "z", .str "aaaaaaa", .str "zed"]) d0 d1
        obtain ⟨nm, rfl, nmt⟩ : ∃ nm : Str, y4 = .str nm ∧ PyData.strOk nm = true := by
          simp only [List.mem_cons, List.not_mem_nil, or_false] at hy4
          rcases hy4 with h | h | h
          · exact ⟨_, h, by decide +kernel⟩
          · exact ⟨_, h, by decide +kernel⟩
          · exact ⟨_, h, by decide +kernel⟩
        refine ⟨l4, _, u6, .str nm, rfl, rfl, SqL.of l4d, ay4, _, rfl, _, rfl, _, rfl, ?_⟩
        refine ⟨b, ga, nm, gs, wares, wide, _, rfl, SD.box, by decide, SD.gl, gn, by omega, w1, w2, v1, v2, fun g HE kE xe gat g0 gname gguild gwant gm glo ghi gth => ?_⟩
        have SE := SD.drawn kE xe
        have gok : GOk wares gs g := ⟨gguild, gwant, gm, glo, ghi, by rw [gname]; exact nmt, gtx _ gguild, gth⟩
        -- for guild in guilds
        refine ⟨_, rfl, ga, rfl, ⟨_, SqL.of SE.gl⟩, for_list (K := K) (a := ga) (xs := strV gs) (fun i σ H' => ∃ (ds : Dues) (v14 v15 v16 : Option V),
          σ = [some (.ref a), some (.ref b), some (.int wares), some (.int wide), some (.ref la), some (.int t), some (.ref ga), some (.ref dd), some (.ref ra), v9, v10, v11, v12, some (.ref g.a), v14, v15, v16, none, none] ∧ StAt K H H' b (277 + 2 * i) ga gs dd ds ra rs wares ∧ GangAt K H' g)
          ⟨ds, none, none, none, rfl, SE.mono (by decide), gat⟩ (fun i σ H' _ ⟨_, _, _, _, _, S, _⟩ => SqL.of S.gl) ?_ ?_⟩
        · rintro i y σ HF hi ⟨ds, v14, v15, v16, rfl, SF, gaF⟩
          have hi' : (gs.map V.str)[i]? = some y := hi
          rw [List.getElem?_map] at hi'
          cases e : gs[i]? with
          | none => rw [e] at hi'; cases hi'
          | some x =>
            rw [e] at hi'
            cases hi'
            have hil : i < gs.length := (List.getElem?_eq_some_iff.mp e).1
            have hx : x ∈ gs := List.mem_of_getElem? e
            have rl : (rowsV rs).length = rs.length := by unfold rowsV; rw [List.length_map]
            have nra := SF.nra
            -- few
            refine ⟨_, rfl, ra, rfl, ⟨_, SqL.of SF.rl⟩, fun D hD => ?_⟩
            have nD := SF.box.ne hD
            refine lc_over rs (fun r => V.ref r.a) (fun r => if decide (r.g.guild = x) = true then some (V.ref r.g.a) else none) hD (Nat.le_trans SF.few (by decide)) (SqL.of SF.rl) (fun r HG N S hm s1 q1 q2 => ?_) fun HG sG eG => ?_
            · have hr1 := same_row s1 (SF.rows r hm).1
              refine ⟨rfl, _, rfl, r.a, _, 0, .ref r.g.a, rfl, rfl, hr1.1, atI_nat (j := 0) rfl, r.g.a, gangV r.g, 1, .str r.g.guild, rfl, rfl, hr1.2.1, atI_nat (j := 1) rfl, ?_⟩
              refine ⟨_, rfl, rfl, _, rfl, ?_⟩
              refine ite2 (fun c => ?_) (fun c => ?_)
              · have c' : r.g.guild = x := V.str.inj (of_decide_eq_true c)
                exact ⟨_, rfl, r.a, _, 0, .ref r.g.a, rfl, rfl, hr1.1, atI_nat (j := 0) rfl, q1 _ _ (if_pos (decide_eq_true c')) (Same.refl _)⟩
              · have c' : ¬ r.g.guild = x := fun z => c (decide_eq_true (by rw [z]))
                exact q2 _ (if_neg (by rw [decide_eq_false c']; exact Bool.false_ne_true)) (Same.refl _)
            rw [filterMap_gangs] at eG
            have SG := SF.keep sG
            refine ⟨_, rfl, b, 6, _, rfl, by decide, by decide, SG.box, by omega, fun u HI kI xI p0 p1 => ?_⟩
            have SI := SG.drawn kI xI
            have gI := gang_keep kI SG.box.mut_ (same_gang sG gaF)
            have eI := kI _ _ eG nD
            refine ⟨u, rfl, D, _, rfl, SqL.of eI, fun c1 hc1 => ?_⟩
            have m1' := same_new (o := .lst (cutV (((rs.filter fun r => decide (r.g.guild = x)).map (·.g)).map fun z => V.ref z.a) none (some u))) hc1
            refine ⟨_, rfl, by show 1 ≤ sizeLine; decide, fun l5 hl5 => ?_⟩
            have m2' := m1'.trans (same_new (o := .lst [V.ref g.a]) hl5)
            refine ⟨_, rfl, _, rfl, g.a, gangV g, 1, .str g.guild, rfl, rfl, (same_gang m2' gI).1, atI_nat (j := 1) rfl, ?_⟩
            refine ⟨rfl, .inr ⟨_, rfl, ?_⟩⟩
            obtain ⟨j, hj, j0⟩ : ∃ j : Int, j = (if decide (V.str x = V.str g.guild) = true then 1 else 0) ∧ 0 ≤ j := by
              refine ⟨_, rfl, ?_⟩
              split <;> omega
            refine ⟨j, by rw [hj], l5, _, rfl, SqL.of upd_same, fun c2 hc2 => ?_⟩
            have c21 : c1 ≠ c2 := ne_of_none (same_new hl5 _ _ upd_same) hc2
            have hf1 : (cutV (((rs.filter fun r => decide (r.g.guild = x)).map (·.g)).map fun z => V.ref z.a) none (some u)) = (((rs.filter fun r => decide (r.g.guild = x)).map (·.g)).take u.toNat).map fun z => V.ref z.a := by
              rw [cut_to p0, List.map_take]
            have hf2 : cutV [V.ref g.a] none (some j) = ([g].take j.toNat).map fun z => V.ref z.a := by
              rw [cut_to j0, List.map_take]
              rfl
            have el1 : (((rs.filter fun r => decide (r.g.guild = x)).map (·.g)).take u.toNat).length ≤ 60 := by
              rw [List.length_take, List.length_map]
              exact Nat.le_trans (Nat.min_le_right _ _) (Nat.le_trans (List.length_filter_le _ _) SF.few)
            have el2 : ([g].take j.toNat).length ≤ 1 := by
              rw [List.length_take]
              exact Nat.min_le_right _ _
            have m3' := m2'.trans (same_new (o := .lst (cutV [V.ref g.a] none (some j))) hc2)
            refine ⟨c1, c2, _, _, rfl, rfl, same_new hc2 _ _ (same_new hl5 _ _ upd_same), upd_same, ?_, fun c3 hc3 => ?_⟩
            · rw [hf1, hf2, List.length_map, List.length_map]
              exact Nat.le_trans (show _ ≤ 61 by omega) (by decide)
            obtain ⟨fewG, hfew, okG, lenG⟩ : ∃ fewG : List Gang, cutV (((rs.filter fun r => decide (r.g.guild = x)).map (·.g)).map fun z => V.ref z.a) none (some u) ++ cutV [V.ref g.a] none (some j) = fewG.map (fun z => V.ref z.a) ∧ (∀ z ∈ fewG, GangAt K HI z ∧ GOk wares gs z) ∧ fewG.length ≤ 61 := by
              refine ⟨((rs.filter fun r => decide (r.g.guild = x)).map (·.g)).take u.toNat ++ [g].take j.toNat, by rw [hf1, hf2, List.map_append], fun z hz => ?_, by rw [List.length_append]; omega⟩
              rcases List.mem_append.mp hz with hz | hz
              · obtain ⟨r, hr, rfl⟩ := List.mem_map.mp (List.mem_of_mem_take hz)
                have := SI.rows r (List.mem_filter.mp hr).1
                exact ⟨this.1.2, this.2⟩
              · rw [List.mem_singleton.mp (List.mem_of_mem_take hz)]
                exact ⟨gI, gok⟩
            rw [hfew]
            generalize upd (upd (upd HI c1 (.lst (cutV (((rs.filter fun r => decide (r.g.guild = x)).map (·.g)).map fun z => V.ref z.a) none (some u)))) l5 (.lst [V.ref g.a])) c2 (.lst (cutV [V.ref g.a] none (some j))) = HX at hc3 m3' ⊢
            have m4 := m3'.trans (same_new (o := .lst (fewG.map fun z => V.ref z.a)) hc3)
            have SJ := SI.keep m4
            have gJ := same_gang m4 gI
            have okJ : ∀ z ∈ fewG, GangAt K (upd HX c3 (.lst (fewG.map fun z => V.ref z.a))) z ∧ GOk wares gs z := fun z hz => ⟨same_gang m4 (okG z hz).1, (okG z hz).2⟩
            have f3 : upd HX c3 (.lst (fewG.map fun z => V.ref z.a)) c3 = some (.lst (fewG.map fun z => V.ref z.a)) := upd_same
            clear okG
            generalize upd HX c3 (.lst (fewG.map fun z => V.ref z.a)) = HJ at SJ gJ okJ f3 ⊢
            -- borne
            refine ⟨_, rfl, wares, rfl, by omega, by omega, fun D1 hD1 => ?_⟩
            refine lc_fm walk_range (fun k => some (V.int ((fewG.map fun z => z.many * z.want.getD k 0).sum))) hD1 (by omega) (fun _ _ => trivial) (fun k y HK HK' N S hk sK yK kN kS => ?_) fun HK sK eK => ?_
            · obtain ⟨rfl, rfl⟩ := yK
              refine ⟨rfl, yesT ⟨_, rfl, c3, rfl, ⟨_, sK.seq (SqL.of f3)⟩, fun D2 hD2 => ?_⟩⟩
              refine lc_over fewG (fun z => V.ref z.a) (fun z => some (V.int (z.many * z.want.getD k 0))) hD2 (by omega) (sK.seq (SqL.of f3)) (fun z HL N2 S2 hz sL n1 n2 => ?_) fun HL sL eL => ?_
              · have gz := same_gang (sK.trans sL) (okJ z hz).1
                have gk := (okJ z hz).2
                have lw := gk.want.1
                have ek : z.want[k]? = some (z.want.getD k 0) := by
                  rw [List.getD_eq_getElem?_getD, List.getElem?_eq_getElem (by omega)]
                  rfl
                refine ⟨rfl, yesT ⟨_, rfl, z.a, gangV z, 3, .int z.many, rfl, rfl, gz.1, atI_nat (j := 3) rfl, _, rfl, z.a, gangV z, 4, .ref z.wa, rfl, rfl, gz.1, atI_nat (j := 4) rfl, _, rfl, z.wa, _, _, .int (z.want.getD k 0), rfl, rfl, gz.2, ?_, _, _, rfl, rfl, .inl ⟨gk.lo, gk.hi⟩, n1 _ _ rfl (Same.refl _)⟩⟩
                have e : (0 : Int) + (k : Nat) = (k : Nat) := by omega
                rw [e]
                refine atI_nat ?_
                rw [List.getElem?_map, ek]
                rfl
              · have eL2 : (fewG.filterMap fun z => some (V.int (z.many * z.want.getD k 0))) = (fewG.map fun z => z.many * z.want.getD k 0).map V.int := by
                  rw [List.map_map, ← List.filterMap_eq_map]
                  rfl
                rw [eL2] at eL
                exact ⟨D2, _, rfl, SqL.of eL, kN _ _ rfl sL⟩
            · have eK2 : runF (fun k => some (V.int ((fewG.map fun z => z.many * z.want.getD k 0).sum))) wares = intV ((List.range wares).map fun k => (fewG.map fun z => z.many * z.want.getD k 0).sum) := by
                unfold runF intV
                rw [List.map_map, ← List.filterMap_eq_map]
                rfl
              rw [Int.toNat_natCast, eK2] at eK
              have lB : ((List.range wares).map fun k => (fewG.map fun z => z.many * z.want.getD k 0).sum).length = wares := by rw [List.length_map, List.length_range]
              generalize ((List.range wares).map fun k => (fewG.map fun z => z.many * z.want.getD k 0).sum) = borneL at eK lB
              refine ⟨D1, _, rfl, .inl ⟨SqL.of eK, fun wp hp => ?_⟩⟩
              have m5 := sK.trans (same_new (o := .tup (intV borneL)) hp)
              have SK := SJ.keep m5
              have gK := same_gang m5 gJ
              have tK : SqT K (upd HK wp (.tup (intV borneL))) wp (intV borneL) := .inl (.inl upd_same)
              generalize upd HK wp (.tup (intV borneL)) = HM at SK gK tK
              -- if
              refine ⟨_, rfl, b, 3, _, rfl, by decide, by decide, SK.box, by omega, fun u2 HN kN xN s0 s1 => ?_⟩
              have SN := SK.drawn kN xN
              have gN := gang_keep kN SK.box.mut_ gK
              have tN := tup_keep kN SK.box.mut_ tK
              refine ⟨rfl, _, rfl, ?_⟩
              refine ite2 (fun _ => ?_) (fun _ => ?_)
              · refine ⟨_, rfl, wp, borneL, rfl, tN, by omega, fun m => ?_⟩
                refine ⟨_, _, rfl, rfl, ⟨by decide, by decide, by decide⟩, _, _, rfl, rfl, _, rfl, ?_⟩
                refine ite2 (fun _ => ?_) (fun _ => ?_)
                · refine ⟨_, rfl, _, rfl, _, rfl, dd, _, rfl, DPut.k (k := (Sum.inr x : Key)) SN.dl ?_, ?_⟩
                  · unfold dsV
                    rw [List.length_map, ← List.length_map (f := (·.1)), SN.keys]
                    exact len1000 (by omega)
                  · exact ⟨dsPut ds x wp borneL, _, _, _, rfl, (SN.put hx tN lB).mono (by omega), gang_upd (by rw [SN.dl]; trivial) gN⟩
                · exact ⟨ds, _, _, _, rfl, SN.mono (by omega), gN⟩
              · exact ⟨ds, _, _, _, rfl, SN.mono (by omega), gN⟩
        · rintro σ HF ⟨ds, v14, v15, v16, rfl, SF, gaF⟩
          refine ⟨_, rfl, _, rfl, _, rfl, by show 3 ≤ sizeLine; decide, fun q hq => ?_⟩
          exact k q _ b _ ga gs dd ds ra rs wares g (.inl (.inl upd_same)) (SF.keep (same_new hq)) gnd w1 w2 (same_gang (same_new hq) gaF) gok
end
end Ch

/-! What stands behind the takings, and how it is asked. -/
namespace Ch
open PySem PySem.Spec PyProof.Rows L2
/-! ### plain -/
abbrev leftOf (ds : Dues) (rs : List Row) (g : Gang) : List Row := rs.filter fun r => !taken ds rs g r
section
variable {n : Nat} {ds : Dues} {rs : List Row} {g : Gang}
theorem owned (ok : AllOk n ds rs g) (h : isOwed ds rs g = true) : isOwn ds rs g = true := by
  unfold isOwed at h
  unfold isOwn
  obtain ⟨a, due, _, e, l⟩ := dueOf_mem ok.dues ok.guild
  rw [e] at h ⊢
  exact owed_own l (fun r hr => ok.wants r (ofGuild_mem.mp hr).1) h
theorem left_rank (ok : AllOk n ds rs g) {x : Str} {due : List Int} (hd : dueOf ds x = some due) {y : Str} (h : y ∈ lentN due (ofGuild (leftOf ds rs g) x)) : ∃ r ∈ ofGuild (leftOf ds rs g) x, r.g.name = y ∧ g.rank ≤ r.g.rank := by
  obtain ⟨r, hr, e, hl⟩ := lentN_mem h
  refine ⟨r, hr, e, ?_⟩
  by_cases c : x ≠ g.guild ∨ ownWith ((dueOf ds g.guild).getD []) (ofGuild rs g.guild) g = false
  · exact (lent_left ok hd c hl).1
  · have cx : x = g.guild := Classical.byContradiction fun z => c (.inl z)
    have co : ownWith ((dueOf ds g.guild).getD []) (ofGuild rs g.guild) g = true := by
      cases q : ownWith ((dueOf ds g.guild).getD []) (ofGuild rs g.guild) g with
      | true => rfl
      | false => exact absurd (.inr q) c
    rw [cx, mine_left ok co] at hr
    exact of_decide_eq_true (List.mem_filter.mp hr).2
theorem left_none (ok : AllOk n ds rs g) {x : Str} {due : List Int} (hd : dueOf ds x = some due) (hx : x ≠ g.guild) (ho : isOwed ds rs g = true) : lentN due (ofGuild (leftOf ds rs g) x) = [] := by
  cases e : lentN due (ofGuild (leftOf ds rs g) x) with
  | nil => rfl
  | cons y r =>
    have h : y ∈ lentN due (ofGuild (leftOf ds rs g) x) := by rw [e]; exact List.mem_cons_self
    obtain ⟨r, hr, _, hl⟩ := lentN_mem h
    exact absurd ⟨hx, ho⟩ (lent_left ok hd (.inl hx) hl).2
theorem left_mine (ok : AllOk n ds rs g) (ho : isOwn ds rs g = true) : ∀ r ∈ ofGuild (leftOf ds rs g) g.guild, g.rank ≤ r.g.rank := fun r hr => by
  rw [mine_left ok ho] at hr
  exact of_decide_eq_true (List.mem_filter.mp hr).2
theorem left_own (ok : AllOk n ds rs g) {x : Str} {due : List Int} (hd : dueOf ds x = some due) (hx : x ≠ g.guild ∨ isOwn ds rs g = false) : ownN due (ofGuild (leftOf ds rs g) x) = ownN due (ofGuild rs x) := by
  unfold ownN
  rw [(own_left ok hd hx).1]
theorem left_owed (ok : AllOk n ds rs g) {due : List Int} (hd : dueOf ds g.guild = some due) : owed due (ofGuild (leftOf ds rs g) g.guild) g = isOwn ds rs g := by
  cases c : isOwn ds rs g with
  | true =>
    rw [mine_left ok c]
    unfold isOwn at c
    rw [hd] at c
    exact c
  | false =>
    have e : borne due (ofGuild (leftOf ds rs g) g.guild) = borne due (ofGuild rs g.guild) := by
      unfold borne
      exact (own_left ok hd (.inr c)).2.2
    unfold owed
    rw [e]
    cases q : isOwed ds rs g with
    | true =>
      rw [owned ok q] at c
      cases c
    | false =>
      unfold isOwed at q
      rw [hd] at q
      exact q
/-- the names of those taken -/
theorem gone_iff (ok : AllOk n ds rs g) {r : Row} (hr : r ∈ rs) : r.g.name ∈ ((rs.mergeSort le2).filter (keptRow ds rs g (rs.map fun r => r.g.name))).map (fun r => r.g.name) ↔ taken ds rs g r = true := by
  rw [List.mem_map]
  constructor
  · rintro ⟨q, hq, e⟩
    obtain ⟨h1, h2⟩ := List.mem_filter.mp hq
    have hq' := (List.mergeSort_perm rs le2).mem_iff.mp h1
    have := nodup_inj ok.names hq' hr e
    subst this
    exact (Bool.and_eq_true_iff.mp h2).2
  · intro h
    refine ⟨r, List.mem_filter.mpr ⟨(List.mergeSort_perm rs le2).mem_iff.mpr hr, ?_⟩, rfl⟩
    unfold keptRow
    rw [h, decide_eq_true (List.mem_map.mpr ⟨r, hr, rfl⟩)]
    rfl
end
/-! ### tests that may make new things -/
def EvS (t : TT) (σ : L2.St) (H : Hp) (b : Bool) : Prop := ∀ R : Bool → Hp → Prop, (∀ H', Same H H' → R b H') → t σ H R
theorem evs_and {t u : TT} {σ : L2.St} {H : Hp} {a b : Bool} (h : EvS t σ H a) (h' : a = true → ∀ H', Same H H' → EvS u σ H' b) : EvS (tAnd t u) σ H (a && b) := fun R r => h _ fun H' s => by
  cases a with
  | true =>
    show if true = true then u σ H' R else R false H'
    rw [if_pos rfl]
    exact h' rfl H' s R fun H2 s2 => r H2 (s.trans s2)
  | false =>
    show if false = true then u σ H' R else R false H'
    rw [if_neg Bool.false_ne_true]
    exact r H' s
theorem evs_or {t u : TT} {σ : L2.St} {H : Hp} {a b : Bool} (h : EvS t σ H a) (h' : a = false → ∀ H', Same H H' → EvS u σ H' b) : EvS (tOr t u) σ H (a || b) := fun R r => h _ fun H' s => by
  cases a with
  | true =>
    show if true = true then R true H' else u σ H' R
    rw [if_pos rfl]
    exact r H' s
  | false =>
    show if false = true then R true H' else u σ H' R
    rw [if_neg Bool.false_ne_true]
    exact h' rfl H' s R fun H2 s2 => r H2 (s.trans s2)
theorem evs_not {t : TT} {σ : L2.St} {H : Hp} {a : Bool} (h : EvS t σ H a) : EvS (tNot t) σ H (!a) := fun R r => h _ fun H' s => r H' s
theorem seqNo {c : TT} {t u : TS} {v : TS} {D : Ends} {σ : L2.St} {H : Hp} (h : EvS c σ H false) (r : ∀ H', Same H H' → u { D with nx := v D } σ H') : tSeq (tIfS c t u) v D σ H :=
  h (fun b H1 => if b = true then t { D with nx := v D } σ H1 else u { D with nx := v D } σ H1) fun H' s => by
    rw [if_neg Bool.false_ne_true]
    exact r H' s
theorem oneNo {c : TT} {t u : TS} {D : Ends} {σ : L2.St} {H : Hp} (h : EvS c σ H false) (r : ∀ H', Same H H' → u D σ H') : tIfS c t u D σ H :=
  h (fun b H1 => if b = true then t D σ H1 else u D σ H1) fun H' s => by
    rw [if_neg Bool.false_ne_true]
    exact r H' s
/-! ### under a lock -/
theorem list_upd {K : PySem.W.Frag} {H : Hp} {p a : Addr} {xs : List V} {kvs : List (Key × V)} {o : HO} (e : H p = some (.dK kvs)) (h : SqL K H a xs) : SqL K (upd H p o) a xs := by
  have ne : ∀ {u : HO}, H a = some u → u ≠ .dK kvs → a ≠ p := fun z nm q => by
    subst q
    rw [e] at z
    exact nm (Option.some.inj z).symm
  rcases h with (h | ⟨ob, h⟩) | h
  · exact .inl (.inl (by rw [upd_ne (ne h (by intro z; cases z))]; exact h))
  · exact .inl (.inr ⟨ob, by rw [upd_ne (ne h (by intro z; cases z))]; exact h⟩)
  · exact .inr h
theorem ask_lock {K : PySem.W.Frag} {H : Hp} {dd ra : Addr} {ds : Dues} {rs : List Row} {g : Gang} {o : Obj} (a : AskOk K H dd ra ds rs g) (e : H dd = some (.dK (dsV ds))) : AskOk K (upd H dd (.frz o (.dK (dsV ds)))) dd ra ds rs g := by
  have m : Mut (H dd) := by rw [e]; trivial
  exact ⟨⟨.inr ⟨o, upd_same⟩, fun d hd => ⟨tup_upd m (a.dsk.dues d hd).at_, (a.dsk.dues d hd).one, (a.dsk.dues d hd).few⟩⟩, ⟨list_upd e a.rsk.at_, fun r hr => row_upd m (a.rsk.rows r hr), a.rsk.few, a.rsk.wh⟩, gang_upd m a.gang, a.wh, a.guilds, a.guild⟩
theorem same_unlock {H H' : Hp} {d : Addr} {u : HO} {o : Obj} (e : H d = some u) (s : Same (upd H d (.frz o u)) H') : Same H (upd H' d u) := fun b w hb => by
  by_cases c : b = d
  · rw [c, upd_same]
    rw [c, e] at hb
    exact hb
  · rw [upd_ne c]
    exact s b w (by rw [upd_ne c]; exact hb)
/-! ### pairs for a dict -/
theorem lc_pairs {K : PySem.W.Frag} {a : Addr} {α : Type} (xs : List α) (enc : α → V) (F : α → Key × V) {g : TG} {tt : TT} {te : TE} {vs : List Nat} {σ : L2.St} {H1 : Hp} {D : Addr} {Qd : Hp → Prop} (hD : H1 D = none) (hn : xs.length ≤ 1000) (hS : SqL K H1 a (xs.map enc))
    (hs : ∀ x H (N : VK) (S : Hp → Prop), x ∈ xs → Same H1 H → (∀ T H4, Same H H4 → SqT K H4 T [kV (F x).1, (F x).2] → N (.ref T) H4) →
      g (enc x) (wipe σ vs) H fun σ2 H2 => wipe σ2 vs = wipe σ vs ∧ tt σ2 H2 fun b H3 => if b = true then te σ2 H3 N else S H3)
    (hd : ∀ H (ts : List Addr), Same H1 H → H D = some (.lst (ts.map V.ref)) → Paired (fun p (kv : Key × V) => SqT K H p [kV kv.1, kv.2]) ts (xs.map F) → Qd H) :
    ∃ W : Nat → Nat → Hp → Prop, (∃ m, W 0 m (upd H1 D (.lst []))) ∧ ∀ i m H, W i m H →
      ((Itl K a).stop i H ∧ Qd H) ∨ ((Itl K a).go i H ∧ ∃ Nx : Hp → Prop, (∀ H', Nx H' → ∃ m', m' < m ∧ W (i + 1) m' H') ∧ ∀ x H', (Itl K a).yld i H x H' → g x (wipe σ vs) H' fun σ2 H2 => wipe σ2 vs = wipe σ vs ∧ tt σ2 H2 fun b H3 =>
        if b = true then te σ2 H3 fun y H4 => ∃ acc, H4 D = some (.lst acc) ∧ acc.length < sizeLine ∧ Nx (upd H4 D (.lst (acc ++ [y]))) else Nx H3) := by
  have hl : (xs.map enc).length = xs.length := List.length_map _
  refine lc_it (walk_list (xs := xs.map enc)) (fun i H => Same H1 H ∧ ∃ ts : List Addr, H D = some (.lst (ts.map V.ref)) ∧ ts.length = i ∧ Paired (fun p (kv : Key × V) => SqT K H p [kV kv.1, kv.2]) ts ((xs.take i).map F))
    ⟨same_new hD, [], upd_same, rfl, .nil⟩ (fun i H _ p => p.1.seq hS) (fun i v H H' hi p y => ?_) fun H ⟨s, ts, e, l, q⟩ => ?_
  · obtain ⟨s, ts, e, l, q⟩ := p
    obtain ⟨rfl, y⟩ := y
    rw [List.getElem?_map] at y
    cases ez : xs[i]? with
    | none => rw [ez] at y; cases y
    | some z =>
      rw [ez] at y
      cases y
      refine hs z H' _ _ (List.mem_of_getElem? ez) s fun T H4 s4 hT => ?_
      have e4 := s4 _ _ e
      refine ⟨_, e4, by rw [List.length_map, l]; exact len1000 (by omega), ?_, ts ++ [T], ?_, ?_, ?_⟩
      · exact same_upd (s.trans s4) hD
      · rw [upd_same, List.map_append]
        rfl
      · rw [List.length_append, l]
        rfl
      · rw [List.take_add_one, ez, List.map_append]
        refine Paired.snoc (paired_imp (fun p kv h => tup_upd (mut_lst e4) (same_tup s4 h)) q) ?_
        exact tup_upd (mut_lst e4) hT
  · rw [hl, List.take_length] at q
    exact hd H ts s e q
theorem merge_new {kvs : List (Key × V)} (h : (kvs.map (·.1)).Nodup) : mergeK [] kvs = kvs := by
  rw [merge_app kvs [] h fun p _ => rfl]
  exact List.nil_append _
/-- the ranks by names -/
def ranksV (rs : List Row) : List (Key × V) := rs.map fun r => ((Sum.inr r.g.name : Key), V.int r.g.rank)
theorem ranks_keys {rs : List Row} (h : (rs.map fun r => r.g.name).Nodup) : ((ranksV rs).map (·.1)).Nodup := by
  unfold ranksV
  rw [List.map_map]
  have e : ((·.1) ∘ fun r : Row => ((Sum.inr r.g.name : Key), V.int r.g.rank)) = (fun x : Str => (Sum.inr x : Key)) ∘ fun r : Row => r.g.name := rfl
  rw [e, ← List.map_map]
  exact List.Pairwise.map _ (fun a b n z => n (Sum.inr.inj z)) h
theorem ranks_get : ∀ {rs : List Row}, (rs.map fun r => r.g.name).Nodup → ∀ {r : Row}, r ∈ rs → valV (ranksV rs) (Sum.inr r.g.name : Key) = some (.int r.g.rank)
  | [], _, r, h => by cases h
  | x :: rs, hn, r, h => by
    rw [List.map_cons] at hn
    obtain ⟨h1, h2⟩ := List.nodup_cons.mp hn
    by_cases e : x.g.name = r.g.name
    · have er : r = x := by
        rcases List.mem_cons.mp h with z | z
        · exact z
        · exact absurd (List.mem_map.mpr ⟨r, z, e.symm⟩) h1
      rw [er]
      exact valV_pos (p := ((Sum.inr x.g.name : Key), V.int x.g.rank)) (r := ranksV rs) rfl
    · have hr : r ∈ rs := by
        rcases List.mem_cons.mp h with z | z
        · rw [z] at e
          exact absurd rfl e
        · exact z
      rw [← ranks_get h2 hr]
      exact valV_neg (p := ((Sum.inr x.g.name : Key), V.int x.g.rank)) (r := ranksV rs) (fun z => e (Sum.inr.inj z))
/-! ### data -/
theorem dp_strs {K : PySem.W.Frag} {H : Hp} : ∀ xs : List Str, DpAll K H (strV xs) (xs.map PyData.str)
  | [] => .nil
  | x :: xs => .cons (.str x) (dp_strs xs)
theorem can_strs : ∀ xs : List Str, (∀ x ∈ xs, PyData.strOk x = true) → PyData.canLayAll0 (xs.map PyData.str) = true
  | [], _ => by rw [List.map_nil, PyData.canLayAll0]
  | x :: xs, h => by
    rw [List.map_cons, PyData.canLayAll0, PyData.canLay0, h x List.mem_cons_self, can_strs xs fun y hy => h y (List.mem_cons_of_mem _ hy)]
    rfl
theorem depth_strs : ∀ xs : List Str, PyData.depthAll (xs.map PyData.str) = 0
  | [] => by rw [List.map_nil, PyData.depthAll]
  | x :: xs => by
    rw [List.map_cons, PyData.depthAll, PyData.depth, depth_strs xs]
    rfl
theorem shaped_strs {xs : List Str} (h : ∀ x ∈ xs, PyData.strOk x = true) : SeqAt.shaped (.list (xs.map PyData.str)) = true := by
  unfold SeqAt.shaped
  rw [PyData.canLay0, PyData.depth, can_strs xs h, depth_strs]
  rfl
theorem no_any (n : Nat) : ((List.replicate n false).any id) = false := by
  rw [List.any_eq_false]
  intro x hx
  rw [List.eq_of_mem_replicate hx]
  exact Bool.false_ne_true
end Ch

/-! What stands behind the takings is as it is asked. -/
namespace Ch
open PySem PySem.Spec PyProof.Rows L2
theorem notInK {X : Cx} (K : PySem.W.Frag) (h : X.K = K) : OpR X (compareOp .NotIn) (rIn K true) := h ▸ op_notIn_seq
theorem anyK {X : Cx} (K : PySem.W.Frag) (h : X.K = K) (hc : X.calm = true) : CallR X (.builtin "any") (rAny K) := h ▸ cr_any hc
def spRight (K : PySem.W.Frag) : Sp := fun vs H Q _ => ∃ (dd ra : Addr) (ds : Dues) (rs : List Row) (g : Gang) (n : Nat), vs = [.ref dd, .ref ra, .ref g.a] ∧ AskOk K H dd ra ds rs g ∧ H dd = some (.dK (dsV ds)) ∧ AllOk n ds rs g ∧ (∀ r ∈ rs, PyData.strOk r.g.name = true) ∧ ∀ H', Same H H' → Q (.bl true) H'
abbrev nRight : List Str := ["_law_dues", "_law_rows", "_law_gang_here", "_law_mine", "_law_is_owed", "_law_is_own", "_law_row", "_law_pair", "_law_gone", "_law_left", "_law_guild_here", "_law_ranks", "_law_own", "_law_lent", "_law_name"]
theorem scRight : FnScope nRight ["_law_dues", "_law_rows", "_law_gang_here"] (defScope sRight) := ⟨rfl, rfl, rfl, by decide +kernel, rfl, by decide +kernel, by decide +kernel⟩
structure RtEnv (P : Program) (w : World) (K : PySem.W.Frag) (mg : Str → Option Value) (base : Heap) : Prop where
  guild : ∃ f fd, FnOk P w K mg base CX0 1 f fd ["_law_rows", "_law_guild_here"] (spGuild K) ∧ Binds K fd ["_law_rows", "_law_guild_here"] [] ∧ mg "_law_guild" = some (.ref f) ∧ PySem.W.keepIn K (.ref f) = true
  may : ∃ f fd, FnOk P w K mg base CX0 10 f fd ["dues", "rows", "names", "gang"] (spMay K) ∧ Binds K fd ["dues", "rows", "names", "gang"] [] ∧ mg "may_take" = some (.ref f) ∧ PySem.W.keepIn K (.ref f) = true
theorem evs_cast {t : TT} {σ : L2.St} {H : Hp} {a b : Bool} (h : EvS t σ H a) (e : a = b) : EvS t σ H b := e ▸ h
section
variable {P : Program} {w : World} {K : PySem.W.Frag} {mg : Str → Option Value} {base : Heap}
theorem ok_right {f : Addr} {fd : FuncData} (F : Fun K "_law_right" "_law_right" sRight f fd) (B : Blt mg) (E : PaEnv P w K mg base) (Y : RtEnv P w K mg base) : FnOk P w K mg base CX0 11 f fd ["_law_dues", "_law_rows", "_law_gang_here"] (spRight K) := by
  obtain ⟨fP, fdP, GP, bP, mP, kP⟩ := E.parted
  obtain ⟨fO, fdO, GO, bO, mO, kO⟩ := E.owed
  obtain ⟨fW, fdW, GW, bW, mW, kW⟩ := E.own
  obtain ⟨fU, fdU, GU, bU, mU, kU⟩ := Y.guild
  obtain ⟨fM, fdM, GM, bM, mM, kM⟩ := Y.may
  refine F.ok scRight (fun vs H Q E h => ?_) (fun cdv A outer s H vs Q E hr h => ?_)
  · obtain ⟨dd, ra, ds, rs, g, n, rfl, _⟩ := h
    rfl
  · obtain ⟨dd, ra, ds, rs, g, n, rfl, ok, hdd, al, tx, k⟩ := h
    have hr1 : Room 1 _ := hr.mono (by decide)
    have hr7 : Room 7 _ := hr.mono (by decide)
    have hu := hu_of hr
    refine ⟨_, pss_cons (ps_set (i := 3) scRight.nd rfl (Or.inl rfl) (pe_call GU hr1 (by rfl) mU kU bU .nil pass0 (pa_cons (pv 1) (pa_cons (pe_ix (ixT K rfl) (pv 2) pe_int (fun _ _ => rfl)) pa_nil))))
      (pss_cons (ps_set (i := 4) scRight.nd rfl (Or.inl rfl) (pe_call GO hr7 (by rfl) mO kO bO .nil pass0 (pa_cons (pe_dget hu (pv 0) (pe_ix (ixT K rfl) (pv 2) pe_int (fun _ _ => rfl)) (fun _ _ => rfl)) (pa_cons (pv 3) (pa_cons (pv 2) pa_nil)))))
      (pss_cons (ps_set (i := 5) scRight.nd rfl (Or.inl rfl) (pe_call GW hr7 (by rfl) mW kW bW .nil pass0 (pa_cons (pe_dget hu (pv 0) (pe_ix (ixT K rfl) (pv 2) pe_int (fun _ _ => rfl)) (fun _ _ => rfl)) (pa_cons (pv 3) (pa_cons (pv 2) pa_nil)))))
      (pss_cons (ps_set (i := 8) scRight.nd rfl (Or.inr rfl) (pe_lc (own := [("_law_pair", 7)]) (g := gName 7) (tt := tYes) rfl scRight.nd (pi_list (pe_call GM hr (by rfl) mM kM bM .nil pass0 (pa_cons (pv 0) (pa_cons (pv 1) (pa_cons
          (pe_lc (own := [("_law_row", 6)]) (g := gName 6) (tt := tYes) rfl scRight.nd (pi_list (pv 1)) (blkOk_by (N := nRight) (sc := defScope sRight) (by decide +kernel)) (fun _ _ _ _ _ => pg_name (i := 6) scRight.nd rfl (Or.inl rfl)) (fun _ _ _ _ _ => pts_nil)
            (fun _ _ _ _ _ => pe_ix (ixT K rfl) (pe_ix (ixT K rfl) (pv 6) pe_int (fun _ _ => rfl)) pe_int (fun _ _ => rfl))) (pa_cons (pv 2) pa_nil))))))
          (blkOk_by (N := nRight) (sc := defScope sRight) (by decide +kernel)) (fun _ _ _ _ _ => pg_name (i := 7) scRight.nd rfl (Or.inl rfl)) (fun _ _ _ _ _ => pts_nil) (fun _ _ _ _ _ => pe_ix (ixT K rfl) (pv 7) pe_int (fun _ _ => rfl))))
      (pss_cons (ps_setLc (i := 9) (own := [("_law_row", 6)]) (g := gName 6) rfl scRight.nd rfl rfl (sw_true rfl rfl rfl (by decide +kernel)) (pi_list (pv 1)) (blkOk_by (N := nRight) (sc := defScope sRight) (by decide +kernel)) (fun _ _ _ _ _ => pg_name (i := 6) scRight.nd rfl (Or.inl rfl))
          (fun _ _ _ _ _ => pts_one (pt_cmpR (notInK K rfl) (pe_ix (ixT K rfl) (pe_ix (ixT K rfl) (pv 6) pe_int (fun _ _ => rfl)) pe_int (fun _ _ => rfl)) (pv 8) (by rfl))) (fun _ _ _ _ _ => pv 6))
      (pss_cons (ps_lock (ps_for PassesOwn.never rfl (pi_keys (pv 0)) (pg_name (i := 10) scRight.nd rfl (Or.inl rfl))
        (pss_cons (ps_set (i := 11) scRight.nd rfl (Or.inr rfl) (pe_callTy (call_dictP rfl) (by rfl) B.dict (by decide +kernel) (pa_cons
            (pe_lc (own := [("_law_row", 6)]) (g := gName 6) (tt := tYes) rfl scRight.nd (pi_list (pe_call GU hr1 (by rfl) mU kU bU .nil pass0 (pa_cons (pv 9) (pa_cons (pv 10) pa_nil)))) (blkOk_by (N := nRight) (sc := defScope sRight) (by decide +kernel)) (fun _ _ _ _ _ => pg_name (i := 6) scRight.nd rfl (Or.inl rfl)) (fun _ _ _ _ _ => pts_nil)
              (fun _ _ _ _ _ => pe_tup (pa_cons (pe_ix (ixT K rfl) (pe_ix (ixT K rfl) (pv 6) pe_int (fun _ _ => rfl)) pe_int (fun _ _ => rfl)) (pa_cons (pe_ix (ixT K rfl) (pe_ix (ixT K rfl) (pv 6) pe_int (fun _ _ => rfl)) pe_int (fun _ _ => rfl)) pa_nil)))) pa_nil)))
        (pss_cons (ps_asg (pe_call GP hr7 (by rfl) mP kP bP .nil pass0 (pa_cons (pe_dget hu (pv 0) (pv 10) (fun _ _ => rfl)) (pa_cons (pe_call GU hr1 (by rfl) mU kU bU .nil pass0 (pa_cons (pv 9) (pa_cons (pv 10) pa_nil))) pa_nil)))
            (pg_tup (by rfl) (pgs_cons (pg_name (i := 12) scRight.nd rfl (Or.inl rfl)) (pgs_cons (pg_name (i := 13) scRight.nd rfl (Or.inl rfl)) pgs_nil))))
        (pss_cons (ps_if (PW.pt (pw_or (pt_val (pe_callB (cr_any rfl) (by rfl) B.any (by decide +kernel) (pa_cons
              (pe_lc (own := [("_law_name", 14)]) (g := gName 14) (tt := tYes) rfl scRight.nd (pi_list (pv 13)) (blkOk_by (N := nRight) (sc := defScope sRight) (by decide +kernel)) (fun _ _ _ _ _ => pg_name (i := 14) scRight.nd rfl (Or.inl rfl)) (fun _ _ _ _ _ => pts_nil)
                (fun _ _ _ _ _ => pe_cmpR op_lt (pe_dget hu (pv 11) (pv 14) (fun _ _ => rfl)) (pe_ix (ixT K rfl) (pv 2) pe_int (fun _ _ => rfl)) (nomark _))) pa_nil)))
            (pw_or1 (PW.pt (pw_and (pt_cmpR op_ne (pv 10) (pe_ix (ixT K rfl) (pv 2) pe_int (fun _ _ => rfl)) (nomark _)) (pw_and (pt_val (pv 4)) (pw_and1 (pt_cmpR (op_neD hr.units) (pv 13) (pe_lst pa_nil) (nomark _)))))))))
            (pss_one (ps_ret pe_bl)) pss_nil)
        (pss_cons (ps_if (PW.pt (pw_and (pt_cmpR op_eq (pv 10) (pe_ix (ixT K rfl) (pv 2) pe_int (fun _ _ => rfl)) (nomark _)) (pw_and (pt_val (pv 5)) (pw_and1 (pt_val (pe_callB (cr_any rfl) (by rfl) B.any (by decide +kernel) (pa_cons
              (pe_lock (pe_lc (own := [("_law_name", 14)]) (g := gName 14) (tt := tYes) rfl scRight.nd (pi_keys (pv 11)) (blkOk_by (N := nRight) (sc := defScope sRight) (by decide +kernel)) (fun _ _ _ _ _ => pg_name (i := 14) scRight.nd rfl (Or.inl rfl)) (fun _ _ _ _ _ => pts_nil)
                (fun _ _ _ _ _ => pe_cmpR op_lt (pe_dget hu (pv 11) (pv 14) (fun _ _ => rfl)) (pe_ix (ixT K rfl) (pv 2) pe_int (fun _ _ => rfl)) (nomark _)))) pa_nil)))))))
            (pss_one (ps_ret pe_bl)) pss_nil)
        (pss_one (ps_if (PW.pt (pw_and (PW.pt (pw_or (pt_cmpR op_ne (pv 10) (pe_ix (ixT K rfl) (pv 2) pe_int (fun _ _ => rfl)) (nomark _)) (pw_or1 (pt_not (pt_val (pv 5))))))
              (pw_and1 (pt_cmpR (op_neD hr.units) (pv 12) (pe_ix (ixT K rfl) (pe_call GP hr7 (by rfl) mP kP bP .nil pass0 (pa_cons (pe_dget hu (pv 0) (pv 10) (fun _ _ => rfl)) (pa_cons (pe_call GU hr1 (by rfl) mU kU bU .nil pass0 (pa_cons (pv 1) (pa_cons (pv 10) pa_nil))) pa_nil))) pe_int (fun _ _ => rfl)) (nomark _)))))
            (pss_one (ps_ret pe_bl)) pss_nil))))))))
      (pss_cons (ps_if (PW.pt (pw_and (pt_val (pv 4)) (pw_and1 (pt_not (pt_val (pv 5)))))) (pss_one (ps_ret pe_bl)) pss_nil)
      (pss_one (ps_ret (pe_cmpR op_eq (pe_call GO hr7 (by rfl) mO kO bO .nil pass0 (pa_cons (pe_dget hu (pv 0) (pe_ix (ixT K rfl) (pv 2) pe_int (fun _ _ => rfl)) (fun _ _ => rfl)) (pa_cons
        (pe_call GU hr1 (by rfl) mU kU bU .nil pass0 (pa_cons (pv 9) (pa_cons (pe_ix (ixT K rfl) (pv 2) pe_int (fun _ _ => rfl)) pa_nil))) (pa_cons (pv 2) pa_nil)))) (pv 5) (nomark _)))))))))), ?_⟩
    -- mine
    refine ⟨_, rfl, _, rfl, g.a, gangV g, 1, .str g.guild, rfl, rfl, ok.gang.1, atI_nat (j := 1) rfl, ra, g.guild, rs, rfl, ok.rsk, fun ma H1 s1 hma m1 => ?_⟩
    have ok1 := ok.keep s1
    have R1 : RsOk K H1 ma (ofGuild rs g.guild) := ok1.rsk.sub _ m1
    -- is_owed
    obtain ⟨da, due, dg, de, dok⟩ := ds_get ok1.dsk ok1.guild
    have ed : (dueOf ds g.guild).getD [] = due := by rw [de]; rfl
    refine ⟨_, rfl, _, rfl, g.a, gangV g, 1, .str g.guild, rfl, rfl, ok1.gang.1, atI_nat (j := 1) rfl, dd, _, rfl, dg, _, rfl, _, rfl, ?_⟩
    refine ⟨da, ma, due, _, g, rfl, dok, R1, ok1.gang, ok1.wh, fun H2 s2 => ?_⟩
    have eo : owed due (ofGuild rs g.guild) g = isOwed ds rs g := by unfold isOwed; rw [ed]
    rw [eo]
    -- is_own
    have ok2 := ok1.keep s2
    obtain ⟨da2, due2, dg2, de2, dok2⟩ := ds_get ok2.dsk ok2.guild
    obtain rfl : due = due2 := Option.some.inj (de.symm.trans de2)
    refine ⟨_, rfl, _, rfl, g.a, gangV g, 1, .str g.guild, rfl, rfl, ok2.gang.1, atI_nat (j := 1) rfl, dd, _, rfl, dg2, _, rfl, _, rfl, ?_⟩
    refine ⟨da2, ma, due, _, g, rfl, dok2, R1.keep s2, ok2.gang, ok2.wh, fun H3 s3 => ?_⟩
    have ew : ownWith due (ofGuild rs g.guild) g = isOwn ds rs g := by unfold isOwn; rw [ed]
    rw [ew]
    have ok3 := ok2.keep s3
    have S3 := (s1.trans s2).trans s3
    have few := ok.rsk.few
    -- gone
    refine ⟨_, rfl, _, rfl, _, rfl, ra, rfl, ⟨_, ok3.rsk.at_⟩, fun N hN => ?_⟩
    refine lc_over rs (fun r => V.ref r.a) (fun r => some (.str r.g.name)) hN (by omega) ok3.rsk.at_ (fun r H' N' S' hm s' q1 _ => ?_) fun H4 s4 e4 => ?_
    · have hr' := same_row s' (ok3.rsk.rows r hm)
      exact ⟨rfl, yesT ⟨_, rfl, r.a, _, 0, .ref r.g.a, rfl, rfl, hr'.1, atI_nat (j := 0) rfl, r.g.a, gangV r.g, 0, .str r.g.name, rfl, rfl, hr'.2.1, atI_nat (j := 0) rfl, q1 _ _ rfl (Same.refl _)⟩⟩
    have en : rs.filterMap (fun r => some (V.str r.g.name)) = strV (rs.map fun r => r.g.name) := by
      unfold strV
      rw [List.filterMap_eq_map', List.map_map]
      rfl
    rw [en] at e4
    have ok4 := ok3.keep s4
    refine ⟨_, rfl, dd, ra, N, ds, rs, _, g, rfl, ok4, SqL.of e4, fun q H5 ts s5 hq q5 gat hts => ?_⟩
    have lts : ts.length ≤ 100 := by
      have z := congrArg List.length hts
      rw [List.length_map, List.length_map] at z
      rw [z]
      exact Nat.le_trans (List.length_filter_le _ _) (by rw [(List.mergeSort_perm _ _).length_eq]; exact few)
    refine ⟨q, rfl, ⟨_, SqL.of q5⟩, fun D hD => ?_⟩
    refine lc_over ts (fun t => V.ref t.1) (fun t => some (.str t.2.1)) hD (by omega) (SqL.of q5) (fun t H' N' S' hm s' q1 _ => ?_) fun H6 s6 e6 => ?_
    · exact ⟨rfl, yesT ⟨_, rfl, t.1, _, 0, .str t.2.1, rfl, rfl, same_tup s' (gat t hm), atI_nat (j := 0) rfl, q1 _ _ rfl (Same.refl _)⟩⟩
    have eg : ts.filterMap (fun t => some (V.str t.2.1)) = strV (ts.map fun t => t.2.1) := by
      unfold strV
      rw [List.filterMap_eq_map', List.map_map]
      rfl
    rw [eg, hts] at e6
    have S6 := (S3.trans s4).trans (s5.trans s6)
    have ok6 := ok.keep S6
    -- left
    refine ⟨_, rfl, ra, rfl, ⟨_, ok6.rsk.at_⟩, fun la hla => ?_⟩
    refine lc_over rs (fun r => V.ref r.a) (fun r => if (!taken ds rs g r) = true then some (V.ref r.a) else none) hla (by omega) ok6.rsk.at_ (fun r H' N' S' hm s' q1 q2 => ?_) fun H7 s7 e7 => ?_
    · have hr' := same_row s' (ok6.rsk.rows r hm)
      refine ⟨rfl, _, rfl, r.a, _, 0, .ref r.g.a, rfl, rfl, hr'.1, atI_nat (j := 0) rfl, r.g.a, gangV r.g, 0, .str r.g.name, rfl, rfl, hr'.2.1, atI_nat (j := 0) rfl, ?_⟩
      refine ⟨_, rfl, D, _, rfl, .inl (s'.seq (SqL.of e6)), rfl, flat_strV _, _, rfl, ?_⟩
      rw [in_strV]
      have hi := gone_iff al hm
      cases ht : taken ds rs g r with
      | true =>
        rw [decide_eq_true (hi.mpr ht)]
        exact q2 _ (by rw [ht]; rfl) (Same.refl _)
      | false =>
        rw [decide_eq_false (fun z => by rw [hi.mp z] at ht; cases ht)]
        exact ⟨_, rfl, q1 _ _ (by rw [ht]; rfl) (Same.refl _)⟩
    rw [filterMap_rows] at e7
    have S7 := S6.trans s7
    have ok7 := ok.keep S7
    have d7 := S7 _ _ hdd
    have nla : la ≠ dd := ne_of e7 d7 (by intro z; cases z)
    clear e6 eg hts gat q5 hq hD lts s7
    -- for guild in dues
    refine ⟨dd, _, d7, trivial, fun od => ?_⟩
    have okL := ask_lock (o := od) ok7 d7
    have laL : (upd H7 dd (.frz od (.dK (dsV ds)))) la = some (.lst (rowsV (leftOf ds rs g))) := by rw [upd_ne nla]; exact e7
    have ddL : (upd H7 dd (.frz od (.dK (dsV ds)))) dd = some (.frz od (.dK (dsV ds))) := upd_same
    refine ⟨_, rfl, dd, od, rfl, .inl ⟨dsV ds, upd_same, for_it (walk_keys (d := dd) (o := od) (kvs := dsV ds)) (fun i σ H' => ∃ (v10 v11 v12 v13 : Option V), σ = [some (.ref dd), some (.ref ra), some (.ref g.a), some (.ref ma), some (.bl (isOwed ds rs g)), some (.bl (isOwn ds rs g)), none, none, some (.ref D), some (.ref la), v10, v11, v12, v13, none] ∧ Same (upd H7 dd (.frz od (.dK (dsV ds)))) H')
      ⟨none, none, none, none, rfl, Same.refl _⟩ (fun i σ H' _ ⟨_, _, _, _, _, s⟩ => s _ _ ddL) ?_ ?_⟩⟩
    · rintro i y σ H8' H8 hi ⟨v10, v11, v12, v13, rfl, s8⟩ ⟨rfl, key, val, ek, rfl⟩
      unfold dsV at ek
      rw [List.getElem?_map] at ek
      cases e : ds[i]? with
      | none => rw [e] at ek; cases ek
      | some d =>
        rw [e] at ek
        cases ek
        have hd : d ∈ ds := List.mem_of_getElem? e
        have hx : d.1 ∈ ds.map (·.1) := List.mem_map.mpr ⟨d, hd, rfl⟩
        generalize d.1 = x at hx
        have ok8 := okL.keep s8
        have la8 := s8 _ _ laL
        have R8 : RsOk K H8 la (leftOf ds rs g) := ok8.rsk.sub _ la8
        have lfew : (ofGuild (leftOf ds rs g) x).length ≤ 100 := Nat.le_trans (ofGuild_len _ _) R8.few
        have lnd : ((ofGuild (leftOf ds rs g) x).map fun r => r.g.name).Nodup := names_filter (names_filter al.names _) _
        -- ranks
        refine ⟨_, rfl, _, rfl, la, x, leftOf ds rs g, rfl, R8, fun ua H9 s9 hua u9 => ?_⟩
        have R9 : RsOk K H9 ua (ofGuild (leftOf ds rs g) x) := (R8.keep s9).sub _ u9
        refine ⟨ua, rfl, ⟨_, SqL.of u9⟩, fun D3 hD3 => ?_⟩
        refine lc_pairs (ofGuild (leftOf ds rs g) x) (fun r => V.ref r.a) (fun r => ((Sum.inr r.g.name : Key), V.int r.g.rank)) hD3 (by omega) (SqL.of u9) (fun r H' N' S' hm s' kN => ?_) fun H10 ts s10 e10 p10 => ?_
        · have hr' := same_row s' (R9.rows r hm)
          exact ⟨rfl, yesT ⟨_, rfl, r.a, _, 0, .ref r.g.a, rfl, rfl, hr'.1, atI_nat (j := 0) rfl, r.g.a, gangV r.g, 0, .str r.g.name, rfl, rfl, hr'.2.1, atI_nat (j := 0) rfl, _, rfl, r.a, _, 0, .ref r.g.a, rfl, rfl, hr'.1, atI_nat (j := 0) rfl, r.g.a, gangV r.g, 2, .int r.g.rank, rfl, rfl, hr'.2.1, atI_nat (j := 2) rfl,
            by show 2 ≤ sizeLine; decide, fun T hT => kN T _ (same_new hT) (.inl (.inl upd_same))⟩⟩
        refine ⟨D3, ts, ranksV (ofGuild (leftOf ds rs g) x), rfl, SqL.of e10, p10, fun rd hrd => ?_⟩
        rw [merge_new (ranks_keys lnd)]
        have s11 := ((s8.trans s9).trans s10).trans (same_new (o := .dK (ranksV (ofGuild (leftOf ds rs g) x))) hrd)
        have t11 := (s9.trans s10).trans (same_new (o := .dK (ranksV (ofGuild (leftOf ds rs g) x))) hrd)
        have r11 : (upd H10 rd (.dK (ranksV (ofGuild (leftOf ds rs g) x)))) rd = some (.dK (ranksV (ofGuild (leftOf ds rs g) x))) := upd_same
        generalize upd H10 rd (.dK (ranksV (ofGuild (leftOf ds rs g) x))) = H11 at s11 t11 r11
        have ok11 := okL.keep s11
        have la11 := t11 _ _ la8
        -- own, lent
        obtain ⟨xa, xdue, xg, xe, xok⟩ := ds_get ok11.dsk hx
        refine ⟨_, rfl, _, rfl, dd, _, rfl, xg, _, rfl, _, rfl, la, x, leftOf ds rs g, rfl, R8.keep t11, fun ub H12 s12 hub u12 => ?_⟩
        refine ⟨xa, ub, xdue, ofGuild (leftOf ds rs g) x, rfl, xok.keep s12, ((R8.keep t11).keep s12).sub _ u12, fun pp po pl H13 s13 ho hl nol tp tpo tpl => ?_⟩
        refine ⟨pp, _, rfl, tp, rfl, _, _, rfl, _, _, rfl, rfl, ?_⟩
        dsimp only [gName]
        have t13 := s12.trans s13
        have s13' := s11.trans t13
        have ok13 := okL.keep s13'
        have r13 := t13 _ _ r11
        have lll : (lentN xdue (ofGuild (leftOf ds rs g) x)).length ≤ 100 := Nat.le_trans (lentN_len _ _) lfew
        have lst : ∀ y ∈ lentN xdue (ofGuild (leftOf ds rs g) x), PyData.strOk y = true := fun y hy => by
          obtain ⟨r, hr, er, _⟩ := lentN_mem hy
          rw [← er]
          exact tx r (List.mem_filter.mp (List.mem_filter.mp hr).1).1
        have gN : ∀ {H' : Hp}, Same H13 H' → SqT K H' g.a (gangV g) := fun s => (same_gang s ok13.gang).1
        -- no lent one of a lesser rank
        refine seqNo (evs_or (a := false) (b := false) (fun R r => ?_) fun _ H14 s14 => ?_) fun H14 s14 => ?_
        · refine ⟨_, rfl, pl, rfl, ⟨_, SqL.of tpl⟩, fun D4 hD4 => ?_⟩
          refine lc_over (lentN xdue (ofGuild (leftOf ds rs g) x)) V.str (fun _ => some (.bl false)) hD4 (by omega) (SqL.of tpl) (fun y H' N' S' hy s' kN _ => ?_) fun H' s' e' => ?_
          · obtain ⟨r, hr, rfl, le⟩ := left_rank al xe hy
            refine ⟨rfl, yesT ⟨_, rfl, _, rfl, rd, _, rfl, .inl ⟨ranksV (ofGuild (leftOf ds rs g) x), Sum.inr r.g.name, .inl (s' _ _ r13), rfl, (ranks_get lnd hr).symm⟩, _, rfl, g.a, gangV g, 2, .int g.rank, rfl, rfl, gN s', atI_nat (j := 2) rfl, _, _, rfl, rfl, ?_⟩⟩
            show N' (V.bl (decide (r.g.rank < g.rank))) _
            rw [decide_eq_false (by omega)]
            exact kN _ _ rfl (Same.refl _)
          · have eb : (lentN xdue (ofGuild (leftOf ds rs g) x)).filterMap (fun _ => some (V.bl false)) = ((lentN xdue (ofGuild (leftOf ds rs g) x)).map fun _ => false).map V.bl := by
              rw [List.filterMap_eq_map', List.map_map]
              rfl
            rw [eb] at e'
            have en : ((lentN xdue (ofGuild (leftOf ds rs g) x)).map fun _ => false).any id = false := by
              rw [List.map_const']
              exact no_any _
            refine ⟨D4, _, rfl, SqL.of e', ?_⟩
            rw [en]
            exact ⟨_, rfl, r _ s'⟩
        · refine evs_cast (evs_and (a := !decide (V.str x = V.str g.guild)) (b := isOwed ds rs g && false) (fun R r => ?_) fun h H15 s15 => evs_and (a := isOwed ds rs g) (b := false) (fun R r => ?_) fun h2 H16 s16 R r => ?_) (by rw [Bool.and_false, Bool.and_false])
          · exact ⟨_, rfl, _, rfl, g.a, gangV g, 1, .str g.guild, rfl, rfl, gN s14, atI_nat (j := 1) rfl, rfl, _, rfl, r _ (Same.refl _)⟩
          · exact ⟨_, rfl, _, rfl, r _ (Same.refl _)⟩
          · have nx : x ≠ g.guild := fun z => by
              rw [z] at h
              simp at h
            have el := left_none al xe nx h2
            rw [el] at tpl
            have st := (s14.trans s15).trans s16
            refine ⟨_, rfl, Nat.zero_le _, fun l hl => ?_⟩
            refine ⟨.list [], .list [], .lst (SqL.of ((st.trans (same_new hl)) _ _ tpl)) .nil, .lst (SqL.of upd_same) .nil, rfl, rfl, _, rfl, ?_⟩
            exact r _ (same_new hl)
        -- of its own guild none of a lesser rank
        dsimp only [tNext]
        have ok14 := ok13.keep s14
        have r14 := s14 _ _ r13
        refine seqNo (evs_cast (evs_and (a := decide (V.str x = V.str g.guild)) (b := isOwn ds rs g && false) (fun R r => ?_) fun h H15 s15 => evs_and (a := isOwn ds rs g) (b := false) (fun R r => ?_) fun h2 H16 s16 R r => ?_) (by rw [Bool.and_false, Bool.and_false])) fun H15 s15 => ?_
        · exact ⟨_, rfl, _, rfl, g.a, gangV g, 1, .str g.guild, rfl, rfl, gN s14, atI_nat (j := 1) rfl, rfl, _, rfl, r _ (Same.refl _)⟩
        · exact ⟨_, rfl, _, rfl, r _ (Same.refl _)⟩
        · have ex : x = g.guild := V.str.inj (of_decide_eq_true h)
          have st := s15.trans s16
          have r16 := st _ _ r14
          have g16 := gN (s14.trans st)
          have lm : ∀ r ∈ ofGuild (leftOf ds rs g) x, g.rank ≤ r.g.rank := by
            rw [ex]
            exact left_mine al h2
          refine ⟨rd, _, r16, trivial, fun od2 => ?_⟩
          have mr : Mut (H16 rd) := by rw [r16]; trivial
          have g17 : SqT K (upd H16 rd (.frz od2 (.dK (ranksV (ofGuild (leftOf ds rs g) x))))) g.a (gangV g) := tup_upd mr g16
          refine ⟨_, rfl, rd, od2, rfl, .inl ⟨ranksV (ofGuild (leftOf ds rs g) x), upd_same, fun D5 hD5 => ?_⟩⟩
          have lr : (ranksV (ofGuild (leftOf ds rs g) x)).length = (ofGuild (leftOf ds rs g) x).length := by unfold ranksV; rw [List.length_map]
          refine lc_fm walk_keys (fun _ => some (.bl false)) hD5 (by omega) (fun H' s' => s' _ _ upd_same) (fun i y H' H2 N' S' hi s' yY kN _ => ?_) fun H' s' e' => ?_
          · obtain ⟨rfl, key, v, ek, rfl⟩ := yY
            unfold ranksV at ek
            rw [List.getElem?_map] at ek
            cases ez : (ofGuild (leftOf ds rs g) x)[i]? with
            | none => rw [ez] at ek; cases ek
            | some z =>
              rw [ez] at ek
              cases ek
              have hz := List.mem_of_getElem? ez
              have le := lm z hz
              refine ⟨rfl, yesT ⟨_, rfl, _, rfl, rd, _, rfl, .inl ⟨ranksV (ofGuild (leftOf ds rs g) x), Sum.inr z.g.name, .inr ⟨od2, s' _ _ upd_same⟩, rfl, (ranks_get lnd hz).symm⟩, _, rfl, g.a, gangV g, 2, .int g.rank, rfl, rfl, same_tup s' g17, atI_nat (j := 2) rfl, _, _, rfl, rfl, ?_⟩⟩
              show N' (V.bl (decide (z.g.rank < g.rank))) _
              rw [decide_eq_false (by omega)]
              exact kN _ _ rfl (Same.refl _)
          · refine ⟨s' _ _ upd_same, ?_⟩
            have su := same_unlock r16 s'
            have eb : runF (fun _ => some (V.bl false)) (ranksV (ofGuild (leftOf ds rs g) x)).length = (List.replicate (ranksV (ofGuild (leftOf ds rs g) x)).length false).map V.bl := by
              unfold runF
              rw [List.filterMap_eq_map', List.map_const', List.length_range, List.map_replicate]
            rw [eb] at e'
            have nD : D5 ≠ rd := ne_of e' (s' _ _ upd_same) (by intro z; cases z)
            refine ⟨D5, _, rfl, SqL.of (by rw [upd_ne nD]; exact e'), ?_⟩
            rw [no_any]
            exact ⟨_, rfl, r _ su⟩
        -- own ones are left
        dsimp only [tNext]
        refine oneNo (evs_cast (evs_and (a := !decide (V.str x = V.str g.guild) || !isOwn ds rs g) (b := false) (evs_or (fun R r => ?_) fun _ H16 s16 => evs_not fun R r => ?_) fun h H16 s16 R r => ?_) (Bool.and_false _)) fun H16 s16 => ?_
        · exact ⟨_, rfl, _, rfl, g.a, gangV g, 1, .str g.guild, rfl, rfl, gN (s14.trans s15), atI_nat (j := 1) rfl, rfl, _, rfl, r _ (Same.refl _)⟩
        · exact ⟨_, rfl, _, rfl, r _ (Same.refl _)⟩
        · have hx2 : x ≠ g.guild ∨ isOwn ds rs g = false := by
            by_cases c : x = g.guild
            · right
              rw [c] at h
              simpa using h
            · exact .inl c
          have st := (s14.trans s15).trans s16
          have ok16 := ok13.keep st
          obtain ⟨xa2, xdue2, xg2, xe2, xok2⟩ := ds_get ok16.dsk hx
          obtain rfl : xdue = xdue2 := Option.some.inj (xe.symm.trans xe2)
          refine ⟨_, rfl, _, rfl, _, rfl, dd, _, rfl, xg2, _, rfl, _, rfl, ra, x, rs, rfl, ok16.rsk, fun uc H17 s17 huc u17 => ?_⟩
          refine ⟨xa2, uc, xdue, ofGuild rs x, rfl, xok2.keep s17, (ok16.rsk.keep s17).sub _ u17, fun pp2 po2 pl2 H18 s18 ho2 hl2 nol2 tp2 tpo2 tpl2 => ?_⟩
          refine ⟨pp2, _, 0, .ref po2, rfl, rfl, tp2, atI_nat (j := 0) rfl, ?_⟩
          have eo2 := left_own al xe hx2
          rw [eo2] at tpo
          have otx : ∀ y ∈ ownN xdue (ofGuild rs x), PyData.strOk y = true := fun y hy => by
            unfold ownN at hy
            obtain ⟨z, hz, rfl⟩ := List.mem_map.mp hy
            obtain ⟨r, hr, rfl⟩ := inOrder_mem.mp (own_sub hz)
            exact tx r (List.mem_filter.mp hr).1
          have sh := shaped_strs otx
          refine ⟨_, _, .lst (SqL.of (((st.trans s17).trans s18) _ _ tpo)) (dp_strs _), .lst (SqL.of tpo2) (dp_strs _), sh, sh, _, rfl, ?_⟩
          rw [SeqAt.eqv_refl _ (SeqAt.canLay_of_shaped sh)]
          exact r _ (s17.trans s18)
        · exact ⟨_, _, _, _, rfl, ((s13'.trans s14).trans s15).trans s16⟩
    · rintro σ H8 ⟨v10, v11, v12, v13, rfl, s8⟩
      refine ⟨s8 _ _ ddL, ?_⟩
      have SU := S7.trans (same_unlock d7 s8)
      have TU := same_unlock d7 s8
      generalize upd H8 dd (.dK (dsV ds)) = H9 at SU TU
      have ok9 := ok.keep SU
      have la9 := TU _ _ e7
      -- if is_owed and not is_own
      dsimp only [tNext]
      refine seqNo (evs_cast (evs_and (a := isOwed ds rs g) (b := false) (fun R r => ?_) fun h H10 s10 => evs_cast (evs_not (a := isOwn ds rs g) fun R r => ?_) ?_) (Bool.and_false _)) fun H10 s10 => ?_
      · exact ⟨_, rfl, _, rfl, r _ (Same.refl _)⟩
      · exact ⟨_, rfl, _, rfl, r _ (Same.refl _)⟩
      · rw [owned al h]
        rfl
      · have ok10 := ok9.keep s10
        have la10 := s10 _ _ la9
        obtain ⟨da3, due3, dg3, de3, dok3⟩ := ds_get ok10.dsk ok10.guild
        obtain rfl : due = due3 := Option.some.inj (de.symm.trans de3)
        have R10 : RsOk K H10 la (leftOf ds rs g) := ok10.rsk.sub _ la10
        refine ⟨_, rfl, _, rfl, g.a, gangV g, 1, .str g.guild, rfl, rfl, ok10.gang.1, atI_nat (j := 1) rfl, dd, _, rfl, dg3, _, rfl, _, rfl, g.a, gangV g, 1, .str g.guild, rfl, rfl, ok10.gang.1, atI_nat (j := 1) rfl, la, g.guild, leftOf ds rs g, rfl, R10, fun ud H11 s11 hud u11 => ?_⟩
        refine ⟨_, rfl, da3, ud, due, ofGuild (leftOf ds rs g) g.guild, g, rfl, dok3.keep s11, (R10.keep s11).sub _ u11, (ok10.keep s11).gang, ok10.wh, fun H12 s12 => ?_⟩
        refine ⟨_, rfl, rfl, ?_⟩
        rw [left_owed al de]
        have e1 : decide (V.bl (isOwn ds rs g) = V.bl (isOwn ds rs g)) = true := decide_eq_true rfl
        rw [e1]
        exact k _ (((SU.trans s10).trans s11).trans s12)
end
end Ch

/-! The law itself. -/
namespace Ch
open PySem PySem.Spec PyProof.Rows L2
def spLaw (K : PySem.W.Frag) : Sp := fun vs H Q _ => ∃ (a : Addr) (ns : List Int), vs = [.ref a] ∧ SqL K H a (ns.map V.int) ∧ ns.length ≤ 63 ∧ ∀ H', Q (.bl true) H'
abbrev nLaw : List Str := ["_law_script", "_law_dues", "_law_rows", "_law_gang_here", "_law_row", "_law_other"]
theorem scLaw : FnScope nLaw ["_law_script"] (defScope sLaw) := ⟨rfl, rfl, rfl, by decide +kernel, rfl, by decide +kernel, by decide +kernel⟩
/-! ### rows as data -/
def gangD (g : Gang) : PyData := .tuple [.str g.name, .str g.guild, .int g.rank, .int g.many, .tuple (g.want.map PyData.int), .str g.how, .int g.len]
def rowD (r : Row) : PyData := .tuple [gangD r.g, .int r.num]
theorem dp_ints {K : PySem.W.Frag} {H : Hp} : ∀ xs : List Int, DpAll K H (xs.map V.int) (xs.map PyData.int)
  | [] => .nil
  | x :: xs => .cons (.int x) (dp_ints xs)
theorem dp_row {K : PySem.W.Frag} {H : Hp} {r : Row} (h : RowAt K H r) : Dp K H (.ref r.a) (rowD r) :=
  .tup h.1 (.cons (.tup h.2.1 (.cons (.str _) (.cons (.str _) (.cons (.int _) (.cons (.int _) (.cons (.tup h.2.2 (dp_ints _)) (.cons (.str _) (.cons (.int _) .nil)))))))) (.cons (.int _) .nil))
theorem can_ints : ∀ xs : List Int, PyData.canLayAll0 (xs.map PyData.int) = true
  | [] => by rw [List.map_nil, PyData.canLayAll0]
  | x :: xs => by
    rw [List.map_cons, PyData.canLayAll0, PyData.canLay0, can_ints xs]
    rfl
theorem depth_ints : ∀ xs : List Int, PyData.depthAll (xs.map PyData.int) = 0
  | [] => by rw [List.map_nil, PyData.depthAll]
  | x :: xs => by
    rw [List.map_cons, PyData.depthAll, PyData.depth, depth_ints xs]
    rfl
theorem shaped_row {r : Row} (h : TxOk r.g) : SeqAt.shaped (rowD r) = true := by
  unfold SeqAt.shaped rowD gangD
  simp only [PyData.canLay0, PyData.canLayAll0, PyData.depth, PyData.depthAll, can_ints, depth_ints, h.1, h.2.1, h.2.2]
  rfl
structure LwEnv (P : Program) (w : World) (K : PySem.W.Frag) (mg : Str → Option Value) (base : Heap) : Prop where
  state : ∃ f fd, FnOk P w K mg base CX0 3 f fd ["_law_script"] (spState K) ∧ Binds K fd ["_law_script"] [] ∧ mg "_law_state" = some (.ref f) ∧ PySem.W.keepIn K (.ref f) = true
  right : ∃ f fd, FnOk P w K mg base CX0 11 f fd ["_law_dues", "_law_rows", "_law_gang_here"] (spRight K) ∧ Binds K fd ["_law_dues", "_law_rows", "_law_gang_here"] [] ∧ mg "_law_right" = some (.ref f) ∧ PySem.W.keepIn K (.ref f) = true
section
variable {K : PySem.W.Frag} {H0 H : Hp} {b ga dd ra la : Addr} {n : Int} {gs : List Str} {ds : Dues} {rs ls : List Row} {wares : Nat} {g : Gang}
theorem ask_state (s : StAt K H0 H b n ga gs dd ds ra rs wares) (w1 : 1 ≤ wares) (w2 : wares ≤ 8) (h : SqL K H la (rowsV ls)) (hl : ls.length ≤ 60) (hs : ∀ r ∈ ls, r ∈ rs) (gat : GangAt K H g) (ok : GOk wares gs g) : AskOk K H dd la ds ls g := by
  have wh : ∀ {x : Gang}, GOk wares gs x → WhOk x := fun o => ⟨by rw [o.want.1]; omega, o.m64⟩
  exact ⟨⟨.inl s.dl, fun d hd => ⟨(s.dues d hd).1, by rw [(s.dues d hd).2]; exact w1, by rw [(s.dues d hd).2]; omega⟩⟩, ⟨h, fun r hr => (s.rows r (hs r hr)).1, by omega, fun r hr => wh (s.rows r (hs r hr)).2⟩, gat, wh ok,
    fun r hr => by rw [s.keys]; exact (s.rows r (hs r hr)).2.guild, by rw [s.keys]; exact ok.guild⟩
theorem all_state (s : StAt K H0 H b n ga gs dd ds ra rs wares) (gnd : gs.Nodup) (hn : (ls.map fun r => r.g.name).Nodup) (hs : ∀ r ∈ ls, r ∈ rs) (ok : GOk wares gs g) : AllOk wares ds ls g :=
  ⟨hn, fun r hr => (s.rows r (hs r hr)).2.want, ok.want, fun d hd => (s.dues d hd).2, by rw [s.keys]; exact gnd, fun r hr => by rw [s.keys]; exact (s.rows r (hs r hr)).2.guild, by rw [s.keys]; exact ok.guild⟩
end
theorem neK {X : Cx} (K : PySem.W.Frag) (h : X.K = K) (hu : X.A.units + 64 < cLine) : OpR X (compareOp .NotEq) (rNeD K) := h ▸ op_neD hu
section
variable {P : Program} {w : World} {K : PySem.W.Frag} {mg : Str → Option Value} {base : Heap}
theorem ok_law {f : Addr} {fd : FuncData} (F : Fun K "law" "law" sLaw f fd) (B : Blt mg) (E : LwEnv P w K mg base) : FnOk P w K mg base CX0 12 f fd ["_law_script"] (spLaw K) := by
  obtain ⟨fS, fdS, GS, bS, mS, kS⟩ := E.state
  obtain ⟨fR, fdR, GR, bR, mR, kR⟩ := E.right
  refine F.ok scLaw (fun vs H Q E h => ?_) (fun cdv A outer s H vs Q E hr h => ?_)
  · obtain ⟨a, ns, rfl, _⟩ := h
    rfl
  · obtain ⟨a, ns, rfl, hS, hz, k⟩ := h
    have hr3 : Room 3 _ := hr.mono (by decide)
    refine ⟨_, pss_cons (ps_asg (pe_call GS hr3 (by rfl) mS kS bS .nil pass0 (pa_cons (pv 0) pa_nil)) (pg_tup (by rfl) (pgs_cons (pg_name (i := 1) scLaw.nd rfl (Or.inl rfl)) (pgs_cons (pg_name (i := 2) scLaw.nd rfl (Or.inl rfl)) (pgs_cons (pg_name (i := 3) scLaw.nd rfl (Or.inl rfl)) pgs_nil)))))
      (pss_cons (ps_if (pt_not (pt_val (pe_call GR hr (by rfl) mR kR bR .nil pass0 (pa_cons (pv 1) (pa_cons (pv 2) (pa_cons (pv 3) pa_nil)))))) (pss_one (ps_ret pe_bl)) pss_nil)
      (pss_cons (ps_for PassesOwn.never rfl (pi_list (pe_step (pv 2) (pe_op op_add pe_int (pe_op op_fdiv (pe_callB call_len_seq (by rfl) B.len PySem.boot_len (pa_cons (pv 2) pa_nil)) pe_int)))) (pg_name (i := 4) scLaw.nd rfl (Or.inr rfl))
        (pss_one (ps_if (pt_not (pt_val (pe_call GR hr (by rfl) mR kR bR .nil pass0 (pa_cons (pv 1) (pa_cons
            (pe_lc (own := [("_law_other", 5)]) (g := gName 5) rfl scLaw.nd (pi_list (pv 2)) (blkOk_by (N := nLaw) (sc := defScope sLaw) (by decide +kernel)) (fun _ _ _ _ _ => pg_name (i := 5) scLaw.nd rfl (Or.inl rfl))
              (fun _ _ _ _ _ => pts_one (pt_cmpR (neK K rfl hr.units) (pv 5) (pv 4) (nomark _))) (fun _ _ _ _ _ => pv 5))
            (pa_cons (pe_ix (ixT K rfl) (pv 4) pe_int (fun _ _ => rfl)) pa_nil)))))) (pss_one (ps_ret pe_bl)) pss_nil)))
      (pss_one (ps_ret pe_bl)))), ?_⟩
    refine ⟨_, rfl, a, ns, rfl, hS, hz, fun q H1 b n ga gs dd ds ra rs wares g tq S1 gnd w1 w2 gat gok => ?_⟩
    refine ⟨q, _, rfl, tq, rfl, _, _, rfl, _, _, rfl, _, _, rfl, rfl, ?_⟩
    dsimp only [gName]
    have nd := names_nodup S1.names S1.few
    have tx : ∀ r ∈ rs, PyData.strOk r.g.name = true := fun r hr => (S1.rows r hr).2.tx.1
    refine ⟨_, rfl, _, rfl, _, rfl, dd, ra, ds, rs, g, wares, rfl, ask_state S1 w1 w2 (SqL.of S1.rl) S1.few (fun _ h => h) gat gok, S1.dl, all_state S1 gnd nd (fun _ h => h) gok, tx, fun H2 s2 => ?_⟩
    refine ⟨_, rfl, ?_⟩
    refine ite2 (fun c => by cases c) fun _ => ?_
    have S2 := S1.keep s2
    have rl : (rowsV rs).length = rs.length := by unfold rowsV; rw [List.length_map]
    -- for row in rows[::..]
    dsimp only [tNext]
    refine ⟨_, rfl, _, rfl, ra, _, rfl, .inl (SqL.of S2.rl), _, _, rfl, rfl, ⟨by decide, by decide⟩, _, _, rfl, rfl, ra, _, _, rfl, rfl, by omega, SqL.of S2.rl, fun ys p hys hp => ?_⟩
    have S3 := S2.keep (same_new (o := .lst ys) hp)
    have p3 : (upd H2 p (.lst ys)) p = some (.lst ys) := upd_same
    generalize upd H2 p (.lst ys) = H3 at S3 p3
    refine ⟨p, rfl, ⟨_, SqL.of p3⟩, for_list (K := K) (a := p) (xs := ys) (fun i σ H' => ∃ (v4 : Option V), σ = [some (.ref a), some (.ref dd), some (.ref ra), some (.ref g.a), v4, none] ∧ Same H3 H')
      ⟨none, rfl, Same.refl _⟩ (fun i σ H' _ ⟨_, _, s⟩ => SqL.of (s _ _ p3)) ?_ ?_⟩
    · rintro i y σ H4 hi ⟨v4, rfl, s4⟩
      obtain ⟨r, hr0, rfl⟩ : ∃ r ∈ rs, V.ref r.a = y := List.mem_map.mp (hys y (List.mem_of_getElem? hi))
      have S4 := S3.keep s4
      refine ⟨_, rfl, _, rfl, ra, rfl, ⟨_, SqL.of S4.rl⟩, fun D hD => ?_⟩
      refine lc_over rs (fun r => V.ref r.a) (fun x => if (!PyData.eqv (rowD x) (rowD r)) = true then some (V.ref x.a) else none) hD (Nat.le_trans S4.few (by decide)) (SqL.of S4.rl) (fun x H' N' S' hm s' q1 q2 => ?_) fun H5 s5 e5 => ?_
      · have hx := same_row s' (S4.rows x hm).1
        have hrr := same_row s' (S4.rows r hr0).1
        refine ⟨rfl, _, rfl, _, rfl, rowD x, rowD r, dp_row hx, dp_row hrr, shaped_row (S4.rows x hm).2.tx, shaped_row (S4.rows r hr0).2.tx, _, rfl, ?_⟩
        refine ite2 (fun c => ?_) (fun c => ?_)
        · exact ⟨_, rfl, q1 _ _ (if_pos c) (Same.refl _)⟩
        · exact q2 _ (if_neg c) (Same.refl _)
      rw [filterMap_rows] at e5
      have S5 := S4.keep s5
      have hrow := (S5.rows r hr0)
      refine ⟨_, rfl, r.a, _, 0, .ref r.g.a, rfl, rfl, hrow.1.1, atI_nat (j := 0) rfl, ?_⟩
      have sub : ∀ x ∈ rs.filter (fun x => !PyData.eqv (rowD x) (rowD r)), x ∈ rs := fun x hx => (List.mem_filter.mp hx).1
      refine ⟨dd, D, ds, rs.filter (fun x => !PyData.eqv (rowD x) (rowD r)), r.g, wares, rfl, ask_state S5 w1 w2 (SqL.of e5) (Nat.le_trans (List.length_filter_le _ _) S5.few) sub hrow.1.2 hrow.2, S5.dl, all_state S5 gnd (names_filter nd _) sub hrow.2, fun x hx => tx x (sub x hx), fun H6 s6 => ?_⟩
      refine ⟨_, rfl, ?_⟩
      refine ite2 (fun c => by cases c) fun _ => ?_
      exact ⟨_, rfl, (s4.trans s5).trans s6⟩
    · rintro σ H4 ⟨v4, rfl, s4⟩
      exact k H4
end
end Ch

/-! What the top has written, the head. -/
namespace Ch
open PySem PySem.Spec PyProof.Rows L2
theorem all_mk {l : PySem.W.OpenLaw} {w : World} {K : PySem.W.Frag} {h : Heap} {mg : Str → Option Value} {fa CS CT f1 f2 f3 f4 f6 f7 f8 f10a f10b f10c f11 f12 f13 f14 f15 f16a f16b f17 f19 f20 f21 f22 f23 f24 f25 f26 : Addr} (X : K.In h) (G : h.Ns mainGlobals mg) (hfa : mg "law" = some (.ref fa))
    {od1 an1 od2 an2 od3 an3 od4 an4 od6 an6 od7 an7 od8 an8 od10a an10a od10b an10b od10c an10c od11 an11 od12 an12 od13 an13 od14 an14 od15 an15 od16a an16a od16b an16b od17 an17 od19 an19 od20 an20 od21 an21 od22 an22 od23 an23 od24 an24 od25 an25 od26 an26 : Option Addr} {sl1 sl2 sl3 sl4 sl6 sl7 sl8 sl10a sl10b sl10c sl11 sl12 sl13 sl14 sl15 sl16a sl16b sl17 sl19 sl20 sl21 sl22 sl23 sl24 sl25 sl26 : Array (Option Value)} {oc1 kV1 dc1 pm1 cd1 ct1 oc2 kV2 dc2 pm2 cd2 ct2 oc3 kV3 dc3 pm3 cd3 ct3 oc4 kV4 dc4 pm4 cd4 ct4 oc6 kV6 dc6 pm6 cd6 ct6 oc7 kV7 dc7 pm7 cd7 ct7 oc8 kV8 dc8 pm8 cd8 ct8 oc10a kV10a dc10a pm10a cd10a ct10a oc10b kV10b dc10b pm10b cd10b ct10b oc10c kV10c dc10c pm10c cd10c ct10c oc11 kV11 dc11 pm11 cd11 ct11 oc12 kV12 dc12 pm12 cd12 ct12 oc13 kV13 dc13 pm13 cd13 ct13 oc14 kV14 dc14 pm14 cd14 ct14 oc15 kV15 dc15 pm15 cd15 ct15 oc16a kV16a dc16a pm16a cd16a ct16a oc16b kV16b dc16b pm16b cd16b ct16b oc17 kV17 dc17 pm17 cd17 ct17 oc19 kV19 dc19 pm19 cd19 ct19 oc20 kV20 dc20 pm20 cd20 ct20 oc21 kV21 dc21 pm21 cd21 ct21 oc22 kV22 dc22 pm22 cd22 ct22 oc23 kV23 dc23 pm23 cd23 ct23 oc24 kV24 dc24 pm24 cd24 ct24 oc25 kV25 dc25 pm25 cd25 ct25 oc26 kV26 dc26 pm26 cd26 ct26 : Value}
    (aCS : PySem.W.nsIn K mainGlobals "Share" = some (some (.ref CS)))
    (aCT : PySem.W.nsIn K mainGlobals "Taker" = some (some (.ref CT)))
    (a1 : PySem.W.nsIn K mainGlobals "nothing_of" = some (some (.ref f1))) (l1 : K.lookup f1 = some ⟨oc1, od1, .func (PySem.W.fnOf "nothing_of" "nothing_of" (defArgs sNothing) (defBody sNothing) (defScope sNothing) .none kV1 dc1 pm1 an1 cd1 ct1), sl1⟩) (c1 : PySem.W.codeIn K cd1 "nothing_of" = true) (k1 : PySem.W.keepIn K (.ref f1) = true)
    (a2 : PySem.W.nsIn K mainGlobals "amount_sum" = some (some (.ref f2))) (l2 : K.lookup f2 = some ⟨oc2, od2, .func (PySem.W.fnOf "amount_sum" "amount_sum" (defArgs sSum) (defBody sSum) (defScope sSum) .none kV2 dc2 pm2 an2 cd2 ct2), sl2⟩) (c2 : PySem.W.codeIn K cd2 "amount_sum" = true) (k2 : PySem.W.keepIn K (.ref f2) = true)
    (a3 : PySem.W.nsIn K mainGlobals "amount_fits" = some (some (.ref f3))) (l3 : K.lookup f3 = some ⟨oc3, od3, .func (PySem.W.fnOf "amount_fits" "amount_fits" (defArgs sFits) (defBody sFits) (defScope sFits) .none kV3 dc3 pm3 an3 cd3 ct3), sl3⟩) (c3 : PySem.W.codeIn K cd3 "amount_fits" = true) (k3 : PySem.W.keepIn K (.ref f3) = true)
    (a4 : PySem.W.nsIn K mainGlobals "amount_times" = some (some (.ref f4))) (l4 : K.lookup f4 = some ⟨oc4, od4, .func (PySem.W.fnOf "amount_times" "amount_times" (defArgs sTimes) (defBody sTimes) (defScope sTimes) .none kV4 dc4 pm4 an4 cd4 ct4), sl4⟩) (c4 : PySem.W.codeIn K cd4 "amount_times" = true) (k4 : PySem.W.keepIn K (.ref f4) = true)
    (a6 : PySem.W.nsIn K mainGlobals "whole_of" = some (some (.ref f6))) (l6 : K.lookup f6 = some ⟨oc6, od6, .func (PySem.W.fnOf "whole_of" "whole_of" (defArgs sWhole) (defBody sWhole) (defScope sWhole) .none kV6 dc6 pm6 an6 cd6 ct6), sl6⟩) (c6 : PySem.W.codeIn K cd6 "whole_of" = true) (k6 : PySem.W.keepIn K (.ref f6) = true)
    (a7 : PySem.W.nsIn K mainGlobals "stands_by" = some (some (.ref f7))) (l7 : K.lookup f7 = some ⟨oc7, od7, .func (PySem.W.fnOf "stands_by" "stands_by" (defArgs sStands) (defBody sStands) (defScope sStands) .none kV7 dc7 pm7 an7 cd7 ct7), sl7⟩) (c7 : PySem.W.codeIn K cd7 "stands_by" = true) (k7 : PySem.W.keepIn K (.ref f7) = true)
    (a8 : PySem.W.nsIn K mainGlobals "in_order" = some (some (.ref f8))) (l8 : K.lookup f8 = some ⟨oc8, od8, .func (PySem.W.fnOf "in_order" "in_order" (defArgs sOrder) (defBody sOrder) (defScope sOrder) .none kV8 dc8 pm8 an8 cd8 ct8), sl8⟩) (c8 : PySem.W.codeIn K cd8 "in_order" = true) (k8 : PySem.W.keepIn K (.ref f8) = true)
    (a10a : PySem.W.findIn K (.ref CS) "__init__" = some (some (.ref f10a))) (i10a : PySem.W.isFn K (.ref f10a) = true) (l10a : K.lookup f10a = some ⟨oc10a, od10a, .func (PySem.W.fnOf "__init__" "Share.__init__" (defArgs sShInit) (defBody sShInit) (defScope sShInit) .none kV10a dc10a pm10a an10a cd10a ct10a), sl10a⟩) (c10a : PySem.W.codeIn K cd10a "Share.__init__" = true) (k10a : PySem.W.keepIn K (.ref f10a) = true)
    (a10b : PySem.W.findIn K (.ref CS) "has_room_for" = some (some (.ref f10b))) (i10b : PySem.W.isFn K (.ref f10b) = true) (l10b : K.lookup f10b = some ⟨oc10b, od10b, .func (PySem.W.fnOf "has_room_for" "Share.has_room_for" (defArgs sShRoom) (defBody sShRoom) (defScope sShRoom) .none kV10b dc10b pm10b an10b cd10b ct10b), sl10b⟩) (c10b : PySem.W.codeIn K cd10b "Share.has_room_for" = true) (k10b : PySem.W.keepIn K (.ref f10b) = true)
    (a10c : PySem.W.findIn K (.ref CS) "add_gang" = some (some (.ref f10c))) (i10c : PySem.W.isFn K (.ref f10c) = true) (l10c : K.lookup f10c = some ⟨oc10c, od10c, .func (PySem.W.fnOf "add_gang" "Share.add_gang" (defArgs sShAdd) (defBody sShAdd) (defScope sShAdd) .none kV10c dc10c pm10c an10c cd10c ct10c), sl10c⟩) (c10c : PySem.W.codeIn K cd10c "Share.add_gang" = true) (k10c : PySem.W.keepIn K (.ref f10c) = true)
    (a11 : PySem.W.nsIn K mainGlobals "parted" = some (some (.ref f11))) (l11 : K.lookup f11 = some ⟨oc11, od11, .func (PySem.W.fnOf "parted" "parted" (defArgs sParted) (defBody sParted) (defScope sParted) .none kV11 dc11 pm11 an11 cd11 ct11), sl11⟩) (c11 : PySem.W.codeIn K cd11 "parted" = true) (k11 : PySem.W.keepIn K (.ref f11) = true)
    (a12 : PySem.W.nsIn K mainGlobals "owed" = some (some (.ref f12))) (l12 : K.lookup f12 = some ⟨oc12, od12, .func (PySem.W.fnOf "owed" "owed" (defArgs sOwed) (defBody sOwed) (defScope sOwed) .none kV12 dc12 pm12 an12 cd12 ct12), sl12⟩) (c12 : PySem.W.codeIn K cd12 "owed" = true) (k12 : PySem.W.keepIn K (.ref f12) = true)
    (a13 : PySem.W.nsIn K mainGlobals "own_with" = some (some (.ref f13))) (l13 : K.lookup f13 = some ⟨oc13, od13, .func (PySem.W.fnOf "own_with" "own_with" (defArgs sOwn) (defBody sOwn) (defScope sOwn) .none kV13 dc13 pm13 an13 cd13 ct13), sl13⟩) (c13 : PySem.W.codeIn K cd13 "own_with" = true) (k13 : PySem.W.keepIn K (.ref f13) = true)
    (a14 : PySem.W.nsIn K mainGlobals "rows_of_guild" = some (some (.ref f14))) (l14 : K.lookup f14 = some ⟨oc14, od14, .func (PySem.W.fnOf "rows_of_guild" "rows_of_guild" (defArgs sRows) (defBody sRows) (defScope sRows) .none kV14 dc14 pm14 an14 cd14 ct14), sl14⟩) (c14 : PySem.W.codeIn K cd14 "rows_of_guild" = true) (k14 : PySem.W.keepIn K (.ref f14) = true)
    (a15 : PySem.W.nsIn K mainGlobals "taken_by" = some (some (.ref f15))) (l15 : K.lookup f15 = some ⟨oc15, od15, .func (PySem.W.fnOf "taken_by" "taken_by" (defArgs sTakenBy) (defBody sTakenBy) (defScope sTakenBy) .none kV15 dc15 pm15 an15 cd15 ct15), sl15⟩) (c15 : PySem.W.codeIn K cd15 "taken_by" = true) (k15 : PySem.W.keepIn K (.ref f15) = true)
    (a16a : PySem.W.findIn K (.ref CT) "__init__" = some (some (.ref f16a))) (i16a : PySem.W.isFn K (.ref f16a) = true) (l16a : K.lookup f16a = some ⟨oc16a, od16a, .func (PySem.W.fnOf "__init__" "Taker.__init__" (defArgs sTkInit) (defBody sTkInit) (defScope sTkInit) .none kV16a dc16a pm16a an16a cd16a ct16a), sl16a⟩) (c16a : PySem.W.codeIn K cd16a "Taker.__init__" = true) (k16a : PySem.W.keepIn K (.ref f16a) = true)
    (a16b : PySem.W.findIn K (.ref CT) "ground_for" = some (some (.ref f16b))) (i16b : PySem.W.isFn K (.ref f16b) = true) (l16b : K.lookup f16b = some ⟨oc16b, od16b, .func (PySem.W.fnOf "ground_for" "Taker.ground_for" (defArgs sTkGround) (defBody sTkGround) (defScope sTkGround) .none kV16b dc16b pm16b an16b cd16b ct16b), sl16b⟩) (c16b : PySem.W.codeIn K cd16b "Taker.ground_for" = true) (k16b : PySem.W.keepIn K (.ref f16b) = true)
    (a17 : PySem.W.nsIn K mainGlobals "may_take" = some (some (.ref f17))) (l17 : K.lookup f17 = some ⟨oc17, od17, .func (PySem.W.fnOf "may_take" "may_take" (defArgs sMay) (defBody sMay) (defScope sMay) .none kV17 dc17 pm17 an17 cd17 ct17), sl17⟩) (c17 : PySem.W.codeIn K cd17 "may_take" = true) (k17 : PySem.W.keepIn K (.ref f17) = true)
    (a19 : PySem.W.nsIn K mainGlobals "_law_box" = some (some (.ref f19))) (l19 : K.lookup f19 = some ⟨oc19, od19, .func (PySem.W.fnOf "_law_box" "_law_box" (defArgs sBox) (defBody sBox) (defScope sBox) .none kV19 dc19 pm19 an19 cd19 ct19), sl19⟩) (c19 : PySem.W.codeIn K cd19 "_law_box" = true) (k19 : PySem.W.keepIn K (.ref f19) = true)
    (a20 : PySem.W.nsIn K mainGlobals "_law_take" = some (some (.ref f20))) (l20 : K.lookup f20 = some ⟨oc20, od20, .func (PySem.W.fnOf "_law_take" "_law_take" (defArgs sTake) (defBody sTake) (defScope sTake) .none kV20 dc20 pm20 an20 cd20 ct20), sl20⟩) (c20 : PySem.W.codeIn K cd20 "_law_take" = true) (k20 : PySem.W.keepIn K (.ref f20) = true)
    (a21 : PySem.W.nsIn K mainGlobals "_law_gang" = some (some (.ref f21))) (l21 : K.lookup f21 = some ⟨oc21, od21, .func (PySem.W.fnOf "_law_gang" "_law_gang" (defArgs sGang) (defBody sGang) (defScope sGang) .none kV21 dc21 pm21 an21 cd21 ct21), sl21⟩) (c21 : PySem.W.codeIn K cd21 "_law_gang" = true) (k21 : PySem.W.keepIn K (.ref f21) = true)
    (a22 : PySem.W.nsIn K mainGlobals "_law_due" = some (some (.ref f22))) (l22 : K.lookup f22 = some ⟨oc22, od22, .func (PySem.W.fnOf "_law_due" "_law_due" (defArgs sDue) (defBody sDue) (defScope sDue) .none kV22 dc22 pm22 an22 cd22 ct22), sl22⟩) (c22 : PySem.W.codeIn K cd22 "_law_due" = true) (k22 : PySem.W.keepIn K (.ref f22) = true)
    (a23 : PySem.W.nsIn K mainGlobals "_law_state" = some (some (.ref f23))) (l23 : K.lookup f23 = some ⟨oc23, od23, .func (PySem.W.fnOf "_law_state" "_law_state" (defArgs sState) (defBody sState) (defScope sState) .none kV23 dc23 pm23 an23 cd23 ct23), sl23⟩) (c23 : PySem.W.codeIn K cd23 "_law_state" = true) (k23 : PySem.W.keepIn K (.ref f23) = true)
    (a24 : PySem.W.nsIn K mainGlobals "_law_guild" = some (some (.ref f24))) (l24 : K.lookup f24 = some ⟨oc24, od24, .func (PySem.W.fnOf "_law_guild" "_law_guild" (defArgs sGuild) (defBody sGuild) (defScope sGuild) .none kV24 dc24 pm24 an24 cd24 ct24), sl24⟩) (c24 : PySem.W.codeIn K cd24 "_law_guild" = true) (k24 : PySem.W.keepIn K (.ref f24) = true)
    (a25 : PySem.W.nsIn K mainGlobals "_law_right" = some (some (.ref f25))) (l25 : K.lookup f25 = some ⟨oc25, od25, .func (PySem.W.fnOf "_law_right" "_law_right" (defArgs sRight) (defBody sRight) (defScope sRight) .none kV25 dc25 pm25 an25 cd25 ct25), sl25⟩) (c25 : PySem.W.codeIn K cd25 "_law_right" = true) (k25 : PySem.W.keepIn K (.ref f25) = true)
    (a26 : PySem.W.nsIn K mainGlobals "law" = some (some (.ref f26))) (l26 : K.lookup f26 = some ⟨oc26, od26, .func (PySem.W.fnOf "law" "law" (defArgs sLaw) (defBody sLaw) (defScope sLaw) .none kV26 dc26 pm26 an26 cd26 ct26), sl26⟩) (c26 : PySem.W.codeIn K cd26 "law" = true) (k26 : PySem.W.keepIn K (.ref f26) = true)
    (pgS : PySem.W.plainGet K CS Str.empty = true) (hdS : PySem.W.hasDictIn K CS = true) (poS : PySem.W.plainOver K CS = true) (saS : PySem.W.findIn K (.ref CS) "__setattr__" = some (some (.builtin "object.__setattr__"))) (mkS : PySem.W.makesIn K CS = true) (kcS : PySem.W.keepIn K (.ref CS) = true)
    (nS0 : PySem.W.findIn K (.ref CS) "due" = some none) (nS1 : PySem.W.findIn K (.ref CS) "borne" = some none) (nS2 : PySem.W.findIn K (.ref CS) "own_names" = some none) (nS3 : PySem.W.findIn K (.ref CS) "lent_names" = some none)
    (pgT : PySem.W.plainGet K CT Str.empty = true) (hdT : PySem.W.hasDictIn K CT = true) (poT : PySem.W.plainOver K CT = true) (saT : PySem.W.findIn K (.ref CT) "__setattr__" = some (some (.builtin "object.__setattr__"))) (mkT : PySem.W.makesIn K CT = true) (kcT : PySem.W.keepIn K (.ref CT) = true)
    (nT0 : PySem.W.findIn K (.ref CT) "gang" = some none) (nT1 : PySem.W.findIn K (.ref CT) "is_owed" = some none) (nT2 : PySem.W.findIn K (.ref CT) "is_own" = some none) (nT3 : PySem.W.findIn K (.ref CT) "all_lent" = some none)
    (z_tuple : PySem.W.nsIn K mainGlobals "tuple" = some none) (z_zip : PySem.W.nsIn K mainGlobals "zip" = some none) (z_all : PySem.W.nsIn K mainGlobals "all" = some none) (z_len : PySem.W.nsIn K mainGlobals "len" = some none) (z_sorted : PySem.W.nsIn K mainGlobals "sorted" = some none) (z_set : PySem.W.nsIn K mainGlobals "set" = some none) (z_dict : PySem.W.nsIn K mainGlobals "dict" = some none) (z_abs : PySem.W.nsIn K mainGlobals "abs" = some none) (z_max : PySem.W.nsIn K mainGlobals "max" = some none) (z_min : PySem.W.nsIn K mainGlobals "min" = some none) (z_sum : PySem.W.nsIn K mainGlobals "sum" = some none) (z_any : PySem.W.nsIn K mainGlobals "any" = some none) (z_int : PySem.W.nsIn K mainGlobals "int" = some none) (z_range : PySem.W.nsIn K mainGlobals "range" = some none) :
    ∃ fd : FuncData, (∀ (s : Shared) (v : Value), BindsTo s fd ⟨[v], []⟩ [("_law_script", v)]) ∧ ∀ base : Heap, K.In base → base.Ns mainGlobals mg → FnOk l.prog w K mg base CX0 12 fa fd ["_law_script"] (spLaw K) := by
  have e := hfa.symm.trans (PySem.W.mg_of X G a26)
  cases e
  have B : Blt mg := ⟨PySem.W.mg_none_of X G z_tuple, PySem.W.mg_none_of X G z_zip, PySem.W.mg_none_of X G z_all, PySem.W.mg_none_of X G z_len, PySem.W.mg_none_of X G z_sorted, PySem.W.mg_none_of X G z_set, PySem.W.mg_none_of X G z_dict, PySem.W.mg_none_of X G z_abs, PySem.W.mg_none_of X G z_max, PySem.W.mg_none_of X G z_min, PySem.W.mg_none_of X G z_sum, PySem.W.mg_none_of X G z_any, PySem.W.mg_none_of X G z_int, PySem.W.mg_none_of X G z_range⟩
  have TS : ShTxt K mg CS := ⟨⟨pgS, hdS, poS, saS⟩, nS0, nS1, nS2, nS3, PySem.W.mg_of X G aCS⟩
  have TT : TkTxt K mg CT := ⟨⟨pgT, hdT, poT, saT⟩, nT0, nT1, nT2, nT3, PySem.W.mg_of X G aCT⟩
  have F1 := fun_mk (st := sNothing) l1 c1 k1
  have b1 := F1.binds (ps := ["wares"]) fun _ _ _ _ _ _ us hl => match us, hl with | [_], _ => rfl
  have m1 := PySem.W.mg_of X G a1
  have F2 := fun_mk (st := sSum) l2 c2 k2
  have b2 := F2.binds (ps := ["one", "other"]) fun _ _ _ _ _ _ us hl => match us, hl with | [_, _], _ => rfl
  have m2 := PySem.W.mg_of X G a2
  have F3 := fun_mk (st := sFits) l3 c3 k3
  have b3 := F3.binds (ps := ["one", "other"]) fun _ _ _ _ _ _ us hl => match us, hl with | [_, _], _ => rfl
  have m3 := PySem.W.mg_of X G a3
  have F4 := fun_mk (st := sTimes) l4 c4 k4
  have b4 := F4.binds (ps := ["one", "n"]) fun _ _ _ _ _ _ us hl => match us, hl with | [_, _], _ => rfl
  have m4 := PySem.W.mg_of X G a4
  have F6 := fun_mk (st := sWhole) l6 c6 k6
  have b6 := F6.binds (ps := ["gang"]) fun _ _ _ _ _ _ us hl => match us, hl with | [_], _ => rfl
  have m6 := PySem.W.mg_of X G a6
  have F7 := fun_mk (st := sStands) l7 c7 k7
  have b7 := F7.binds (ps := ["row"]) fun _ _ _ _ _ _ us hl => match us, hl with | [_], _ => rfl
  have m7 := PySem.W.mg_of X G a7
  have F8 := fun_mk (st := sOrder) l8 c8 k8
  have b8 := F8.binds (ps := ["rows"]) fun _ _ _ _ _ _ us hl => match us, hl with | [_], _ => rfl
  have m8 := PySem.W.mg_of X G a8
  have F10a := fun_mk (st := sShInit) l10a c10a k10a
  have b10a := F10a.binds (ps := ["self", "due", "rows"]) fun _ _ _ _ _ _ us hl => match us, hl with | [_, _, _], _ => rfl
  have F10b := fun_mk (st := sShRoom) l10b c10b k10b
  have b10b := F10b.binds (ps := ["self", "gang"]) fun _ _ _ _ _ _ us hl => match us, hl with | [_, _], _ => rfl
  have F10c := fun_mk (st := sShAdd) l10c c10c k10c
  have b10c := F10c.binds (ps := ["self", "gang"]) fun _ _ _ _ _ _ us hl => match us, hl with | [_, _], _ => rfl
  have F11 := fun_mk (st := sParted) l11 c11 k11
  have b11 := F11.binds (ps := ["due", "rows"]) fun _ _ _ _ _ _ us hl => match us, hl with | [_, _], _ => rfl
  have m11 := PySem.W.mg_of X G a11
  have F12 := fun_mk (st := sOwed) l12 c12 k12
  have b12 := F12.binds (ps := ["due", "rows", "gang"]) fun _ _ _ _ _ _ us hl => match us, hl with | [_, _, _], _ => rfl
  have m12 := PySem.W.mg_of X G a12
  have F13 := fun_mk (st := sOwn) l13 c13 k13
  have b13 := F13.binds (ps := ["due", "rows", "gang"]) fun _ _ _ _ _ _ us hl => match us, hl with | [_, _, _], _ => rfl
  have m13 := PySem.W.mg_of X G a13
  have F14 := fun_mk (st := sRows) l14 c14 k14
  have b14 := F14.binds (ps := ["rows", "guild"]) fun _ _ _ _ _ _ us hl => match us, hl with | [_, _], _ => rfl
  have m14 := PySem.W.mg_of X G a14
  have F15 := fun_mk (st := sTakenBy) l15 c15 k15
  have b15 := F15.binds (ps := ["row"]) fun _ _ _ _ _ _ us hl => match us, hl with | [_], _ => rfl
  have m15 := PySem.W.mg_of X G a15
  have F16a := fun_mk (st := sTkInit) l16a c16a k16a
  have b16a := F16a.binds (ps := ["self", "dues", "rows", "gang"]) fun _ _ _ _ _ _ us hl => match us, hl with | [_, _, _, _], _ => rfl
  have F16b := fun_mk (st := sTkGround) l16b c16b k16b
  have b16b := F16b.binds (ps := ["self", "other"]) fun _ _ _ _ _ _ us hl => match us, hl with | [_, _], _ => rfl
  have F17 := fun_mk (st := sMay) l17 c17 k17
  have b17 := F17.binds (ps := ["dues", "rows", "names", "gang"]) fun _ _ _ _ _ _ us hl => match us, hl with | [_, _, _, _], _ => rfl
  have m17 := PySem.W.mg_of X G a17
  have F19 := fun_mk (st := sBox) l19 c19 k19
  have b19 := F19.binds (ps := ["_law_script", "_law_k"]) fun _ _ _ _ _ _ us hl => match us, hl with | [_, _], _ => rfl
  have m19 := PySem.W.mg_of X G a19
  have F20 := fun_mk (st := sTake) l20 c20 k20
  have b20 := F20.binds (ps := ["_law_box_here", "_law_many"]) fun _ _ _ _ _ _ us hl => match us, hl with | [_, _], _ => rfl
  have m20 := PySem.W.mg_of X G a20
  have F21 := fun_mk (st := sGang) l21 c21 k21
  have b21 := F21.binds (ps := ["_law_box_here", "_law_name", "_law_guilds", "_law_wares", "_law_wide"]) fun _ _ _ _ _ _ us hl => match us, hl with | [_, _, _, _, _], _ => rfl
  have m21 := PySem.W.mg_of X G a21
  have F22 := fun_mk (st := sDue) l22 c22 k22
  have b22 := F22.binds (ps := ["_law_box_here", "_law_wares", "_law_wide"]) fun _ _ _ _ _ _ us hl => match us, hl with | [_, _, _], _ => rfl
  have m22 := PySem.W.mg_of X G a22
  have F23 := fun_mk (st := sState) l23 c23 k23
  have b23 := F23.binds (ps := ["_law_script"]) fun _ _ _ _ _ _ us hl => match us, hl with | [_], _ => rfl
  have m23 := PySem.W.mg_of X G a23
  have F24 := fun_mk (st := sGuild) l24 c24 k24
  have b24 := F24.binds (ps := ["_law_rows", "_law_guild_here"]) fun _ _ _ _ _ _ us hl => match us, hl with | [_, _], _ => rfl
  have m24 := PySem.W.mg_of X G a24
  have F25 := fun_mk (st := sRight) l25 c25 k25
  have b25 := F25.binds (ps := ["_law_dues", "_law_rows", "_law_gang_here"]) fun _ _ _ _ _ _ us hl => match us, hl with | [_, _, _], _ => rfl
  have m25 := PySem.W.mg_of X G a25
  have F26 := fun_mk (st := sLaw) l26 c26 k26
  have m26 := PySem.W.mg_of X G a26
  refine ⟨PySem.W.fnOf "law" "law" (defArgs sLaw) (defBody sLaw) (defScope sLaw) .none kV26 dc26 pm26 an26 cd26 ct26, fun s v => .of_eq rfl, fun base _ _ => ?_⟩
  have AE : AmEnv l.prog w K mg base := ⟨⟨_, _, ok_nothing F1, b1, m1, k1⟩, ⟨_, _, ok_sum F2 B, b2, m2, k2⟩, ⟨_, _, ok_fits F3 B, b3, m3, k3⟩, ⟨_, _, ok_whole F6 F4 b4 m4 B, b6, m6, k6⟩, ⟨_, _, ok_order F8 F7 b7 m7 B, b8, m8, k8⟩⟩
  have M10b : Meth K CS "has_room_for" f10b := ⟨a10b, i10b, k10b⟩
  have M10c : Meth K CS "add_gang" f10c := ⟨a10c, i10c, k10c⟩
  have GR : FnOk l.prog w K mg base CX0 3 f10b _ ["self", "gang"] (spRoom K CS) := ok_room F10b TS AE
  have GA : FnOk l.prog w K mg base CX0 4 f10c _ ["self", "gang"] (spAdd K CS) := ok_add F10c TS AE GR b10b M10b
  have SE : ShEnv l.prog w K mg base CS := ⟨TS, ⟨_, _, ⟨mkS, a10a, i10a, kcS⟩, ok_shInit F10a TS B AE GA b10c M10c, b10a⟩, ⟨_, _, GR, b10b, M10b⟩⟩
  have PE_ : PaEnv l.prog w K mg base := ⟨⟨_, _, ok_parted F11 SE, b11, m11, k11⟩, ⟨_, _, ok_owed F12 SE, b12, m12, k12⟩, ⟨_, _, ok_own F13 SE, b13, m13, k13⟩, ⟨_, _, ok_rows F14, b14, m14, k14⟩⟩
  have GM : FnOk l.prog w K mg base CX0 10 f17 _ ["dues", "rows", "names", "gang"] (spMay K) := ok_may F17 TT B ⟨mkT, a16a, i16a, kcT⟩ (ok_tkInit F16a TT B PE_) b16a (ok_ground F16b TT) b16b ⟨a16b, i16b, k16b⟩ F15 b15 m15
  have BE : BxEnv l.prog w K mg base := ⟨⟨_, _, ok_take F20, b20, m20, k20⟩⟩
  have XE : StEnv l.prog w K mg base := ⟨BE, ⟨_, _, ok_box F19 B, b19, m19, k19⟩, ⟨_, _, ok_gang F21 B BE, b21, m21, k21⟩, ⟨_, _, ok_due F22 B BE, b22, m22, k22⟩⟩
  have RE : RtEnv l.prog w K mg base := ⟨⟨_, _, ok_guild F24, b24, m24, k24⟩, ⟨_, _, GM, b17, m17, k17⟩⟩
  have LE : LwEnv l.prog w K mg base := ⟨⟨_, _, ok_state F23 B XE, b23, m23, k23⟩, ⟨_, _, ok_right F25 B PE_ RE, b25, m25, k25⟩⟩
  exact ok_law F26 B LE
theorem walk {l : PySem.W.OpenLaw} {q : Program} {loose : List Str} {XP : (Str → Option Value) → Heap → Prop} {YP : World → Heap → Prop} {d : DefRec} {K : Params → PySem.W.Frag} (hn : l.most = some 63) (hdf : d.params.defaults = [])
    (hY : ∀ (w : World) (h : Heap), YP w h → (K w.params).In h)
    (F : ∀ (w : World) (mg : Str → Option Value) (fa : Addr) (h : Heap), (K w.params).In h → h.Ns mainGlobals mg → mg d.name = some (.ref fa) →
      ∃ fd : FuncData, (∀ (s : Shared) (u : Value), BindsTo s fd ⟨[u], []⟩ [("_law_script", u)]) ∧ ∀ base : Heap, (K w.params).In base → base.Ns mainGlobals mg → FnOk l.prog w (K w.params) mg base CX0 12 fa fd ["_law_script"] (spLaw (K w.params))) :
    PySem.W.WalkO q loose XP YP l.row.toRowW d [] (fun f vs => PySem.call f vs) :=
  L2.walk_of (n := 63) (k := 12) (x := "_law_script") (CX := fun _ => CX0) (sp := fun w => spLaw (K w.params)) hn (by decide) hdf ⟨rfl, by decide, by decide⟩ hY F (fun _ _ a ns hl _ hS => ⟨a, ns, rfl, hS, hl, fun _ => rfl⟩) fun _ _ _ _ _ z => z
end Ch

open PySem PySem.W PyProof.Rows in
set_option maxRecDepth 100000 in
set_option maxHeartbeats 0 in
theorem PySem.Challenge.cw_clusterhall_k30_whole_when_all_are_taken_holds : PySem.Challenge.rw_clusterhall_k30_whole_when_all_are_taken.Holds := by
  w_on; o_law; k_head; (case hw => w_witness2)
  k_fill
  refine Ch.walk (l := PySem.Challenge.rw_clusterhall_k30_whole_when_all_are_taken) rfl rfl (fun w h Y => PySem.W.kIn_of Y) ?F
  case F =>
    intro w mg fa h KX G hmg
    refine' Ch.all_mk KX G hmg ?aCS ?aCT ?a1 ?l1 ?c1 ?k1 ?a2 ?l2 ?c2 ?k2 ?a3 ?l3 ?c3 ?k3 ?a4 ?l4 ?c4 ?k4 ?a6 ?l6 ?c6 ?k6 ?a7 ?l7 ?c7 ?k7 ?a8 ?l8 ?c8 ?k8 ?a10a ?i10a ?l10a ?c10a ?k10a ?a10b ?i10b ?l10b ?c10b ?k10b ?a10c ?i10c ?l10c ?c10c ?k10c ?a11 ?l11 ?c11 ?k11 ?a12 ?l12 ?c12 ?k12 ?a13 ?l13 ?c13 ?k13 ?a14 ?l14 ?c14 ?k14 ?a15 ?l15 ?c15 ?k15 ?a16a ?i16a ?l16a ?c16a ?k16a ?a16b ?i16b ?l16b ?c16b ?k16b ?a17 ?l17 ?c17 ?k17 ?a19 ?l19 ?c19 ?k19 ?a20 ?l20 ?c20 ?k20 ?a21 ?l21 ?c21 ?k21 ?a22 ?l22 ?c22 ?k22 ?a23 ?l23 ?c23 ?k23 ?a24 ?l24 ?c24 ?k24 ?a25 ?l25 ?c25 ?k25 ?a26 ?l26 ?c26 ?k26 ?pgS ?hdS ?poS ?saS ?mkS ?kcS ?nS0 ?nS1 ?nS2 ?nS3 ?pgT ?hdT ?poT ?saT ?mkT ?kcT ?nT0 ?nT1 ?nT2 ?nT3 ?z_tuple ?z_zip ?z_all ?z_len ?z_sorted ?z_set ?z_dict ?z_abs ?z_max ?z_min ?z_sum ?z_any ?z_int ?z_range
    (case aCS => k_is)
    (case aCT => k_is)
    (case a1 => k_is)
    (case l1 => k_is)
    (case c1 => k_is)
    (case k1 => k_is)
    (case a2 => k_is)
    (case l2 => k_is)
    (case c2 => k_is)
    (case k2 => k_is)
    (case a3 => k_is)
    (case l3 => k_is)
    (case c3 => k_is)
    (case k3 => k_is)
    (case a4 => k_is)
    (case l4 => k_is)
    (case c4 => k_is)
    (case k4 => k_is)
    (case a6 => k_is)
    (case l6 => k_is)
    (case c6 => k_is)
    (case k6 => k_is)
    (case a7 => k_is)
    (case l7 => k_is)
    (case c7 => k_is)
    (case k7 => k_is)
    (case a8 => k_is)
    (case l8 => k_is)
    (case c8 => k_is)
    (case k8 => k_is)
    (case a10a => k_is)
    (case i10a => k_is)
    (case l10a => k_is)
    (case c10a => k_is)
    (case k10a => k_is)
    (case a10b => k_is)
    (case i10b => k_is)
    (case l10b => k_is)
    (case c10b => k_is)
    (case k10b => k_is)
    (case a10c => k_is)
    (case i10c => k_is)
    (case l10c => k_is)
    (case c10c => k_is)
    (case k10c => k_is)
    (case a11 => k_is)
    (case l11 => k_is)
    (case c11 => k_is)
    (case k11 => k_is)
    (case a12 => k_is)
    (case l12 => k_is)
    (case c12 => k_is)
    (case k12 => k_is)
    (case a13 => k_is)
    (case l13 => k_is)
    (case c13 => k_is)
    (case k13 => k_is)
    (case a14 => k_is)
    (case l14 => k_is)
    (case c14 => k_is)
    (case k14 => k_is)
    (case a15 => k_is)
    (case l15 => k_is)
    (case c15 => k_is)
    (case k15 => k_is)
    (case a16a => k_is)
    (case i16a => k_is)
    (case l16a => k_is)
    (case c16a => k_is)
    (case k16a => k_is)
    (case a16b => k_is)
    (case i16b => k_is)
    (case l16b => k_is)
    (case c16b => k_is)
    (case k16b => k_is)
    (case a17 => k_is)
    (case l17 => k_is)
    (case c17 => k_is)
    (case k17 => k_is)
    (case a19 => k_is)
    (case l19 => k_is)
    (case c19 => k_is)
    (case k19 => k_is)
    (case a20 => k_is)
    (case l20 => k_is)
    (case c20 => k_is)
    (case k20 => k_is)
    (case a21 => k_is)
    (case l21 => k_is)
    (case c21 => k_is)
    (case k21 => k_is)
    (case a22 => k_is)
    (case l22 => k_is)
    (case c22 => k_is)
    (case k22 => k_is)
    (case a23 => k_is)
    (case l23 => k_is)
    (case c23 => k_is)
    (case k23 => k_is)
    (case a24 => k_is)
    (case l24 => k_is)
    (case c24 => k_is)
    (case k24 => k_is)
    (case a25 => k_is)
    (case l25 => k_is)
    (case c25 => k_is)
    (case k25 => k_is)
    (case a26 => k_is)
    (case l26 => k_is)
    (case c26 => k_is)
    (case k26 => k_is)
    (case pgS => k_is)
    (case hdS => k_is)
    (case poS => k_is)
    (case saS => k_is)
    (case mkS => k_is)
    (case kcS => k_is)
    (case nS0 => k_is)
    (case nS1 => k_is)
    (case nS2 => k_is)
    (case nS3 => k_is)
    (case pgT => k_is)
    (case hdT => k_is)
    (case poT => k_is)
    (case saT => k_is)
    (case mkT => k_is)
    (case kcT => k_is)
    (case nT0 => k_is)
    (case nT1 => k_is)
    (case nT2 => k_is)
    (case nT3 => k_is)
    (case z_tuple => k_is)
    (case z_zip => k_is)
    (case z_all => k_is)
    (case z_len => k_is)
    (case z_sorted => k_is)
    (case z_set => k_is)
    (case z_dict => k_is)
    (case z_abs => k_is)
    (case z_max => k_is)
    (case z_min => k_is)
    (case z_sum => k_is)
    (case z_any => k_is)
    (case z_int => k_is)
    (case z_range => k_is)
