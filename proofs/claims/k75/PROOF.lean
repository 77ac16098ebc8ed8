import PyProof.Rows.All
import Wide.All
import OpenK.AllK
import Wide.FinOn
import PySem.Str
import HandS.ForMost
import HandS.Codes
import HandS.Star
import HandS.Defaults
import HandS.IsInst
import HandS.Slots
import HandS.SlotsOwn
import HandS.MakeKw
import HandS.Set
import HandS.SetKeys
import HandS.DictComp
import HandS.Conv
import HandS.Flow
import HandS.Style
import HandS.CallRecv
import HandS.Walk
import HandS.Zip
import HandS.TupAny
import HandS.WideMore
import HandS.NoneIn
import KE.KStateDown
import Lean
import HandS.Head0
import HandS.Head1
import HandS.Head2
import HandS.HeadEnd
import HandS.HeadHook1
import HandS.HeadHook2
import HandS.HeadHook3
import HandS.HeadHook4
import HandS.HeadWalk
import KE.GoesMore
import HandS.SetFor
import HandS.Lambda
import HandS.SortKw
import KE.SortKeyHeap
import KE.SortData
import PySem.Challenge.RW_seerings_k75_whole_wide_drawers
set_option Elab.async false
set_option linter.all false
set_option maxRecDepth 100000
set_option maxHeartbeats 0
/-! The plain mathematics: cards, looking up, walks, gatherings, reach, rings; no program here. -/
namespace Se
open PySem

/-! ### rising lists -/
/-- two strictly rising lists with the same items are one -/
theorem rise_eq {α : Type} {lt : α → α → Prop} (irr : ∀ a, ¬ lt a a) (asy : ∀ a b, lt a b → lt b a → False) :
    ∀ {xs ys : List α}, xs.Pairwise lt → ys.Pairwise lt → (∀ a, a ∈ xs ↔ a ∈ ys) → xs = ys
  | [], [], _, _, _ => rfl
  | [], y :: ys, _, _, h => absurd ((h y).2 List.mem_cons_self) (by simp)
  | x :: xs, [], _, _, h => absurd ((h x).1 List.mem_cons_self) (by simp)
  | x :: xs, y :: ys, hx, hy, h => by
    obtain ⟨hx1, hx2⟩ := List.pairwise_cons.mp hx
    obtain ⟨hy1, hy2⟩ := List.pairwise_cons.mp hy
    have e : x = y := by
      rcases List.mem_cons.mp ((h x).1 List.mem_cons_self) with e | m
      · exact e
      · rcases List.mem_cons.mp ((h y).2 List.mem_cons_self) with e | m2
        · exact e.symm
        · exact (asy _ _ (hx1 y m2) (hy1 x m)).elim
    subst e
    have hh : ∀ a, a ∈ xs ↔ a ∈ ys := fun a => by
      constructor
      · intro m
        rcases List.mem_cons.mp ((h a).1 (List.mem_cons_of_mem _ m)) with e | m2
        · subst e; exact (irr _ (hx1 _ m)).elim
        · exact m2
      · intro m
        rcases List.mem_cons.mp ((h a).2 (List.mem_cons_of_mem _ m)) with e | m2
        · subst e; exact (irr _ (hy1 _ m)).elim
        · exact m2
    rw [rise_eq irr asy hx2 hy2 hh]

/-- the ints below 31 -/
def uI : List Int := (List.range 31).map Int.ofNat
theorem mem_uI {k : Int} : k ∈ uI ↔ 0 ≤ k ∧ k < 31 := by
  unfold uI
  rw [List.mem_map]
  constructor
  · rintro ⟨a, ha, rfl⟩
    have := List.mem_range.mp ha
    simp only [Int.ofNat_eq_natCast]
    omega
  · rintro ⟨h1, h2⟩
    refine ⟨k.toNat, List.mem_range.mpr (by omega), ?_⟩
    simp only [Int.ofNat_eq_natCast]
    omega
theorem uI_rise : uI.Pairwise (· < ·) := by decide +kernel
/-- sorted(set(l)) for ints below 31 -/
def sI (l : List Int) : List Int := uI.filter fun k => decide (k ∈ l)
theorem mem_sI {l : List Int} (b : ∀ k ∈ l, 0 ≤ k ∧ k < 31) {k : Int} : k ∈ sI l ↔ k ∈ l := by
  unfold sI
  rw [List.mem_filter, decide_eq_true_eq, mem_uI]
  exact ⟨fun h => h.2, fun h => ⟨b k h, h⟩⟩
theorem sI_rise (l : List Int) : (sI l).Pairwise (· < ·) := uI_rise.filter _
theorem sI_congr {l l' : List Int} (h : ∀ k, k ∈ l ↔ k ∈ l') : sI l = sI l' := by
  unfold sI
  apply List.filter_congr
  intro k _
  exact decide_eq_decide.mpr (h k)
theorem sI_eq {l ns : List Int} (b : ∀ k ∈ l, 0 ≤ k ∧ k < 31) (r : ns.Pairwise (· < ·)) (m : ∀ k, k ∈ ns ↔ k ∈ l) : ns = sI l :=
  rise_eq (fun a h => Int.lt_irrefl a h) (fun a b h1 h2 => Int.lt_asymm h1 h2) r (sI_rise l) fun k => (m k).trans (mem_sI b).symm
theorem sI_bd {l : List Int} : ∀ k ∈ sI l, 0 ≤ k ∧ k < 31 := fun k h => mem_uI.mp (List.mem_filter.mp h).1
theorem sI_len (l : List Int) : (sI l).length ≤ 31 := Nat.le_trans (List.length_filter_le _ _) (by decide)
theorem rise_len {ns : List Int} (r : ns.Pairwise (· < ·)) (b : ∀ k ∈ ns, 0 ≤ k ∧ k < 31) : ns.length ≤ 31 := by
  rw [sI_eq (l := ns) b r fun _ => Iff.rfl]
  exact sI_len _
theorem sI_nodup (l : List Int) : (sI l).Nodup := (sI_rise l).imp fun h e => by omega
/-- a list of different ints below 31 has at most 31 -/
theorem nodup_len_nat : ∀ (l D : List Nat), l.Nodup → (∀ x ∈ l, x ∈ D) → l.length ≤ D.length
  | [], _, _, _ => Nat.zero_le _
  | x :: l, D, nd, h => by
    obtain ⟨n1, n2⟩ := List.nodup_cons.mp nd
    have hx := h x List.mem_cons_self
    have ih := nodup_len_nat l (D.erase x) n2 fun y hy => by
      have hne : y ≠ x := fun e => n1 (e ▸ hy)
      exact (List.mem_erase_of_ne hne).mpr (h y (List.mem_cons_of_mem _ hy))
    have := List.length_erase_of_mem hx
    have : 0 < D.length := List.length_pos_of_mem hx
    simp only [List.length_cons]
    omega
theorem nodup_len {α : Type} [DecidableEq α] : ∀ (l D : List α), l.Nodup → (∀ x ∈ l, x ∈ D) → l.length ≤ D.length
  | [], _, _, _ => Nat.zero_le _
  | x :: l, D, nd, h => by
    obtain ⟨n1, n2⟩ := List.nodup_cons.mp nd
    have hx := h x List.mem_cons_self
    have ih := nodup_len l (D.erase x) n2 fun y hy => by
      have hne : y ≠ x := fun e => n1 (e ▸ hy)
      exact (List.mem_erase_of_ne hne).mpr (h y (List.mem_cons_of_mem _ hy))
    have := List.length_erase_of_mem hx
    have : 0 < D.length := List.length_pos_of_mem hx
    simp only [List.length_cons]
    omega
theorem nodup_lt {l : List Nat} {n : Nat} (nd : l.Nodup) (h : ∀ x ∈ l, x < n) : l.length ≤ n := by
  have := nodup_len l (List.range n) nd fun x hx => List.mem_range.mpr (h x hx)
  rwa [List.length_range] at this

/-! ### the words -/
def sgt (a b : Str) : Bool := decide (b.cps.toList < a.cps.toList)
def slt (a b : Str) : Prop := a.cps.toList < b.cps.toList
instance (a b : Str) : Decidable (slt a b) := inferInstanceAs (Decidable (a.cps.toList < b.cps.toList))
def uS : List Str := ["ant", "bee", "cat", "dog", "elk", "fox", "gnu", "hen", "ibis", "yak", "zebu"]
theorem uS_rise : uS.Pairwise slt := by decide +kernel
theorem uS_nodup : uS.Nodup := by decide +kernel
theorem slt_irr (a : Str) : ¬ slt a a := List.lt_irrefl _
theorem slt_asy (a b : Str) (h : slt a b) (h' : slt b a) : False := List.lt_asymm h h'
/-- sorted(set(l)) for words of the eleven -/
def sS (l : List Str) : List Str := uS.filter fun k => decide (k ∈ l)
theorem mem_sS {l : List Str} (b : ∀ k ∈ l, k ∈ uS) {k : Str} : k ∈ sS l ↔ k ∈ l := by
  unfold sS
  rw [List.mem_filter, decide_eq_true_eq]
  exact ⟨fun h => h.2, fun h => ⟨b k h, h⟩⟩
theorem sS_rise (l : List Str) : (sS l).Pairwise slt := uS_rise.filter _
theorem sS_nodup (l : List Str) : (sS l).Nodup := uS_nodup.filter _
theorem sS_in {l : List Str} {k : Str} (h : k ∈ sS l) : k ∈ uS ∧ k ∈ l := by
  have := List.mem_filter.mp h
  exact ⟨this.1, of_decide_eq_true this.2⟩
theorem sS_len (l : List Str) : (sS l).length ≤ 11 := Nat.le_trans (List.length_filter_le _ _) (by decide)
theorem sS_congr {l l' : List Str} (h : ∀ k, k ∈ l ↔ k ∈ l') : sS l = sS l' := by
  unfold sS
  apply List.filter_congr
  intro k _
  exact decide_eq_decide.mpr (h k)
theorem sS_eq {l ns : List Str} (b : ∀ k ∈ l, k ∈ uS) (r : ns.Pairwise slt) (m : ∀ k, k ∈ ns ↔ k ∈ l) : ns = sS l :=
  rise_eq slt_irr slt_asy r (sS_rise l) fun k => (m k).trans (mem_sS b).symm

/-! ### cards -/
structure CardD where
  h : Str
  bk : List Int
  see : Str
  al : List Str
  deriving DecidableEq

structure CardOk (c : CardD) : Prop where
  hd : c.h ∈ uS
  bkR : c.bk.Pairwise (· < ·)
  bkB : ∀ b ∈ c.bk, 1 ≤ b ∧ b ≤ 30
  bkL : c.bk.length ≤ 4
  see : c.see = Str.empty ∨ (c.see ∈ uS ∧ c.see ≠ c.h ∧ c.bk = [] ∧ c.al = [])
  alL : c.al.length ≤ 4
  alN : c.al.Nodup
  alU : ∀ a ∈ c.al, a ∈ uS ∧ a ≠ c.h
/-- the cards of a drawer -/
structure Ok (cs : List CardD) : Prop where
  all : ∀ c ∈ cs, CardOk c
  len : cs.length ≤ 16
theorem Ok.at {cs : List CardD} (o : Ok cs) {i : Nat} {c : CardD} (h : cs[i]? = some c) : CardOk c := o.all c (List.mem_of_getElem? h)

inductive Rl where
  | all | half | leaf
  deriving DecidableEq
def Rl.str : Rl → Str
  | .all => "all"
  | .half => "half"
  | .leaf => "leaf"

/-! ### looking up -/
def mid (r : Rl) (lo hi : Nat) : Nat := if r = .half then (lo + hi - 1) / 2 else lo
def lookF (cs : List CardD) (r : Rl) (h : Str) : Nat → Nat → Nat → Option Nat
  | 0, _, _ => none
  | n + 1, lo, hi =>
    if hi ≤ lo then none else
    match cs[mid r lo hi]? with
    | none => none
    | some c =>
      if c.h = h then some (mid r lo hi)
      else if sgt c.h h = true ∧ r ≠ .all then lookF cs r h n lo (if r = .half then mid r lo hi else lo)
      else lookF cs r h n (mid r lo hi + 1) hi
def look (cs : List CardD) (r : Rl) (h : Str) : Option Nat := lookF cs r h (cs.length + 1) 0 cs.length
theorem mid_lo {r : Rl} {lo hi : Nat} (h : lo < hi) : lo ≤ mid r lo hi := by
  unfold mid; split <;> omega
theorem mid_hi {r : Rl} {lo hi : Nat} (h : lo < hi) : mid r lo hi < hi := by
  unfold mid; split <;> omega
theorem lookF_fuel (cs : List CardD) (r : Rl) (h : Str) : ∀ (n m lo hi : Nat), hi - lo < n → hi - lo < m → lookF cs r h n lo hi = lookF cs r h m lo hi
  | 0, _, _, _, h1, _ => absurd h1 (Nat.not_lt_zero _)
  | _ + 1, 0, _, _, _, h2 => absurd h2 (Nat.not_lt_zero _)
  | n + 1, m + 1, lo, hi, h1, h2 => by
    unfold lookF
    by_cases hl : hi ≤ lo
    · rw [if_pos hl, if_pos hl]
    · rw [if_neg hl, if_neg hl]
      have a := mid_lo (r := r) (show lo < hi by omega)
      have b := mid_hi (r := r) (show lo < hi by omega)
      have e1 : lookF cs r h n lo (if r = .half then mid r lo hi else lo) = lookF cs r h m lo (if r = .half then mid r lo hi else lo) :=
        lookF_fuel cs r h n m _ _ (by split <;> omega) (by split <;> omega)
      have e2 : lookF cs r h n (mid r lo hi + 1) hi = lookF cs r h m (mid r lo hi + 1) hi := lookF_fuel cs r h n m _ _ (by omega) (by omega)
      rw [e1, e2]
/-- one look -/
theorem lookF_end {cs : List CardD} {r : Rl} {h : Str} {n lo hi : Nat} (hl : hi ≤ lo) : lookF cs r h n lo hi = none := by
  cases n with
  | zero => rfl
  | succ n => unfold lookF; rw [if_pos hl]
theorem lookF_hit {cs : List CardD} {r : Rl} {h : Str} {n lo hi : Nat} {c : CardD} (hl : lo < hi) (hc : cs[mid r lo hi]? = some c) (e : c.h = h) :
    lookF cs r h (n + 1) lo hi = some (mid r lo hi) := by
  unfold lookF
  rw [if_neg (by omega), hc]
  simp only [e, if_true]
theorem lookF_gt {cs : List CardD} {r : Rl} {h : Str} {n lo hi : Nat} {c : CardD} (hl : lo < hi) (hc : cs[mid r lo hi]? = some c) (e : c.h ≠ h) (g : sgt c.h h = true) (hr : r ≠ .all) :
    lookF cs r h (n + 1) lo hi = lookF cs r h n lo (if r = .half then mid r lo hi else lo) := by
  conv => lhs; unfold lookF
  rw [if_neg (by omega), hc]
  simp only [if_neg e, if_pos (show sgt c.h h = true ∧ r ≠ .all from ⟨g, hr⟩)]
theorem lookF_on {cs : List CardD} {r : Rl} {h : Str} {n lo hi : Nat} {c : CardD} (hl : lo < hi) (hc : cs[mid r lo hi]? = some c) (e : c.h ≠ h) (g : ¬ (sgt c.h h = true ∧ r ≠ .all)) :
    lookF cs r h (n + 1) lo hi = lookF cs r h n (mid r lo hi + 1) hi := by
  conv => lhs; unfold lookF
  rw [if_neg (by omega), hc]
  simp only [if_neg e, if_neg g]
theorem lookF_at (cs : List CardD) (r : Rl) (h : Str) : ∀ (n lo hi p : Nat), lookF cs r h n lo hi = some p → ∃ c, cs[p]? = some c ∧ c.h = h
  | 0, _, _, _, e => by simp [lookF] at e
  | n + 1, lo, hi, p, e => by
    unfold lookF at e
    split at e
    · cases e
    · cases hc : cs[mid r lo hi]? with
      | none => rw [hc] at e; cases e
      | some c =>
        rw [hc] at e
        dsimp only at e
        split at e
        · rename_i eh
          cases e
          exact ⟨c, hc, eh⟩
        · split at e
          · exact lookF_at cs r h n _ _ _ e
          · exact lookF_at cs r h n _ _ _ e
theorem look_at {cs : List CardD} {r : Rl} {h : Str} {p : Nat} (e : look cs r h = some p) : ∃ c, cs[p]? = some c ∧ c.h = h := lookF_at _ _ _ _ _ _ _ e
theorem look_lt {cs : List CardD} {r : Rl} {h : Str} {p : Nat} (e : look cs r h = some p) : p < cs.length := by
  obtain ⟨c, hc, _⟩ := look_at e
  exact (List.getElem?_eq_some_iff.mp hc).1

/-! ### walks -/
inductive Wd where
  | entry (p : Nat) | lost | ring
  deriving DecidableEq
def Wd.str : Wd → Str
  | .entry _ => "entry"
  | .lost => "lost"
  | .ring => "ring"
def Wd.pl : Wd → Option Nat
  | .entry p => some p
  | _ => none
def walkF (cs : List CardD) (r : Rl) : Nat → Str → List Str → Wd
  | 0, _, _ => .ring
  | n + 1, h, so =>
    if h ∈ so then .ring else
    match look cs r h with
    | none => .lost
    | some p => match cs[p]? with
      | none => .lost
      | some c => if c.see = Str.empty then .entry p else walkF cs r n c.see (so ++ [h])
def wlk (cs : List CardD) (r : Rl) (h : Str) : Wd := walkF cs r 99 h []
def land (cs : List CardD) (r : Rl) (h : Str) : Option Nat := (wlk cs r h).pl
theorem walkF_ring {cs : List CardD} {r : Rl} {n : Nat} {h : Str} {so : List Str} (m : h ∈ so) : walkF cs r n h so = .ring := by
  cases n with
  | zero => rfl
  | succ n => unfold walkF; rw [if_pos m]
theorem walkF_lost {cs : List CardD} {r : Rl} {n : Nat} {h : Str} {so : List Str} (m : h ∉ so) (e : look cs r h = none) : walkF cs r (n + 1) h so = .lost := by
  unfold walkF; rw [if_neg m, e]
theorem walkF_entry {cs : List CardD} {r : Rl} {n p : Nat} {h : Str} {so : List Str} {c : CardD} (m : h ∉ so) (e : look cs r h = some p) (hc : cs[p]? = some c) (s : c.see = Str.empty) :
    walkF cs r (n + 1) h so = .entry p := by
  unfold walkF; rw [if_neg m, e]; simp only [hc, if_pos s]
theorem walkF_on {cs : List CardD} {r : Rl} {n p : Nat} {h : Str} {so : List Str} {c : CardD} (m : h ∉ so) (e : look cs r h = some p) (hc : cs[p]? = some c) (s : c.see ≠ Str.empty) :
    walkF cs r (n + 1) h so = walkF cs r n c.see (so ++ [h]) := by
  conv => lhs; unfold walkF
  rw [if_neg m, e]; simp only [hc, if_neg s]
theorem walkF_pl {cs : List CardD} {r : Rl} : ∀ {n : Nat} {h : Str} {so : List Str} {p : Nat}, walkF cs r n h so = .entry p → p < cs.length
  | 0, _, _, _, e => by simp [walkF] at e
  | n + 1, h, so, p, e => by
    unfold walkF at e
    split at e
    · cases e
    · cases hl : look cs r h with
      | none => rw [hl] at e; cases e
      | some q =>
        rw [hl] at e
        dsimp only at e
        cases hc : cs[q]? with
        | none => rw [hc] at e; cases e
        | some c =>
          rw [hc] at e
          dsimp only at e
          split at e
          · cases e; exact look_lt hl
          · exact walkF_pl e
theorem land_lt {cs : List CardD} {r : Rl} {h : Str} {p : Nat} (e : land cs r h = some p) : p < cs.length := by
  unfold land wlk at e
  cases hw : walkF cs r 99 h [] with
  | entry q =>
    rw [hw] at e
    have e2 : q = p := Option.some.inj e
    subst e2
    exact walkF_pl hw
  | lost => rw [hw] at e; cases e
  | ring => rw [hw] at e; cases e
/-- what the headings sought bear -/
structure Sought (cs : List CardD) (h0 h : Str) (so : List Str) : Prop where
  nd : so.Nodup
  sub : ∀ x ∈ so, x ∈ h0 :: cs.map (·.see)
  hd : h ∈ h0 :: cs.map (·.see)
theorem Sought.start (cs : List CardD) (h : Str) : Sought cs h h [] := ⟨List.nodup_nil, fun _ m => (by simp at m), List.mem_cons_self⟩
theorem Sought.len {cs : List CardD} {h0 h : Str} {so : List Str} (s : Sought cs h0 h so) (o : cs.length ≤ 16) : so.length ≤ 17 := by
  have := nodup_len so _ s.nd s.sub
  rw [List.length_cons, List.length_map] at this
  omega
theorem Sought.step {cs : List CardD} {h0 h : Str} {so : List Str} {p : Nat} {c : CardD} (s : Sought cs h0 h so) (m : h ∉ so) (hc : cs[p]? = some c) : Sought cs h0 c.see (so ++ [h]) := by
  refine ⟨?_, ?_, ?_⟩
  · rw [List.nodup_append]
    refine ⟨s.nd, by simp, ?_⟩
    intro a ha b hb
    have : b = h := by simpa using hb
    subst this
    exact fun e => m (e ▸ ha)
  · intro x hx
    rcases List.mem_append.mp hx with z | z
    · exact s.sub x z
    · have : x = h := by simpa using z
      subst this
      exact s.hd
  · exact List.mem_cons_of_mem _ (List.mem_map.mpr ⟨c, List.mem_of_getElem? hc, rfl⟩)

/-! ### gatherings -/
inductive Wy where
  | broad | deep | straight
  deriving DecidableEq
def Wy.str : Wy → Str
  | .broad => "broad"
  | .deep => "deep"
  | .straight => "straight"
structure GS where
  ag : List Str
  dn : List Str
  vis : List Nat
  met : List Int
def comb : Wy → List Str → List Str → List Str
  | .broad, rest, al => rest ++ al
  | .deep, rest, al => al ++ rest
  | .straight, _, al => al
def addB (m : List Int) (b : Int) : List Int := if b ∈ m then m else m ++ [b]
def addBs (m : List Int) (bk : List Int) : List Int := bk.foldl addB m
def gstep (cs : List CardD) (r : Rl) (w : Wy) (s : GS) : GS := match s.ag with
  | [] => s
  | h :: rest =>
    if h ∈ s.dn then { s with ag := rest } else
    match land cs r h with
    | none => { s with ag := rest, dn := s.dn ++ [h] }
    | some p => if p ∈ s.vis then { s with ag := rest, dn := s.dn ++ [h] } else
      match cs[p]? with
      | none => { s with ag := rest, dn := s.dn ++ [h] }
      | some c => ⟨comb w rest c.al, s.dn ++ [h], s.vis ++ [p], addBs s.met c.bk⟩
def gathF (cs : List CardD) (r : Rl) (w : Wy) (pat : Nat) : Nat → GS → GS
  | 0, s => s
  | n + 1, s => if s.ag = [] ∨ pat ≤ s.dn.length then s else gathF cs r w pat n (gstep cs r w s)
def gs0 (h : Str) : GS := ⟨[h], [], [], []⟩
def gath (cs : List CardD) (r : Rl) (w : Wy) (h : Str) (pat : Nat) : GS := gathF cs r w pat 400 (gs0 h)
def reach (cs : List CardD) (r : Rl) (h : Str) : List Int := sI (gath cs r .broad h 99).met

theorem addB_nodup {m : List Int} {b : Int} (h : m.Nodup) : (addB m b).Nodup := by
  unfold addB
  split
  · exact h
  · rename_i n
    rw [List.nodup_append]
    refine ⟨h, by simp, ?_⟩
    intro x hx y hy
    have : y = b := by simpa using hy
    subst this
    exact fun e => n (e ▸ hx)
theorem mem_addB {m : List Int} {b k : Int} : k ∈ addB m b ↔ k ∈ m ∨ k = b := by
  unfold addB
  split
  · rename_i h
    constructor
    · exact .inl
    · rintro (h1 | rfl)
      · exact h1
      · exact h
  · simp
theorem addBs_nodup : ∀ {bk m : List Int}, m.Nodup → (addBs m bk).Nodup
  | [], _, h => h
  | b :: bk, m, h => addBs_nodup (bk := bk) (addB_nodup h)
theorem mem_addBs {k : Int} : ∀ {bk m : List Int}, k ∈ addBs m bk ↔ k ∈ m ∨ k ∈ bk
  | [], m => by simp [addBs]
  | b :: bk, m => by
    show k ∈ addBs (addB m b) bk ↔ _
    rw [mem_addBs, mem_addB, List.mem_cons, or_assoc]

/-- what a gathering's state bears -/
structure GOk (cs : List CardD) (h0 : Str) (s : GS) : Prop where
  visN : s.vis.Nodup
  visL : ∀ p ∈ s.vis, p < cs.length
  dnN : s.dn.Nodup
  dnU : ∀ a ∈ s.dn, a ∈ uS
  agU : ∀ a ∈ s.ag, a ∈ uS
  metN : s.met.Nodup
  metB : ∀ k, k ∈ s.met ↔ ∃ p c, p ∈ s.vis ∧ cs[p]? = some c ∧ k ∈ c.bk
theorem GOk.start (cs : List CardD) {h : Str} (hu : h ∈ uS) : GOk cs h (gs0 h) :=
  ⟨List.nodup_nil, fun _ m => (nomatch m), List.nodup_nil, fun _ m => (nomatch m), fun a m => by
    have : a = h := by simpa [gs0] using m
    rw [this]; exact hu, List.nodup_nil, fun k => ⟨fun m => (nomatch m), fun ⟨p, c, m, _⟩ => (nomatch m)⟩⟩
theorem GOk.visLen {cs : List CardD} {h0 : Str} {s : GS} (g : GOk cs h0 s) (o : cs.length ≤ 16) : s.vis.length ≤ 16 := Nat.le_trans (nodup_lt g.visN g.visL) o
theorem GOk.dnLen {cs : List CardD} {h0 : Str} {s : GS} (g : GOk cs h0 s) : s.dn.length ≤ 11 := nodup_len _ uS g.dnN g.dnU
theorem GOk.metIn {cs : List CardD} {h0 : Str} {s : GS} (g : GOk cs h0 s) (o : Ok cs) : ∀ k ∈ s.met, 1 ≤ k ∧ k ≤ 30 := fun k m => by
  obtain ⟨p, c, _, hc, hk⟩ := (g.metB k).1 m
  exact (o.at hc).bkB k hk
theorem nodup_bd {l : List Int} (nd : l.Nodup) (b : ∀ k ∈ l, 0 ≤ k ∧ k < 31) : l.length ≤ 31 := by
  have := nodup_len l uI nd fun k hk => mem_uI.mpr (b k hk)
  exact Nat.le_trans this (by decide)
theorem GOk.metLen {cs : List CardD} {h0 : Str} {s : GS} (g : GOk cs h0 s) (o : Ok cs) : s.met.length ≤ 31 :=
  nodup_bd g.metN fun k hk => by have := g.metIn o k hk; omega
theorem nodup_snoc {α : Type} {l : List α} {x : α} (h : l.Nodup) (n : x ∉ l) : (l ++ [x]).Nodup := by
  rw [List.nodup_append]
  refine ⟨h, by simp, ?_⟩
  intro a ha b hb
  have : b = x := by simpa using hb
  subst this
  exact fun e => n (e ▸ ha)
theorem gstep_nil {cs : List CardD} {r : Rl} {w : Wy} {s : GS} (e : s.ag = []) : gstep cs r w s = s := by unfold gstep; rw [e]
theorem gstep_done {cs : List CardD} {r : Rl} {w : Wy} {s : GS} {h : Str} {rest : List Str} (e : s.ag = h :: rest) (m : h ∈ s.dn) : gstep cs r w s = { s with ag := rest } := by
  unfold gstep; rw [e]; simp only [if_pos m]
theorem gstep_none {cs : List CardD} {r : Rl} {w : Wy} {s : GS} {h : Str} {rest : List Str} (e : s.ag = h :: rest) (m : h ∉ s.dn) (l : land cs r h = none) :
    gstep cs r w s = { s with ag := rest, dn := s.dn ++ [h] } := by
  unfold gstep; rw [e]; simp only [if_neg m, l]
theorem gstep_seen {cs : List CardD} {r : Rl} {w : Wy} {s : GS} {h : Str} {rest : List Str} {p : Nat} (e : s.ag = h :: rest) (m : h ∉ s.dn) (l : land cs r h = some p) (v : p ∈ s.vis) :
    gstep cs r w s = { s with ag := rest, dn := s.dn ++ [h] } := by
  unfold gstep; rw [e]; simp only [if_neg m, l, if_pos v]
theorem gstep_new {cs : List CardD} {r : Rl} {w : Wy} {s : GS} {h : Str} {rest : List Str} {p : Nat} {c : CardD} (e : s.ag = h :: rest) (m : h ∉ s.dn) (l : land cs r h = some p) (v : p ∉ s.vis) (hc : cs[p]? = some c) :
    gstep cs r w s = ⟨comb w rest c.al, s.dn ++ [h], s.vis ++ [p], addBs s.met c.bk⟩ := by
  unfold gstep; rw [e]; simp only [if_neg m, l, if_neg v, hc]
/-- the five ways of a step -/
theorem gstep_cases {cs : List CardD} {r : Rl} {w : Wy} {s : GS} (P : GS → Prop) (h1 : s.ag = [] → P s)
    (h2 : ∀ h rest, s.ag = h :: rest → h ∈ s.dn → P { s with ag := rest })
    (h3 : ∀ h rest, s.ag = h :: rest → h ∉ s.dn → (land cs r h = none ∨ ∃ p, land cs r h = some p ∧ p ∈ s.vis) → P { s with ag := rest, dn := s.dn ++ [h] })
    (h4 : ∀ h rest p c, s.ag = h :: rest → h ∉ s.dn → land cs r h = some p → p ∉ s.vis → cs[p]? = some c → P ⟨comb w rest c.al, s.dn ++ [h], s.vis ++ [p], addBs s.met c.bk⟩) : P (gstep cs r w s) := by
  cases e : s.ag with
  | nil => rw [gstep_nil e]; exact h1 e
  | cons h rest =>
    by_cases m : h ∈ s.dn
    · rw [gstep_done e m]; exact h2 h rest e m
    · cases l : land cs r h with
      | none => rw [gstep_none e m l]; exact h3 h rest e m (.inl l)
      | some p =>
        by_cases v : p ∈ s.vis
        · rw [gstep_seen e m l v]; exact h3 h rest e m (.inr ⟨p, l, v⟩)
        · have hp := land_lt l
          have hc : cs[p]? = some cs[p] := List.getElem?_eq_getElem hp
          rw [gstep_new e m l v hc]; exact h4 h rest p _ e m l v hc
theorem mem_comb {w : Wy} {rest al : List Str} {a : Str} (h : a ∈ comb w rest al) : a ∈ rest ∨ a ∈ al := by
  cases w with
  | broad => exact List.mem_append.mp h
  | deep => exact (List.mem_append.mp h).symm
  | straight => exact .inr h
theorem comb_len (w : Wy) (rest al : List Str) : (comb w rest al).length ≤ rest.length + al.length := by
  cases w with
  | broad => simp [comb]
  | deep => simp [comb]; omega
  | straight => simp [comb]
theorem GOk.step {cs : List CardD} {r : Rl} {w : Wy} {h0 : Str} {s : GS} (g : GOk cs h0 s) (o : Ok cs) : GOk cs h0 (gstep cs r w s) := by
  refine gstep_cases (fun s' => GOk cs h0 s') (fun _ => g) (fun h rest e m => ?_) (fun h rest e m _ => ?_) (fun h rest p c e m l v hc => ?_)
  · exact ⟨g.visN, g.visL, g.dnN, g.dnU, fun a ha => g.agU a (by rw [e]; exact List.mem_cons_of_mem _ ha), g.metN, g.metB⟩
  · exact ⟨g.visN, g.visL, nodup_snoc g.dnN m, fun a ha => by
      rcases List.mem_append.mp ha with z | z
      · exact g.dnU a z
      · have : a = h := by simpa using z
        rw [this]; exact g.agU h (by rw [e]; exact List.mem_cons_self), fun a ha => g.agU a (by rw [e]; exact List.mem_cons_of_mem _ ha), g.metN, g.metB⟩
  · refine ⟨nodup_snoc g.visN v, fun q hq => ?_, nodup_snoc g.dnN m, fun a ha => ?_, fun a ha => ?_, addBs_nodup g.metN, fun k => ?_⟩
    · rcases List.mem_append.mp hq with z | z
      · exact g.visL q z
      · have : q = p := by simpa using z
        rw [this]; exact land_lt l
    · rcases List.mem_append.mp ha with z | z
      · exact g.dnU a z
      · have : a = h := by simpa using z
        rw [this]; exact g.agU h (by rw [e]; exact List.mem_cons_self)
    · rcases mem_comb ha with z | z
      · exact g.agU a (by rw [e]; exact List.mem_cons_of_mem _ z)
      · exact ((o.at hc).alU a z).1
    · rw [mem_addBs, g.metB]
      constructor
      · rintro (⟨q, d, hq, hd, hk⟩ | hk)
        · exact ⟨q, d, List.mem_append_left _ hq, hd, hk⟩
        · exact ⟨p, c, List.mem_append_right _ List.mem_cons_self, hc, hk⟩
      · rintro ⟨q, d, hq, hd, hk⟩
        rcases List.mem_append.mp hq with z | z
        · exact .inl ⟨q, d, z, hd, hk⟩
        · have : q = p := by simpa using z
          subst this
          rw [hc] at hd
          cases hd
          exact .inr hk
/-- what falls -/
def mu (s : GS) : Nat := s.ag.length + 4 * (16 - s.vis.length)
theorem mu_step {cs : List CardD} {r : Rl} {w : Wy} {h0 : Str} {s : GS} (g : GOk cs h0 s) (o : Ok cs) (ne : s.ag ≠ []) : mu (gstep cs r w s) < mu s := by
  have hg := g.step (r := r) (w := w) o
  have hv := hg.visLen o.len
  revert hv
  refine gstep_cases (fun s' => s'.vis.length ≤ 16 → mu s' < mu s) (fun e => absurd e ne) (fun h rest e m _ => ?_) (fun h rest e m _ _ => ?_) (fun h rest p c e m l v hc hv => ?_)
  · unfold mu; rw [e]; simp only [List.length_cons]; omega
  · unfold mu; rw [e]; simp only [List.length_cons]; omega
  · have h1 := comb_len w rest c.al
    have h2 := (o.at hc).alL
    unfold mu; rw [e]
    simp only [List.length_cons, List.length_append, List.length_nil] at hv ⊢
    omega
theorem gathF_end {cs : List CardD} {r : Rl} {w : Wy} {pat n : Nat} {s : GS} (h : s.ag = [] ∨ pat ≤ s.dn.length) : gathF cs r w pat n s = s := by
  cases n with
  | zero => rfl
  | succ n => unfold gathF; rw [if_pos h]
theorem gathF_on {cs : List CardD} {r : Rl} {w : Wy} {pat n : Nat} {s : GS} (h : ¬ (s.ag = [] ∨ pat ≤ s.dn.length)) : gathF cs r w pat (n + 1) s = gathF cs r w pat n (gstep cs r w s) := by
  conv => lhs; unfold gathF
  rw [if_neg h]
theorem gathF_fuel {cs : List CardD} {r : Rl} {w : Wy} {pat : Nat} {h0 : Str} (o : Ok cs) : ∀ (n m : Nat) (s : GS), GOk cs h0 s → mu s ≤ n → mu s ≤ m → gathF cs r w pat n s = gathF cs r w pat m s
  | n, m, s, g, h1, h2 => by
    by_cases c : s.ag = [] ∨ pat ≤ s.dn.length
    · rw [gathF_end c, gathF_end c]
    · have ne : s.ag ≠ [] := fun e => c (.inl e)
      have lt := mu_step (r := r) (w := w) g o ne
      cases n with
      | zero => omega
      | succ n => cases m with
        | zero => omega
        | succ m =>
          rw [gathF_on c, gathF_on c]
          exact gathF_fuel o n m _ (g.step o) (by omega) (by omega)
theorem gathF_ok {cs : List CardD} {r : Rl} {w : Wy} {pat : Nat} {h0 : Str} (o : Ok cs) : ∀ (n : Nat) (s : GS), GOk cs h0 s → mu s ≤ n → GOk cs h0 (gathF cs r w pat n s) ∧ ((gathF cs r w pat n s).ag = [] ∨ pat ≤ (gathF cs r w pat n s).dn.length)
  | n, s, g, h1 => by
    by_cases c : s.ag = [] ∨ pat ≤ s.dn.length
    · rw [gathF_end c]; exact ⟨g, c⟩
    · have ne : s.ag ≠ [] := fun e => c (.inl e)
      have lt := mu_step (r := r) (w := w) g o ne
      cases n with
      | zero => omega
      | succ n =>
        rw [gathF_on c]
        exact gathF_ok o n _ (g.step o) (by omega)
theorem mu0 (h : Str) : mu (gs0 h) ≤ 65 := by simp [mu, gs0]
theorem gath_ok {cs : List CardD} {r : Rl} {w : Wy} {pat : Nat} {h : Str} (o : Ok cs) (hu : h ∈ uS) : GOk cs h (gath cs r w h pat) ∧ ((gath cs r w h pat).ag = [] ∨ pat ≤ (gath cs r w h pat).dn.length) :=
  gathF_ok o 400 _ (GOk.start cs hu) (Nat.le_trans (mu0 h) (by decide))

/-! ### what is reached, by places -/
inductive Rp (cs : List CardD) (r : Rl) (h0 : Str) : Nat → Prop
  | base {p : Nat} : land cs r h0 = some p → Rp cs r h0 p
  | next {p q : Nat} {c : CardD} {a : Str} : Rp cs r h0 p → cs[p]? = some c → a ∈ c.al → land cs r a = some q → Rp cs r h0 q
/-- the broad gathering: what it keeps -/
structure BOk (cs : List CardD) (r : Rl) (h0 : Str) (s : GS) : Prop where
  sound : ∀ p ∈ s.vis, Rp cs r h0 p
  agS : ∀ a ∈ s.ag, ∀ p, land cs r a = some p → Rp cs r h0 p
  dnS : ∀ a ∈ s.dn, ∀ p, land cs r a = some p → p ∈ s.vis
  h0m : h0 ∈ s.ag ∨ h0 ∈ s.dn
  alm : ∀ p ∈ s.vis, ∀ c, cs[p]? = some c → ∀ a ∈ c.al, a ∈ s.ag ∨ a ∈ s.dn
theorem BOk.start (cs : List CardD) (r : Rl) (h : Str) : BOk cs r h (gs0 h) :=
  ⟨fun _ m => (nomatch m), fun a m p l => by
    have : a = h := by simpa [gs0] using m
    subst this
    exact .base l, fun _ m => (nomatch m), .inl List.mem_cons_self, fun _ m => (nomatch m)⟩
theorem BOk.step {cs : List CardD} {r : Rl} {h0 : Str} {s : GS} (b : BOk cs r h0 s) : BOk cs r h0 (gstep cs r .broad s) := by
  have key : ∀ {h : Str} {rest : List Str} {a : Str} {dn : List Str}, s.ag = h :: rest → (a ∈ s.ag ∨ a ∈ dn) → a ∈ rest ∨ a ∈ dn ++ [h] := fun {h rest a dn} e m => by
    rcases m with m | m
    · rw [e] at m
      rcases List.mem_cons.mp m with z | z
      · exact .inr (List.mem_append_right _ (by simp [z]))
      · exact .inl z
    · exact .inr (List.mem_append_left _ m)
  refine gstep_cases (fun s' => BOk cs r h0 s') (fun _ => b) (fun h rest e m => ?_) (fun h rest e m hl => ?_) (fun h rest p c e m l v hc => ?_)
  · have key2 : ∀ {a : Str}, (a ∈ s.ag ∨ a ∈ s.dn) → a ∈ rest ∨ a ∈ s.dn := fun {a} z => by
      rcases z with z | z
      · rw [e] at z
        rcases List.mem_cons.mp z with z | z
        · exact .inr (z ▸ m)
        · exact .inl z
      · exact .inr z
    exact ⟨b.sound, fun a ha => b.agS a (by rw [e]; exact List.mem_cons_of_mem _ ha), b.dnS, key2 b.h0m, fun p hp c hc a ha => key2 (b.alm p hp c hc a ha)⟩
  · refine ⟨b.sound, fun a ha => b.agS a (by rw [e]; exact List.mem_cons_of_mem _ ha), fun a ha p l => ?_, key e b.h0m, fun p hp c hc a ha => key e (b.alm p hp c hc a ha)⟩
    rcases List.mem_append.mp ha with z | z
    · exact b.dnS a z p l
    · have : a = h := by simpa using z
      subst this
      rcases hl with hl | ⟨q, hq, hv⟩
      · rw [hl] at l; cases l
      · rw [hq] at l; cases l; exact hv
  · have hR : Rp cs r h0 p := b.agS h (by rw [e]; exact List.mem_cons_self) p l
    have up : ∀ {a : Str}, a ∈ rest ∨ a ∈ s.dn ++ [h] → a ∈ comb .broad rest c.al ∨ a ∈ s.dn ++ [h] := fun {a} z => z.imp (fun z => List.mem_append_left _ z) id
    refine ⟨fun q hq => ?_, fun a ha q lq => ?_, fun a ha q lq => ?_, up (key e b.h0m), fun q hq d hd a ha => ?_⟩
    · rcases List.mem_append.mp hq with z | z
      · exact b.sound q z
      · have : q = p := by simpa using z
        rw [this]; exact hR
    · rcases mem_comb (w := .broad) ha with z | z
      · exact b.agS a (by rw [e]; exact List.mem_cons_of_mem _ z) q lq
      · exact .next hR hc z lq
    · rcases List.mem_append.mp ha with z | z
      · exact List.mem_append_left _ (b.dnS a z q lq)
      · have : a = h := by simpa using z
        subst this
        rw [l] at lq
        cases lq
        exact List.mem_append_right _ (by simp)
    · rcases List.mem_append.mp hq with z | z
      · exact up (key e (b.alm q z d hd a ha))
      · have : q = p := by simpa using z
        subst this
        rw [hc] at hd
        cases hd
        exact .inl (List.mem_append_right _ ha)
theorem gathF_bok {cs : List CardD} {r : Rl} {pat : Nat} {h0 : Str} : ∀ (n : Nat) (s : GS), BOk cs r h0 s → BOk cs r h0 (gathF cs r .broad pat n s)
  | 0, s, b => b
  | n + 1, s, b => by
    unfold gathF
    split
    · exact b
    · exact gathF_bok n _ b.step
theorem BOk.full {cs : List CardD} {r : Rl} {h0 : Str} {s : GS} (b : BOk cs r h0 s) (e : s.ag = []) : ∀ p, p ∈ s.vis ↔ Rp cs r h0 p := by
  intro p
  constructor
  · exact b.sound p
  · intro h
    induction h with
    | base l =>
      rcases b.h0m with z | z
      · rw [e] at z; cases z
      · exact b.dnS _ z _ l
    | next _ hc ha l ih =>
      rcases b.alm _ ih _ hc _ ha with z | z
      · rw [e] at z; cases z
      · exact b.dnS _ z _ l
/-- the books that are reached -/
theorem mem_reach {cs : List CardD} {r : Rl} {h : Str} (o : Ok cs) (hu : h ∈ uS) {k : Int} : k ∈ reach cs r h ↔ ∃ p c, Rp cs r h p ∧ cs[p]? = some c ∧ k ∈ c.bk := by
  obtain ⟨g, en⟩ := gath_ok (r := r) (w := .broad) (pat := 99) o hu
  have b : BOk cs r h (gath cs r .broad h 99) := gathF_bok 400 _ (BOk.start cs r h)
  have e : (gath cs r .broad h 99).ag = [] := by
    rcases en with e | e
    · exact e
    · have := g.dnLen; omega
  unfold reach
  rw [mem_sI fun k hk => by have := g.metIn o k hk; omega, g.metB]
  constructor
  · rintro ⟨p, c, hp, hc, hk⟩
    exact ⟨p, c, (b.full e p).1 hp, hc, hk⟩
  · rintro ⟨p, c, hp, hc, hk⟩
    exact ⟨p, c, (b.full e p).2 hp, hc, hk⟩
end Se
/-! what lies ahead over the ways: plain mathematics -/
namespace Se
open PySem
inductive Rc (W : List (List Int)) (i : Nat) : Int → Prop
  | one {l : List Int} {k : Int} : W[i]? = some l → k ∈ l → Rc W i k
  | more {n : Nat} {l : List Int} {k' : Int} : Rc W i (n : Int) → W[n]? = some l → k' ∈ l → Rc W i k'
structure WOk (W : List (List Int)) : Prop where
  len : W.length ≤ 16
  bd : ∀ l ∈ W, ∀ k ∈ l, 0 ≤ k ∧ k < W.length
  ll : ∀ l ∈ W, l.length ≤ 31
theorem Rc.bd {W : List (List Int)} (o : WOk W) {i : Nat} {k : Int} (h : Rc W i k) : 0 ≤ k ∧ k < W.length := by
  cases h with
  | one a b => exact o.bd _ (List.mem_of_getElem? a) _ b
  | more _ a b => exact o.bd _ (List.mem_of_getElem? a) _ b
/-- the search from i: a stack and what is met -/
structure DInv (W : List (List Int)) (i : Nat) (wt mt : List Int) : Prop where
  wr : ∀ k ∈ wt, Rc W i k
  mr : ∀ k ∈ mt, Rc W i k
  st : ∀ l k, W[i]? = some l → k ∈ l → k ∈ mt ∨ k ∈ wt
  cl : ∀ (n : Nat) l k', (n : Int) ∈ mt → W[n]? = some l → k' ∈ l → k' ∈ mt ∨ k' ∈ wt
  nd : mt.Nodup
theorem DInv.start {W : List (List Int)} {i : Nat} {l : List Int} (e : W[i]? = some l) : DInv W i l [] :=
  ⟨fun k h => .one e h, fun _ h => (nomatch h), fun l' k e' h => by rw [e] at e'; cases e'; exact .inr h, fun _ _ _ h => (nomatch h), List.nodup_nil⟩
theorem DInv.old {W : List (List Int)} {i : Nat} {wt mt : List Int} {k : Int} (d : DInv W i (wt ++ [k]) mt) (m : k ∈ mt) : DInv W i wt mt := by
  have key : ∀ x, (x ∈ mt ∨ x ∈ wt ++ [k]) → x ∈ mt ∨ x ∈ wt := fun x h => by
    rcases h with h | h
    · exact .inl h
    · rcases List.mem_append.mp h with h | h
      · exact .inr h
      · rw [List.mem_singleton.mp h]; exact .inl m
  exact ⟨fun x h => d.wr x (List.mem_append_left _ h), d.mr, fun l x e h => key _ (d.st l x e h), fun n l x h1 h2 h3 => key _ (d.cl n l x h1 h2 h3), d.nd⟩
theorem DInv.new {W : List (List Int)} {i : Nat} {wt mt : List Int} {n : Nat} {l : List Int} (d : DInv W i (wt ++ [(n : Int)]) mt) (m : (n : Int) ∉ mt) (e : W[n]? = some l) : DInv W i (wt ++ l) (mt ++ [(n : Int)]) := by
  have hn : Rc W i (n : Int) := d.wr _ (by simp)
  have key : ∀ x, (x ∈ mt ∨ x ∈ wt ++ [(n : Int)]) → x ∈ mt ++ [(n : Int)] ∨ x ∈ wt ++ l := fun x h => by
    rcases h with h | h
    · exact .inl (List.mem_append_left _ h)
    · rcases List.mem_append.mp h with h | h
      · exact .inr (List.mem_append_left _ h)
      · exact .inl (List.mem_append_right _ h)
  refine ⟨fun x h => ?_, fun x h => ?_, fun l x e h => key _ (d.st l x e h), fun a l' x h1 h2 h3 => ?_, nodup_snoc d.nd m⟩
  · rcases List.mem_append.mp h with h | h
    · exact d.wr x (List.mem_append_left _ h)
    · exact .more hn e h
  · rcases List.mem_append.mp h with h | h
    · exact d.mr x h
    · rw [List.mem_singleton.mp h]; exact hn
  · rcases List.mem_append.mp h1 with h1 | h1
    · exact key _ (d.cl a l' x h1 h2 h3)
    · have := List.mem_singleton.mp h1
      have : a = n := by omega
      subst this
      rw [e] at h2
      cases h2
      exact .inr (List.mem_append_right _ h3)
theorem DInv.fin {W : List (List Int)} {i : Nat} {mt : List Int} (d : DInv W i [] mt) : ∀ k, k ∈ mt ↔ Rc W i k := fun k => by
  refine ⟨d.mr k, fun h => ?_⟩
  induction h with
  | one a b => exact (d.st _ _ a b).resolve_right fun h => nomatch h
  | more _ a b ih => exact (d.cl _ _ _ ih a b).resolve_right fun h => nomatch h
theorem DInv.len {W : List (List Int)} (o : WOk W) {i : Nat} {wt mt : List Int} (d : DInv W i wt mt) : mt.length ≤ 16 := by
  have := nodup_len mt ((List.range 16).map Int.ofNat) d.nd fun k hk => by
    have := (d.mr k hk).bd o
    have := o.len
    refine List.mem_map.mpr ⟨k.toNat, List.mem_range.mpr (by omega), ?_⟩
    simp only [Int.ofNat_eq_natCast]
    omega
  simpa using this
/-! ### the rounds of the law: S grows by the ways of its own -/
/-- one round of the set of i -/
def grow (W : List (List Int)) (S : List Int) : List Int := sI (S ++ S.flatMap fun k => (W[k.toNat]?).getD [])
structure SInv (W : List (List Int)) (i : Nat) (S : List Int) : Prop where
  sr : ∀ k ∈ S, Rc W i k
  st : ∀ l k, W[i]? = some l → k ∈ l → k ∈ S
theorem grow_bd {W : List (List Int)} (o : WOk W) {S : List Int} (b : ∀ k ∈ S, 0 ≤ k ∧ k < W.length) : ∀ k ∈ S ++ S.flatMap (fun k => (W[k.toNat]?).getD []), 0 ≤ k ∧ k < W.length := fun k h => by
  rcases List.mem_append.mp h with h | h
  · exact b k h
  · obtain ⟨x, hx, hk⟩ := List.mem_flatMap.mp h
    cases e : W[x.toNat]? with
    | none => rw [e] at hk; cases hk
    | some l => rw [e] at hk; exact o.bd l (List.mem_of_getElem? e) k hk
theorem mem_grow {W : List (List Int)} (o : WOk W) {S : List Int} (b : ∀ k ∈ S, 0 ≤ k ∧ k < W.length) {k : Int} : k ∈ grow W S ↔ k ∈ S ∨ ∃ (n : Nat) (l : List Int), (n : Int) ∈ S ∧ W[n]? = some l ∧ k ∈ l := by
  unfold grow
  have ol := o.len
  rw [mem_sI fun k h => by have := grow_bd o b k h; omega, List.mem_append, List.mem_flatMap]
  refine or_congr Iff.rfl ⟨fun ⟨x, hx, hk⟩ => ?_, fun ⟨n, l, h1, h2, h3⟩ => ⟨(n : Int), h1, ?_⟩⟩
  · cases e : W[x.toNat]? with
    | none => rw [e] at hk; cases hk
    | some l =>
      rw [e] at hk
      have := b x hx
      exact ⟨x.toNat, l, by rw [Int.toNat_of_nonneg this.1]; exact hx, e, hk⟩
  · rw [Int.toNat_natCast, h2]; exact h3
theorem SInv.bd {W : List (List Int)} (o : WOk W) {i : Nat} {S : List Int} (s : SInv W i S) : ∀ k ∈ S, 0 ≤ k ∧ k < W.length := fun k h => (s.sr k h).bd o
theorem SInv.grow {W : List (List Int)} (o : WOk W) {i : Nat} {S : List Int} (s : SInv W i S) : SInv W i (grow W S) := by
  refine ⟨fun k h => ?_, fun l k e h => (mem_grow o (s.bd o)).2 (.inl (s.st l k e h))⟩
  rcases (mem_grow o (s.bd o)).1 h with h | ⟨n, l, h1, h2, h3⟩
  · exact s.sr k h
  · exact .more (s.sr _ h1) h2 h3
/-- closed under the ways -/
def Clo (W : List (List Int)) (S : List Int) : Prop := ∀ (n : Nat) l k, (n : Int) ∈ S → W[n]? = some l → k ∈ l → k ∈ S
theorem Clo.grow {W : List (List Int)} (o : WOk W) {i : Nat} {S : List Int} (s : SInv W i S) (c : Clo W S) : Clo W (grow W S) := fun n l k h e hk => by
  have hS : ∀ x, x ∈ Se.grow W S → x ∈ S := fun x hx => by
    rcases (mem_grow o (s.bd o)).1 hx with z | ⟨n, l, h1, h2, h3⟩
    · exact z
    · exact c n l x h1 h2 h3
  exact (mem_grow o (s.bd o)).2 (.inl (c n l k (hS _ h) e hk))
theorem SInv.fin {W : List (List Int)} {i : Nat} {S : List Int} (s : SInv W i S) (c : Clo W S) : ∀ k, k ∈ S ↔ Rc W i k := fun k => by
  refine ⟨s.sr k, fun h => ?_⟩
  induction h with
  | one a b => exact s.st _ _ a b
  | more _ a b ih => exact c _ _ _ ih a b
/-- after t rounds: closed, or at least t of them -/
structure TInv (W : List (List Int)) (i t : Nat) (S : List Int) : Prop where
  s : SInv W i S
  nd : S.Nodup
  g : Clo W S ∨ t ≤ S.length
theorem TInv.grow {W : List (List Int)} (o : WOk W) {i t : Nat} {S : List Int} (h : TInv W i t S) : TInv W i (t + 1) (grow W S) := by
  refine ⟨h.s.grow o, sI_nodup _, ?_⟩
  by_cases c : Clo W S
  · exact .inl (c.grow o h.s)
  · right
    have hg := h.g.resolve_left c
    -- something new
    have ⟨x, hx1, hx2⟩ : ∃ x, x ∈ Se.grow W S ∧ x ∉ S := by
      apply Classical.byContradiction
      intro nx
      apply c
      intro n l k hn e hk
      apply Classical.byContradiction
      intro nk
      exact nx ⟨k, (mem_grow o (h.s.bd o)).2 (.inr ⟨n, l, hn, e, hk⟩), nk⟩
    have := nodup_len (x :: S) (Se.grow W S) (List.nodup_cons.mpr ⟨hx2, h.nd⟩) fun y hy => by
      rcases List.mem_cons.mp hy with rfl | hy
      · exact hx1
      · exact (mem_grow o (h.s.bd o)).2 (.inl hy)
    rw [List.length_cons] at this
    omega
theorem TInv.fin {W : List (List Int)} (o : WOk W) {i : Nat} {S : List Int} (h : TInv W i W.length S) : ∀ k, k ∈ S ↔ Rc W i k := by
  refine h.s.fin (h.g.elim id fun hl n l k hn e hk => ?_)
  -- all are in
  apply Classical.byContradiction
  intro nk
  have kb := o.bd l (List.mem_of_getElem? e) k hk
  have := nodup_len (k :: S) ((List.range W.length).map Int.ofNat) (List.nodup_cons.mpr ⟨nk, h.nd⟩) fun y hy => by
    have yb : 0 ≤ y ∧ y < W.length := by
      rcases List.mem_cons.mp hy with rfl | hy
      · exact kb
      · exact h.s.bd o y hy
    refine List.mem_map.mpr ⟨y.toNat, List.mem_range.mpr (by omega), ?_⟩
    simp only [Int.ofNat_eq_natCast]
    omega
  simp at this
  omega
/-! ### the rings -/
noncomputable def inRing (W : List (List Int)) (i j : Nat) : Bool := @decide (Rc W i (j : Int) ∧ Rc W j (i : Int)) (Classical.propDecidable _)
noncomputable def grpT (W : List (List Int)) (i n : Nat) : List Int := ((List.range n).filter (inRing W i)).map fun j : Nat => (j : Int)
noncomputable def grp (W : List (List Int)) (i : Nat) : List Int := grpT W i W.length
noncomputable def ringsT (W : List (List Int)) : Nat → List (List Int)
  | 0 => []
  | i + 1 => ringsT W i ++ (if 1 < (grp W i).length ∧ (grp W i).head? = some (i : Int) then [grp W i] else [])
noncomputable def rings (W : List (List Int)) : List (List Int) := ringsT W W.length
theorem inRing_t {W : List (List Int)} {i j : Nat} : inRing W i j = true ↔ Rc W i (j : Int) ∧ Rc W j (i : Int) := by unfold inRing; exact @decide_eq_true_iff _ (Classical.propDecidable _)
theorem grpT_in {W : List (List Int)} {i j : Nat} (h : inRing W i j = true) : grpT W i (j + 1) = grpT W i j ++ [(j : Int)] := by
  unfold grpT
  rw [List.range_succ, List.filter_append, List.filter_cons, if_pos h, List.map_append]; rfl
theorem grpT_out {W : List (List Int)} {i j : Nat} (h : inRing W i j = false) : grpT W i (j + 1) = grpT W i j := by
  unfold grpT
  rw [List.range_succ, List.filter_append, List.filter_cons, if_neg (by rw [h]; exact Bool.false_ne_true), List.filter_nil, List.append_nil]
theorem grpT_len (W : List (List Int)) (i n : Nat) : (grpT W i n).length ≤ n := by
  unfold grpT
  rw [List.length_map]
  exact Nat.le_trans (List.length_filter_le _ _) (by rw [List.length_range]; exact Nat.le_refl _)
theorem ringsT_len (W : List (List Int)) : ∀ i, (ringsT W i).length ≤ i
  | 0 => Nat.le_refl _
  | i + 1 => by
    have := ringsT_len W i
    unfold ringsT
    rw [List.length_append]
    split <;> simp <;> omega
end Se
/-! reach by levels: plain mathematics -/
namespace Se
open PySem
theorem Rp.lt {cs : List CardD} {r : Rl} {h0 : Str} {p : Nat} (h : Rp cs r h0 p) : p < cs.length := by
  cases h with
  | base l => exact land_lt l
  | next _ _ _ l => exact land_lt l
def castI (l : List Nat) : List Int := l.map fun n : Nat => (n : Int)
theorem mem_castI {l : List Nat} {n : Nat} : (n : Int) ∈ castI l ↔ n ∈ l := by
  unfold castI
  rw [List.mem_map]
  exact ⟨fun ⟨a, ha, e⟩ => by have : a = n := Int.ofNat.inj e; rw [← this]; exact ha, fun h => ⟨n, h, rfl⟩⟩
/-- the places of a level, the new ones -/
def lvlS (level : List (Option Nat)) : List Int := sI (castI (level.filterMap id))
def lvl (met : List Int) (level : List (Option Nat)) : List Int := (lvlS level).filter fun k => !decide (k ∈ met)
def laterF (cs : List CardD) (r : Rl) (k : Int) : List (Option Nat) := match cs[k.toNat]? with
  | some c => c.al.map (land cs r)
  | none => []
def later (cs : List CardD) (r : Rl) (L : List Int) : List (Option Nat) := L.flatMap (laterF cs r)
structure LInv (cs : List CardD) (r : Rl) (h0 : Str) (met : List Int) (level : List (Option Nat)) : Prop where
  mr : ∀ k ∈ met, ∃ n : Nat, k = (n : Int) ∧ Rp cs r h0 n
  lr : ∀ n, some n ∈ level → Rp cs r h0 n
  st : ∀ p, land cs r h0 = some p → (p : Int) ∈ met ∨ some p ∈ level
  cl : ∀ (n : Nat) c a q, (n : Int) ∈ met → cs[n]? = some c → a ∈ c.al → land cs r a = some q → (q : Int) ∈ met ∨ some q ∈ level
  nd : met.Nodup
theorem LInv.start (cs : List CardD) (r : Rl) (h0 : Str) : LInv cs r h0 [] [land cs r h0] :=
  ⟨fun _ h => (nomatch h), fun n h => .base (by have := List.mem_singleton.mp h; exact this.symm), fun p e => .inr (by rw [e]; exact List.mem_singleton.mpr rfl), fun _ _ _ _ h => (nomatch h), List.nodup_nil⟩
theorem mem_lvlS {cs : List CardD} {r : Rl} {h0 : Str} {met : List Int} {level : List (Option Nat)} (d : LInv cs r h0 met level) (o : cs.length ≤ 16) {k : Int} : k ∈ lvlS level ↔ ∃ n : Nat, k = (n : Int) ∧ some n ∈ level := by
  unfold lvlS
  rw [mem_sI]
  · constructor
    · intro h
      obtain ⟨n, hn, rfl⟩ := List.mem_map.mp h
      obtain ⟨a, ha, e⟩ := List.mem_filterMap.mp hn
      exact ⟨n, rfl, by have : a = some n := e; rw [← this]; exact ha⟩
    · rintro ⟨n, rfl, h⟩
      exact mem_castI.2 (List.mem_filterMap.mpr ⟨some n, h, rfl⟩)
  · intro k h
    obtain ⟨n, hn, rfl⟩ := List.mem_map.mp h
    obtain ⟨a, ha, e⟩ := List.mem_filterMap.mp hn
    have : a = some n := e
    subst this
    have := (d.lr n ha).lt
    omega
theorem mem_lvl {cs : List CardD} {r : Rl} {h0 : Str} {met : List Int} {level : List (Option Nat)} (d : LInv cs r h0 met level) (o : cs.length ≤ 16) {k : Int} : k ∈ lvl met level ↔ (∃ n : Nat, k = (n : Int) ∧ some n ∈ level) ∧ k ∉ met := by
  unfold lvl
  rw [List.mem_filter, mem_lvlS d o]
  simp
theorem lvl_nodup (met : List Int) (level : List (Option Nat)) : (lvl met level).Nodup := (sI_nodup _).filter _
theorem LInv.step {cs : List CardD} {r : Rl} {h0 : Str} {met : List Int} {level : List (Option Nat)} (d : LInv cs r h0 met level) (o : cs.length ≤ 16) : LInv cs r h0 (met ++ lvl met level) (later cs r (lvl met level)) := by
  have lm : ∀ k ∈ lvl met level, ∃ n : Nat, k = (n : Int) ∧ Rp cs r h0 n := fun k h => by
    obtain ⟨⟨n, e, hn⟩, _⟩ := (mem_lvl d o).1 h
    exact ⟨n, e, d.lr n hn⟩
  have up : ∀ p : Nat, ((p : Int) ∈ met ∨ some p ∈ level) → (p : Int) ∈ met ++ lvl met level := fun p h => by
    by_cases m : (p : Int) ∈ met
    · exact List.mem_append_left _ m
    · exact List.mem_append_right _ ((mem_lvl d o).2 ⟨⟨p, rfl, h.resolve_left m⟩, m⟩)
  refine ⟨fun k h => ?_, fun n h => ?_, fun p e => .inl (up p (d.st p e)), fun n c a q h hc ha l => ?_, ?_⟩
  · rcases List.mem_append.mp h with h | h
    · exact d.mr k h
    · exact lm k h
  · obtain ⟨k, hk, hn⟩ := List.mem_flatMap.mp h
    obtain ⟨m, rfl, hm⟩ := lm k hk
    unfold laterF at hn
    rw [Int.toNat_natCast] at hn
    cases hc : cs[m]? with
    | none => rw [hc] at hn; cases hn
    | some c =>
      rw [hc] at hn
      obtain ⟨a, ha, e⟩ := List.mem_map.mp hn
      exact .next hm hc ha e
  · rcases List.mem_append.mp h with h | h
    · exact .inl (up q (d.cl n c a q h hc ha l))
    · refine .inr (List.mem_flatMap.mpr ⟨(n : Int), h, ?_⟩)
      unfold laterF
      rw [Int.toNat_natCast, hc]
      exact List.mem_map.mpr ⟨a, ha, l⟩
  · rw [List.nodup_append]
    exact ⟨d.nd, lvl_nodup _ _, fun a ha b hb e => ((mem_lvl d o).1 hb).2 (e ▸ ha)⟩
theorem LInv.len {cs : List CardD} {r : Rl} {h0 : Str} {met : List Int} {level : List (Option Nat)} (d : LInv cs r h0 met level) (o : cs.length ≤ 16) : met.length ≤ 16 := by
  have := nodup_len met (castI (List.range 16)) d.nd fun k hk => by
    obtain ⟨n, rfl, hn⟩ := d.mr k hk
    have := hn.lt
    exact mem_castI.2 (List.mem_range.mpr (by omega))
  unfold castI at this
  simpa using this
theorem LInv.fin {cs : List CardD} {r : Rl} {h0 : Str} {met : List Int} (d : LInv cs r h0 met []) (n : Nat) : (n : Int) ∈ met ↔ Rp cs r h0 n := by
  constructor
  · intro h
    obtain ⟨m, e, hm⟩ := d.mr _ h
    have : n = m := Int.ofNat.inj e
    rw [this]; exact hm
  · intro h
    induction h with
    | base l => exact (d.st _ l).resolve_right fun z => nomatch z
    | next _ hc ha l ih => exact (d.cl _ _ _ _ ih hc ha l).resolve_right fun z => nomatch z
def bksF (cs : List CardD) (k : Int) : List Int := match cs[k.toNat]? with
  | some c => c.bk
  | none => []
theorem reach_levels {cs : List CardD} {r : Rl} {h0 : Str} {met : List Int} (o : Ok cs) (hu : h0 ∈ uS) (d : LInv cs r h0 met []) : reach cs r h0 = sI (met.flatMap (bksF cs)) := by
  refine sI_eq (fun k hk => ?_) (sI_rise _) fun k => ?_
  · obtain ⟨m, hm, hk⟩ := List.mem_flatMap.mp hk
    unfold bksF at hk
    cases hc : cs[m.toNat]? with
    | none => rw [hc] at hk; cases hk
    | some c =>
      rw [hc] at hk
      have := (o.at hc).bkB k hk
      omega
  · rw [mem_reach o hu, List.mem_flatMap]
    constructor
    · rintro ⟨p, c, hp, hc, hk⟩
      refine ⟨(p : Int), (d.fin p).2 hp, ?_⟩
      unfold bksF
      rw [Int.toNat_natCast, hc]; exact hk
    · rintro ⟨m, hm, hk⟩
      obtain ⟨n, rfl, hn⟩ := d.mr m hm
      unfold bksF at hk
      rw [Int.toNat_natCast] at hk
      cases hc : cs[n]? with
      | none => rw [hc] at hk; cases hk
      | some c => rw [hc] at hk; exact ⟨n, c, hn, hc, hk⟩
end Se
/-! The text by places, what a def, a method, a property, a class is worth; what stands in the heap. -/
namespace Se
open PySem PySem.Spec PyProof.Rows L2

/-! ### the text -/
def topS (i : Nat) : Stmt := PySem.Challenge.pw_seerings_k75_whole_wide_drawers.main.body.getD i (.Pass ⟨0, 0, 0, 0⟩)

section
variable (P : Program) (w : World) (K : PySem.W.Frag) (mg : Str → Option Value) (base : Heap)
/-- a def of the module, as it stands -/
def Dfn (x : Str) (st : Stmt) : Prop := ∃ (f : Addr) (fd : FuncData), FunD K x x (defArgs st) (defBody st) (defScope st) [] [] f fd ∧ mg x = some (.ref f)
/-- a method's def -/
def Mfn (C : Addr) (m qual : Str) (st : Stmt) : Prop := ∃ (f : Addr) (fd : FuncData), FunD K m qual (defArgs st) (defBody st) (defScope st) [] [] f fd ∧ Meth K C m f
/-- a property's def -/
def Pfn (C : Addr) (m qual : Str) (st : Stmt) : Prop := ∃ (p f : Addr) (fd : FuncData), FunD K m qual (defArgs st) (defBody st) (defScope st) [] [] f fd ∧
  PySem.W.findIn K (.ref C) m = some (some (.ref p)) ∧ PySem.W.specialIn K (.ref p) "__get__" = some (some (.builtin "property.__get__")) ∧ PySem.W.takesIn K (.ref p) = some true ∧ ∃ rest, PySem.W.recIn K p "property" = some (.ref f :: rest)
/-- a class that is made by its name, its __init__ -/
def Ifn (x qual : Str) (C : Addr) (st : Stmt) : Prop := ∃ (f : Addr) (fd : FuncData), FunD K "__init__" qual (defArgs st) (defBody st) (defScope st) [] [] f fd ∧ Mk K C f ∧ mg x = some (.ref C)
/-- what a method is worth -/
def MetR (k : Nat) (C : Addr) (m : Str) (sp : Sp) : Prop := ∃ g : Addr, Meth K C m g ∧ FnR P w K mg base CX0 k g sp
/-- what a property is worth -/
def PrpR (k : Nat) (C : Addr) (m : Str) (sp : Sp) : Prop := ∃ p g : Addr, FnR P w K mg base CX0 k g sp ∧
  PySem.W.findIn K (.ref C) m = some (some (.ref p)) ∧ PySem.W.specialIn K (.ref p) "__get__" = some (some (.builtin "property.__get__")) ∧ PySem.W.takesIn K (.ref p) = some true ∧ ∃ rest, PySem.W.recIn K p "property" = some (.ref g :: rest)
end

section
variable {P : Program} {w : World} {K : PySem.W.Frag} {mg : Str → Option Value} {base : Heap}
/-- how the arguments bind -/
def BindOk (x qual : Str) (st : Stmt) (ps : List Str) : Prop := ∀ (kV doc pm : Value) (an : Option Addr) (cdv ct : Value) (us : List Value), us.length = ps.length → bindArgs (PySem.W.fnOf x qual (defArgs st) (defBody st) (defScope st) .none kV doc pm an cdv ct) ⟨us, []⟩ = pure (ps.zip us)
/-- the body of a def keeps its promise -/
def BodyOk (P : Program) (w : World) (K : PySem.W.Frag) (mg : Str → Option Value) (base : Heap) (qual : Str) (st : Stmt) (N : List Str) (k : Nat) (sp : Sp) : Prop :=
  ∀ (f : Addr) (cdv : Value) (A : Around) (outer : List Env) (s : Shared) (H : Hp) (vs : List V) (Q : VK) (E : XK), Room k (A.deeper (envOfC qual (defScope st) s.heap.objs.size f cdv)) → sp vs H Q E →
    ∃ t, PSs (cxOf CX0 P w K mg base N qual (defScope st) f cdv A outer s H E).nox (defBody st) t ∧ t { nx := fun _ H' => Q .non H', rt := Q } (start N vs) H
theorem dfn_ok {x qual : Str} {st : Stmt} {f : Addr} {fd : FuncData} {N ps : List Str} {k : Nat} {sp : Sp} (F : FunD K x qual (defArgs st) (defBody st) (defScope st) [] [] f fd) (S : FnScope N ps (defScope st))
    (len : ∀ vs H Q E, sp vs H Q E → vs.length = ps.length) (hb : BodyOk P w K mg base qual st N k sp) : FnOk P w K mg base CX0 (k + 1) f fd ps sp := by
  refine F.ok S len fun cdv A outer s H vs Q E hr h => ?_
  obtain ⟨t, h1, h2⟩ := hb f cdv A outer s H vs Q E hr h
  exact ⟨t, h1.nox, h2⟩
theorem cal_of {x : Str} {st : Stmt} {N ps : List Str} {k : Nat} {sp : Sp} (D : Dfn K mg x st) (b : BindOk x x st ps) (S : FnScope N ps (defScope st)) (len : ∀ vs H Q E, sp vs H Q E → vs.length = ps.length)
    (hb : BodyOk P w K mg base x st N k sp) : C8.Cal P w K mg base (k + 1) x sp [] := by
  obtain ⟨f, fd, F, hm⟩ := D
  exact ⟨f, fd, ps, [], dfn_ok F S len hb, hm, F.kp, F.bindsN b, .nil⟩
theorem met_of {C : Addr} {m qual : Str} {st : Stmt} {N ps : List Str} {k : Nat} {sp : Sp} (D : Mfn K C m qual st) (b : BindOk m qual st ps) (S : FnScope N ps (defScope st)) (len : ∀ vs H Q E, sp vs H Q E → vs.length = ps.length)
    (hb : BodyOk P w K mg base qual st N k sp) : MetR P w K mg base (k + 1) C m sp := by
  obtain ⟨f, fd, F, hm⟩ := D
  refine ⟨f, hm, ?_⟩
  have := FnOk.raw (dvs := []) (dfn_ok F S len hb) (F.bindsN b) .nil
  exact this.imp fun vs H Q E h => by rw [List.append_nil]; exact h
theorem metd_of {C : Addr} {m qual : Str} {st : Stmt} {N ps : List Str} {k : Nat} {sp : Sp} (c : Cls K C) (D : Mfn K C m qual st) (b : BindOk m qual st ps) (S : FnScope N ps (defScope st)) (len : ∀ vs H Q E, sp vs H Q E → vs.length = ps.length)
    (hb : BodyOk P w K mg base qual st N k sp) : C8.Met P w K mg base (k + 1) C m sp [] := by
  obtain ⟨f, fd, F, hm⟩ := D
  exact ⟨f, fd, ps, [], c, hm, dfn_ok F S len hb, F.bindsN b, .nil⟩
theorem prp_of {C : Addr} {m qual : Str} {st : Stmt} {N ps : List Str} {k : Nat} {sp : Sp} (D : Pfn K C m qual st) (b : BindOk m qual st ps) (S : FnScope N ps (defScope st)) (len : ∀ vs H Q E, sp vs H Q E → vs.length = ps.length)
    (hb : BodyOk P w K mg base qual st N k sp) : PrpR P w K mg base (k + 1) C m sp := by
  obtain ⟨p, f, fd, F, h⟩ := D
  refine ⟨p, f, ?_, h⟩
  have := FnOk.raw (dvs := []) (dfn_ok F S len hb) (F.bindsN b) .nil
  exact this.imp fun vs H Q E h => by rw [List.append_nil]; exact h
theorem mak_of {x qual : Str} {C : Addr} {st : Stmt} {N ps : List Str} {k : Nat} {sp : Sp} (D : Ifn K mg x qual C st) (b : BindOk "__init__" qual st ps) (S : FnScope N ps (defScope st)) (len : ∀ vs H Q E, sp vs H Q E → vs.length = ps.length)
    (hb : BodyOk P w K mg base qual st N k sp) : C8.Mak P w K mg base (k + 1) x C sp [] := by
  obtain ⟨f, fd, F, M, hm⟩ := D
  exact ⟨f, fd, ps, [], M, dfn_ok F S len hb, hm, F.bindsN b, .nil⟩
end

section
variable {X : Cx} {k j : Nat} {C : Addr} {x m f : Str} {sp : Sp} {p pos apos : Pos} {e o : Expr} {es : List Expr} {ta : TE} {t : TA}
/-- e.f, f a property of a class with slots -/
theorem pe_prp (c : SlX.SCls X.K C) (h : PrpR X.prog X.w X.K X.mg X.base k C f sp) (hr : Room j X.A) (hk : k + 1 ≤ j) (he : PE X e ta) (hb : attributeBase e f X.env (eval e X.env) = eval e X.env := by rfl) :
    PE X (.Attribute e f pos) (SlX.tPropSl C sp E0 ta) := by
  obtain ⟨p, g, F, h1, h2, h3, h4⟩ := h
  exact SlX.pe_propSl he c h1 h2 h3 h4 F (hr.mono hk) (fun _ _ _ _ z => z) hb
/-- o.m(e, ..) of a class with slots -/
theorem pe_ms {pl : Sem Bool} (c : SlX.SCls X.K C) (h : MetR X.prog X.w X.K X.mg X.base k C m sp) (hr : Room j X.A) (hk : k ≤ j) (he : PE X o ta) (ha : PA X (e :: es) t)
    (hst : starEach (e :: es) X.env = (false, eval e X.env) :: starEach es X.env := by rfl) (hpl : (backTo pos (starEach es X.env)).any (·.1) = false := by rfl)
    (ht : eval (.Call (.Attribute o m apos) (e :: es) [] pos) X.env = (do
      let ov ← eval o X.env
      standAt apos.atName
      let (f, first) ← holding [ov] (getMethod ov m pl)
      callWith pos f first (backTo pos (starEach (e :: es) X.env)) (backToKw pos (keywordEach [] X.env))) := by rfl) :
    PE X (.Call (.Attribute o m apos) (e :: es) [] pos) (SlX.tMethSl C sp E0 ta t) := by
  obtain ⟨g, h1, h2⟩ := h
  exact SlX.pe_methSl (pl := pl) he c h1 h2 (hr.mono hk) pass0 ha hst hpl ht
/-- a test that is a call's answer -/
theorem pt_c (h : C8.Cal X.prog X.w X.K X.mg X.base k x sp []) (hr : Room j X.A) (hk : k ≤ j) (hg : Gl X x) (ha : PA X (e :: es) t) (hdb : (x == ("__debug__" : Str)) = false := by decide)
    (he : starEach (e :: es) X.env = (false, eval e X.env) :: starEach es X.env := by rfl) (hpl : (backTo pos (starEach es X.env)).any (·.1) = false := by rfl)
    (ht : ∀ whole, isTrue (.Call (.Name x p) (e :: es) [] pos) X.env whole = (do let v ← whole; standAt (Expr.Call (.Name x p) (e :: es) [] pos).pos; holding [v] (truthy v)) := by intro _; rfl) :
    PT X (.Call (.Name x p) (e :: es) [] pos) (tB (tCall sp [] E0 t)) := pt_val (C8.pe_c h hr hk hg ha hdb he hpl) ht
end
/-- the readings of a call -/
theorem app_nil {sp : Sp} {vs : List V} {H : Hp} {Q : VK} {E : XK} (h : sp vs H Q E) : sp (vs ++ []) H Q E := by rw [List.append_nil]; exact h

/-! ### what stands -/
/-- all that was tracked is as it was -/
def Sm (H H' : Hp) : Prop := ∀ b o, H b = some o → H' b = some o
theorem Sm.refl (H : Hp) : Sm H H := fun _ _ h => h
theorem Sm.trans {H H1 H2 : Hp} (a : Sm H H1) (b : Sm H1 H2) : Sm H H2 := fun c o h => b c o (a c o h)
theorem Sm.free {H H' : Hp} (e : Sm H H') {l : Addr} (h : H' l = none) : H l = none := by
  cases q : H l with
  | none => rfl
  | some o =>
    rw [e l o q] at h
    cases h
theorem Sm.seq {K : PySem.W.Frag} {H H' : Hp} {a : Addr} {xs : List V} (e : Sm H H') (h : SqL K H a xs) : SqL K H' a xs := by
  rcases h with (h | ⟨o, h⟩) | h
  · exact .inl (.inl (e _ _ h))
  · exact .inl (.inr ⟨o, e _ _ h⟩)
  · exact .inr h
theorem Sm.new {H : Hp} {p : Addr} {o : HO} (h : H p = none) : Sm H (upd H p o) := fun b u e => by
  rw [upd_ne (ne_of_none e h)]; exact e
theorem Sm.new' {H H' : Hp} {p : Addr} {o : HO} (s : Sm H H') (h : H' p = none) : Sm H (upd H' p o) := s.trans (Sm.new h)
/-- a write to what was not there at first -/
theorem Sm.wr {H H' : Hp} {p : Addr} {o : HO} (s : Sm H H') (h : H p = none) : Sm H (upd H' p o) := fun b u e => by
  rw [upd_ne (ne_of_none e h)]; exact s b u e
theorem Sm.rd {H H' : Hp} {a : Addr} {u : HO} (s : Sm H H') (h : Rd H a u) : Rd H' a u := by
  rcases h with h | ⟨o, h⟩
  · exact .inl (s a _ h)
  · exact .inr ⟨o, s a _ h⟩
theorem Sm.tup {K : PySem.W.Frag} {H H' : Hp} {a : Addr} {xs : List V} (s : Sm H H') (h : SqT K H a xs) : SqT K H' a xs := by
  rcases h with h | h
  · exact .inl (s.rd h)
  · exact .inr h
theorem Sm.slt {H H' : Hp} {a C dx : Addr} {vs : List (Option V)} (s : Sm H H') (h : SlX.Slt H a C dx vs) : SlX.Slt H' a C dx vs := by
  rcases h with ⟨h1, h2⟩ | ⟨h1, h2⟩
  · exact .inl ⟨s _ _ h1, h2⟩
  · exact .inr ⟨s _ _ h1, s _ _ h2⟩
/-- all but what stands at some addresses is as it was -/
def But (as : List Addr) (H H' : Hp) : Prop := ∀ b o, H b = some o → b ∉ as → H' b = some o
theorem But.of {as : List Addr} {H H' : Hp} (s : Sm H H') : But as H H' := fun b o e _ => s b o e
theorem But.trans {as : List Addr} {H H1 H2 : Hp} (a : But as H H1) (b : But as H1 H2) : But as H H2 := fun c o e n => b c o (a c o e n) n
theorem But.wr {as : List Addr} {H H' : Hp} {p : Addr} {o : HO} (s : But as H H') (h : p ∈ as) : But as H (upd H' p o) := fun b u e n => by
  rw [upd_ne (fun z => n (by rw [z]; exact h))]; exact s b u e n
theorem But.new {as : List Addr} {H H' : Hp} {p : Addr} {o : HO} (s : But as H H') (h : H' p = none) : But as H (upd H' p o) := fun b u e n => by
  rw [upd_ne (ne_of_none (s b u e n) h)]; exact s b u e n

/-- a card's tuple of four -/
structure TupF (K : PySem.W.Frag) (H : Hp) (f : Addr) (c : CardD) : Prop where
  ex : ∃ b l : Addr, SqT K H f [.str c.h, .ref b, .str c.see, .ref l] ∧ SqT K H b (c.bk.map V.int) ∧ SqT K H l (c.al.map V.str)
theorem TupF.same {K : PySem.W.Frag} {H H' : Hp} {f : Addr} {c : CardD} (h : TupF K H f c) (s : Sm H H') : TupF K H' f c := by
  obtain ⟨b, l, h1, h2, h3⟩ := h.ex
  exact ⟨b, l, s.tup h1, s.tup h2, s.tup h3⟩
/-- a Card -/
structure CardAt (K : PySem.W.Frag) (CC : Addr) (H : Hp) (a : Addr) (c : CardD) : Prop where
  ex : ∃ dx f : Addr, SlX.Slt H a CC dx [some (.ref f)] ∧ TupF K H f c
theorem CardAt.same {K : PySem.W.Frag} {CC : Addr} {H H' : Hp} {a : Addr} {c : CardD} (h : CardAt K CC H a c) (s : Sm H H') : CardAt K CC H' a c := by
  obtain ⟨dx, f, h1, h2⟩ := h.ex
  exact ⟨dx, f, s.slt h1, h2.same s⟩
/-- values and data, one by one -/
def Each {α β : Type} (R : α → β → Prop) (xs : List α) (ys : List β) : Prop := xs.length = ys.length ∧ ∀ (i : Nat) x y, xs[i]? = some x → ys[i]? = some y → R x y
theorem Each.at {α β : Type} {R : α → β → Prop} {xs : List α} {ys : List β} (h : Each R xs ys) {i : Nat} {y : β} (e : ys[i]? = some y) : ∃ x, xs[i]? = some x ∧ R x y := by
  have hi := (List.getElem?_eq_some_iff.mp e).1
  have hx : xs[i]? = some (xs[i]'(by rw [h.1]; exact hi)) := List.getElem?_eq_getElem _
  exact ⟨_, hx, h.2 i _ y hx e⟩
theorem Each.at' {α β : Type} {R : α → β → Prop} {xs : List α} {ys : List β} (h : Each R xs ys) {i : Nat} {x : α} (e : xs[i]? = some x) : ∃ y, ys[i]? = some y ∧ R x y := by
  have hi := (List.getElem?_eq_some_iff.mp e).1
  have hy : ys[i]? = some (ys[i]'(by rw [← h.1]; exact hi)) := List.getElem?_eq_getElem _
  exact ⟨_, hy, h.2 i x _ e hy⟩
theorem Each.mono {α β : Type} {R S : α → β → Prop} {xs : List α} {ys : List β} (h : Each R xs ys) (f : ∀ x y, R x y → S x y) : Each S xs ys := ⟨h.1, fun i x y a b => f x y (h.2 i x y a b)⟩
theorem Each.nil {α β : Type} {R : α → β → Prop} : Each R ([] : List α) ([] : List β) := ⟨rfl, fun i x y h => by simp at h⟩
theorem Each.snoc {α β : Type} {R : α → β → Prop} {xs : List α} {ys : List β} {x : α} {y : β} (h : Each R xs ys) (r : R x y) : Each R (xs ++ [x]) (ys ++ [y]) := by
  refine ⟨by simp [h.1], fun i a b ha hb => ?_⟩
  by_cases hi : i < xs.length
  · rw [List.getElem?_append_left hi] at ha
    rw [List.getElem?_append_left (by rw [← h.1]; exact hi)] at hb
    exact h.2 i a b ha hb
  · have h1 : i < (xs ++ [x]).length := (List.getElem?_eq_some_iff.mp ha).1
    have e : i = xs.length := by simp at h1; omega
    subst e
    rw [List.getElem?_append_right (Nat.le_refl _), Nat.sub_self] at ha
    rw [h.1, List.getElem?_append_right (Nat.le_refl _), Nat.sub_self] at hb
    have ea : x = a := by simpa using ha
    have eb : y = b := by simpa using hb
    rw [← ea, ← eb]
    exact r
/-- the row of a drawer: its cards one by one -/
def RowAt (K : PySem.W.Frag) (CC : Addr) (H : Hp) (xs : List V) (cs : List CardD) : Prop := Each (fun x c => ∃ a, x = V.ref a ∧ CardAt K CC H a c) xs cs
theorem RowAt.same {K : PySem.W.Frag} {CC : Addr} {H H' : Hp} {xs : List V} {cs : List CardD} (h : RowAt K CC H xs cs) (s : Sm H H') : RowAt K CC H' xs cs := h.mono fun _ _ ⟨a, e, z⟩ => ⟨a, e, z.same s⟩
/-- a Drawer -/
structure DrawAt (K : PySem.W.Frag) (CD CC : Addr) (H : Hp) (a : Addr) (cs : List CardD) : Prop where
  ex : ∃ dx row xs, SlX.Slt H a CD dx [some (.ref row)] ∧ SqT K H row xs ∧ RowAt K CC H xs cs
theorem DrawAt.same {K : PySem.W.Frag} {CD CC : Addr} {H H' : Hp} {a : Addr} {cs : List CardD} (h : DrawAt K CD CC H a cs) (s : Sm H H') : DrawAt K CD CC H' a cs := by
  obtain ⟨dx, row, xs, h1, h2, h3⟩ := h.ex
  exact ⟨dx, row, xs, s.slt h1, s.tup h2, h3.same s⟩
/-- the law's own cards: a list of tuples -/
def SomeL (K : PySem.W.Frag) (H : Hp) (xs : List V) (cs : List CardD) : Prop := Each (fun x c => ∃ f, x = V.ref f ∧ TupF K H f c) xs cs
theorem SomeL.same {K : PySem.W.Frag} {H H' : Hp} {xs : List V} {cs : List CardD} (h : SomeL K H xs cs) (s : Sm H H') : SomeL K H' xs cs := h.mono fun _ _ ⟨a, e, z⟩ => ⟨a, e, z.same s⟩
structure SomeAt (K : PySem.W.Frag) (H : Hp) (a : Addr) (cs : List CardD) : Prop where
  ex : ∃ xs, SqL K H a xs ∧ SomeL K H xs cs
theorem SomeAt.same {K : PySem.W.Frag} {H H' : Hp} {a : Addr} {cs : List CardD} (h : SomeAt K H a cs) (s : Sm H H') : SomeAt K H' a cs := by
  obtain ⟨xs, h1, h2⟩ := h.ex
  exact ⟨xs, s.seq h1, h2.same s⟩
/-- an int or None -/
def optV : Option Nat → V
  | some n => .int (n : Int)
  | none => .non
theorem sizeOf' {n : Nat} (h : n ≤ 1000) : n ≤ sizeLine := Nat.le_trans h (by decide)
theorem szl {n : Nat} (h : n.ble 1000 = true) : n ≤ sizeLine := sizeOf' (Nat.le_of_ble_eq_true h)
theorem sizeLt {n : Nat} (h : n ≤ 1000) : n < sizeLine := Nat.lt_of_le_of_lt h (by decide)
theorem ifT {b : Bool} {A B : Prop} (h : b = true) (a : A) : if b = true then A else B := by rw [if_pos h]; exact a
theorem ifF {b : Bool} {A B : Prop} (h : b = false) (a : B) : if b = true then A else B := by rw [if_neg (by rw [h]; exact Bool.false_ne_true)]; exact a
theorem neF {α : Type} [DecidableEq α] {x y : α} (h : x = y) : (!decide (x = y)) = false := by rw [decide_eq_true h]; rfl
theorem neT {α : Type} [DecidableEq α] {x y : α} (h : x ≠ y) : (!decide (x = y)) = true := by rw [decide_eq_false h]; rfl
theorem str_ne {x y : Str} (h : x ≠ y) : V.str x ≠ V.str y := fun z => h (V.str.inj z)
theorem sn_ne {x : Str} {n : Int} : V.str x ≠ V.int n := fun z => nomatch z
/-- a comprehension without a test -/
theorem yes_if {σ : L2.St} {H : Hp} {A B : Hp → Prop} (h : A H) : tYes σ H (fun b H3 => if b = true then A H3 else B H3) := by
  show if true = true then A H else B H
  rw [if_pos rfl]
  exact h
end Se
/-! The defs of the text by name; all that a walk leans on. -/
namespace Se
open PySem PySem.Spec PyProof.Rows L2

abbrev s_is_number : Stmt := topS 16
abbrev s_is_word : Stmt := topS 17
abbrev s_check_heading : Stmt := topS 18
abbrev s_check_number : Stmt := topS 19
abbrev s_are_books : Stmt := topS 20
abbrev s_are_others : Stmt := topS 21
abbrev s_all_books : Stmt := topS 26
abbrev s_known_headings : Stmt := topS 27
abbrev s_check_rule : Stmt := topS 33
abbrev s_by_halves : Stmt := topS 34
abbrev s_one_by_one : Stmt := topS 35
abbrev s_looked_up : Stmt := topS 36
abbrev s_choices : Stmt := topS 39
abbrev s_is_all_found : Stmt := topS 40
abbrev s_fewest_moves : Stmt := topS 41
abbrev s_landings : Stmt := topS 47
abbrev s_check_way : Stmt := topS 55
abbrev s_gather : Stmt := topS 56
abbrev s_reached : Stmt := topS 57
abbrev s_reached_together : Stmt := topS 58
abbrev s_hidden : Stmt := topS 59
abbrev s_led_to : Stmt := topS 60
abbrev s_all_ahead : Stmt := topS 61
abbrev s_also_rings : Stmt := topS 62
abbrev s_safe_books : Stmt := topS 65
abbrev s_check_log : Stmt := topS 68
abbrev s_check_all : Stmt := topS 69
abbrev s_losses : Stmt := topS 70
abbrev s_possible_losses : Stmt := topS 71
abbrev s_law_taken : Stmt := topS 73
abbrev s_law_pick : Stmt := topS 74
abbrev s_law_mixed : Stmt := topS 75
abbrev s_law_drawer : Stmt := topS 76
abbrev s_law_looked : Stmt := topS 77
abbrev s_law_walked : Stmt := topS 78
abbrev s_law_landing : Stmt := topS 79
abbrev s_law_known : Stmt := topS 80
abbrev s_law_headings : Stmt := topS 81
abbrev s_law_gathered : Stmt := topS 82
abbrev s_law_reach : Stmt := topS 83
abbrev s_law_less : Stmt := topS 84
abbrev s_law_wide : Stmt := topS 85
abbrev s_law_leads : Stmt := topS 86
abbrev s_law_rings : Stmt := topS 87
abbrev s_law_losses_are : Stmt := topS 88
abbrev s_law : Stmt := topS 89
abbrev s_Card_init : Stmt := inClass (topS 22) 1
abbrev s_Drawer_init : Stmt := inClass (topS 25) 1
abbrev s_Walk_init : Stmt := inClass (topS 46) 0
abbrev s_Gathering_init : Stmt := inClass (topS 54) 0
abbrev s_Card_heading : Stmt := inClass (topS 22) 2
abbrev s_Card_books : Stmt := inClass (topS 22) 3
abbrev s_Card_see : Stmt := inClass (topS 22) 4
abbrev s_Card_also : Stmt := inClass (topS 22) 5
abbrev s_Card_leads : Stmt := inClass (topS 22) 6
abbrev s_Drawer_cards : Stmt := inClass (topS 25) 2
abbrev s_Drawer_headings : Stmt := inClass (topS 25) 3
abbrev s_Drawer_check_place : Stmt := inClass (topS 25) 5
abbrev s_Drawer_without : Stmt := inClass (topS 25) 9
abbrev s_Walk_go_on : Stmt := inClass (topS 46) 1
abbrev s_Walk_landing : Stmt := inClass (topS 46) 2
abbrev s_Gathering_go_on : Stmt := inClass (topS 54) 1
abbrev s_Gathering_visit : Stmt := inClass (topS 54) 2
/-- a constant of the module -/
def Cst (mg : Str → Option Value) (x : Str) (v : V) : Prop := ∃ u, mg x = some u ∧ RelV v u
structure Tx (K : PySem.W.Frag) (mg : Str → Option Value) (CC CD CW CG aR aW : Addr) : Prop where
  b_isinstance : mg "isinstance" = none
  b_int : mg "int" = none
  b_bool : mg "bool" = none
  b_str : mg "str" = none
  b_len : mg "len" = none
  b_all : mg "all" = none
  b_zip : mg "zip" = none
  b_set : mg "set" = none
  b_sorted : mg "sorted" = none
  b_tuple : mg "tuple" = none
  b_list : mg "list" = none
  b_enumerate : mg "enumerate" = none
  b_range : mg "range" = none
  b_min : mg "min" = none
  c_LETTERS : Cst mg "LETTERS" (.str "abcdefghijklmnopqrstuvwxyz")
  c_MAX_LETTERS : Cst mg "MAX_LETTERS" (.int 8)
  c_MAX_BOOKS : Cst mg "MAX_BOOKS" (.int 6)
  c_MAX_BOOK : Cst mg "MAX_BOOK" (.int 999)
  c_MAX_ALSO : Cst mg "MAX_ALSO" (.int 4)
  c_MAX_CARDS : Cst mg "MAX_CARDS" (.int 16)
  c_ALL : Cst mg "ALL" (.str "all")
  c_HALF : Cst mg "HALF" (.str "half")
  c_LEAF : Cst mg "LEAF" (.str "leaf")
  c_RULES : Cst mg "RULES" (.ref aR)
  c_MAX_MOVES : Cst mg "MAX_MOVES" (.int 2)
  c_ENTRY : Cst mg "ENTRY" (.str "entry")
  c_LOST : Cst mg "LOST" (.str "lost")
  c_RING : Cst mg "RING" (.str "ring")
  c_BROAD : Cst mg "BROAD" (.str "broad")
  c_DEEP : Cst mg "DEEP" (.str "deep")
  c_STRAIGHT : Cst mg "STRAIGHT" (.str "straight")
  c_WAYS : Cst mg "WAYS" (.ref aW)
  c_MAX_PATIENCE : Cst mg "MAX_PATIENCE" (.int 99)
  c_MAX_LOST_losing : Cst mg "MAX_LOST_losing" (.int 2)
  c_MAX_LOST_traces : Cst mg "MAX_LOST_traces" (.int 3)
  tR : ∀ H : Hp, SqT K H aR [.str "all", .str "half", .str "leaf"]
  tW : ∀ H : Hp, SqT K H aW [.str "broad", .str "deep", .str "straight"]
  kC : SlX.SCls K CC
  kD : SlX.SCls K CD
  kW : Cls K CW
  kG : Cls K CG
  fC : ∃ p, SlX.Slot1 K CC "facts" p 0
  fD : ∃ p, SlX.Slot1 K CD "row" p 0
  nW_word : NoAttr K CW "word"
  nW_steps : NoAttr K CW "steps"
  nW_sought : NoAttr K CW "sought"
  nW_effort : NoAttr K CW "effort"
  nG_drawer : NoAttr K CG "drawer"
  nG_rule : NoAttr K CG "rule"
  nG_way : NoAttr K CG "way"
  nG_agenda : NoAttr K CG "agenda"
  nG_walked : NoAttr K CG "walked"
  nG_visited : NoAttr K CG "visited"
  nG_gathered : NoAttr K CG "gathered"
  d_is_number : Dfn K mg "is_number" s_is_number
  d_is_word : Dfn K mg "is_word" s_is_word
  d_check_heading : Dfn K mg "check_heading" s_check_heading
  d_check_number : Dfn K mg "check_number" s_check_number
  d_are_books : Dfn K mg "are_books" s_are_books
  d_are_others : Dfn K mg "are_others" s_are_others
  d_all_books : Dfn K mg "all_books" s_all_books
  d_known_headings : Dfn K mg "known_headings" s_known_headings
  d_check_rule : Dfn K mg "check_rule" s_check_rule
  d_by_halves : Dfn K mg "by_halves" s_by_halves
  d_one_by_one : Dfn K mg "one_by_one" s_one_by_one
  d_looked_up : Dfn K mg "looked_up" s_looked_up
  d_choices : Dfn K mg "choices" s_choices
  d_is_all_found : Dfn K mg "is_all_found" s_is_all_found
  d_fewest_moves : Dfn K mg "fewest_moves" s_fewest_moves
  d_landings : Dfn K mg "landings" s_landings
  d_check_way : Dfn K mg "check_way" s_check_way
  d_gather : Dfn K mg "gather" s_gather
  d_reached : Dfn K mg "reached" s_reached
  d_reached_together : Dfn K mg "reached_together" s_reached_together
  d_hidden : Dfn K mg "hidden" s_hidden
  d_led_to : Dfn K mg "led_to" s_led_to
  d_all_ahead : Dfn K mg "all_ahead" s_all_ahead
  d_also_rings : Dfn K mg "also_rings" s_also_rings
  d_safe_books : Dfn K mg "safe_books" s_safe_books
  d_check_log : Dfn K mg "check_log" s_check_log
  d_check_all : Dfn K mg "check_all" s_check_all
  d_losses : Dfn K mg "losses" s_losses
  d_possible_losses : Dfn K mg "possible_losses" s_possible_losses
  d_law_taken : Dfn K mg "_law_taken" s_law_taken
  d_law_pick : Dfn K mg "_law_pick" s_law_pick
  d_law_mixed : Dfn K mg "_law_mixed" s_law_mixed
  d_law_drawer : Dfn K mg "_law_drawer" s_law_drawer
  d_law_looked : Dfn K mg "_law_looked" s_law_looked
  d_law_walked : Dfn K mg "_law_walked" s_law_walked
  d_law_landing : Dfn K mg "_law_landing" s_law_landing
  d_law_known : Dfn K mg "_law_known" s_law_known
  d_law_headings : Dfn K mg "_law_headings" s_law_headings
  d_law_gathered : Dfn K mg "_law_gathered" s_law_gathered
  d_law_reach : Dfn K mg "_law_reach" s_law_reach
  d_law_less : Dfn K mg "_law_less" s_law_less
  d_law_wide : Dfn K mg "_law_wide" s_law_wide
  d_law_leads : Dfn K mg "_law_leads" s_law_leads
  d_law_rings : Dfn K mg "_law_rings" s_law_rings
  d_law_losses_are : Dfn K mg "_law_losses_are" s_law_losses_are
  p_Card_heading : Pfn K CC "heading" "Card.heading" s_Card_heading
  p_Card_books : Pfn K CC "books" "Card.books" s_Card_books
  p_Card_see : Pfn K CC "see" "Card.see" s_Card_see
  p_Card_also : Pfn K CC "also" "Card.also" s_Card_also
  p_Card_leads : Pfn K CC "leads" "Card.leads" s_Card_leads
  p_Drawer_cards : Pfn K CD "cards" "Drawer.cards" s_Drawer_cards
  p_Drawer_headings : Pfn K CD "headings" "Drawer.headings" s_Drawer_headings
  m_Drawer_check_place : Mfn K CD "check_place" "Drawer.check_place" s_Drawer_check_place
  m_Drawer_without : Mfn K CD "without" "Drawer.without" s_Drawer_without
  m_Walk_go_on : Mfn K CW "go_on" "Walk.go_on" s_Walk_go_on
  m_Walk_landing : Mfn K CW "landing" "Walk.landing" s_Walk_landing
  m_Gathering_go_on : Mfn K CG "go_on" "Gathering.go_on" s_Gathering_go_on
  m_Gathering_visit : Mfn K CG "visit" "Gathering.visit" s_Gathering_visit
  i_Drawer : Ifn K mg "Drawer" "Drawer.__init__" CD s_Drawer_init
  i_Walk : Ifn K mg "Walk" "Walk.__init__" CW s_Walk_init
  i_Gathering : Ifn K mg "Gathering" "Gathering.__init__" CG s_Gathering_init
  i_Card : ∃ (f : Addr) (fd : FuncData) (T1 T2 : Addr), FunD K "__init__" "Card.__init__" (defArgs s_Card_init) (defBody s_Card_init) (defScope s_Card_init) [.ref T1, .str Str.empty, .ref T2] [] f fd ∧ Mk K CC f ∧ mg "Card" = some (.ref CC)
end Se
namespace SeHd
open PySem PySem.Spec PyProof.Rows L2 Se
/-! ### getters of properties -/
structure PrD where
  cls : Str
  name : Str
  qual : Str
  params : Arguments
  body : List Stmt
  scope : Scope
def pad (K : PySem.W.Frag) (p : PrD) : Addr := He.ma K (He.ga K p.cls) p.name
def getr (K : PySem.W.Frag) (p : PrD) : Addr := match PySem.W.recIn K (pad K p) "property" with
  | some (.ref g :: _) => g
  | _ => 0
def fnWA (K : PySem.W.Frag) (a : Addr) : He.FnW := match K.lookup a with
  | some ⟨_, _, .func fd, _⟩ => some (fd.name, fd.qualname, fd.params, fd.body, fd.scope, fd.globals, fd.closure, fd.builtins)
  | _ => none
def PrD.val (p : PrD) : He.FnW := some (p.name, p.qual, p.params, .stmts p.body, p.scope, mainGlobals, [], builtinsNs)
def prB (K : PySem.W.Frag) (p : PrD) : Bool := He.eqO (PySem.W.findIn K (.ref (He.ga K p.cls)) p.name) (some (some (.ref (pad K p)))) && (decide (PySem.W.specialIn K (.ref (pad K p)) "__get__" = some (some (.builtin "property.__get__"))) && (decide (PySem.W.takesIn K (.ref (pad K p)) = some true) &&
  ((match PySem.W.recIn K (pad K p) "property" with
    | some (.ref _ :: _) => true
    | _ => false) && (PySem.W.keepIn K (.ref (getr K p)) && (match K.lookup (getr K p) with
      | some ⟨_, _, .func fd, _⟩ => PySem.W.codeIn K fd.code p.qual && He.dflB K fd.defaults []
      | _ => false)))))
theorem prD_ok {K : PySem.W.Frag} {p : PrD} (e : fnWA K (getr K p) = p.val) (c : prB K p = true) : ∃ fd, FunD K p.name p.qual p.params p.body p.scope [] [] (getr K p) fd ∧ PySem.W.findIn K (.ref (He.ga K p.cls)) p.name = some (some (.ref (pad K p))) ∧
    PySem.W.specialIn K (.ref (pad K p)) "__get__" = some (some (.builtin "property.__get__")) ∧ PySem.W.takesIn K (.ref (pad K p)) = some true ∧ ∃ rest, PySem.W.recIn K (pad K p) "property" = some (.ref (getr K p) :: rest) := by
  obtain ⟨h1, c⟩ := He.ba c
  obtain ⟨h2, c⟩ := He.ba c
  obtain ⟨h3, c⟩ := He.ba c
  obtain ⟨h4, c⟩ := He.ba c
  obtain ⟨kp, c2⟩ := He.ba c
  have hrec : ∃ rest, PySem.W.recIn K (pad K p) "property" = some (.ref (getr K p) :: rest) := by
    cases q : PySem.W.recIn K (pad K p) "property" with
    | none => rw [q] at h4; cases h4
    | some l =>
      rw [q] at h4
      cases l with
      | nil => cases h4
      | cons v rest =>
        cases v with
        | ref g =>
          have : getr K p = g := by unfold getr; rw [q]
          rw [this]
          exact ⟨rest, rfl⟩
        | _ => cases h4
  unfold fnWA at e
  cases q : K.lookup (getr K p) with
  | none =>
    rw [q] at c2
    cases c2
  | some o =>
    obtain ⟨oc, od, dt, osl⟩ := o
    rw [q] at c2 e
    cases dt with
    | func fd =>
      obtain ⟨n1, n2, n3, n4, n5, n6, n7, n8, n9, n10, n11, n12, n13, n14, n15⟩ := fd
      have e2 : (some (n1, n2, n3, n4, n5, n6, n7, n15) : He.FnW) = some (p.name, p.qual, p.params, .stmts p.body, p.scope, mainGlobals, [], builtinsNs) := e
      simp only [Option.some.injEq, Prod.mk.injEq] at e2
      obtain ⟨a1, a2, a3, a4, a5, a6, a7, a8⟩ := e2
      subst a1 a2 a3 a4 a5 a6 a7 a8
      have c3 : (PySem.W.codeIn K n13 p.qual && He.dflB K n8 []) = true := c2
      obtain ⟨k1, k3⟩ := He.ba c3
      exact ⟨_, ⟨⟨oc, od, n8, n9, n10, n11, n12, n13, n14, osl, rfl, q, k1, He.dflB_ok k3, .inl rfl⟩, kp⟩, He.eqO_ok h1, of_decide_eq_true h2, of_decide_eq_true h3, hrec⟩
    | _ => cases c2
/-! ### classes with slots -/
def sclsB (K : PySem.W.Frag) (C : Addr) : Bool := PySem.W.plainGet K C Str.empty && (PySem.W.isClsIn K C && (PySem.W.plainOver K C && He.eqO (PySem.W.findIn K (.ref C) "__setattr__") (some (some (.builtin "object.__setattr__")))))
theorem sclsB_ok {K : PySem.W.Frag} {C : Addr} (h : sclsB K C = true) : SlX.SCls K C := by
  obtain ⟨h1, h⟩ := He.ba h
  obtain ⟨h2, h⟩ := He.ba h
  obtain ⟨h3, h4⟩ := He.ba h
  exact ⟨h1, h2, h3, He.eqO_ok h4⟩
def slotB (K : PySem.W.Frag) (C : Addr) (f : Str) : Bool := He.eqO (PySem.W.findIn K (.ref C) f) (some (some (.ref (He.ma K C f)))) && (decide (PySem.W.specialIn K (.ref (He.ma K C f)) "__get__" = some (some (.builtin "member_descriptor.__get__"))) && (decide (PySem.W.takesIn K (.ref (He.ma K C f)) = some true) &&
  (decide (PySem.W.typeIn K (.ref (He.ma K C f)) = some (.type "member_descriptor")) && decide (PySem.W.slotIn K (He.ma K C f) C = some 0))))
theorem slotB_ok {K : PySem.W.Frag} {C : Addr} {f : Str} (h : slotB K C f = true) : SlX.Slot1 K C f (He.ma K C f) 0 := by
  obtain ⟨h1, h⟩ := He.ba h
  obtain ⟨h2, h⟩ := He.ba h
  obtain ⟨h3, h⟩ := He.ba h
  obtain ⟨h4, h5⟩ := He.ba h
  exact ⟨He.eqO_ok h1, of_decide_eq_true h2, of_decide_eq_true h3, of_decide_eq_true h4, of_decide_eq_true h5, by decide⟩
/-! ### the Hook -/
section
open He
abbrev AlP : Type := AlX × List FnW
def exP (ex : PySem.W.Frag → Bool) (pr : List PrD) (K : PySem.W.Frag) : Bool := ex K && pr.all fun p => prB K p
def obsP (n : Nat) (fa : List Fa) (fn : List DefD) (tf : List Defn) (ex : PySem.W.Frag → Bool) (pr : List PrD) (g : Addr → Option Obj) : AlP := (obsX n fa fn [] tf (exP ex pr) g, pr.map fun p => fnWA (frT g (asD g n)) (getr (frT g (asD g n)) p))
def hookP (n : Nat) (fa : List Fa) (fn : List DefD) (tf : List Defn) (ex : PySem.W.Frag → Bool) (pr : List PrD) : PySem.W.Hook where
  α := AlP
  obs := fun s => obsP n fa fn tf ex pr s.heap.get?
  val := fun w => (valX fn [] w, pr.map PrD.val)
  says := fun w h => ∃ K : PySem.W.Frag, K.In h ∧ SaysX fa fn [] tf (exP ex pr) w h K ∧ (pr.map fun p => fnWA K (getr K p)) = pr.map PrD.val
  of := fun w h e => ⟨_, frT_in, saysX_of (congrArg (fun z : AlP => z.1) e), congrArg (fun z : AlP => z.2) e⟩
  keeps := fun _ _ _ ⟨K, hK, c, c2⟩ k => ⟨K, PySem.W.Frag.In.keeps hK k, ⟨c.t, c.more, c.hd, c.out, fun p hp => k _ _ (c.empty p hp)⟩, c2⟩
theorem obsP_eq {n : Nat} {fa : List Fa} {fn : List DefD} {tf : List Defn} {ex : PySem.W.Frag → Bool} {pr : List PrD} {g : Addr → Option Obj} {s : Shared} (h : ∀ a, g a = s.heap.get? a) : obsP n fa fn tf ex pr g = (hookP n fa fn tf ex pr).obs s := by
  have e : g = s.heap.get? := funext h
  rw [e] <;> rfl
end
/-! ### the facts by names -/
def fd_is_number : He.DefD := ⟨("is_number", none), "is_number", "is_number", defArgs s_is_number, defBody s_is_number, defScope s_is_number, [], []⟩
def fd_is_word : He.DefD := ⟨("is_word", none), "is_word", "is_word", defArgs s_is_word, defBody s_is_word, defScope s_is_word, [], []⟩
def fd_check_heading : He.DefD := ⟨("check_heading", none), "check_heading", "check_heading", defArgs s_check_heading, defBody s_check_heading, defScope s_check_heading, [], []⟩
def fd_check_number : He.DefD := ⟨("check_number", none), "check_number", "check_number", defArgs s_check_number, defBody s_check_number, defScope s_check_number, [], []⟩
def fd_are_books : He.DefD := ⟨("are_books", none), "are_books", "are_books", defArgs s_are_books, defBody s_are_books, defScope s_are_books, [], []⟩
def fd_are_others : He.DefD := ⟨("are_others", none), "are_others", "are_others", defArgs s_are_others, defBody s_are_others, defScope s_are_others, [], []⟩
def fd_all_books : He.DefD := ⟨("all_books", none), "all_books", "all_books", defArgs s_all_books, defBody s_all_books, defScope s_all_books, [], []⟩
def fd_known_headings : He.DefD := ⟨("known_headings", none), "known_headings", "known_headings", defArgs s_known_headings, defBody s_known_headings, defScope s_known_headings, [], []⟩
def fd_check_rule : He.DefD := ⟨("check_rule", none), "check_rule", "check_rule", defArgs s_check_rule, defBody s_check_rule, defScope s_check_rule, [], []⟩
def fd_by_halves : He.DefD := ⟨("by_halves", none), "by_halves", "by_halves", defArgs s_by_halves, defBody s_by_halves, defScope s_by_halves, [], []⟩
def fd_one_by_one : He.DefD := ⟨("one_by_one", none), "one_by_one", "one_by_one", defArgs s_one_by_one, defBody s_one_by_one, defScope s_one_by_one, [], []⟩
def fd_looked_up : He.DefD := ⟨("looked_up", none), "looked_up", "looked_up", defArgs s_looked_up, defBody s_looked_up, defScope s_looked_up, [], []⟩
def fd_choices : He.DefD := ⟨("choices", none), "choices", "choices", defArgs s_choices, defBody s_choices, defScope s_choices, [], []⟩
def fd_is_all_found : He.DefD := ⟨("is_all_found", none), "is_all_found", "is_all_found", defArgs s_is_all_found, defBody s_is_all_found, defScope s_is_all_found, [], []⟩
def fd_fewest_moves : He.DefD := ⟨("fewest_moves", none), "fewest_moves", "fewest_moves", defArgs s_fewest_moves, defBody s_fewest_moves, defScope s_fewest_moves, [], []⟩
def fd_landings : He.DefD := ⟨("landings", none), "landings", "landings", defArgs s_landings, defBody s_landings, defScope s_landings, [], []⟩
def fd_check_way : He.DefD := ⟨("check_way", none), "check_way", "check_way", defArgs s_check_way, defBody s_check_way, defScope s_check_way, [], []⟩
def fd_gather : He.DefD := ⟨("gather", none), "gather", "gather", defArgs s_gather, defBody s_gather, defScope s_gather, [], []⟩
def fd_reached : He.DefD := ⟨("reached", none), "reached", "reached", defArgs s_reached, defBody s_reached, defScope s_reached, [], []⟩
def fd_reached_together : He.DefD := ⟨("reached_together", none), "reached_together", "reached_together", defArgs s_reached_together, defBody s_reached_together, defScope s_reached_together, [], []⟩
def fd_hidden : He.DefD := ⟨("hidden", none), "hidden", "hidden", defArgs s_hidden, defBody s_hidden, defScope s_hidden, [], []⟩
def fd_led_to : He.DefD := ⟨("led_to", none), "led_to", "led_to", defArgs s_led_to, defBody s_led_to, defScope s_led_to, [], []⟩
def fd_all_ahead : He.DefD := ⟨("all_ahead", none), "all_ahead", "all_ahead", defArgs s_all_ahead, defBody s_all_ahead, defScope s_all_ahead, [], []⟩
def fd_also_rings : He.DefD := ⟨("also_rings", none), "also_rings", "also_rings", defArgs s_also_rings, defBody s_also_rings, defScope s_also_rings, [], []⟩
def fd_safe_books : He.DefD := ⟨("safe_books", none), "safe_books", "safe_books", defArgs s_safe_books, defBody s_safe_books, defScope s_safe_books, [], []⟩
def fd_check_log : He.DefD := ⟨("check_log", none), "check_log", "check_log", defArgs s_check_log, defBody s_check_log, defScope s_check_log, [], []⟩
def fd_check_all : He.DefD := ⟨("check_all", none), "check_all", "check_all", defArgs s_check_all, defBody s_check_all, defScope s_check_all, [], []⟩
def fd_losses : He.DefD := ⟨("losses", none), "losses", "losses", defArgs s_losses, defBody s_losses, defScope s_losses, [], []⟩
def fd_possible_losses : He.DefD := ⟨("possible_losses", none), "possible_losses", "possible_losses", defArgs s_possible_losses, defBody s_possible_losses, defScope s_possible_losses, [], []⟩
def fd_law_taken : He.DefD := ⟨("_law_taken", none), "_law_taken", "_law_taken", defArgs s_law_taken, defBody s_law_taken, defScope s_law_taken, [], []⟩
def fd_law_pick : He.DefD := ⟨("_law_pick", none), "_law_pick", "_law_pick", defArgs s_law_pick, defBody s_law_pick, defScope s_law_pick, [], []⟩
def fd_law_mixed : He.DefD := ⟨("_law_mixed", none), "_law_mixed", "_law_mixed", defArgs s_law_mixed, defBody s_law_mixed, defScope s_law_mixed, [], []⟩
def fd_law_drawer : He.DefD := ⟨("_law_drawer", none), "_law_drawer", "_law_drawer", defArgs s_law_drawer, defBody s_law_drawer, defScope s_law_drawer, [], []⟩
def fd_law_looked : He.DefD := ⟨("_law_looked", none), "_law_looked", "_law_looked", defArgs s_law_looked, defBody s_law_looked, defScope s_law_looked, [], []⟩
def fd_law_walked : He.DefD := ⟨("_law_walked", none), "_law_walked", "_law_walked", defArgs s_law_walked, defBody s_law_walked, defScope s_law_walked, [], []⟩
def fd_law_landing : He.DefD := ⟨("_law_landing", none), "_law_landing", "_law_landing", defArgs s_law_landing, defBody s_law_landing, defScope s_law_landing, [], []⟩
def fd_law_known : He.DefD := ⟨("_law_known", none), "_law_known", "_law_known", defArgs s_law_known, defBody s_law_known, defScope s_law_known, [], []⟩
def fd_law_headings : He.DefD := ⟨("_law_headings", none), "_law_headings", "_law_headings", defArgs s_law_headings, defBody s_law_headings, defScope s_law_headings, [], []⟩
def fd_law_gathered : He.DefD := ⟨("_law_gathered", none), "_law_gathered", "_law_gathered", defArgs s_law_gathered, defBody s_law_gathered, defScope s_law_gathered, [], []⟩
def fd_law_reach : He.DefD := ⟨("_law_reach", none), "_law_reach", "_law_reach", defArgs s_law_reach, defBody s_law_reach, defScope s_law_reach, [], []⟩
def fd_law_less : He.DefD := ⟨("_law_less", none), "_law_less", "_law_less", defArgs s_law_less, defBody s_law_less, defScope s_law_less, [], []⟩
def fd_law_wide : He.DefD := ⟨("_law_wide", none), "_law_wide", "_law_wide", defArgs s_law_wide, defBody s_law_wide, defScope s_law_wide, [], []⟩
def fd_law_leads : He.DefD := ⟨("_law_leads", none), "_law_leads", "_law_leads", defArgs s_law_leads, defBody s_law_leads, defScope s_law_leads, [], []⟩
def fd_law_rings : He.DefD := ⟨("_law_rings", none), "_law_rings", "_law_rings", defArgs s_law_rings, defBody s_law_rings, defScope s_law_rings, [], []⟩
def fd_law_losses_are : He.DefD := ⟨("_law_losses_are", none), "_law_losses_are", "_law_losses_are", defArgs s_law_losses_are, defBody s_law_losses_are, defScope s_law_losses_are, [], []⟩
def fd_law_top : He.DefD := ⟨("law", none), "law", "law", defArgs s_law, defBody s_law, defScope s_law, [], []⟩
def fd_Drawer_check_place : He.DefD := ⟨("Drawer", some "check_place"), "check_place", "Drawer.check_place", defArgs s_Drawer_check_place, defBody s_Drawer_check_place, defScope s_Drawer_check_place, [], []⟩
def fd_Drawer_without : He.DefD := ⟨("Drawer", some "without"), "without", "Drawer.without", defArgs s_Drawer_without, defBody s_Drawer_without, defScope s_Drawer_without, [], []⟩
def fd_Walk_go_on : He.DefD := ⟨("Walk", some "go_on"), "go_on", "Walk.go_on", defArgs s_Walk_go_on, defBody s_Walk_go_on, defScope s_Walk_go_on, [], []⟩
def fd_Walk_landing : He.DefD := ⟨("Walk", some "landing"), "landing", "Walk.landing", defArgs s_Walk_landing, defBody s_Walk_landing, defScope s_Walk_landing, [], []⟩
def fd_Gathering_go_on : He.DefD := ⟨("Gathering", some "go_on"), "go_on", "Gathering.go_on", defArgs s_Gathering_go_on, defBody s_Gathering_go_on, defScope s_Gathering_go_on, [], []⟩
def fd_Gathering_visit : He.DefD := ⟨("Gathering", some "visit"), "visit", "Gathering.visit", defArgs s_Gathering_visit, defBody s_Gathering_visit, defScope s_Gathering_visit, [], []⟩
def fd_Drawer_init : He.DefD := ⟨("Drawer", some "__init__"), "__init__", "Drawer.__init__", defArgs s_Drawer_init, defBody s_Drawer_init, defScope s_Drawer_init, [], []⟩
def fd_Walk_init : He.DefD := ⟨("Walk", some "__init__"), "__init__", "Walk.__init__", defArgs s_Walk_init, defBody s_Walk_init, defScope s_Walk_init, [], []⟩
def fd_Gathering_init : He.DefD := ⟨("Gathering", some "__init__"), "__init__", "Gathering.__init__", defArgs s_Gathering_init, defBody s_Gathering_init, defScope s_Gathering_init, [], []⟩
def fd_Card_init : He.DefD := ⟨("Card", some "__init__"), "__init__", "Card.__init__", defArgs s_Card_init, defBody s_Card_init, defScope s_Card_init, [.adr (He.dflAt ("Card", some "__init__") 0), .str Str.empty, .adr (He.dflAt ("Card", some "__init__") 2)], []⟩
def fn : List He.DefD := [fd_is_number, fd_is_word, fd_check_heading, fd_check_number, fd_are_books, fd_are_others, fd_all_books, fd_known_headings, fd_check_rule, fd_by_halves, fd_one_by_one, fd_looked_up, fd_choices, fd_is_all_found, fd_fewest_moves, fd_landings, fd_check_way, fd_gather, fd_reached, fd_reached_together, fd_hidden, fd_led_to, fd_all_ahead, fd_also_rings, fd_safe_books, fd_check_log, fd_check_all, fd_losses, fd_possible_losses, fd_law_taken, fd_law_pick, fd_law_mixed, fd_law_drawer, fd_law_looked, fd_law_walked, fd_law_landing, fd_law_known, fd_law_headings, fd_law_gathered, fd_law_reach, fd_law_less, fd_law_wide, fd_law_leads, fd_law_rings, fd_law_losses_are, fd_law_top, fd_Drawer_check_place, fd_Drawer_without, fd_Walk_go_on, fd_Walk_landing, fd_Gathering_go_on, fd_Gathering_visit, fd_Drawer_init, fd_Walk_init, fd_Gathering_init, fd_Card_init]
def pr_Card_heading : PrD := ⟨"Card", "heading", "Card.heading", defArgs s_Card_heading, defBody s_Card_heading, defScope s_Card_heading⟩
def pr_Card_books : PrD := ⟨"Card", "books", "Card.books", defArgs s_Card_books, defBody s_Card_books, defScope s_Card_books⟩
def pr_Card_see : PrD := ⟨"Card", "see", "Card.see", defArgs s_Card_see, defBody s_Card_see, defScope s_Card_see⟩
def pr_Card_also : PrD := ⟨"Card", "also", "Card.also", defArgs s_Card_also, defBody s_Card_also, defScope s_Card_also⟩
def pr_Card_leads : PrD := ⟨"Card", "leads", "Card.leads", defArgs s_Card_leads, defBody s_Card_leads, defScope s_Card_leads⟩
def pr_Drawer_cards : PrD := ⟨"Drawer", "cards", "Drawer.cards", defArgs s_Drawer_cards, defBody s_Drawer_cards, defScope s_Drawer_cards⟩
def pr_Drawer_headings : PrD := ⟨"Drawer", "headings", "Drawer.headings", defArgs s_Drawer_headings, defBody s_Drawer_headings, defScope s_Drawer_headings⟩
def prs : List PrD := [pr_Card_heading, pr_Card_books, pr_Card_see, pr_Card_also, pr_Card_leads, pr_Drawer_cards, pr_Drawer_headings]
def fa : List He.Fa := [.glo "is_number", .glo "is_word", .glo "check_heading", .glo "check_number", .glo "are_books", .glo "are_others", .glo "all_books", .glo "known_headings", .glo "check_rule", .glo "by_halves", .glo "one_by_one", .glo "looked_up", .glo "choices", .glo "is_all_found", .glo "fewest_moves", .glo "landings", .glo "check_way", .glo "gather", .glo "reached", .glo "reached_together", .glo "hidden", .glo "led_to", .glo "all_ahead", .glo "also_rings", .glo "safe_books", .glo "check_log", .glo "check_all", .glo "losses", .glo "possible_losses", .glo "_law_taken", .glo "_law_pick", .glo "_law_mixed", .glo "_law_drawer", .glo "_law_looked", .glo "_law_walked", .glo "_law_landing", .glo "_law_known", .glo "_law_headings", .glo "_law_gathered", .glo "_law_reach", .glo "_law_less", .glo "_law_wide", .glo "_law_leads", .glo "_law_rings", .glo "_law_losses_are", .glo "law", .glo "Card", .glo "Drawer", .glo "Walk", .glo "Gathering", .glo "RULES", .glo "WAYS", .free "isinstance", .free "int", .free "bool", .free "str", .free "len", .free "all", .free "zip", .free "set", .free "sorted", .free "tuple", .free "list", .free "enumerate", .free "range", .free "min", .int "MAX_LETTERS" 8, .int "MAX_BOOKS" 6, .int "MAX_BOOK" 999, .int "MAX_ALSO" 4, .int "MAX_CARDS" 16, .int "MAX_MOVES" 2, .int "MAX_PATIENCE" 99, .int "MAX_LOST_losing" 2, .int "MAX_LOST_traces" 3, .str "LETTERS" "abcdefghijklmnopqrstuvwxyz", .str "ALL" "all", .str "HALF" "half", .str "LEAF" "leaf", .str "ENTRY" "entry", .str "LOST" "lost", .str "RING" "ring", .str "BROAD" "broad", .str "DEEP" "deep", .str "STRAIGHT" "straight", .cls "Walk", .cls "Gathering", .noat "Walk" "word", .noat "Walk" "steps", .noat "Walk" "sought", .noat "Walk" "effort", .noat "Gathering" "drawer", .noat "Gathering" "rule", .noat "Gathering" "way", .noat "Gathering" "agenda", .noat "Gathering" "walked", .noat "Gathering" "visited", .noat "Gathering" "gathered", .meth "Drawer" "check_place", .meth "Drawer" "without", .meth "Walk" "go_on", .meth "Walk" "landing", .meth "Gathering" "go_on", .meth "Gathering" "visit", .mkr "Card", .mkr "Drawer", .mkr "Walk", .mkr "Gathering"]
def ex (K : PySem.W.Frag) : Bool := sclsB K (He.ga K "Card") && (sclsB K (He.ga K "Drawer") && (slotB K (He.ga K "Card") "facts" && (slotB K (He.ga K "Drawer") "row" && (He.tupB K "RULES" [.str "all", .str "half", .str "leaf"] && He.tupB K "WAYS" [.str "broad", .str "deep", .str "straight"]))))
def tf : List He.Defn := [("law", none)]
abbrev R : PySem.W.OpenRow := PySem.W.OpenLaw.row PySem.Challenge.rw_seerings_k75_whole_wide_drawers
abbrev qv : Program := PySem.W.view R.prog [89]
abbrev LEV : Nat := 5
abbrev hk : PySem.W.Hook := hookP LEV fa fn tf ex prs
def ob (s : PySem.W.SharedT) : AlP := obsP LEV fa fn tf ex prs (HandSHeadRun.getT s)
theorem ob_eq (s : PySem.W.SharedT) : ob s = hk.obs s.abs := obsP_eq (HandSHeadRun.getT_eq s)
def names0 : List PySem.Str := ["__name__", "SeeError", "InvalidCard", "InvalidDrawer", "UnknownPlace", "InvalidRule", "InvalidHeading", "InvalidWay", "InvalidNumber", "InvalidLog", "LETTERS", "MAX_LETTERS", "MAX_BOOKS", "MAX_BOOK", "MAX_ALSO", "is_number", "is_word", "check_heading", "check_number", "are_books", "are_others", "Card", "MAX_CARDS", "Drawer", "all_books"]
def names1 : List PySem.Str := ["known_headings", "ALL", "HALF", "LEAF", "RULES", "check_rule", "by_halves", "one_by_one", "looked_up", "MAX_MOVES", "choices", "is_all_found", "fewest_moves", "ENTRY", "LOST", "RING", "Walk", "landings", "BROAD", "DEEP", "STRAIGHT", "WAYS", "MAX_PATIENCE", "Gathering", "check_way"]
def names2 : List PySem.Str := ["gather", "reached", "reached_together", "hidden", "led_to", "all_ahead", "also_rings", "MAX_LOST_losing", "safe_books", "MAX_LOST_traces", "check_log", "check_all", "losses", "possible_losses", "_law_taken", "_law_pick", "_law_mixed", "_law_drawer", "_law_looked", "_law_walked", "_law_landing", "_law_known", "_law_headings", "_law_gathered", "_law_reach"]
def names3 : List PySem.Str := ["_law_less", "_law_wide", "_law_leads", "_law_rings", "_law_losses_are"]
def names : List PySem.Str := names0 ++ names1 ++ names2 ++ names3
theorem run (w : World) : HandSHeadRun.RunEq R qv hk ob 20000 names w := by
  intro os
  kernel_rfl
end SeHd
namespace Se
open PySem PySem.Spec PyProof.Rows L2
section
variable {P : Program} {w : World} {K : PySem.W.Frag} {mg : Str → Option Value} {base : Heap} {CC CD CW CG aR aW : Addr}
/-! ### is_number -/
theorem sc_is_number : FnScope ["value", "smallest", "largest"] ["value", "smallest", "largest"] (defScope s_is_number) := C8.fnScope_by (by decide +kernel)
def sp_is_number : Sp := fun vs H Q _ => ∃ v lo hi : Int, vs = [.int v, .int lo, .int hi] ∧ Q (.bl (decide (lo ≤ v ∧ v ≤ hi))) H
theorem ok_is_number (T : Tx K mg CC CD CW CG aR aW) : C8.Cal P w K mg base 1 "is_number" sp_is_number [] := by
  refine cal_of T.d_is_number (fun _ _ _ _ _ _ us hl => match us, hl with | [_, _, _], _ => rfl) sc_is_number (fun vs H Q E h => ?_) (fun f cdv A outer s H vs Q E hr h => ?_)
  · obtain ⟨v, lo, hi, rfl, _⟩ := h; rfl
  · obtain ⟨v, lo, hi, rfl, q⟩ := h
    refine ⟨_, pss_one (ps_ret (pe_and (pe_callB call_isi (by rfl) T.b_isinstance (by decide +kernel) (pa_cons (pv 0) (pa_cons (pe_bltn (v := .ty "int") (by rfl) T.b_int (by decide +kernel) rfl) pa_nil)))
      (pe_and (pe_not (pe_callB call_isi (by rfl) T.b_isinstance (by decide +kernel) (pa_cons (pv 0) (pa_cons (pe_bltn (v := .ty "bool") (by rfl) T.b_bool (by decide +kernel) rfl) pa_nil))))
        (pe_one (pe_chain op_le op_le (pv 1) (pv 0) (pv 2)))))), ?_⟩
    refine ⟨_, rfl, _, _, .type "int", _, true, rfl, .ty _, .base (.int _), kit_ty (by decide +kernel), true, rfl, ?_⟩
    refine iteT ⟨_, rfl, _, _, .type "int", _, false, rfl, .ty _, .base (.int _), kit_ty (by decide +kernel), false, rfl, true, rfl, ?_⟩
    refine iteT ⟨_, rfl, _, rfl, lo, v, rfl, rfl, _, rfl, ?_⟩
    refine ite2 (fun h1 => ⟨_, rfl, v, hi, rfl, rfl, ?_⟩) (fun h1 => ?_)
    · have e : decide (v ≤ hi) = decide (lo ≤ v ∧ v ≤ hi) := decide_eq_decide.mpr ⟨fun z => ⟨of_decide_eq_true h1, z⟩, fun z => z.2⟩
      exact Eq.mp (congrArg (fun b => Q (.bl b) H) e.symm) q
    · have e : false = decide (lo ≤ v ∧ v ≤ hi) := (decide_eq_false fun z => h1 (decide_eq_true z.1)).symm
      exact Eq.mp (congrArg (fun b => Q (.bl b) H) e.symm) q
/-! ### is_word -/
theorem uS_wd : ∀ x ∈ uS, (1 ≤ x.cps.size ∧ x.cps.size ≤ 8) ∧ ∀ c ∈ x.cps.toList, c ∈ ("abcdefghijklmnopqrstuvwxyz" : Str).cps.toList := by decide +kernel
theorem empty_no : Str.empty ∉ uS := by decide +kernel
theorem sc_is_word : FnScope ["value", "letter"] ["value"] (defScope s_is_word) := C8.fnScope_by (by decide +kernel)
def sp_is_word : Sp := fun vs H Q _ => ∃ x : Str, vs = [.str x] ∧ (x ∈ uS ∨ x = Str.empty) ∧ ∀ H', Sm H H' → Q (.bl (decide (x ∈ uS))) H'
theorem ok_is_word (T : Tx K mg CC CD CW CG aR aW) : C8.Cal P w K mg base 1 "is_word" sp_is_word [] := by
  refine cal_of T.d_is_word (fun _ _ _ _ _ _ us hl => match us, hl with | [_], _ => rfl) sc_is_word (fun vs H Q E h => ?_) (fun f cdv A outer s H vs Q E hr h => ?_)
  · obtain ⟨x, rfl, _⟩ := h; rfl
  · obtain ⟨x, rfl, hx, q⟩ := h
    refine ⟨_, pss_cons (ps_if (PW.pt (pw_or (pt_not (pt_val (pe_callB call_isi (by rfl) T.b_isinstance (by decide +kernel) (pa_cons (pv 0) (pa_cons (pe_bltn (v := .ty "str") (by rfl) T.b_str (by decide +kernel) rfl) pa_nil)))))
        (pw_or1 (pt_not (pt_chain op_le op_le pe_int (pe_callB call_len (by rfl) T.b_len PySem.boot_len (pa_cons (pv 0) pa_nil)) (C8.pe_gc (by rfl) T.c_MAX_LETTERS))))))
        (pss_one (ps_ret pe_bl)) pss_nil)
      (pss_one (ps_ret (pe_callB (cr_all rfl) (by rfl) T.b_all (by decide +kernel) (pa_cons
        (pe_lc (own := [("letter", 1)]) (g := gName 1) (tt := tYes) rfl sc_is_word.nd (pi_str (pv 0)) (blkOk_by (own := [("letter", 1)]) (N := ["value", "letter"]) (sc := defScope s_is_word) (by decide +kernel))
          (fun _ _ _ _ _ => pg_name (i := 1) sc_is_word.nd rfl (Or.inl rfl)) (fun _ _ _ _ _ => pts_nil) (fun _ _ _ _ _ => pe_cmpR op_in_sign (pv 1) (C8.pe_gc (by rfl) T.c_LETTERS) (by rfl))) pa_nil)))), ?_⟩
    refine ⟨_, rfl, _, _, .type "str", _, true, rfl, .ty _, .base (.str _), kit_ty (by decide +kernel), true, rfl, ?_⟩
    refine iteF ⟨_, rfl, _, x.cps.size, rfl, ?_, 1, (x.cps.size : Int), rfl, rfl, _, rfl, ?_⟩
    · refine ⟨sizeOf' ?_, rfl⟩
      rcases hx with hx | rfl
      · exact Nat.le_trans (uS_wd x hx).1.2 (by decide)
      · decide
    · rcases hx with hx | rfl
      · obtain ⟨⟨l1, l2⟩, hc⟩ := uS_wd x hx
        rw [decide_eq_true (show (1 : Int) ≤ (x.cps.size : Int) by omega)]
        refine iteT ⟨(x.cps.size : Int), 8, rfl, rfl, true, congrArg V.bl (decide_eq_true (show (x.cps.size : Int) ≤ 8 by omega)), ?_⟩
        refine iteF ⟨_, rfl, x, rfl, fun D hD => lc_it walk_str (fun i H' => Sm H H' ∧ H' D = some (.lst ((List.replicate i true).map V.bl))) ⟨Sm.new hD, upd_same⟩ (fun _ _ _ _ => trivial)
          (fun i v H1 H2 hi ⟨s1, e1⟩ hy => ?_) (fun H1 ⟨s1, e1⟩ => ?_)⟩
        · obtain ⟨rfl, c, ec, rfl⟩ := hy
          have em : c ∈ x.cps.toList := Array.mem_toList_iff.mpr (Array.mem_of_getElem? ec)
          refine ⟨rfl, yes_if ⟨_, rfl, c, "abcdefghijklmnopqrstuvwxyz", rfl, rfl, _, e1, sizeLt (by rw [List.length_map, List.length_replicate]; omega), s1.wr hD, ?_⟩⟩
          rw [upd_same, decide_eq_true (hc c em), List.replicate_succ', List.map_append]
          rfl
        · refine ⟨D, List.replicate x.cps.size true, rfl, SqL.of e1, ?_⟩
          have : (List.replicate x.cps.size true).all id = true := by rw [List.all_eq_true]; intro b hb; exact (List.mem_replicate.mp hb).2
          have q1 := q H1 s1
          rw [decide_eq_true hx] at q1
          exact Eq.mp (congrArg (fun b => Q (.bl b) H1) this.symm) q1
      · refine iteF ?_
        have q1 := q H (Sm.refl H)
        rw [decide_eq_false empty_no] at q1
        exact ⟨false, rfl, q1⟩
end
end Se
/-! enumerate of a tuple, as a walked thing -/
namespace Se
open PySem PySem.Spec PyProof.Rows L2
abbrev tupIt (t : Addr) : Obj := { cls := .type "tuple_iterator", data := .fields #[.ref t, .int 0 0] }
abbrev enumOf (it : Addr) : Obj := { cls := .type "enumerate", data := .fields #[.none, .bool false, .ref it, rawInt 0, .none, .none] }
/-- enumerate.__new__ of a tuple -/
theorem meets_enum_tup (t : Addr) (its : Array Value) (o : Obj) (hc : o.cls = .type "tuple") (hd : ∃ n, o.data = .seq its n) :
    Meets (Builtin.«enumerate.__new__» ⟨[.type "enumerate", .ref t], []⟩) (fun _ R s => s.heap.get? t = some o ∧
      R (.ok (.ret (.ref (s.heap.push (tupIt t)).objs.size))) { s with heap := (s.heap.push (tupIt t)).push (enumOf s.heap.objs.size) }) :=
  .of_wp fun prog w A R s h => by
    obtain ⟨oc, od, dt, sl⟩ := o
    obtain ⟨n, hd⟩ := hd
    dsimp only at hc hd
    subst hc hd
    obtain ⟨hp, g, d, tk, os⟩ := s
    obtain ⟨hl, h⟩ := h
    have hsub := sub_enumerate
    have hT : Heap.IsTuple (Shared.heap ⟨hp, g, d, tk, os⟩) t its := ⟨_, hl, rfl, n, rfl⟩
    wp_walk using AutoSeq1.wpAny_loadPart' hl
    refine wpAny_stack_any fun st => wpAny_pure ?_
    split
    · rename_i c _ _ _ _ _
      cases (c == Value.type "enumerate")
      · wp_walk using AutoSeq1.wpAny_loadPart' hl, wpAny_pyIter_tuple hT
        exact ⟨_, rfl, h⟩
      · wp_walk using AutoSeq1.wpAny_loadPart' hl, wpAny_pyIter_tuple hT
        exact ⟨_, rfl, h⟩
    · wp_walk using AutoSeq1.wpAny_loadPart' hl, wpAny_pyIter_tuple hT
      exact ⟨_, rfl, h⟩
section
variable {prog : Program} {w : World} {A : Around} {E : Value → Shared → Prop} {s : Shared}
theorem call_enum_tup {t : Addr} {its : Array Value} {Q : Value → Shared → Prop} (hT : s.heap.IsTuple t its)
    (h : ∀ h', IsEnum h' (s.heap.objs.size + 1) s.heap.objs.size 0 .none → h'.IsTupleIter s.heap.objs.size t 0 → (∀ b o, s.heap.get? b = some o → h'.get? b = some o) → Q (.ref (s.heap.objs.size + 1)) { s with heap := h' }) :
    wpAny (model prog w) A (call (.type "enumerate") [.ref t]) Q E s := by
  obtain ⟨o, hl, hc, n, hd⟩ := hT
  refine callType_new F.called_enumerate (by decide) (F.typeCall_enumerate_1 _) (F.newCall_enumerate_1 _) (fun obj => F.args_object_init_2 obj _) F.entry_enumerate_new
    (meets_enum_tup t its o hc ⟨n, hd⟩) ⟨hl, ?_⟩
  have hz : (s.heap.push (tupIt t)).objs.size = s.heap.objs.size + 1 := Heap.size_push ..
  show _ ∧ _
  rw [hz]
  have hi : (s.heap.push (tupIt t)).get? s.heap.objs.size = some (tupIt t) := Heap.get?_push_size _ rfl
  have he : ((s.heap.push (tupIt t)).push (enumOf s.heap.objs.size)).get? (s.heap.objs.size + 1) = some (enumOf s.heap.objs.size) := by
    rw [← hz]
    exact Heap.get?_push_size _ rfl
  exact ⟨⟨_, he, rfl⟩, h _ he ⟨_, Heap.get?_push_of_some _ hi, rfl, rfl⟩ fun b u q => Heap.get?_push_of_some _ (Heap.get?_push_of_some _ q)⟩
end
/-- the tuple at a as it stands at each turn, place and item in a new pair -/
def IteT (K : PySem.W.Frag) (a : Addr) : It :=
  ⟨fun i H => ∃ (xs : List V) (x : V), SqT K H a xs ∧ xs[i]? = some x,
    fun i H v H' => ∃ T x, v = .ref T ∧ H T = none ∧ H' = upd H T (.tup [.int (i : Nat), x]) ∧ ∀ xs, SqT K H a xs → xs[i]? = some x,
    fun i H => ∃ xs : List V, SqT K H a xs ∧ xs.length ≤ i⟩
theorem turn_enumT {P : Program} {w : World} {K : PySem.W.Frag} {elts : List Expr} {kk : Nat} {tpos : Pos} (a e it : Addr) :
    Turn P w K (.Tuple elts kk tpos) (IteT K a) [e, it] e (fun i h => (∃ old, IsEnum h e it ((i : Nat) : Int) old) ∧ h.IsTupleIter it a i ∧ e ≠ it ∧ a ≠ it ∧ a ≠ e) where
  mem := List.mem_cons_self
  obj := fun i h st b hb => by
    obtain ⟨⟨old, he⟩, ⟨o, ho, _, hd⟩, _⟩ := st
    rcases List.mem_cons.mp hb with z | z
    · subst z; exact ⟨_, he, fun v q => nomatch q⟩
    · have z := List.mem_singleton.mp z
      subst z
      exact ⟨o, ho, fun v q => by rw [hd] at q; cases q⟩
  keep := fun i h h' st k => by
    obtain ⟨⟨old, he⟩, hi, hne⟩ := st
    exact ⟨⟨old, k e List.mem_cons_self _ he⟩, hi.at fun o q => k it (by simp) o q, hne⟩
  item := by
    intro X hP hw hK hc i pins s σ H E I hf st hg
    subst hP hw hK
    obtain ⟨⟨old, he⟩, hit, hne, hai, hae⟩ := st
    obtain ⟨xs, x, hq, hx⟩ := hg
    obtain ⟨its, rv, p, hz⟩ := I.tuple hq
    obtain ⟨u, hu, ru⟩ := rv.get hx
    have pt : s.heap.IsTuple a its.toArray := p
    have hel : e < s.heap.objs.size := Heap.lt_size he
    have hil : it < s.heap.objs.size := by obtain ⟨_, q, _⟩ := hit; exact Heap.lt_size q
    have hlt : i < its.toArray.size := by
      have := (List.getElem?_eq_some_iff.mp hu).1
      simpa using this
    have nef : e ∉ [it, a] := by
      intro m
      rcases List.mem_cons.mp m with z | z
      · exact hne z
      · exact hae (List.mem_singleton.mp z).symm
    refine wpAny_pyNext_enum_itemD (Draws.tuple (prog := X.prog) (w := X.w) (A := X.A.in1) (I.ok.hd hc) it a hai its.toArray) he ⟨hit, pt⟩ hlt hne nef fun y h' tk hy ho hst hT hsz hk => ?_
    have ey : y = u := by
      have h1 : its.toArray[i]? = some u := by simpa using hu
      rw [h1] at hy
      exact (Option.some.inj hy).symm
    subst ey
    refine ⟨_, rfl, wpAny_letOwnedTupleGo_enum (s := { s with heap := h', toks := tk + 1 }) ho fun h'' he' sb => ?_⟩
    have hT2 : h''.get? s.heap.objs.size = some { cls := .type "tuple", data := .seq #[.int i tk, y] } := (sb.2 _ (Nat.ne_of_gt hel)).trans hT
    have new : ObjOk X.prog X.w (upd H s.heap.objs.size (.tup [.int (i : Nat), x])) h'' s.heap.objs.size (.tup [.int (i : Nat), x]) :=
      ⟨by show 2 ≤ sizeLine; decide, [.int i tk, y], .cons ⟨_, rfl⟩ (.cons ru .nil), ⟨_, hT2, rfl, _, rfl⟩⟩
    have I1 : Inv X pins σ (upd H s.heap.objs.size (.tup [.int (i : Nat), x])) { s with heap := h'', toks := tk + 1 } := by
      refine I.turnedNew (ch := [e, it]) (fun b ob hb q => ?_) hf (Nat.le_refl _) new
      have b1 : b ≠ e := fun z => hb (by rw [z]; exact List.mem_cons_self)
      have b2 : b ≠ it := fun z => hb (by rw [z]; simp)
      exact (sb.2 b b1).trans (hk b ob b1 b2 q)
    refine ⟨.ref s.heap.objs.size, _, I1, rfl, ⟨_, x, rfl, I.hok.fresh (Nat.le_refl _), rfl, fun ys hy => by rw [I.tuple_inj hy hq]; exact hx⟩, ⟨⟨y, ?_⟩, hst.1.at fun o q => (sb.2 it (Ne.symm hne)).trans q, hne, hai, hae⟩, fun b hb => ?_⟩
    · rw [show ((i + 1 : Nat) : Int) = (i : Int) + 1 by omega]
      exact he'
    · have hb' : b < s.heap.objs.size := by
        rcases List.mem_cons.mp hb with z | z
        · rw [z]; exact hel
        · rw [List.mem_singleton.mp z]; exact hil
      rw [upd_ne (Nat.ne_of_lt hb')]
      exact (hf b hb).1
  done := by
    intro X hP hw hK hc i pins s σ H E I hf st hg
    subst hP hw hK
    obtain ⟨⟨old, he⟩, hit, hne, hai, hae⟩ := st
    obtain ⟨xs, hq, hx⟩ := hg
    obtain ⟨its, rv, p, hz⟩ := I.tuple hq
    have hl := rv.length
    obtain ⟨f0, f1, f2, f3, f4, f5⟩ := hf it (by simp)
    have pt : s.heap.IsTuple a its.toArray := p
    have hT : s.TypeIs (.ref e) "enumerate" := ⟨_, he, rfl⟩
    unfold pyNext
    refine wpAny_bind (wpAny_attempt (wpAny_callSpecial?_slot (name := Str.ofString "__next__") hT F.slot_enumerate_next (wpAny_call_entry F.slot_enumerate_next hT F.entry_enumerate_next ?_ (F.args_enumerate_next_1 _))))
    show wpAny _ _ (field (.ref e) 2 >>= _) _ _ _
    refine wpAny_bind (wpAny_field he rfl (x := .ref it) rfl ?_)
    refine wpAny_bind (wpAny_nextOf_tuple_end (I.ok.hd hc) hit pt (by simp; omega) fun h' y eb hy => ?_)
    obtain ⟨o, ho, hcl⟩ := hy
    refine wpAny_bind (wpAny_isInstance (T := "StopIteration") (b := true) ⟨o, ho, hcl⟩ isSubtype_stop ?_)
    exact wpAny_pure ⟨rfl, I.turned (t' := s.toks) (fun b o hb q => eb b o hb q) f0 f1 f3 f4 f5⟩
  self := fun A i s Q E st h => by
    obtain ⟨⟨_, he⟩, _⟩ := st
    exact wpAny_pyIter_enum he h
def iEnumT (K : PySem.W.Frag) (ta : TA) : TI := fun σ H R => ta σ H fun vs H1 => ∃ a xs, vs = [.ref a] ∧ SqT K H1 a xs ∧ R (IteT K a) H1
theorem pi_enumT {X : Cx} {e : Expr} {ta : TA} {p pos tpos : Pos} {elts : List Expr} {kk : Nat} (hg : Gl X "enumerate") (hm : X.mg "enumerate" = none) (ha : PA X [e] ta) (hs : starEach [e] X.env = [(false, eval e X.env)] := by rfl) :
    PI X (.Tuple elts kk tpos) (.Call (.Name "enumerate" p) [e] [] pos) (iEnumT X.K ta) := by
  refine ⟨fun pins s σ H R I h => ?_⟩
  refine Call_ (ld_blt I hg hm boot_enumerate (PyProof.Rows.callWith_type1 (thn (ha.run pos pins s σ H _ I h) fun us s1 ⟨vs, H1, I1, r1, q1⟩ => ?_) hs rfl))
  obtain ⟨a, xs, ex, hq, q⟩ := q1
  subst ex
  have eu := Vals.ref1 r1
  subst eu
  obtain ⟨its, rv, p', hz⟩ := I1.tuple hq
  have pt : s1.heap.IsTuple a its.toArray := p'
  have hal : a < s1.heap.objs.size := p'.lt
  refine call_enum_tup pt fun h' he hit hk => wpAny_pyIter_enum he ?_
  have I2 : Inv X pins σ H1 { s1 with heap := h' } := I1.kept (t' := s1.toks) hk
  refine ⟨s1.heap.objs.size + 1, [s1.heap.objs.size + 1, s1.heap.objs.size], _, _, H1, rfl, I2, turn_enumT a (s1.heap.objs.size + 1) s1.heap.objs.size,
    ⟨⟨.none, he⟩, hit, Nat.succ_ne_self _, Nat.ne_of_lt hal, Nat.ne_of_lt (Nat.lt_succ_of_lt hal)⟩, fun b hb => ?_, q⟩
  have hle : s1.heap.objs.size ≤ b := by
    rcases List.mem_cons.mp hb with z | z
    · rw [z]; exact Nat.le_add_right _ _
    · rw [List.mem_singleton.mp z]; exact Nat.le_refl _
  exact I1.fpOk hle (I1.hok.fresh hle)
theorem walk_enumT {K : PySem.W.Frag} {a : Addr} {xs : List V} : Walk (IteT K a) xs.length (fun H => SqT K H a xs) (YPair (fun i => some (.int (i : Nat))) (fun i => xs[i]?)) := by
  refine ⟨fun i _ hi q => ⟨xs, xs[i], q, List.getElem?_eq_getElem hi⟩, fun _ q => ⟨xs, q, Nat.le_refl _⟩, fun i H v H' _ q y => ?_⟩
  obtain ⟨T, x, h1, h2, h3, h4⟩ := y
  exact ⟨T, .int (i : Nat), x, h1, h2, h3, rfl, h4 xs q⟩
theorem walk_zipT {K : PySem.W.Frag} {a b : Addr} {xs ys : List V} {n : Nat} (hn : n = min xs.length ys.length) : Walk (RZ.ItzT K a b) n (fun H => SqT K H a xs ∧ SqT K H b ys) (YPair (fun i => xs[i]?) (fun i => ys[i]?)) := by
  subst hn
  refine ⟨fun i _ hi q => ?_, fun _ q => ⟨xs, ys, q.1, q.2, by omega⟩, fun i H v H' _ q y => ?_⟩
  · have a1 : i < xs.length := by omega
    have a2 : i < ys.length := by omega
    exact ⟨xs, ys, xs[i], ys[i], q.1, q.2, List.getElem?_eq_getElem a1, List.getElem?_eq_getElem a2⟩
  · obtain ⟨T, x, z, h1, h2, h3, h4, h5⟩ := y
    exact ⟨T, x, z, h1, h2, h3, h4 xs q.1, h5 ys q.2⟩
end Se
/-! set(xs), len(set(xs)), sorted(set(xs)): xs a list or a tuple of ints, of texts -/
namespace Se
open PySem PySem.Spec PyProof.Rows L2
instance keyMem (k : Key) (ds : List Key) : Decidable (k ∈ ds) := decidable_of_iff (∃ d ∈ ds, d = k) (by simp)
/-- the key that a value is -/
def kOf : Value → Key
  | .int i _ => .inl i
  | .str x _ => .inr x
  | _ => .inl 0
theorem kOf_of {k : Key} {v : Value} (h : keyIs k v = true) : kOf v = k := by
  rcases keyIs_shape h with ⟨i, t, rfl, rfl⟩ | ⟨x, t, rfl, rfl⟩ <;> rfl
theorem keyIs_rel {k : Key} {v : Value} (r : RelV (kV k) v) : keyIs k v = true := by
  cases k with
  | inl i => obtain ⟨t, rfl⟩ := r; exact keyIs_int i t
  | inr x => obtain ⟨t, rfl⟩ := r; exact keyIs_str x t
theorem rel_keyIs {k : Key} {v : Value} (r : keyIs k v = true) : RelV (kV k) v := by
  rcases keyIs_shape r with ⟨i, t, rfl, rfl⟩ | ⟨x, t, rfl, rfl⟩ <;> exact ⟨t, rfl⟩
theorem keyIs_scan {k : Key} {v : Value} (r : keyIs k v = true) : v.scannable = true := by
  rcases keyIs_shape r with ⟨i, t, rfl, rfl⟩ | ⟨x, t, rfl, rfl⟩ <;> rfl
/-- an entry of such a set -/
def KGood (w : World) (e : Int × Value) : Prop := keyIs (kOf e.2) e.2 = true ∧ e.1 = keyH w (kOf e.2)
abbrev kE (e : Int × Value) : Key := kOf e.2
/-- the set at a holds just the keys ds, each once -/
def SetD (w : World) (h : Heap) (a : Addr) (ds : List Key) : Prop :=
  ∃ o es ep t, h.get? a = some o ∧ o.ExactSet ∧ o.data = .set es ep t ∧ (∀ e ∈ es.toList, KGood w e) ∧ (es.toList.map kE).Perm ds ∧ ds.Nodup ∧
    es.size < scanBound ∧ t.fits es.size = true ∧ Ris t.place.toList ∧ (w.params.followText "set-order" = true ∨ t.led = true)
section
variable {P : Program} {w : World} {h h' : Heap} {a : Addr} {ds : List Key}
theorem SetD.at (R : SetD w h a ds) (k : ∀ o, h.get? a = some o → h'.get? a = some o) : SetD w h' a ds := by
  obtain ⟨o, es, ep, t, ho, r⟩ := R
  exact ⟨o, es, ep, t, k o ho, r⟩
theorem kGood_elems {l : List (Int × Value)} (g : ∀ e ∈ l, KGood w e) : ElemsOf (mixKind P w) l := fun e he => by
  obtain ⟨h1, h2⟩ := g e he
  exact ⟨⟨kOf e.2, h1, h2⟩, keyIs_scan h1⟩
theorem kGood_mem {l : List (Int × Value)} (g : ∀ e ∈ l, KGood w e) (k : Key) : k ∈ l.map kE ↔ ∃ e ∈ l, (mixKind P w).is k e.2 = true := by
  rw [List.mem_map]
  constructor
  · rintro ⟨e, he, q⟩
    exact ⟨e, he, by rw [← q]; exact (g e he).1⟩
  · rintro ⟨e, he, q⟩
    exact ⟨e, he, kOf_of q⟩
theorem SetD.setOf (R : SetD w h a ds) : h.SetOf (mixKind P w) a (fun k => decide (k ∈ ds)) ds.length := by
  obtain ⟨o, es, ep, t, ho, hx, hd, g, pm, nd, hb, hf, _⟩ := R
  refine ⟨o, es, ep, t, ho, hx, hd, kGood_elems g, fun k => ?_, hb, hf, ?_⟩
  · rw [decide_eq_true_eq, ← pm.mem_iff]
    exact kGood_mem g k
  · rw [← pm.length_eq, List.length_map, Array.length_toList]
end
section
variable {P : Program} {w : World} {A : Around} {E : Value → Shared → Prop} {s : Shared} {a : Addr} {ds : List Key}
/-- the entries are stored, and laid anew where the table is too full -/
theorem setD_tail {g : Bool → Sem Unit} (hg : ∀ (b : Bool) (s₁ : Shared) (Q' : Unit → Shared → Prop), Q' () s₁ → wpAny (model P w) A (g b) Q' E s₁)
    {o : Obj} {es : Array (Int × Value)} {ep : Nat} {t : SetTable} (ho : s.heap.get? a = some o) (hex : o.ExactSet) (hd : o.data = .set es ep t)
    {es1 : Array (Int × Value)} {t2 : SetTable} {ds' : List Key} (g1 : ∀ e ∈ es1.toList, KGood w e) (p1 : (es1.toList.map kE).Perm ds') (nd1 : ds'.Nodup)
    (hb1 : es1.size < scanBound) (hf2 : t2.fits es1.size = true) (hr : Ris t2.place.toList) (hl : w.params.followText "set-order" = true ∨ t2.led = true) {wasDummy : Bool} {R : Option Bool → Shared → Prop}
    (hR : ∀ h', Heap.SameBut a s.heap h' → SetD w h' a ds' → R (some true) { s with heap := h' }) :
    wpAny (model P w) A (storeSet a es1 t2 >>= fun _ =>
        if (!wasDummy && t2.tooFull) = true then do
            g (relayAll t2 es1 (SetTable.grown es1.size)).2.2
            storeSet a (relayAll t2 es1 (SetTable.grown es1.size)).1 (relayAll t2 es1 (SetTable.grown es1.size)).2.1
            pure (some true)
          else pure (some true)) R E s := by
  refine wpAny_bind (wpAny_storeSet_of ho hd ?_ (fits_of_scanBound hb1))
  have st1 := store_at (es' := es1) (t' := t2) ho hd
  have sm1 := Heap.SameBut.update s.heap a (Obj.putSet es1 t2)
  split
  · have pm := relayAll_perm t2 es1 (SetTable.grown es1.size)
    have f3 := relayAll_fits t2 es1 (SetTable.grown es1.size)
    have r3 := relayAll_ris t2 es1 (SetTable.grown es1.size)
    have l3 := relayAll_led t2 es1 (SetTable.grown es1.size)
    generalize relayAll t2 es1 (SetTable.grown es1.size) = Z at pm f3 r3 l3 ⊢
    obtain ⟨es2, t3, gave⟩ := Z
    dsimp only at pm f3 r3 l3 ⊢
    have sz : es2.size = es1.size := by
      have := pm.length_eq
      simpa using this
    have b2 : es2.size < scanBound := sz ▸ hb1
    refine wpAny_bind (hg _ _ _ (wpAny_bind (wpAny_storeSet_of st1 rfl ?_ (fits_of_scanBound b2))))
    have st2 := store_at (es' := es2) (t' := t3) st1 rfl
    exact wpAny_pure (hR _ (sm1.trans (Heap.SameBut.update _ a _)) ⟨_, es2, _, t3, st2, hex, rfl, fun e he => g1 e (pm.mem_iff.mp he), (pm.map kE).trans p1, nd1, b2, f3, r3, hl.imp id fun z => l3.trans z⟩)
  · exact wpAny_pure (hR _ sm1 ⟨_, es1, _, t2, st1, hex, rfl, g1, p1, nd1, hb1, hf2, hr, hl⟩)
/-- a key more -/
def addK (ds : List Key) (k : Key) : List Key := if k ∈ ds then ds else k :: ds
theorem setD_add {k : Key} {v : Value} {Q : Bool → Shared → Prop} (R : SetD w s.heap a ds) (hv : keyIs k v = true) (room : ds.length + 1 < scanBound)
    (hQ : ∀ (b : Bool) h', Heap.SameBut a s.heap h' → SetD w h' a (addK ds k) → Q b { s with heap := h' }) :
    wpAny (model P w) A (setAddHashed a v ((mixKind P w).hash k)) Q E s := by
  obtain ⟨o, es, ep, t, ho, hex, hd, g, pm, nd, hb, hf, hr, hl⟩ := R
  have hkey : (mixKind P w).is k v = true := hv
  have hsc : v.scannable = true := keyIs_scan hv
  have hel : ElemsOf (mixKind P w) es.toList := kGood_elems g
  have hn : es.size = ds.length := by
    have := pm.length_eq
    simpa using this
  unfold setAddHashed setAddHashedIn
  refine wpAny_holding (wpAny_bind (wpAny_setState_of ho hd hf ?_))
  dsimp only
  rw [byScan_of hsc hb hel]
  simp only [↓reduceIte]
  unfold setAddByScan
  refine wpAny_bind (wpAny_bind (wpAny_rule (wpAny_bind (wpAny_setScan_of hkey ho hd hf hel ?_))))
  cases hfi : List.findIdx? (fun e => (mixKind P w).is k e.2) es.toList with
  | some j =>
    dsimp only
    obtain ⟨hj, pj, _⟩ := List.findIdx?_eq_some_iff_getElem.mp hfi
    have hk : k ∈ ds := pm.mem_iff.mp ((kGood_mem (P := P) g k).2 ⟨_, List.getElem_mem hj, pj⟩)
    refine wpAny_pure (wpAny_pure (hQ _ s.heap (Heap.SameBut.refl a s.heap) ?_))
    unfold addK
    rw [if_pos hk]
    exact ⟨o, es, ep, t, ho, hex, hd, g, pm, nd, hb, hf, hr, hl⟩
  | none =>
    dsimp only
    have hk : k ∉ ds := fun z => by
      obtain ⟨e, he, q⟩ := (kGood_mem (P := P) g k).1 (pm.mem_iff.mpr z)
      have c := List.findIdx?_eq_none_iff.mp hfi e he
      rw [q] at c
      cases c
    have free : ∀ (b : Bool) {s₁ : Shared} {Q' : Unit → Shared → Prop}, Q' () s₁ → wpAny (model P w) A (match b with | true => rule "set.scan.the-table-gave-way" | false => pure ()) Q' E s₁ := by
      intro b s₁ Q' q
      cases b with
      | true => exact wpAny_rule q
      | false => exact wpAny_pure q
    have pm1 := layNew_perm t es ((mixKind P w).hash k) v
    have f1 := layNew_fits t es ((mixKind P w).hash k) v
    have r1 := layNew_ris t es ((mixKind P w).hash k) v hr
    have l1 := layNew_led t es ((mixKind P w).hash k) v
    generalize layNew t es ((mixKind P w).hash k) v = Z at pm1 f1 r1 l1 ⊢
    obtain ⟨es1, t1, wasDummy, gave⟩ := Z
    dsimp only at pm1 f1 r1 l1 ⊢
    rw [Array.toList_push] at pm1
    have pc := pm1.trans (List.perm_append_singleton ((mixKind P w).hash k, v) es.toList)
    have g1 : ∀ e ∈ es1.toList, KGood w e := fun e he => by
      rcases List.mem_cons.mp (pc.mem_iff.mp he) with z | z
      · rw [z]
        have ek : kOf v = k := kOf_of hv
        exact ⟨by show keyIs (kOf v) v = true; rw [ek]; exact hv, by show _ = keyH w (kOf v); rw [ek]; rfl⟩
      · exact g e z
    have p1 : (es1.toList.map kE).Perm (addK ds k) := by
      unfold addK
      rw [if_neg hk]
      have q := pc.map kE
      rw [List.map_cons] at q
      have ek : kE ((mixKind P w).hash k, v) = k := kOf_of hv
      rw [ek] at q
      exact q.trans (pm.cons k)
    have nd1 : (addK ds k).Nodup := by
      unfold addK
      rw [if_neg hk]
      exact List.nodup_cons.mpr ⟨hk, nd⟩
    have b1 : es1.size < scanBound := by
      have e1 : es1.size = es.size + 1 := by
        have := pc.length_eq
        simpa using this
      omega
    have led1 : w.params.followText "set-order" = true ∨ t1.led = true := hl.imp id fun z => l1.trans z
    refine wpAny_bind (free _ ?_)
    split
    · refine wpAny_bind ?_
      rw [hashByValue_scannable 8 hsc]
      refine wpAny_pure (setD_tail ?_ ho hex hd g1 p1 nd1 b1 ?_ ?_ ?_ ?_)
      · intro b s₁ Q' q; exact free b q
      · first | (split <;> first | exact f1 | exact SetTable.fits_plain_off f1) | exact f1
      · first | (split <;> exact r1) | exact r1
      · first | (split <;> exact led1) | exact led1
      · intro h' sb r; dsimp only; exact wpAny_pure (hQ _ h' sb r)
    · refine wpAny_bind (wpAny_pure ?_)
      simp only [↓reduceIte]
      refine setD_tail ?_ ho hex hd g1 p1 nd1 b1 f1 r1 led1 ?_
      · intro b s₁ Q' q; exact free b q
      · intro h' sb r; dsimp only; exact wpAny_pure (hQ _ h' sb r)
theorem addK_nodup {ds : List Key} {k : Key} (nd : ds.Nodup) : (addK ds k).Nodup := by
  unfold addK
  split
  · exact nd
  · rename_i h
    exact List.nodup_cons.mpr ⟨h, nd⟩
theorem mem_addK {ds : List Key} {k j : Key} : j ∈ addK ds k ↔ j ∈ ds ∨ j = k := by
  unfold addK
  split
  · rename_i h
    exact ⟨.inl, fun z => z.elim id fun e => e ▸ h⟩
  · rw [List.mem_cons]
    exact Or.comm
/-- the keys of a row, each once -/
def keysD (ks : List Key) : List Key := ks.foldl addK []
theorem keysD_snoc (ks : List Key) (k : Key) : keysD (ks ++ [k]) = addK (keysD ks) k := by
  unfold keysD
  rw [List.foldl_append]
  rfl
theorem keysD_go : ∀ (ks acc : List Key), acc.Nodup → (ks.foldl addK acc).Nodup ∧ (∀ j, j ∈ ks.foldl addK acc ↔ j ∈ acc ∨ j ∈ ks) ∧ (ks.foldl addK acc).length ≤ acc.length + ks.length
  | [], acc, nd => ⟨nd, fun j => by simp, by simp⟩
  | k :: ks, acc, nd => by
    obtain ⟨h1, h2, h3⟩ := keysD_go ks (addK acc k) (addK_nodup nd)
    refine ⟨h1, fun j => ?_, ?_⟩
    · rw [List.foldl_cons, h2, mem_addK, List.mem_cons, or_assoc]
    · have : (addK acc k).length ≤ acc.length + 1 := by
        unfold addK
        split
        · omega
        · simp
      rw [List.foldl_cons, List.length_cons]
      omega
theorem keysD_nodup (ks : List Key) : (keysD ks).Nodup := (keysD_go ks [] List.nodup_nil).1
theorem mem_keysD {ks : List Key} {j : Key} : j ∈ keysD ks ↔ j ∈ ks := by
  rw [show keysD ks = ks.foldl addK [] from rfl, (keysD_go ks [] List.nodup_nil).2.1 j]
  simp
theorem keysD_len (ks : List Key) : (keysD ks).length ≤ ks.length := by
  have := (keysD_go ks [] List.nodup_nil).2.2
  rw [List.length_nil, Nat.zero_add] at this
  exact this
theorem keysD_len_eq {ks : List Key} (nd : ks.Nodup) : (keysD ks).length = ks.length :=
  ((List.perm_ext_iff_of_nodup (keysD_nodup ks) nd).mpr fun j => mem_keysD).length_eq

/-- the loop of set.update -/
theorem setD_loop {I : Addr} {fp wr : List Addr} {G : Array GenState → Array GenState → Prop} {n : Nat} {Pv : Nat → Value → Prop} {St : Nat → Shared → Prop} {R : Result → Shared → Prop}
    (W : WalksS P w A.in1 I fp wr G n Pv St) (S : Addr) (hSf : S ∉ fp) (ks : List Key) (hn : n = ks.length) (hb : ks.length + 1 < scanBound) (hval : ∀ i v, Pv i v → ∃ k, ks[i]? = some k ∧ keyIs k v = true) :
    ∀ (m i : Nat) (s : Shared), n - i = m → i ≤ n → St i s → SetD w s.heap S (keysD (ks.take i)) →
      (∀ s', Moved (S :: wr) G s s' → SetD w s'.heap S (keysD ks) → R (.ok (.ret .none)) s') → codeAny (model P w) A (.builtin "set.update.loop" ⟨[.ref S, .ref I], []⟩) R s := by
  have hSw : S ∉ wr := fun z => hSf (W.sub _ z)
  have up : ∀ b ∈ wr, b ∈ S :: wr := fun b z => List.mem_cons_of_mem _ z
  intro m
  induction m with
  | zero =>
    intro i s hm hi hst hS hR
    have hin : i = n := by omega
    subst hin
    refine codeAny_builtin F.entry_set_update_loop ?_
    rw [Around.under_plainId F.plain_set_update_loop _]
    show wpAny _ A.in1 (pyNext (.ref I) >>= _) _ _ s
    refine wpAny_bind (W.done s _ _ hst fun s' mv => ?_)
    show wpAny _ A.in1 (ret Value.none) _ _ s'
    rw [List.take_of_length_le (by omega)] at hS
    exact wpAny_pure (hR s' (mv.mono up) (hS.at fun o e => mv.heap S o hSw e))
  | succ m ih =>
    intro i s hm hi hst hS hR
    have hlt : i < n := by omega
    refine codeAny_builtin F.entry_set_update_loop ?_
    rw [Around.under_plainId F.plain_set_update_loop _]
    show wpAny _ A.in1 (pyNext (.ref I) >>= _) _ _ s
    refine wpAny_bind (W.item i s _ _ hlt hst fun v s' hP hst' mv => ?_)
    obtain ⟨k, hk, hkv⟩ := hval i v hP
    have hS1 : SetD w s'.heap S (keysD (ks.take i)) := hS.at fun o e => mv.heap S o hSw e
    show wpAny _ A.in1 (holding [v] (setAdd S v) >>= _) _ _ s'
    refine wpAny_bind (wpAny_holding ?_)
    unfold setAdd
    refine wpAny_holding (wpAny_bind ((mixKind P w).pyHash (k := k) hkv ?_))
    have room : (keysD (ks.take i)).length + 1 < scanBound := by
      have a1 := keysD_len (ks.take i)
      have a2 : (ks.take i).length ≤ ks.length := by rw [List.length_take]; exact Nat.min_le_right ..
      omega
    refine setD_add (s := { s' with toks := s'.toks + 1 }) hS1 hkv room fun b h' sb hS2 => ?_
    have hS3 : SetD w h' S (keysD (ks.take (i + 1))) := by
      rw [List.take_add_one, hk, Option.toList_some, keysD_snoc]
      exact hS2
    have keepSt : St (i + 1) { s' with heap := h', toks := s'.toks + 1 } := W.frame _ s' _ _ hst' (Nat.le_succ _) fun c hc o e => by
      rw [sb.2 c (fun z : c = S => hSf (z ▸ hc))]
      exact e
    refine wpAny_pure ⟨plainId_quiet F.plain_set_update_loop _, ih (i + 1) _ (by omega) hlt keepSt hS3 fun s'' mv2 hS'' => hR s'' ?_ hS''⟩
    refine Moved.trans W.gtrans ((mv.mono up).then_heap (Nat.le_succ _) fun c o hc e => ?_) mv2
    rw [sb.2 c (fun z : c = S => hc (z ▸ List.mem_cons_self))]
    exact e
/-- the call of a built-in class, its __init__ by its code -/
theorem callType_raw {T newId initId : String} {args : List Value} {Q Q1 : Value → Shared → Prop} (ft : TypeCalled T newId initId) (hct : checkTypeCall T ⟨args, []⟩ = pure ())
    (hnew : codeAny (model P w) A.in1 (.call (.builtin newId) ⟨.type T :: args, []⟩) (wants Q1 E) s)
    (hnext : ∀ obj s1, Q1 obj s1 → s1.TypeIs obj T ∧ codeAny (model P w) A.in1 (.call (.builtin initId) ⟨obj :: args, []⟩) (wants (fun r s2 => r = .none ∧ Q obj s2) E) s1) :
    wpAny (model P w) A (call (.type T) args) Q E s := by
  obtain ⟨c, tl, hmro⟩ := ft.mro
  have hmade := ft.made
  have hsub := ft.sub
  refine wpAny_call (codeAny_of_tree (show wpAny _ _ (callAny (.type T) _) _ _ _ from ?_))
  refine wpAny_pure ⟨Code.quiet_builtin _ (by decide +kernel), codeAny_builtin F.entry_type_call ?_⟩
  rw [Around.under_plain (weight_type_call_type T args []) rfl]
  have n1 := ft.notType
  have n2 := ft.canCreate
  repeat (any_goals (first | assumption | wp_step))
  refine codeAny_mono hnew fun r s1 hr => ?_
  cases r with
  | error e => exact hr
  | ok fl =>
    cases fl with
    | ret obj =>
      obtain ⟨hT, hsi⟩ := hnext _ _ hr
      have n3 := ft.init.lookup
      have n4 := ft.init.bind obj
      repeat (any_goals (first | assumption | wp_step))
      refine codeAny_mono hsi fun r2 s2 hr2 => ?_
      cases r2 with
      | error e => exact hr2
      | ok fl2 =>
        cases fl2 with
        | ret r =>
          obtain ⟨rfl, hq⟩ := hr2
          repeat (any_goals (first | assumption | wp_step))
        | _ => exact hr2.elim
    | _ => exact hr.elim
/-- an empty set's object -/
abbrev set0 (w : World) : Obj := { cls := .type "set", dict := none, data := .set #[] 0 (.fresh 0 0 (!w.params.followText "set-order")) }
theorem setD_0 {h : Heap} (ho : h.get? a = some (set0 w)) : SetD w h a [] := by
  refine ⟨_, #[], 0, _, ho, ⟨rfl, rfl, rfl⟩, rfl, fun e he => by simp at he, List.Perm.refl _, List.nodup_nil, by decide, by rfl, List.Pairwise.nil, ?_⟩
  show _ ∨ (!w.params.followText "set-order") = true
  cases w.params.followText "set-order" with
  | false => exact .inr rfl
  | true => exact .inl rfl

theorem call_set_list {l : Addr} {items : Array Value} (ks : List Key) {Q : Value → Shared → Prop} (hh : A.handled = none) (hl : s.heap.IsList l items) (hsz : items.size = ks.length)
    (hit : ∀ (i : Nat) v, items[i]? = some v → ∃ k, ks[i]? = some k ∧ keyIs k v = true) (hb : ks.length + 1 < scanBound)
    (h : ∀ (h' : Heap) (tk : Nat), SetD w h' s.heap.objs.size (keysD ks) → (∀ b o, s.heap.get? b = some o → h'.get? b = some o) → Q (.ref s.heap.objs.size) { s with heap := h', toks := tk }) :
    wpAny (model P w) A (call (.type "set") [.ref l]) Q E s := by
  refine callType_raw (Q1 := fun obj s₁ => obj = .ref s.heap.objs.size ∧ s₁ = { s with heap := s.heap.push (set0 w) }) F.called_set (F.typeCall_set_1 (.ref l)) (code_set_led1 (.ref l) ⟨rfl, rfl⟩) fun obj s₁ hq => ?_
  obtain ⟨rfl, rfl⟩ := hq
  have hS : (s.heap.push (set0 w)).get? s.heap.objs.size = some (set0 w) := Heap.get?_push_size _ rfl
  have hT : Shared.TypeIs { s with heap := s.heap.push (set0 w) } (.ref s.heap.objs.size) "set" := ⟨_, hS, rfl⟩
  refine ⟨hT, codeAny_call_builtin F.called_set.init.plain F.entry_set_init (check_set_init_1 hT ?_)⟩
  obtain ⟨ol, hol, hcl, nl, hdl⟩ := hl
  obtain ⟨ocls, odict, odata, oslots⟩ := ol
  simp only at hcl hdl
  subst hcl hdl
  have hol' : (s.heap.push (set0 w)).get? l = some { cls := .type "list", dict := odict, data := .seq items nl, slots := oslots } := Heap.get?_push_of_some _ hol
  have hsls := F.sub_list_set
  have hslf := F.sub_list_frozenset
  have hne : (Value.type "list" == Value.type "dict") = false := by decide
  have hl1 : (s.heap.push (set0 w)).IsList l items := ⟨_, hol', rfl, nl, rfl⟩
  unfold Builtin.«set.__init__» noKeywords Builtin.Frozenset.updateFrom
  generalize hPI : pyIter = PI
  wp_walk
  subst hPI
  refine wpAny_pyIter_list hl1 (wpAny_bind (wpAny_runValue ?_))
  have hlS : l < s.heap.objs.size := Heap.lt_size hol
  have hh3 : A.in1.in1.in1.handled = none := by simp [hh]
  have hz1 : (s.heap.push (set0 w)).objs.size = s.heap.objs.size + 1 := Heap.size_push ..
  have lI : l ≠ (s.heap.push (set0 w)).objs.size := by rw [hz1]; exact Nat.ne_of_lt (Nat.lt_succ_of_lt hlS)
  have hSf : s.heap.objs.size ∉ [(s.heap.push (set0 w)).objs.size, l] := by
    rw [hz1]
    intro z
    rcases List.mem_cons.mp z with z | z
    · exact Nat.succ_ne_self _ z.symm
    · exact Nat.ne_of_gt hlS (List.mem_singleton.mp z)
  refine setD_loop ((Walks.list hh3 _ l lI items).toS) s.heap.objs.size hSf ks hsz hb hit (items.size - 0) 0 _ (by omega) (Nat.zero_le _)
    ⟨⟨_, Heap.get?_push_size _ rfl, rfl, rfl⟩, (hl1.push _)⟩ (setD_0 (Heap.get?_push_of_some _ hS)) ?_
  intro s' hm hS'
  obtain ⟨h', g2, d', tk', os'⟩ := s'
  obtain rfl : g2 = s.gens := hm.gens
  obtain rfl : d' = s.drawn := hm.drawn
  obtain rfl : os' = s.os := hm.os
  show wpAny _ _ _ _ _ _
  refine wpAny_pure ?_
  show wpAny _ _ (ret Value.none) _ _ _
  refine wpAny_pure ⟨rfl, h h' tk' hS' fun b o e => ?_⟩
  have hb0 : b < s.heap.objs.size := Heap.lt_size e
  refine hm.heap b o (fun z => ?_) (Heap.get?_push_of_some _ (Heap.get?_push_of_some _ e))
  rcases List.mem_cons.mp z with z | z
  · exact Nat.ne_of_lt hb0 z
  · have z := List.mem_singleton.mp z
    rw [hz1] at z
    exact absurd hb0 (by rw [z]; exact Nat.not_lt_of_le (Nat.le_succ _))

theorem call_set_tuple {l : Addr} {items : Array Value} (ks : List Key) {Q : Value → Shared → Prop} (hh : A.handled = none) (hl : s.heap.IsTuple l items) (hsz : items.size = ks.length)
    (hit : ∀ (i : Nat) v, items[i]? = some v → ∃ k, ks[i]? = some k ∧ keyIs k v = true) (hb : ks.length + 1 < scanBound)
    (h : ∀ (h' : Heap) (tk : Nat), SetD w h' s.heap.objs.size (keysD ks) → (∀ b o, s.heap.get? b = some o → h'.get? b = some o) → Q (.ref s.heap.objs.size) { s with heap := h', toks := tk }) :
    wpAny (model P w) A (call (.type "set") [.ref l]) Q E s := by
  refine callType_raw (Q1 := fun obj s₁ => obj = .ref s.heap.objs.size ∧ s₁ = { s with heap := s.heap.push (set0 w) }) F.called_set (F.typeCall_set_1 (.ref l)) (code_set_led1 (.ref l) ⟨rfl, rfl⟩) fun obj s₁ hq => ?_
  obtain ⟨rfl, rfl⟩ := hq
  have hS : (s.heap.push (set0 w)).get? s.heap.objs.size = some (set0 w) := Heap.get?_push_size _ rfl
  have hT : Shared.TypeIs { s with heap := s.heap.push (set0 w) } (.ref s.heap.objs.size) "set" := ⟨_, hS, rfl⟩
  refine ⟨hT, codeAny_call_builtin F.called_set.init.plain F.entry_set_init (check_set_init_1 hT ?_)⟩
  obtain ⟨ol, hol, hcl, nl, hdl⟩ := hl
  obtain ⟨ocls, odict, odata, oslots⟩ := ol
  simp only at hcl hdl
  subst hcl hdl
  have hol' : (s.heap.push (set0 w)).get? l = some { cls := .type "tuple", dict := odict, data := .seq items nl, slots := oslots } := Heap.get?_push_of_some _ hol
  have hsls := F.sub_tuple_set
  have hslf := F.sub_tuple_frozenset
  have hne : (Value.type "tuple" == Value.type "dict") = false := by decide
  have hl1 : (s.heap.push (set0 w)).IsTuple l items := ⟨_, hol', rfl, nl, rfl⟩
  unfold Builtin.«set.__init__» noKeywords Builtin.Frozenset.updateFrom
  generalize hPI : pyIter = PI
  wp_walk
  subst hPI
  refine wpAny_pyIter_tuple hl1 (wpAny_bind (wpAny_runValue ?_))
  have hlS : l < s.heap.objs.size := Heap.lt_size hol
  have hh3 : A.in1.in1.in1.handled = none := by simp [hh]
  have hz1 : (s.heap.push (set0 w)).objs.size = s.heap.objs.size + 1 := Heap.size_push ..
  have lI : l ≠ (s.heap.push (set0 w)).objs.size := by rw [hz1]; exact Nat.ne_of_lt (Nat.lt_succ_of_lt hlS)
  have hSf : s.heap.objs.size ∉ [(s.heap.push (set0 w)).objs.size, l] := by
    rw [hz1]
    intro z
    rcases List.mem_cons.mp z with z | z
    · exact Nat.succ_ne_self _ z.symm
    · exact Nat.ne_of_gt hlS (List.mem_singleton.mp z)
  refine setD_loop ((Walks.tuple hh3 _ l lI items).toS) s.heap.objs.size hSf ks hsz hb hit (items.size - 0) 0 _ (by omega) (Nat.zero_le _)
    ⟨⟨_, Heap.get?_push_size _ rfl, rfl, rfl⟩, (hl1.push _)⟩ (setD_0 (Heap.get?_push_of_some _ hS)) ?_
  intro s' hm hS'
  obtain ⟨h', g2, d', tk', os'⟩ := s'
  obtain rfl : g2 = s.gens := hm.gens
  obtain rfl : d' = s.drawn := hm.drawn
  obtain rfl : os' = s.os := hm.os
  show wpAny _ _ _ _ _ _
  refine wpAny_pure ?_
  show wpAny _ _ (ret Value.none) _ _ _
  refine wpAny_pure ⟨rfl, h h' tk' hS' fun b o e => ?_⟩
  have hb0 : b < s.heap.objs.size := Heap.lt_size e
  refine hm.heap b o (fun z => ?_) (Heap.get?_push_of_some _ (Heap.get?_push_of_some _ e))
  rcases List.mem_cons.mp z with z | z
  · exact Nat.ne_of_lt hb0 z
  · have z := List.mem_singleton.mp z
    rw [hz1] at z
    exact absurd hb0 (by rw [z]; exact Nat.not_lt_of_le (Nat.le_succ _))

end
end Se
/-! sets as the layer's things: set(xs), len, sorted -/
namespace Se
open PySem PySem.Spec PyProof.Rows L2
/-- the set that stands at a -/
def SetDO (w : World) (a : Addr) (ds : List Key) : HO := .ext fun h => SetD w h a ds
section
variable {X : Cx} {pins : List (Addr × Obj)} {σ : L2.St} {H : Hp} {s : Shared} {a : Addr} {ds : List Key}
theorem setD_new {P : Program} {w : World} {h : Heap} (R : SetD w h a ds) : ObjOk P w H h a (SetDO w a ds) := by
  have ⟨o, _, _, _, ho, _⟩ := R
  exact ⟨R, ⟨o, ho⟩, fun h1 h2 p k => p.at k⟩
theorem setD_get (I : Inv X pins σ H s) (ha : H a = some (SetDO X.w a ds)) : SetD X.w s.heap a ds := (I.hok a _ ha).1
theorem keys_at {ks : List Key} {its : List Value} (r : Vals (ks.map kV) its) : its.toArray.size = ks.length ∧ ∀ (i : Nat) v, its.toArray[i]? = some v → ∃ k, ks[i]? = some k ∧ keyIs k v = true := by
  have hl := r.length
  rw [List.length_map] at hl
  refine ⟨by rw [List.size_toArray, hl], fun i v hv => ?_⟩
  have hv' : its[i]? = some v := by simpa using hv
  have hi : i < ks.length := by rw [hl]; exact (List.getElem?_eq_some_iff.mp hv').1
  have hk : ks[i]? = some ks[i] := List.getElem?_eq_getElem hi
  obtain ⟨u, hu, ru⟩ := r.get (i := i) (x := kV ks[i]) (by rw [List.getElem?_map, hk]; rfl)
  rw [hv'] at hu
  cases hu
  exact ⟨_, hk, keyIs_rel ru⟩
/-- set(xs) -/
def rSetD (K : PySem.W.Frag) (w : World) : List V → Hp → VK → Prop := fun xs H Q => ∃ (l : Addr) (ks : List Key), xs = [V.ref l] ∧ (SqL K H l (ks.map kV) ∨ SqT K H l (ks.map kV)) ∧ ks.length ≤ 1000 ∧
  ∀ p, H p = none → Q (.ref p) (upd H p (SetDO w p (keysD ks)))
theorem cr_setD (hc : X.calm = true) : CallR X (.type "set") (rSetD X.K X.w) := by
  intro pins s σ H xs us Q I r h
  obtain ⟨l, ks, rfl, hs, hl, q⟩ := h
  have eu := Vals.ref1 r
  subst eu
  have room : ks.length + 1 < scanBound := Nat.lt_of_le_of_lt (Nat.succ_le_succ hl) (by decide)
  have fin : ∀ (h' : Heap) (tk : Nat), SetD X.w h' s.heap.objs.size (keysD ks) → (∀ b o, s.heap.get? b = some o → h'.get? b = some o) → EP X pins σ Q (.ref s.heap.objs.size) { s with heap := h', toks := tk } := fun h' tk R k =>
    ⟨.ref _, upd H s.heap.objs.size (SetDO X.w s.heap.objs.size (keysD ks)), I.laid (t' := tk) k (Nat.le_refl _) (setD_new R), rfl, q _ (I.hok.fresh (Nat.le_refl _))⟩
  rcases hs with hs | hs
  · obtain ⟨its, rv, p, _⟩ := I.list hs
    obtain ⟨h1, h2⟩ := keys_at rv
    exact call_set_list ks (I.ok.hd hc) p.isList h1 h2 room fin
  · obtain ⟨its, rv, p, _⟩ := I.tuple hs
    obtain ⟨h1, h2⟩ := keys_at rv
    exact call_set_tuple ks (I.ok.hd hc) p h1 h2 room fin
/-- len of it -/
def rLenD (w : World) : List V → Hp → VK → Prop := fun xs H Q => ∃ (a : Addr) (ds : List Key), xs = [V.ref a] ∧ H a = some (SetDO w a ds) ∧ ds.length ≤ 1000 ∧ Q (.int (ds.length : Nat)) H
theorem cr_lenD : CallR X (.builtin "len") (rLenD X.w) := by
  intro pins s σ H xs us Q I r h
  obtain ⟨a, ds, rfl, ha, hl, q⟩ := h
  have eu := Vals.ref1 r
  subst eu
  obtain ⟨o, es, ep, t, ho, hex, hd, g, pm, nd, hb, hf, _⟩ := setD_get I ha
  have hn : es.size = ds.length := by
    have := pm.length_eq
    simpa using this
  refine call_len_set ho hex hd hf (by rw [hn]; omega) ⟨.int (ds.length : Nat), H, I.tok _, ⟨_, by rw [hn]⟩, q⟩
end

/-! ### sorted -/
theorem slt_tri {a b : Str} (h : ¬ slt b a) (ne : a ≠ b) : slt a b := by
  refine Classical.byContradiction fun n => ne ?_
  have e := List.le_antisymm (show a.cps.toList ≤ b.cps.toList from h) (show b.cps.toList ≤ a.cps.toList from n)
  obtain ⟨⟨x⟩⟩ := a
  obtain ⟨⟨y⟩⟩ := b
  have e2 : x = y := e
  rw [e2]
theorem risingS_pw : ∀ (l : List Str) (p : Str), risingS p l = true → (p :: l).Pairwise fun a b => ¬ slt b a
  | [], p, _ => by simp
  | x :: r, p, h => by
    have h1 : (!ltCps x.cps.toList p.cps.toList && risingS x r) = true := h
    obtain ⟨h2, h3⟩ := Bool.and_eq_true_iff.mp h1
    have h4 : ¬ slt x p := by
      rw [ltCps_eq] at h2
      intro z
      rw [decide_eq_true (show x.cps.toList < p.cps.toList from z)] at h2
      cases h2
    have ih := risingS_pw r x h3
    obtain ⟨i1, i2⟩ := List.pairwise_cons.mp ih
    refine List.pairwise_cons.mpr ⟨fun y hy => ?_, ih⟩
    rcases List.mem_cons.mp hy with e | hy
    · rw [e]; exact h4
    · exact List.le_trans (show p.cps.toList ≤ x.cps.toList from h4) (show x.cps.toList ≤ y.cps.toList from i1 y hy)
theorem sortedS_pw {l : List Str} (h : sortedS l = true) (nd : l.Nodup) : l.Pairwise slt := by
  cases l with
  | nil => exact List.Pairwise.nil
  | cons x r =>
    have h1 := risingS_pw r x h
    refine (h1.and nd).imp fun {a b} z => slt_tri z.1 z.2
section
variable {P : Program} {w : World} {A : Around} {E : Value → Shared → Prop} {s : Shared} {a : Addr} {ds : List Key}
/-- sorted(a set): the members come into a list, which is sorted by what g says of list.sort -/
theorem sorted_setD {Q : Value → Shared → Prop} (R : SetD w s.heap a ds) (hh : A.handled = none) (h64 : ds.length < 64) {Pz : List V → Prop}
    (hsort : ∀ (s1 : Shared) (vs : List Value) (p : Addr) (Pf : PySem.Fin → Shared → Prop), (vs.map kOf).Perm ds → (∀ v ∈ vs, keyIs (kOf v) v = true) → vs.length < 64 → s1.heap.get? p = some (seqObj "list" vs.toArray 0) →
      (∀ (out : Array Value) (zs : List V), Vals zs out.toList → Pz zs → Pf (.done (.ret .none)) { s1 with heap := sortedHeap s1.heap p vs out }) → wpAny (model P w) A.in1.in1 (Builtin.«list.sort» ⟨[.ref p], []⟩) Pf E s1)
    (hQ : ∀ s' p (out : Array Value) (c : Nat) (zs : List V), (∀ b o, s.heap.get? b = some o → s'.heap.get? b = some o) → s'.gens = s.gens → s'.os = s.os → s.heap.objs.size ≤ p →
      s'.heap.get? p = some (seqObj "list" out c) → Vals zs out.toList → Pz zs → Q (.ref p) s') :
    wpAny (model P w) A (call (.builtin "sorted") [.ref a]) Q E s := by
  obtain ⟨o, es, ep, t, ho, hex, hd, g, pm, nd, hb, hf, hr, hl⟩ := R
  have hn : es.size = ds.length := by
    have := pm.length_eq
    simpa using this
  refine Calls.call_function_entry kind_sorted plain_sorted entry_sorted (args_sorted1 _) ?_
  unfold Builtin.«sorted»
  refine wpAny_bind (m := checkCount "sorted" 1 1 _) (wpAny_pure (wpAny_bind (collect_set (A := A.in1) hh ⟨o, ho, hex.1, hd⟩ hf hb hr hl fun s1 vs k1 hz g1 o1 pv => ?_)))
  have hvl : vs.length = ds.length := by
    have := pv.length_eq
    simp at this
    omega
  have pk : (vs.map kOf).Perm ds := by
    have q := pv.map kOf
    rw [List.map_map] at q
    exact q.trans pm
  have gv : ∀ v ∈ vs, keyIs (kOf v) v = true := fun v hv => by
    obtain ⟨e, he, q⟩ := List.mem_map.mp (pv.mem_iff.mp hv)
    rw [← q]
    exact (g e he).1
  refine wpAny_bind (wpAny_newList ?_ (by rw [hvl, sizeLine_eq]; omega))
  have hoL : (s1.heap.push (seqObj "list" vs.toArray 0)).get? s1.heap.objs.size = some (seqObj "list" vs.toArray 0) := Heap.get?_push_size _ rfl
  refine wpAny_bind (wpAny_holding (wpAny_call_entry slot_list_sort ⟨_, hoL, rfl⟩ entry_list_sort (hsort { s1 with heap := s1.heap.push (seqObj "list" vs.toArray 0) } vs _ _ pk gv (by omega) hoL fun out zs a1 a2 => ⟨_, rfl, ?_⟩) (args_list_sort _)))
  obtain ⟨c, hc⟩ := sortedHeap_at (vs := vs) (out := out) hoL
  refine wpAny_pure ⟨_, rfl, hQ _ s1.heap.objs.size out c zs (fun b u e => ?_) g1 o1 hz hc a1 a2⟩
  have q := k1 b u e
  have hlt := Heap.lt_size q
  show (sortedHeap (s1.heap.push (seqObj "list" vs.toArray 0)) s1.heap.objs.size vs out).get? b = some u
  rw [sortedHeap_old (Nat.ne_of_lt hlt) (by rw [Heap.size_push]; exact Nat.lt_succ_of_lt hlt)]
  exact Heap.get?_push_of_some _ q
end
section
variable {X : Cx}
theorem keys_ints : ∀ {vs : List Value}, (∀ v ∈ vs, keyIs (kOf v) v = true) → (∀ v ∈ vs, ∃ i, kOf v = .inl i) → ∃ ns : List Int, IntsAre vs ns ∧ vs.map kOf = ns.map Sum.inl
  | [], _, _ => ⟨[], .nil, rfl⟩
  | v :: vs, h, hi => by
    obtain ⟨ns, h1, h2⟩ := keys_ints (vs := vs) (fun u hu => h u (List.mem_cons_of_mem _ hu)) fun u hu => hi u (List.mem_cons_of_mem _ hu)
    obtain ⟨i, ei⟩ := hi v List.mem_cons_self
    have hv := h v List.mem_cons_self
    rw [ei] at hv
    obtain ⟨t, rfl⟩ := Value.isInt_shape (k := i) (v := v) hv
    exact ⟨i :: ns, .cons i t h1, by rw [List.map_cons, List.map_cons, h2]; rfl⟩
theorem keys_strs : ∀ {vs : List Value}, (∀ v ∈ vs, keyIs (kOf v) v = true) → (∀ v ∈ vs, ∃ x, kOf v = .inr x) → ∃ ns : List Str, StrsAre vs ns ∧ vs.map kOf = ns.map Sum.inr
  | [], _, _ => ⟨[], .nil, rfl⟩
  | v :: vs, h, hi => by
    obtain ⟨ns, h1, h2⟩ := keys_strs (vs := vs) (fun u hu => h u (List.mem_cons_of_mem _ hu)) fun u hu => hi u (List.mem_cons_of_mem _ hu)
    obtain ⟨x, ei⟩ := hi v List.mem_cons_self
    have hv := h v List.mem_cons_self
    rw [ei] at hv
    obtain ⟨t, rfl⟩ := Value.isStrOf_shape (x := x) (v := v) hv
    exact ⟨x :: ns, .cons x t h1, by rw [List.map_cons, List.map_cons, h2]; rfl⟩
theorem all_kind {α : Type} {f : α → Key} {vs : List Value} {ds : List Key} {l : List α} (pm : (vs.map kOf).Perm ds) (e : ∀ k ∈ ds, k ∈ l.map f) : ∀ v ∈ vs, ∃ i, kOf v = f i := fun v hv => by
  obtain ⟨i, _, q⟩ := List.mem_map.mp (e _ (pm.mem_iff.mp (List.mem_map.mpr ⟨v, hv, rfl⟩)))
  exact ⟨i, q.symm⟩
theorem map_inl_nodup {ns : List Int} (h : (ns.map (Sum.inl : Int → Key)).Nodup) : ns.Nodup := List.Pairwise.of_map _ (fun _ _ hne e => hne (congrArg _ e)) h
theorem map_inr_nodup {ns : List Str} (h : (ns.map (Sum.inr : Str → Key)).Nodup) : ns.Nodup := List.Pairwise.of_map _ (fun _ _ hne e => hne (congrArg _ e)) h
/-- sorted(a set of ints below 31) -/
def rSortDI (w : World) : List V → Hp → VK → Prop := fun xs H Q => ∃ (a : Addr) (ns : List Int), xs = [V.ref a] ∧ H a = some (SetDO w a (keysD (ns.map Sum.inl))) ∧ (∀ k ∈ ns, 0 ≤ k ∧ k < 31) ∧ ∀ p, H p = none → Q (.ref p) (upd H p (.lst ((sI ns).map V.int)))
/-- sorted(a set of the eleven words) -/
def rSortDS (w : World) : List V → Hp → VK → Prop := fun xs H Q => ∃ (a : Addr) (ns : List Str), xs = [V.ref a] ∧ H a = some (SetDO w a (keysD (ns.map Sum.inr))) ∧ (∀ k ∈ ns, k ∈ uS) ∧ ∀ p, H p = none → Q (.ref p) (upd H p (.lst ((sS ns).map V.str)))
theorem nodup_map {α β : Type} {f : α → β} (inj : ∀ a b, f a = f b → a = b) {l : List α} (h : l.Nodup) : (l.map f).Nodup := List.Pairwise.map f (fun a b hne e => hne (inj a b e)) h
theorem keysD_I_len {ns : List Int} (b : ∀ k ∈ ns, 0 ≤ k ∧ k < 31) : (keysD (ns.map Sum.inl)).length ≤ 31 := by
  have h := ((List.perm_ext_iff_of_nodup (keysD_nodup (ns.map Sum.inl)) (nodup_map (f := (Sum.inl : Int → Key)) (fun a b e => Sum.inl.inj e) (sI_nodup ns))).mpr fun k => ?_).length_eq
  · rw [h, List.length_map]; exact sI_len ns
  · rw [mem_keysD, List.mem_map, List.mem_map]
    exact ⟨fun ⟨i, hi, e⟩ => ⟨i, (mem_sI b).2 hi, e⟩, fun ⟨i, hi, e⟩ => ⟨i, (mem_sI b).1 hi, e⟩⟩
theorem keysD_S_len {ns : List Str} (b : ∀ k ∈ ns, k ∈ uS) : (keysD (ns.map Sum.inr)).length ≤ 11 := by
  have h := ((List.perm_ext_iff_of_nodup (keysD_nodup (ns.map Sum.inr)) (nodup_map (f := (Sum.inr : Str → Key)) (fun a b e => Sum.inr.inj e) (sS_nodup ns))).mpr fun k => ?_).length_eq
  · rw [h, List.length_map]; exact sS_len ns
  · rw [mem_keysD, List.mem_map, List.mem_map]
    exact ⟨fun ⟨i, hi, e⟩ => ⟨i, (mem_sS b).2 hi, e⟩, fun ⟨i, hi, e⟩ => ⟨i, (mem_sS b).1 hi, e⟩⟩
theorem fin_sorted {pins : List (Addr × Obj)} {σ : L2.St} {H : Hp} {s : Shared} {Q : VK} {zs : List V} {p : Addr} {out : Array Value} {c : Nat} {s' : Shared} (I : Inv X pins σ H s) (k : ∀ b o, s.heap.get? b = some o → s'.heap.get? b = some o) (g : s'.gens = s.gens)
    (o : s'.os = s.os) (hp : s.heap.objs.size ≤ p) (hg : s'.heap.get? p = some (seqObj "list" out c)) (rv : Vals zs out.toList) (hl : zs.length ≤ sizeLine) (q : Q (.ref p) (upd H p (.lst zs))) : EP X pins σ Q (.ref p) s' := by
  have hn : H p = none := I.hok.fresh hp
  refine ⟨.ref p, _, I.call' (ch := []) o (Un.laid k hp hn) (I.hok.laid k hp (show ObjOk X.prog X.w (upd H p (.lst zs)) s'.heap p (.lst zs) from ⟨hl, out.toList, c, rv, hg⟩)) (by rw [g]; exact I.bare) (fun _ z => nomatch z), rfl, q⟩
theorem vals_int {us : List Value} {ns : List Int} (h : IntsAre us ns) : Vals (ns.map V.int) us := vals_of_ints h
theorem cr_sortDI (hc : X.calm = true) : CallR X (.builtin "sorted") (rSortDI X.w) := by
  intro pins s σ H xs us Q I r h
  obtain ⟨a, ns, rfl, ha, b, q⟩ := h
  have eu := Vals.ref1 r
  subst eu
  refine sorted_setD (setD_get I ha) (I.ok.hd hc) (Nat.lt_of_le_of_lt (keysD_I_len b) (by decide)) (Pz := fun zs => zs = (sI ns).map V.int) (fun s1 vs p Pf pm gv hl ho hP => ?_) fun s' p out c zs k g o hp hg rv hz => ?_
  · obtain ⟨ms, h1, h2⟩ := keys_ints gv (all_kind pm fun k hk => mem_keysD.1 hk)
    refine list_sort_tree ho h1 hl fun out ns' i1 i2 i3 => hP out _ (vals_of_ints i1) (congrArg (List.map V.int) ?_)
    rw [h2] at pm
    have nd : ms.Nodup := map_inl_nodup (pm.nodup_iff.mpr (keysD_nodup _))
    refine sI_eq b (lt_of_le_nodup ns' i3 (i2.nodup_iff.mpr nd)) fun k => ?_
    rw [i2.mem_iff]
    have e1 : k ∈ ms ↔ (Sum.inl k : Key) ∈ ms.map Sum.inl := by simp
    have e2 : k ∈ ns ↔ (Sum.inl k : Key) ∈ ns.map Sum.inl := by simp
    rw [e1, e2, pm.mem_iff, mem_keysD]
  · rw [hz] at rv
    exact fin_sorted I k g o hp hg rv (sizeOf' (by rw [List.length_map]; exact Nat.le_trans (sI_len ns) (by decide))) (q p (I.hok.fresh hp))
theorem cr_sortDS (hc : X.calm = true) : CallR X (.builtin "sorted") (rSortDS X.w) := by
  intro pins s σ H xs us Q I r h
  obtain ⟨a, ns, rfl, ha, b, q⟩ := h
  have eu := Vals.ref1 r
  subst eu
  refine sorted_setD (setD_get I ha) (I.ok.hd hc) (Nat.lt_of_le_of_lt (keysD_S_len b) (by decide)) (Pz := fun zs => zs = (sS ns).map V.str) (fun s1 vs p Pf pm gv hl ho hP => ?_) fun s' p out c zs k g o hp hg rv hz => ?_
  · obtain ⟨ms, h1, h2⟩ := keys_strs gv (all_kind pm fun k hk => mem_keysD.1 hk)
    refine list_sort_treeK strKind_oneLt ho h1.keysOf (fun v1 v2 rest e => keyKind_strs (by rw [← e]; exact h1)) hl fun st' hp hs => ?_
    obtain ⟨ys, g1, g2, g3⟩ := sorted_out_str h1 hp hs
    refine hP _ _ (vals_of_strs g1) (congrArg (List.map V.str) ?_)
    rw [h2] at pm
    have nd : ms.Nodup := map_inr_nodup (pm.nodup_iff.mpr (keysD_nodup _))
    refine sS_eq b (sortedS_pw g3 (g2.nodup_iff.mpr nd)) fun k => ?_
    rw [g2.mem_iff]
    have e1 : k ∈ ms ↔ (Sum.inr k : Key) ∈ ms.map Sum.inr := by simp
    have e2 : k ∈ ns ↔ (Sum.inr k : Key) ∈ ns.map Sum.inr := by simp
    rw [e1, e2, pm.mem_iff, mem_keysD]
  · rw [hz] at rv
    exact fin_sorted I k g o hp hg rv (sizeOf' (by rw [List.length_map]; exact Nat.le_trans (sS_len ns) (by decide))) (q p (I.hok.fresh hp))
end
end Se
/-! xs.extend(ys), ys a list or a tuple -/
namespace Se
open PySem PySem.Spec PyProof.Rows L2
theorem meets_ext_tup (l : Addr) (xs : Array Value) (n : Nat) (b : Addr) (ys : Array Value) (m : Nat) (dc : Option Addr) (sl : Array (Option Value)) (hs0 : ¬(!xs.isEmpty && Builtin.List.listTooLong (xs.size + ys.size)) = true)
    (hs1 : xs.size ≤ sizeLine) (hs2 : (xs ++ ys).size ≤ sizeLine + 1) :
    Meets (Builtin.«list.extend» ⟨[.ref l, .ref b], []⟩) (fun _ R s => s.heap.get? l = some { cls := .type "list", dict := none, data := .seq xs n, slots := #[] } ∧
      s.heap.get? b = some { cls := .type "tuple", dict := dc, data := .seq ys m, slots := sl } ∧ R (.ok (.ret Value.none)) { s with heap := s.heap.update l (Obj.mapSeq fun x => x ++ ys), toks := s.toks }) :=
  .of_wp fun prog w A R s h => by
    obtain ⟨hp, g, d, tk, os⟩ := s
    obtain ⟨hl, hb, h⟩ := h
    have f1 := AutoSeq1.idx_int
    have f2 := sub_tuple_tuple
    have f3 := sub_list_list
    have f4 := sub_tuple_list
    have f5 := sub_list_tuple
    wp_walk using (wpAny_updateSeq hl rfl (hz := hs1) (_hz' := hs2)), AutoSeq1.wpAny_loadPart' hl, AutoSeq1.wpAny_loadPart' hb
    exact ⟨_, rfl, h⟩
/-- xs.extend(t), t a tuple; xs.extend(ys), ys a list -/
def rExtA (K : PySem.W.Frag) : V → List V → Hp → VK → Prop := fun x vs H Q => ∃ l b xs zs, x = .ref l ∧ vs = [.ref b] ∧ H l = some (.lst xs) ∧ (H b = some (.lst zs) ∨ SqT K H b zs) ∧ xs.length + zs.length ≤ 1000 ∧ Q .non (upd H l (.lst (xs ++ zs)))
theorem mt_extA {X : Cx} : MtR X "list.extend" (rExtA X.K) := by
  intro pins s σ H x vs v us Q I rx rv h
  obtain ⟨l, b, xs, zs, rfl, rfl, hH, hB, hz, q⟩ := h
  rcases hB with hB | hB
  · exact mt_extend pins s σ H (.ref l) [.ref b] v us Q I rx rv ⟨l, b, xs, zs, rfl, rfl, hH, hB, sizeOf' hz, q⟩
  · cases rx
    have eu := Vals.ref1 rv
    subst eu
    obtain ⟨z, its, n, r, hl, e⟩ := I.lstM hH
    obtain ⟨its2, r2, ⟨⟨oc, od, dt, osl⟩, e2, hc, m, hd⟩, z2⟩ := I.tuple hB
    dsimp only at hc hd
    subst hc hd
    have hl2 := r2.length
    have sz : its.toArray.size + its2.toArray.size ≤ 1000 := by rw [List.size_toArray, List.size_toArray]; omega
    have nolong : ¬ (!its.toArray.isEmpty && Builtin.List.listTooLong (its.toArray.size + its2.toArray.size)) = true := by
      rw [notLongL (sizeOf' sz), Bool.and_false]
      exact Bool.false_ne_true
    refine call_meets F.slot_list_extend ⟨_, e, rfl⟩ F.entry_list_extend (F.args_list_extend_2 _ _)
      (meets_ext_tup l its.toArray n b its2.toArray m od osl nolong (sizeOf' (by omega)) (Nat.le_succ_of_le (sizeOf' (by rw [Array.size_append]; exact sz)))) ⟨e, e2, ?_⟩
    refine ⟨.non, _, I.lset (its' := its ++ its2) hH e (by simp) (r.append r2) ?_, rfl, q⟩
    rw [List.length_append]
    exact sizeOf' hz
/-! ### joining of ways: what holds behind an expression is said -/
def tCut (t : TE) : TE := fun σ H Q => ∃ R : VK, t σ H R ∧ ∀ x H1, R x H1 → Q x H1
theorem pe_cut {X : Cx} {e : Expr} {t : TE} (h : PE X e t) : PE X e (tCut t) := ⟨fun pins s σ H Q I ⟨R, h1, h2⟩ => thn (h.run pins s σ H R I h1) fun u s' ⟨v, H', I', r, q⟩ => ⟨v, H', I', r, h2 v H' q⟩⟩
def tCutT (t : TT) : TT := fun σ H Q => ∃ R : Bool → Hp → Prop, t σ H R ∧ ∀ b H1, R b H1 → Q b H1
theorem pt_cut {X : Cx} {e : Expr} {t : TT} (h : PT X e t) : PT X e (tCutT t) := ⟨fun pins s σ H Q I ⟨R, h1, h2⟩ => thn (h.run pins s σ H R I h1) fun b s' ⟨H', I', q⟩ => ⟨H', I', h2 b H' q⟩⟩
def tCutS (t : TS) : TS := fun D σ H => ∃ R : L2.St → Hp → Prop, t { D with nx := R } σ H ∧ ∀ σ' H1, R σ' H1 → D.nx σ' H1
theorem ps_cut {X : Cx} {e : Stmt} {t : TS} (h : PS X e t) : PS X e (tCutS t) := ⟨fun pins s σ H D I ⟨R, h1, h2⟩ => thn (h.run pins s σ H { D with nx := R } I h1) fun f s' q => by
  cases f with
  | next => obtain ⟨σ', H', I', q'⟩ := q; exact ⟨σ', H', I', h2 σ' H' q'⟩
  | brk => exact q
  | cont => exact q
  | ret u => exact q⟩
end Se
namespace Se
open PySem PySem.Spec PyProof.Rows L2
section
variable {P : Program} {w : World} {K : PySem.W.Frag} {mg : Str → Option Value} {base : Heap} {CC CD CW CG aR aW : Addr}
/-! ### check_heading, check_number, check_rule, check_way -/
theorem sc_check_heading : FnScope ["value"] ["value"] (defScope s_check_heading) := C8.fnScope_by (by decide +kernel)
def sp_check_heading : Sp := fun vs H Q _ => ∃ x : Str, vs = [.str x] ∧ x ∈ uS ∧ ∀ H', Sm H H' → Q .non H'
theorem ok_check_heading (T : Tx K mg CC CD CW CG aR aW) : C8.Cal P w K mg base 2 "check_heading" sp_check_heading [] := by
  refine cal_of T.d_check_heading (fun _ _ _ _ _ _ us hl => match us, hl with | [_], _ => rfl) sc_check_heading (fun vs H Q E h => ?_) (fun f cdv A outer s H vs Q E hr h => ?_)
  · obtain ⟨x, rfl, _⟩ := h; rfl
  · obtain ⟨x, rfl, hx, q⟩ := h
    refine ⟨_, pss_one (ps_if (pt_not (pt_c (ok_is_word T) hr (by decide) (by rfl) (pa_cons (pv 0) pa_nil))) pss_never pss_nil), ?_⟩
    refine ⟨_, rfl, x, rfl, .inl hx, fun H' s' => ⟨_, rfl, ?_⟩⟩
    rw [decide_eq_true hx]
    exact iteF (q H' s')
theorem sc_check_number : FnScope ["value", "smallest", "largest"] ["value", "smallest", "largest"] (defScope s_check_number) := C8.fnScope_by (by decide +kernel)
def sp_check_number : Sp := fun vs H Q _ => ∃ v lo hi : Int, vs = [.int v, .int lo, .int hi] ∧ (lo ≤ v ∧ v ≤ hi) ∧ Q .non H
theorem ok_check_number (T : Tx K mg CC CD CW CG aR aW) : C8.Cal P w K mg base 2 "check_number" sp_check_number [] := by
  refine cal_of T.d_check_number (fun _ _ _ _ _ _ us hl => match us, hl with | [_, _, _], _ => rfl) sc_check_number (fun vs H Q E h => ?_) (fun f cdv A outer s H vs Q E hr h => ?_)
  · obtain ⟨v, lo, hi, rfl, _⟩ := h; rfl
  · obtain ⟨v, lo, hi, rfl, hb, q⟩ := h
    refine ⟨_, pss_one (ps_if (pt_not (pt_c (ok_is_number T) hr (by decide) (by rfl) (pa_cons (pv 0) (pa_cons (pv 1) (pa_cons (pv 2) pa_nil))))) pss_never pss_nil), ?_⟩
    refine ⟨_, rfl, _, rfl, _, rfl, v, lo, hi, rfl, _, rfl, ?_⟩
    rw [decide_eq_true hb]
    exact iteF q
theorem sc_check_rule : FnScope ["rule"] ["rule"] (defScope s_check_rule) := C8.fnScope_by (by decide +kernel)
def sp_check_rule : Sp := fun vs H Q _ => ∃ r : Rl, vs = [.str r.str] ∧ Q .non H
theorem rule_in (r : Rl) : inV (.str r.str) [.str "all", .str "half", .str "leaf"] = true := by cases r <;> decide +kernel
theorem ok_check_rule (T : Tx K mg CC CD CW CG aR aW) : C8.Cal P w K mg base 1 "check_rule" sp_check_rule [] := by
  refine cal_of T.d_check_rule (fun _ _ _ _ _ _ us hl => match us, hl with | [_], _ => rfl) sc_check_rule (fun vs H Q E h => ?_) (fun f cdv A outer s H vs Q E hr h => ?_)
  · obtain ⟨x, rfl, _⟩ := h; rfl
  · obtain ⟨r, rfl, q⟩ := h
    refine ⟨_, pss_one (ps_if (pt_cmpR op_notIn_seq (pv 0) (C8.pe_gc (by rfl) T.c_RULES) (by rfl)) pss_never pss_nil), ?_⟩
    refine ⟨_, rfl, aR, _, rfl, .inr (T.tR H), rfl, rfl, _, rfl, ?_⟩
    rw [rule_in r]
    exact iteF q
theorem sc_check_way : FnScope ["way"] ["way"] (defScope s_check_way) := C8.fnScope_by (by decide +kernel)
def sp_check_way : Sp := fun vs H Q _ => ∃ r : Wy, vs = [.str r.str] ∧ Q .non H
theorem way_in (r : Wy) : inV (.str r.str) [.str "broad", .str "deep", .str "straight"] = true := by cases r <;> decide +kernel
theorem ok_check_way (T : Tx K mg CC CD CW CG aR aW) : C8.Cal P w K mg base 1 "check_way" sp_check_way [] := by
  refine cal_of T.d_check_way (fun _ _ _ _ _ _ us hl => match us, hl with | [_], _ => rfl) sc_check_way (fun vs H Q E h => ?_) (fun f cdv A outer s H vs Q E hr h => ?_)
  · obtain ⟨x, rfl, _⟩ := h; rfl
  · obtain ⟨r, rfl, q⟩ := h
    refine ⟨_, pss_one (ps_if (pt_cmpR op_notIn_seq (pv 0) (C8.pe_gc (by rfl) T.c_WAYS) (by rfl)) pss_never pss_nil), ?_⟩
    refine ⟨_, rfl, aW, _, rfl, .inr (T.tW H), rfl, rfl, _, rfl, ?_⟩
    rw [way_in r]
    exact iteF q
/-! ### are_books -/
theorem sc_are_books : FnScope ["row", "book", "one", "other"] ["row"] (defScope s_are_books) := C8.fnScope_by (by decide +kernel)
def sp_are_booksK (K : PySem.W.Frag) : Sp := fun vs H Q _ => ∃ (a : Addr) (ns : List Int), vs = [.ref a] ∧ SqT K H a (ns.map V.int) ∧ ns.length ≤ 4 ∧ (∀ b ∈ ns, 1 ≤ b ∧ b ≤ 30) ∧ ns.Pairwise (· < ·) ∧ ∀ H', Sm H H' → Q (.bl true) H'
theorem all_true {n : Nat} : (List.replicate n true).all id = true := by
  rw [List.all_eq_true]
  intro b hb
  exact (List.mem_replicate.mp hb).2
theorem cut_tail (xs : List V) : cutV xs (some 1) none = xs.drop 1 := by
  unfold cutV
  rw [show HT.sIx xs.length 0 (some 1) = min 1 xs.length from HT.sIx_nat xs.length 0 1, HT.sIx_none]
  cases xs with
  | nil => rfl
  | cons x r =>
    rw [show min 1 (x :: r).length = 1 by rw [List.length_cons]; omega]
    show r.take (r.length + 1 - 1) = r
    rw [Nat.add_sub_cancel]
    exact List.take_length
theorem ok_are_books (T : Tx K mg CC CD CW CG aR aW) : C8.Cal P w K mg base 2 "are_books" (sp_are_booksK K) [] := by
  refine cal_of T.d_are_books (fun _ _ _ _ _ _ us hl => match us, hl with | [_], _ => rfl) sc_are_books (fun vs H Q E h => ?_) (fun f cdv A outer s H vs Q E hr h => ?_)
  · obtain ⟨a, ns, rfl, _⟩ := h; rfl
  · obtain ⟨a, ns, rfl, hS, hl, hb, hp, q⟩ := h
    refine ⟨_, pss_cons (ps_if (PW.pt (pw_or (pt_cmpR op_gt (pe_callB call_len (by rfl) T.b_len PySem.boot_len (pa_cons (pv 0) pa_nil)) (C8.pe_gc (by rfl) T.c_MAX_BOOKS) (nomark _))
        (pw_or1 (pt_not (pt_val (pe_callB (cr_all rfl) (by rfl) T.b_all (by decide +kernel) (pa_cons
          (pe_lc (own := [("book", 1)]) (g := gName 1) (tt := tYes) rfl sc_are_books.nd (pi_tup (pv 0)) (blkOk_by (own := [("book", 1)]) (N := ["row", "book", "one", "other"]) (sc := defScope s_are_books) (by decide +kernel))
            (fun _ _ _ _ _ => pg_name (i := 1) sc_are_books.nd rfl (Or.inl rfl)) (fun _ _ _ _ _ => pts_nil) (fun _ _ _ _ _ => C8.pe_c (ok_is_number T) hr (by decide) (by rfl) (pa_cons (pv 1) (pa_cons pe_int (pa_cons (C8.pe_gc (by rfl) T.c_MAX_BOOK) pa_nil))))) pa_nil)))))))
        (pss_one (ps_ret pe_bl)) pss_nil)
      (pss_one (ps_ret (pe_callB (cr_all rfl) (by rfl) T.b_all (by decide +kernel) (pa_cons
        (pe_lc (own := [("one", 2), ("other", 3)]) (g := gTup K 2 (gCons (gName 2) (gCons (gName 3) gNil))) (tt := tYes) rfl sc_are_books.nd (RZ.pi_zipA (by rfl) T.b_zip (pa_cons (pv 0) (pa_cons (pe_cut (pe_slice sl_tupA (pv 0) (po_some pe_int) po_none)) pa_nil)))
          (blkOk_by (own := [("one", 2), ("other", 3)]) (N := ["row", "book", "one", "other"]) (sc := defScope s_are_books) (by decide +kernel))
          (fun _ _ _ _ _ => pg_tup rfl (pgs_cons (pg_name (i := 2) sc_are_books.nd rfl (Or.inl rfl)) (pgs_cons (pg_name (i := 3) sc_are_books.nd rfl (Or.inl rfl)) pgs_nil))) (fun _ _ _ _ _ => pts_nil)
          (fun _ _ _ _ _ => pe_cmpR op_lt (pv 2) (pv 3) (nomark _))) pa_nil)))), ?_⟩
    refine ⟨_, rfl, _, (ns.map V.int).length, rfl, .inr ⟨_, hS, rfl⟩, _, _, rfl, rfl, _, rfl, ?_⟩
    rw [decide_eq_false (show ¬ (6 : Int) < (((ns.map V.int).length : Nat) : Int) by rw [List.length_map]; omega)]
    refine iteF ⟨_, rfl, a, rfl, ⟨_, hS⟩, fun D hD => lc_it (walk_tup (xs := ns.map V.int)) (fun i H' => Sm H H' ∧ H' D = some (.lst ((List.replicate i true).map V.bl))) ⟨Sm.new hD, upd_same⟩ (fun i H' _ ⟨s1, _⟩ => s1.tup hS)
      (fun i v H1 H2 hi ⟨s1, e1⟩ hy => ?_) (fun H1 ⟨s1, e1⟩ => ?_)⟩
    · obtain ⟨rfl, ev⟩ := hy
      rw [List.getElem?_map] at ev
      obtain ⟨b, eb, rfl⟩ := Option.map_eq_some_iff.mp ev
      have hbb := hb b (List.mem_of_getElem? eb)
      refine ⟨rfl, yes_if ⟨_, rfl, b, 1, 999, rfl, _, e1, sizeLt (by rw [List.length_map, List.length_replicate]; rw [List.length_map] at hi; omega), s1.wr hD, ?_⟩⟩
      rw [upd_same, decide_eq_true (show (1 : Int) ≤ b ∧ b ≤ 999 by omega), List.replicate_succ', List.map_append]
      rfl
    · refine ⟨D, _, rfl, SqL.of e1, _, rfl, ?_⟩
      rw [all_true]
      have hS1 := s1.tup hS
      -- zip(row, row[1:])
      refine iteF ⟨_, rfl, fun x H2 => ∃ b, x = .ref b ∧ Sm H1 H2 ∧ SqT K H2 b ((ns.map V.int).drop 1), ⟨_, rfl, _, rfl, a, ns.map V.int, rfl, hS1, fun hw => ⟨a, rfl, Sm.refl _, ?_⟩, fun _ p hp => ⟨p, rfl, Sm.new hp, ?_⟩⟩, ?_⟩
      · have e0 : ns = [] := by
          have h0 := hw.1
          rw [show HT.sIx (ns.map V.int).length 0 (some 1) = min 1 (ns.map V.int).length from HT.sIx_nat _ 0 1, List.length_map] at h0
          exact List.length_eq_zero_iff.mp (by omega)
        subst e0
        exact hS1
      · rw [cut_tail]
        exact SqT.of upd_same
      · rintro x H2 ⟨b, rfl, s2, hB⟩
        have hA : SqT K H2 a (ns.map V.int) := s2.tup hS1
        have s02 := s1.trans s2
        refine ⟨a, b, ns.map V.int, (ns.map V.int).drop 1, rfl, .inr ⟨hA, hB, fun D2 hD2 => lc_it (walk_zipT rfl) (fun i H' => Sm H2 H' ∧ H' D2 = some (.lst ((List.replicate i true).map V.bl))) ⟨Sm.new hD2, upd_same⟩
          (fun i H' _ ⟨s3, _⟩ => ⟨s3.tup hA, s3.tup hB⟩) (fun i v H3 H4 hi ⟨s3, e3⟩ hy => ?_) (fun H3 ⟨s3, e3⟩ => ?_)⟩⟩
        · obtain ⟨t, x, y, rfl, nt, rfl, ex, ey⟩ := hy
          dsimp only at ex ey
          rw [List.getElem?_drop, List.getElem?_map] at ey
          rw [List.getElem?_map] at ex
          obtain ⟨i1, e1', rfl⟩ := Option.map_eq_some_iff.mp ex
          obtain ⟨i2, e2', rfl⟩ := Option.map_eq_some_iff.mp ey
          have hlt : i1 < i2 := by
            obtain ⟨l1, g1⟩ := List.getElem?_eq_some_iff.mp e1'
            obtain ⟨l2, g2⟩ := List.getElem?_eq_some_iff.mp e2'
            rw [← g1, ← g2]
            exact List.pairwise_iff_getElem.mp hp i (1 + i) l1 l2 (by omega)
          have nD : D2 ≠ t := fun z => by rw [z, nt] at e3; cases e3
          refine ⟨t, _, rfl, SqT.of upd_same, rfl, _, _, rfl, _, _, rfl, rfl, rfl, yes_if ⟨_, rfl, _, rfl, i1, i2, rfl, rfl, _, (by rw [upd_ne nD]; exact e3), sizeLt (by rw [List.length_map, List.length_replicate]; simp at hi; omega), (s3.new' nt).wr hD2, ?_⟩⟩
          rw [upd_same]
          dsimp only
          rw [decide_eq_true hlt, List.replicate_succ', List.map_append]
          rfl
        · refine ⟨D2, _, rfl, SqL.of e3, ?_⟩
          rw [all_true]
          exact q H3 (s02.trans s3)
end
end Se
namespace Se
open PySem PySem.Spec PyProof.Rows L2
section
variable {P : Program} {w : World} {K : PySem.W.Frag} {mg : Str → Option Value} {base : Heap} {CC CD CW CG aR aW : Addr}
/-! ### are_others -/
theorem sc_are_others : FnScope ["heading", "row", "other"] ["heading", "row"] (defScope s_are_others) := C8.fnScope_by (by decide +kernel)
def sp_are_others (K : PySem.W.Frag) : Sp := fun vs H Q _ => ∃ (x : Str) (a : Addr) (ns : List Str), vs = [.str x, .ref a] ∧ SqT K H a (ns.map V.str) ∧ ns.length ≤ 4 ∧ ns.Nodup ∧ (∀ b ∈ ns, b ∈ uS ∧ b ≠ x) ∧ ∀ H', Sm H H' → Q (.bl true) H'
theorem ok_are_others (T : Tx K mg CC CD CW CG aR aW) : C8.Cal P w K mg base 2 "are_others" (sp_are_others K) [] := by
  refine cal_of T.d_are_others (fun _ _ _ _ _ _ us hl => match us, hl with | [_, _], _ => rfl) sc_are_others (fun vs H Q E h => ?_) (fun f cdv A outer s H vs Q E hr h => ?_)
  · obtain ⟨x, a, ns, rfl, _⟩ := h; rfl
  · obtain ⟨x, a, ns, rfl, hS, hl, hn, hb, q⟩ := h
    refine ⟨_, pss_cons (ps_if (PW.pt (pw_or (pt_cmpR op_gt (pe_callB call_len (by rfl) T.b_len PySem.boot_len (pa_cons (pv 1) pa_nil)) (C8.pe_gc (by rfl) T.c_MAX_ALSO) (nomark _))
        (pw_or1 (pt_cmpR op_lt (pe_callB cr_lenD (by rfl) T.b_len PySem.boot_len (pa_cons (pe_callTy (cr_setD rfl) (by rfl) T.b_set (by decide +kernel) (pa_cons (pv 1) pa_nil)) pa_nil)) (pe_callB call_len (by rfl) T.b_len PySem.boot_len (pa_cons (pv 1) pa_nil)) (nomark _)))))
        (pss_one (ps_ret pe_bl)) pss_nil)
      (pss_one (ps_ret (pe_callB (cr_all rfl) (by rfl) T.b_all (by decide +kernel) (pa_cons
        (pe_lc (own := [("other", 2)]) (g := gName 2) (tt := tYes) rfl sc_are_others.nd (pi_tup (pv 1)) (blkOk_by (own := [("other", 2)]) (N := ["heading", "row", "other"]) (sc := defScope s_are_others) (by decide +kernel))
          (fun _ _ _ _ _ => pg_name (i := 2) sc_are_others.nd rfl (Or.inl rfl)) (fun _ _ _ _ _ => pts_nil)
          (fun _ _ _ _ _ => pe_and (C8.pe_c (ok_is_word T) hr (by decide) (by rfl) (pa_cons (pv 2) pa_nil)) (pe_one (pe_cmpR op_ne (pv 2) (pv 0) (nomark _))))) pa_nil)))), ?_⟩
    refine ⟨_, rfl, _, (ns.map V.str).length, rfl, .inr ⟨_, hS, rfl⟩, _, _, rfl, rfl, _, rfl, ?_⟩
    rw [decide_eq_false (show ¬ (4 : Int) < (((ns.map V.str).length : Nat) : Int) by rw [List.length_map]; omega)]
    have ek : ns.map V.str = (ns.map (Sum.inr : Str → Key)).map kV := by rw [List.map_map]; rfl
    refine iteF ⟨_, rfl, a, ns.map Sum.inr, rfl, .inr (ek ▸ hS), by rw [List.length_map]; omega, fun p hp => ?_⟩
    have s1 : Sm H (upd H p (SetDO w p (keysD (ns.map Sum.inr)))) := Sm.new hp
    have el : (keysD (ns.map (Sum.inr : Str → Key))).length = ns.length := by
      rw [keysD_len_eq (nodup_map (fun a b e => Sum.inr.inj e) hn), List.length_map]
    refine ⟨p, _, rfl, upd_same, by omega, _, rfl, _, (ns.map V.str).length, rfl, .inr ⟨_, s1.tup hS, rfl⟩, _, _, rfl, rfl, _, rfl, ?_⟩
    rw [decide_eq_false (show ¬ (((keysD (ns.map (Sum.inr : Str → Key))).length : Nat) : Int) < (((ns.map V.str).length : Nat) : Int) by rw [List.length_map, el]; omega)]
    refine iteF ⟨_, rfl, a, rfl, ⟨_, s1.tup hS⟩, fun D hD => lc_it (walk_tup (xs := ns.map V.str)) (fun i H' => Sm H H' ∧ H' D = some (.lst ((List.replicate i true).map V.bl))) ⟨s1.new' hD, upd_same⟩ (fun i H' _ ⟨s1, _⟩ => s1.tup hS)
      (fun i v H1 H2 hi ⟨s2, e1⟩ hy => ?_) (fun H1 ⟨s2, e1⟩ => ?_)⟩
    · obtain ⟨rfl, ev⟩ := hy
      rw [List.getElem?_map] at ev
      obtain ⟨b, eb, rfl⟩ := Option.map_eq_some_iff.mp ev
      obtain ⟨hu, hne⟩ := hb b (List.mem_of_getElem? eb)
      have hD0 : H D = none := s1.free hD
      refine ⟨rfl, yes_if ⟨_, rfl, b, rfl, .inl hu, fun H3 s3 => ⟨_, rfl, ?_⟩⟩⟩
      rw [decide_eq_true hu]
      refine iteT ⟨_, rfl, _, rfl, rfl, _, s3 D _ e1, sizeLt (by rw [List.length_map, List.length_replicate]; rw [List.length_map] at hi; omega), (s2.trans s3).wr hD0, ?_⟩
      rw [upd_same, decide_eq_false (show ¬ V.str b = V.str x from fun z => hne (V.str.inj z)), List.replicate_succ', List.map_append]
      rfl
    · refine ⟨D, _, rfl, SqL.of e1, ?_⟩
      rw [all_true]
      exact q H1 s2
end
end Se
/-! == and != of data: rows of ints, of words, rows of rows -/
namespace Se
open PySem PySem.Spec PyProof.Rows L2
/-- a type whose values are data, told apart by == -/
structure Emb (α : Type) [DecidableEq α] (k : Nat) where
  d : α → PyData
  ok : α → Prop
  eq : ∀ x y, PyData.eqv (d x) (d y) = decide (x = y)
  lay : ∀ x, ok x → PyData.canLay0 (d x) = true
  dp : ∀ x, (d x).depth ≤ k
theorem eqvAll_emb {α : Type} [DecidableEq α] {k : Nat} (E : Emb α k) : ∀ xs ys : List α, PyData.eqvAll (xs.map E.d) (ys.map E.d) = decide (xs = ys)
  | [], [] => by simp [PyData.eqvAll]
  | [], _ :: _ => by simp [PyData.eqvAll]
  | _ :: _, [] => by simp [PyData.eqvAll]
  | x :: xs, y :: ys => by
    rw [List.map_cons, List.map_cons, PyData.eqvAll, E.eq, eqvAll_emb E xs ys]
    simp only [List.cons.injEq, Bool.decide_and]
theorem layAll_emb {α : Type} [DecidableEq α] {k : Nat} (E : Emb α k) : ∀ xs : List α, (∀ x ∈ xs, E.ok x) → PyData.canLayAll0 (xs.map E.d) = true
  | [], _ => rfl
  | x :: xs, h => by
    rw [List.map_cons, PyData.canLayAll0, E.lay x (h x List.mem_cons_self), layAll_emb E xs fun y hy => h y (List.mem_cons_of_mem _ hy)]
    rfl
theorem depthAll_emb {α : Type} [DecidableEq α] {k : Nat} (E : Emb α k) : ∀ xs : List α, PyData.depthAll (xs.map E.d) ≤ k
  | [] => Nat.zero_le _
  | x :: xs => by
    rw [List.map_cons, PyData.depthAll]
    exact Nat.max_le.mpr ⟨E.dp x, depthAll_emb E xs⟩
def eInt : Emb Int 2 where
  d := .int
  ok := fun _ => True
  eq := fun x y => by rw [PyData.eqv, Bool.beq_eq_decide_eq]
  lay := fun _ _ => rfl
  dp := fun _ => by simp [PyData.depth]
def eStr : Emb Str 2 where
  d := .str
  ok := fun x => PyData.strOk x = true
  eq := fun x y => by rw [PyData.eqv, Bool.beq_eq_decide_eq]
  lay := fun _ h => by simpa [PyData.canLay0] using h
  dp := fun _ => by simp [PyData.depth]
def eOpt : Emb (Option Nat) 2 where
  d := fun | none => .none | some n => .int (n : Int)
  ok := fun _ => True
  eq := fun x y => by cases x <;> cases y <;> simp [PyData.eqv, Bool.beq_eq_decide_eq] <;> omega
  lay := fun x _ => by cases x <;> rfl
  dp := fun x => by cases x <;> simp [PyData.depth]
def eList {α : Type} [DecidableEq α] {k : Nat} (E : Emb α k) : Emb (List α) (k + 1) where
  d := fun xs => .list (xs.map E.d)
  ok := fun xs => ∀ x ∈ xs, E.ok x
  eq := fun x y => by rw [PyData.eqv]; exact eqvAll_emb E x y
  lay := fun x h => by rw [PyData.canLay0]; exact layAll_emb E x h
  dp := fun x => by
    have := depthAll_emb E x
    simp only [PyData.depth]
    omega
def eTup {α : Type} [DecidableEq α] {k : Nat} (E : Emb α k) : Emb (List α) (k + 1) where
  d := fun xs => .tuple (xs.map E.d)
  ok := fun xs => ∀ x ∈ xs, E.ok x
  eq := fun x y => by rw [PyData.eqv]; exact eqvAll_emb E x y
  lay := fun x h => by rw [PyData.canLay0]; exact layAll_emb E x h
  dp := fun x => by
    have := depthAll_emb E x
    simp only [PyData.depth]
    omega
theorem strOk_uS : ∀ x ∈ uS, PyData.strOk x = true := by decide +kernel
theorem strOk_empty : PyData.strOk Str.empty = true := by decide +kernel
section
variable {K : PySem.W.Frag} {H : Hp} {x y : V} {a : Addr} {Q : VK}
theorem eqD_of {α : Type} [DecidableEq α] {k : Nat} (E : Emb α k) {u v : α} (hk : k ≤ 64) (h1 : Dp K H x (E.d u)) (h2 : Dp K H y (E.d v)) (o1 : E.ok u) (o2 : E.ok v) (q : Q (.bl (decide (u = v))) H) : rEqD K x y H Q := by
  refine ⟨_, _, h1, h2, ?_, ?_, by rw [E.eq]; exact q⟩
  · rw [SeqAt.shaped, E.lay _ o1, decide_eq_true (Nat.le_trans (E.dp u) hk)]; rfl
  · rw [SeqAt.shaped, E.lay _ o2, decide_eq_true (Nat.le_trans (E.dp v) hk)]; rfl
theorem neD_of {α : Type} [DecidableEq α] {k : Nat} (E : Emb α k) {u v : α} (hk : k ≤ 64) (h1 : Dp K H x (E.d u)) (h2 : Dp K H y (E.d v)) (o1 : E.ok u) (o2 : E.ok v) (q : Q (.bl (!decide (u = v))) H) : rNeD K x y H Q := by
  refine ⟨_, _, h1, h2, ?_, ?_, by rw [E.eq]; exact q⟩
  · rw [SeqAt.shaped, E.lay _ o1, decide_eq_true (Nat.le_trans (E.dp u) hk)]; rfl
  · rw [SeqAt.shaped, E.lay _ o2, decide_eq_true (Nat.le_trans (E.dp v) hk)]; rfl
theorem dpAll_ints : ∀ ns : List Int, DpAll K H (ns.map V.int) (ns.map eInt.d)
  | [] => .nil
  | n :: ns => .cons (.int n) (dpAll_ints ns)
theorem dpAll_strs : ∀ ns : List Str, DpAll K H (ns.map V.str) (ns.map eStr.d)
  | [] => .nil
  | n :: ns => .cons (.str n) (dpAll_strs ns)
theorem dpAll_opts : ∀ ns : List (Option Nat), DpAll K H (ns.map optV) (ns.map eOpt.d)
  | [] => .nil
  | none :: ns => .cons .non (dpAll_opts ns)
  | some n :: ns => .cons (.int _) (dpAll_opts ns)
theorem dp_intsL {ns : List Int} (h : SqL K H a (ns.map V.int)) : Dp K H (.ref a) ((eList eInt).d ns) := .lst h (dpAll_ints ns)
theorem dp_intsT {ns : List Int} (h : SqT K H a (ns.map V.int)) : Dp K H (.ref a) ((eTup eInt).d ns) := .tup h (dpAll_ints ns)
theorem dp_strsL {ns : List Str} (h : SqL K H a (ns.map V.str)) : Dp K H (.ref a) ((eList eStr).d ns) := .lst h (dpAll_strs ns)
theorem dp_strsT {ns : List Str} (h : SqT K H a (ns.map V.str)) : Dp K H (.ref a) ((eTup eStr).d ns) := .tup h (dpAll_strs ns)
theorem dp_optsL {ns : List (Option Nat)} (h : SqL K H a (ns.map optV)) : Dp K H (.ref a) ((eList eOpt).d ns) := .lst h (dpAll_opts ns)
/-- a row of rows -/
theorem dpAll_each {α : Type} [DecidableEq α] {k : Nat} (E : Emb α k) : ∀ (xs : List V) (ys : List α), Each (fun x y => Dp K H x (E.d y)) xs ys → DpAll K H xs (ys.map E.d)
  | [], [], _ => .nil
  | [], _ :: _, h => by have := h.1; simp at this
  | _ :: _, [], h => by have := h.1; simp at this
  | x :: xs, y :: ys, h => .cons (h.2 0 x y rfl rfl) (dpAll_each E xs ys ⟨by have := h.1; simpa using this, fun i a b ha hb => h.2 (i + 1) a b (by simpa using ha) (by simpa using hb)⟩)
theorem dp_eachL {α : Type} [DecidableEq α] {k : Nat} (E : Emb α k) {xs : List V} {ys : List α} (h : SqL K H a xs) (e : Each (fun x y => Dp K H x (E.d y)) xs ys) : Dp K H (.ref a) ((eList E).d ys) := .lst h (dpAll_each E xs ys e)
theorem dp_nilL {α : Type} [DecidableEq α] {k : Nat} (E : Emb α k) (h : H a = some (.lst [])) : Dp K H (.ref a) ((eList E).d []) := .lst (SqL.of h) .nil
theorem dp_nilT {α : Type} [DecidableEq α] {k : Nat} (E : Emb α k) (h : H a = some (.tup [])) : Dp K H (.ref a) ((eTup E).d []) := .tup (SqT.of h) .nil
end
end Se
namespace Se
open PySem PySem.Spec PyProof.Rows L2
section
variable {P : Program} {w : World} {K : PySem.W.Frag} {mg : Str → Option Value} {base : Heap} {CC CD CW CG aR aW : Addr}
/-! ### sorted(set(xs)) -/
theorem rd_sortS {H : Hp} {Q : VK} {x : V} {a : Addr} {ns : List Str} (ex : x = .ref a) (h : SqL K H a (ns.map V.str) ∨ SqT K H a (ns.map V.str)) (hl : ns.length ≤ 1000) (hu : ∀ k ∈ ns, k ∈ uS)
    (q : ∀ p H', Sm H H' → H p = none → H' p = some (.lst ((sS ns).map V.str)) → Q (.ref p) H') : rSetD K w [x] H (fun v H1 => rSortDS w [v] H1 Q) := by
  subst ex
  have ek : ns.map V.str = (ns.map (Sum.inr : Str → Key)).map kV := by rw [List.map_map]; rfl
  refine ⟨a, ns.map Sum.inr, rfl, ?_, by rw [List.length_map]; exact hl, fun p hp => ⟨p, ns, rfl, upd_same, hu, fun z hz => q z _ ((Sm.new hp).new' hz) ((Sm.new hp).free hz) upd_same⟩⟩
  rw [← ek]; exact h
theorem rd_sortI {H : Hp} {Q : VK} {x : V} {a : Addr} {ns : List Int} (ex : x = .ref a) (h : SqL K H a (ns.map V.int) ∨ SqT K H a (ns.map V.int)) (hl : ns.length ≤ 1000) (hu : ∀ k ∈ ns, 0 ≤ k ∧ k < 31)
    (q : ∀ p H', Sm H H' → H p = none → H' p = some (.lst ((sI ns).map V.int)) → Q (.ref p) H') : rSetD K w [x] H (fun v H1 => rSortDI w [v] H1 Q) := by
  subst ex
  have ek : ns.map V.int = (ns.map (Sum.inl : Int → Key)).map kV := by rw [List.map_map]; rfl
  refine ⟨a, ns.map Sum.inl, rfl, ?_, by rw [List.length_map]; exact hl, fun p hp => ⟨p, ns, rfl, upd_same, hu, fun z hz => q z _ ((Sm.new hp).new' hz) ((Sm.new hp).free hz) upd_same⟩⟩
  rw [← ek]; exact h
/-! ### Card.__init__ -/
theorem But.slt {a C dx : Addr} {vs : List (Option V)} (H : Hp) : But [a, dx] H (SlX.slH H a C dx vs) := fun b o e n => by
  rw [SlX.slH_ne (fun z => n (by rw [z]; exact List.mem_cons_self)) (fun z => n (by rw [z]; simp))]; exact e
theorem But.tupN {as : List Addr} {H H' : Hp} (s : But as H H') {f : Addr} {xs : List V} (h : SqT K H f xs) (n : ∀ a ∈ as, ∀ xs, H a ≠ some (.tup xs) ∧ ∀ o, H a ≠ some (.frz o (.tup xs))) : SqT K H' f xs := by
  rcases h with (h | ⟨o, h⟩) | h
  · exact .inl (.inl (s _ _ h fun m => (n _ m xs).1 h))
  · exact .inl (.inr ⟨o, s _ _ h fun m => (n _ m xs).2 o h⟩)
  · exact .inr h
theorem slt_notTup {H : Hp} {a C dx : Addr} (h : H a = some (.ins C dx [])) (h' : H dx = some (.own a)) : ∀ b ∈ [a, dx], ∀ xs, H b ≠ some (.tup xs) ∧ ∀ o, H b ≠ some (.frz o (.tup xs)) := by
  intro b hb xs
  rcases List.mem_cons.mp hb with rfl | hb
  · exact ⟨fun z => (by rw [h] at z; cases z), fun o z => (by rw [h] at z; cases z)⟩
  · have := List.mem_singleton.mp hb
    subst this
    exact ⟨fun z => (by rw [h'] at z; cases z), fun o z => (by rw [h'] at z; cases z)⟩
/-- a new instance, not yet stored into -/
structure NewI (H : Hp) (a C dx : Addr) : Prop where
  i : H a = some (.ins C dx [])
  o : H dx = some (.own a)
  ne : dx ≠ a
theorem NewI.same {H H' : Hp} {a C dx : Addr} (n : NewI H a C dx) (s : Sm H H') : NewI H' a C dx := ⟨s _ _ n.i, s _ _ n.o, n.ne⟩
theorem NewI.of {H : Hp} {a C dx : Addr} (ne : dx ≠ a) : NewI (upd (upd H dx (.own a)) a (.ins C dx [])) a C dx := ⟨upd_same, by rw [upd_ne ne, upd_same], ne⟩
theorem sc_Card_init : FnScope ["self", "heading", "books", "see", "also", "is_free"] ["self", "heading", "books", "see", "also"] (defScope s_Card_init) := C8.fnScope_by (by decide +kernel)
def sp_Card (K : PySem.W.Frag) (CC : Addr) : Sp := fun vs H Q _ => ∃ (a dx b l : Addr) (c : CardD), vs = [.ref a, .str c.h, .ref b, .str c.see, .ref l] ∧ CardOk c ∧ NewI H a CC dx ∧ SqT K H b (c.bk.map V.int) ∧ SqT K H l (c.al.map V.str) ∧
  ∀ H', But [a, dx] H H' → CardAt K CC H' a c → Q .non H'
theorem CardOk.seeW {c : CardD} (o : CardOk c) : c.see ∈ uS ∨ c.see = Str.empty := o.see.elim .inr fun h => .inl h.1
theorem uS_ok {x : Str} (h : x ∈ uS) : eStr.ok x := strOk_uS x h
theorem body_Card (T : Tx K mg CC CD CW CG aR aW) : BodyOk P w K mg base "Card.__init__" s_Card_init ["self", "heading", "books", "see", "also", "is_free"] 2 (sp_Card K CC) := by
  refine fun f cdv A outer s H vs Q E hr h => ?_
  · obtain ⟨a, dx, b, l, c, rfl, ok, hN, hb, hl, q⟩ := h
    refine ⟨_, (pss_cons (ps_if (pt_not (pt_c (ok_is_word T) hr (by decide) (by rfl) (pa_cons (pv 1) pa_nil))) pss_never pss_nil)
      (pss_cons (ps_if (pt_not (pt_c (ok_are_books T) hr (by decide) (by rfl) (pa_cons (pv 2) pa_nil))) pss_never pss_nil)
      (pss_cons (ps_set (i := 5) sc_Card_init.nd rfl (Or.inl rfl) (pe_cut (pe_and (pe_cmpR (op_eqD hr.units) (pv 2) (pe_tup pa_nil) (nomark _)) (pe_and (pe_cmpR (op_eqD hr.units) (pv 4) (pe_tup pa_nil) (nomark _)) (pe_and (C8.pe_c (ok_is_word T) hr (by decide) (by rfl) (pa_cons (pv 3) pa_nil)) (pe_one (pe_cmpR op_ne (pv 3) (pv 1) (nomark _))))))))
      (pss_cons (ps_if (PW.pt (pw_and (pt_cmpR op_ne (pv 3) pe_str (nomark _)) (pw_and1 (pt_not (pt_val (pv 5)))))) pss_never pss_nil)
      (pss_cons (ps_if (pt_not (pt_c (ok_are_others T) hr (by decide) (by rfl) (pa_cons (pv 1) (pa_cons (pv 4) pa_nil)))) pss_never pss_nil)
      (pss_one (SlX.ps_sl (pv 0) (pe_tup (pa_cons (pv 1) (pa_cons (pv 2) (pa_cons (pv 3) (pa_cons (pv 4) pa_nil)))))))))))), ?_⟩
    refine ⟨_, rfl, c.h, rfl, .inl ok.hd, fun H1 s1 => ⟨_, rfl, ?_⟩⟩
    rw [decide_eq_true ok.hd]
    refine iteF ⟨_, rfl, b, c.bk, rfl, s1.tup hb, ok.bkL, ok.bkB, ok.bkR, fun H2 s2 => ⟨_, rfl, iteF ?_⟩⟩
    have hb2 := (s1.trans s2).tup hb
    have hl2 := (s1.trans s2).tup hl
    refine ⟨fun x H3 => ∃ k : Bool, x = .bl k ∧ Sm H2 H3 ∧ (c.see ≠ Str.empty → k = true), ?_, ?_⟩
    · refine ⟨_, rfl, by decide, fun t ht => eqD_of (eTup eInt) (u := c.bk) (v := []) (by decide) (dp_intsT ((Sm.new ht).tup hb2)) (dp_nilT eInt upd_same) (fun _ _ => trivial) (fun _ m => (nomatch m)) ⟨_, rfl, ?_⟩⟩
      have s3 : Sm H2 (upd H2 t (.tup [])) := Sm.new ht
      by_cases e1 : c.bk = []
      · rw [decide_eq_true e1]
        refine iteT ⟨_, rfl, by decide, fun t2 ht2 => eqD_of (eTup eStr) (u := c.al) (v := []) (by decide) (dp_strsT ((s3.new' ht2).tup hl2)) (dp_nilT eStr upd_same) (fun x m => uS_ok (ok.alU x m).1) (fun _ m => (nomatch m)) ⟨_, rfl, ?_⟩⟩
        have s4 := s3.new' (o := .tup []) ht2
        by_cases e2 : c.al = []
        · rw [decide_eq_true e2]
          refine iteT ⟨_, rfl, c.see, rfl, ok.seeW, fun H5 s5 => ⟨_, rfl, ?_⟩⟩
          rcases ok.see with e3 | ⟨e3, e4, _, _⟩
          · rw [e3, decide_eq_false empty_no]
            refine iteF ⟨_, rfl, s4.trans s5, fun z => absurd rfl z⟩
          · rw [decide_eq_true e3]
            refine iteT ⟨_, rfl, _, rfl, rfl, _, rfl, s4.trans s5, fun _ => ?_⟩
            rw [decide_eq_false (show ¬ V.str c.see = V.str c.h from fun z => e4 (V.str.inj z))]; rfl
        · rw [decide_eq_false e2]
          refine iteF ⟨_, rfl, s4, fun z => ?_⟩
          rcases ok.see with e3 | ⟨_, _, _, e4⟩
          · exact absurd e3 z
          · exact absurd e4 e2
      · rw [decide_eq_false e1]
        refine iteF ⟨_, rfl, s3, fun z => ?_⟩
        rcases ok.see with e3 | ⟨_, _, e4, _⟩
        · exact absurd e3 z
        · exact absurd e4 e1
    · rintro x H3 ⟨k, rfl, s3, hk⟩
      refine ⟨_, rfl, rfl, _, rfl, ?_⟩
      have s03 := (s1.trans s2).trans s3
      have rest : ∀ H4, Sm H H4 → ∀ f, H4 f = none → Q .non (SlX.slH (upd H4 f (.tup [.str c.h, .ref b, .str c.see, .ref l])) a CC dx [some (.ref f)]) := fun H4 s4 f hf => by
        have s5 : Sm H (upd H4 f (.tup [.str c.h, .ref b, .str c.see, .ref l])) := s4.new' hf
        have bt := (But.of (as := [a, dx]) s5).trans (But.slt (a := a) (C := CC) (dx := dx) (vs := [some (.ref f)]) _)
        have nt := slt_notTup (hN.same s5).i (hN.same s5).o
        have b2 := But.slt (a := a) (C := CC) (dx := dx) (vs := [some (.ref f)]) (upd H4 f (.tup [.str c.h, .ref b, .str c.see, .ref l]))
        exact q _ bt ⟨dx, f, SlX.slH_slt hN.ne, b, l, b2.tupN (SqT.of upd_same) nt, b2.tupN (s5.tup hb) nt, b2.tupN (s5.tup hl) nt⟩
      obtain ⟨p, sl⟩ := T.fC
      by_cases e : c.see = Str.empty
      · refine ifF (neF (congrArg V.str e)) ?_
        refine ⟨_, rfl, _, rfl, c.h, l, c.al, rfl, s03.tup hl, ok.alL, ok.alN, ok.alU, fun H4 s4 => ⟨_, rfl, iteF ?_⟩⟩
        refine ⟨_, rfl, _, rfl, _, rfl, _, rfl, szl rfl, fun f hf => ⟨_, rfl, a, CC, dx, p, [], 0, rfl, .inl ⟨(hN.same ((s03.trans s4).new' hf)).i, rfl⟩, T.kC, sl, rest H4 (s03.trans s4) f hf⟩⟩
      · refine ifT (neT (str_ne e)) ?_
        refine ⟨_, rfl, _, rfl, ?_⟩
        rw [hk e]
        refine iteF ⟨_, rfl, _, rfl, c.h, l, c.al, rfl, s03.tup hl, ok.alL, ok.alN, ok.alU, fun H4 s4 => ⟨_, rfl, iteF ?_⟩⟩
        refine ⟨_, rfl, _, rfl, _, rfl, _, rfl, szl rfl, fun f hf => ⟨_, rfl, a, CC, dx, p, [], 0, rfl, .inl ⟨(hN.same ((s03.trans s4).new' hf)).i, rfl⟩, T.kC, sl, rest H4 (s03.trans s4) f hf⟩⟩
/-! ### the properties of a card -/
theorem sc_Card_heading : FnScope ["self"] ["self"] (defScope s_Card_heading) := C8.fnScope_by (by decide +kernel)
def sp_c_heading (K : PySem.W.Frag) (CC : Addr) : Sp := fun vs H Q _ => ∃ a c, vs = [.ref a] ∧ CardAt K CC H a c ∧ Q (.str c.h) H
theorem pr_Card_heading (T : Tx K mg CC CD CW CG aR aW) : PrpR P w K mg base 1 CC "heading" (sp_c_heading K CC) := by
  refine prp_of T.p_Card_heading (fun _ _ _ _ _ _ us hl => match us, hl with | [_], _ => rfl) sc_Card_heading (fun vs H Q E h => ?_) (fun f cdv A outer s H vs Q E hr h => ?_)
  · obtain ⟨a, c, rfl, hc, q⟩ := h; rfl
  · obtain ⟨a, c, rfl, hc, q⟩ := h
    refine ⟨_, (pss_one (ps_ret (pe_ix ix_tup (SlX.pe_sl (pv 0)) pe_int (fun _ _ => rfl)))), ?_⟩
    obtain ⟨dx, f, hs, b, l, hf, hb, hl⟩ := hc
    obtain ⟨p, sl⟩ := T.fC
    exact ⟨_, rfl, a, CC, dx, p, _, 0, _, rfl, hs, T.kC, sl, rfl, f, _, _, _, rfl, rfl, hf, rfl, q⟩
theorem sc_Card_books : FnScope ["self"] ["self"] (defScope s_Card_books) := C8.fnScope_by (by decide +kernel)
def sp_c_books (K : PySem.W.Frag) (CC : Addr) : Sp := fun vs H Q _ => ∃ a c, vs = [.ref a] ∧ CardAt K CC H a c ∧ ∀ b, SqT K H b (c.bk.map V.int) → Q (.ref b) H
theorem pr_Card_books (T : Tx K mg CC CD CW CG aR aW) : PrpR P w K mg base 1 CC "books" (sp_c_books K CC) := by
  refine prp_of T.p_Card_books (fun _ _ _ _ _ _ us hl => match us, hl with | [_], _ => rfl) sc_Card_books (fun vs H Q E h => ?_) (fun f cdv A outer s H vs Q E hr h => ?_)
  · obtain ⟨a, c, rfl, hc, q⟩ := h; rfl
  · obtain ⟨a, c, rfl, hc, q⟩ := h
    refine ⟨_, (pss_one (ps_ret (pe_ix ix_tup (SlX.pe_sl (pv 0)) pe_int (fun _ _ => rfl)))), ?_⟩
    obtain ⟨dx, f, hs, b, l, hf, hb, hl⟩ := hc
    obtain ⟨p, sl⟩ := T.fC
    exact ⟨_, rfl, a, CC, dx, p, _, 0, _, rfl, hs, T.kC, sl, rfl, f, _, _, _, rfl, rfl, hf, rfl, q b hb⟩
theorem sc_Card_see : FnScope ["self"] ["self"] (defScope s_Card_see) := C8.fnScope_by (by decide +kernel)
def sp_c_see (K : PySem.W.Frag) (CC : Addr) : Sp := fun vs H Q _ => ∃ a c, vs = [.ref a] ∧ CardAt K CC H a c ∧ Q (.str c.see) H
theorem pr_Card_see (T : Tx K mg CC CD CW CG aR aW) : PrpR P w K mg base 1 CC "see" (sp_c_see K CC) := by
  refine prp_of T.p_Card_see (fun _ _ _ _ _ _ us hl => match us, hl with | [_], _ => rfl) sc_Card_see (fun vs H Q E h => ?_) (fun f cdv A outer s H vs Q E hr h => ?_)
  · obtain ⟨a, c, rfl, hc, q⟩ := h; rfl
  · obtain ⟨a, c, rfl, hc, q⟩ := h
    refine ⟨_, (pss_one (ps_ret (pe_ix ix_tup (SlX.pe_sl (pv 0)) pe_int (fun _ _ => rfl)))), ?_⟩
    obtain ⟨dx, f, hs, b, l, hf, hb, hl⟩ := hc
    obtain ⟨p, sl⟩ := T.fC
    exact ⟨_, rfl, a, CC, dx, p, _, 0, _, rfl, hs, T.kC, sl, rfl, f, _, _, _, rfl, rfl, hf, rfl, q⟩
theorem sc_Card_also : FnScope ["self"] ["self"] (defScope s_Card_also) := C8.fnScope_by (by decide +kernel)
def sp_c_also (K : PySem.W.Frag) (CC : Addr) : Sp := fun vs H Q _ => ∃ a c, vs = [.ref a] ∧ CardAt K CC H a c ∧ ∀ b, SqT K H b (c.al.map V.str) → Q (.ref b) H
theorem pr_Card_also (T : Tx K mg CC CD CW CG aR aW) : PrpR P w K mg base 1 CC "also" (sp_c_also K CC) := by
  refine prp_of T.p_Card_also (fun _ _ _ _ _ _ us hl => match us, hl with | [_], _ => rfl) sc_Card_also (fun vs H Q E h => ?_) (fun f cdv A outer s H vs Q E hr h => ?_)
  · obtain ⟨a, c, rfl, hc, q⟩ := h; rfl
  · obtain ⟨a, c, rfl, hc, q⟩ := h
    refine ⟨_, (pss_one (ps_ret (pe_ix ix_tup (SlX.pe_sl (pv 0)) pe_int (fun _ _ => rfl)))), ?_⟩
    obtain ⟨dx, f, hs, b, l, hf, hb, hl⟩ := hc
    obtain ⟨p, sl⟩ := T.fC
    exact ⟨_, rfl, a, CC, dx, p, _, 0, _, rfl, hs, T.kC, sl, rfl, f, _, _, _, rfl, rfl, hf, rfl, q l hl⟩
theorem sc_Card_leads : FnScope ["self"] ["self"] (defScope s_Card_leads) := C8.fnScope_by (by decide +kernel)
def sp_c_leads (K : PySem.W.Frag) (CC : Addr) : Sp := fun vs H Q _ => ∃ a c, vs = [.ref a] ∧ CardAt K CC H a c ∧ Q (.bl (!decide (c.see = Str.empty))) H
theorem dec_str {x y : Str} : decide (V.str x = V.str y) = decide (x = y) := decide_eq_decide.mpr ⟨V.str.inj, congrArg _⟩
theorem pr_Card_leads (T : Tx K mg CC CD CW CG aR aW) : PrpR P w K mg base 1 CC "leads" (sp_c_leads K CC) := by
  refine prp_of T.p_Card_leads (fun _ _ _ _ _ _ us hl => match us, hl with | [_], _ => rfl) sc_Card_leads (fun vs H Q E h => ?_) (fun f cdv A outer s H vs Q E hr h => ?_)
  · obtain ⟨a, c, rfl, hc, q⟩ := h; rfl
  · obtain ⟨a, c, rfl, hc, q⟩ := h
    refine ⟨_, (pss_one (ps_ret (pe_cmpR op_ne (pe_ix ix_tup (SlX.pe_sl (pv 0)) pe_int (fun _ _ => rfl)) pe_str (nomark _)))), ?_⟩
    obtain ⟨dx, f, hs, b, l, hf, hb, hl⟩ := hc
    obtain ⟨p, sl⟩ := T.fC
    refine ⟨_, rfl, a, CC, dx, p, _, 0, _, rfl, hs, T.kC, sl, rfl, f, _, _, _, rfl, rfl, hf, rfl, rfl, ?_⟩
    rw [show decide (V.str c.see = V.str "") = decide (c.see = Str.empty) from dec_str]
    exact q
end
end Se
/-! in, not in; takes; the cards left -/
namespace Se
open PySem PySem.Spec PyProof.Rows L2
abbrev vN (n : Nat) : V := .int (n : Int)
theorem inV_ints (k : Int) : ∀ ns : List Int, inV (.int k) (ns.map V.int) = decide (k ∈ ns)
  | [] => rfl
  | n :: ns => by
    show ((n == k) || inV (.int k) (ns.map V.int)) = _
    rw [inV_ints k ns, Bool.eq_iff_iff, Bool.or_eq_true, beq_iff_eq, decide_eq_true_eq, decide_eq_true_eq, List.mem_cons]
    exact or_congr eq_comm Iff.rfl
theorem inV_strs (k : Str) : ∀ ns : List Str, inV (.str k) (ns.map V.str) = decide (k ∈ ns)
  | [] => rfl
  | n :: ns => by
    show ((n == k) || inV (.str k) (ns.map V.str)) = _
    rw [inV_strs k ns, Bool.eq_iff_iff, Bool.or_eq_true, beq_iff_eq, decide_eq_true_eq, decide_eq_true_eq, List.mem_cons]
    exact or_congr eq_comm Iff.rfl
theorem inV_nats (k : Nat) : ∀ ns : List Nat, inV (vN k) (ns.map vN) = decide (k ∈ ns)
  | [] => rfl
  | n :: ns => by
    show (((n : Int) == (k : Int)) || inV (vN k) (ns.map vN)) = _
    rw [inV_nats k ns, Bool.eq_iff_iff, Bool.or_eq_true, beq_iff_eq, decide_eq_true_eq, decide_eq_true_eq, List.mem_cons]
    exact or_congr ⟨fun h => (Int.ofNat.inj h).symm, fun h => by rw [h]⟩ Iff.rfl
theorem flat_ints (ns : List Int) : (ns.map V.int).all flatV = true := by rw [List.all_eq_true]; intro x hx; obtain ⟨n, _, rfl⟩ := List.mem_map.mp hx; rfl
theorem flat_strs (ns : List Str) : (ns.map V.str).all flatV = true := by rw [List.all_eq_true]; intro x hx; obtain ⟨n, _, rfl⟩ := List.mem_map.mp hx; rfl
theorem flat_nats (ns : List Nat) : (ns.map vN).all flatV = true := by rw [List.all_eq_true]; intro x hx; obtain ⟨n, _, rfl⟩ := List.mem_map.mp hx; rfl
section
variable {K : PySem.W.Frag} {H : Hp} {Q : VK} {p : Addr}
theorem rd_inI {k : Int} {ns : List Int} (h : SqL K H p (ns.map V.int) ∨ SqT K H p (ns.map V.int)) (q : Q (.bl (decide (k ∈ ns))) H) : rIn K false (.int k) (.ref p) H Q :=
  ⟨p, _, rfl, h, rfl, flat_ints ns, by rw [inV_ints]; exact q⟩
theorem rd_ninI {k : Int} {ns : List Int} (h : SqL K H p (ns.map V.int) ∨ SqT K H p (ns.map V.int)) (q : Q (.bl (!decide (k ∈ ns))) H) : rIn K true (.int k) (.ref p) H Q :=
  ⟨p, _, rfl, h, rfl, flat_ints ns, by rw [inV_ints]; exact q⟩
theorem rd_inS {k : Str} {ns : List Str} (h : SqL K H p (ns.map V.str) ∨ SqT K H p (ns.map V.str)) (q : Q (.bl (decide (k ∈ ns))) H) : rIn K false (.str k) (.ref p) H Q :=
  ⟨p, _, rfl, h, rfl, flat_strs ns, by rw [inV_strs]; exact q⟩
theorem rd_ninS {k : Str} {ns : List Str} (h : SqL K H p (ns.map V.str) ∨ SqT K H p (ns.map V.str)) (q : Q (.bl (!decide (k ∈ ns))) H) : rIn K true (.str k) (.ref p) H Q :=
  ⟨p, _, rfl, h, rfl, flat_strs ns, by rw [inV_strs]; exact q⟩
theorem rd_inN {k : Nat} {ns : List Nat} (h : SqL K H p (ns.map vN) ∨ SqT K H p (ns.map vN)) (q : Q (.bl (decide (k ∈ ns))) H) : rIn K false (vN k) (.ref p) H Q :=
  ⟨p, _, rfl, h, rfl, flat_nats ns, by rw [inV_nats]; exact q⟩
theorem rd_ninN {k : Nat} {ns : List Nat} (h : SqL K H p (ns.map vN) ∨ SqT K H p (ns.map vN)) (q : Q (.bl (!decide (k ∈ ns))) H) : rIn K true (vN k) (.ref p) H Q :=
  ⟨p, _, rfl, h, rfl, flat_nats ns, by rw [inV_nats]; exact q⟩
end
/-! ### rules with the frag named -/
section
variable {X : Cx} {K : PySem.W.Frag}
theorem op_inK (h : X.K = K) : OpR X (compareOp .In) (rIn K false) := by subst h; exact op_in_seq
theorem op_ninK (h : X.K = K) : OpR X (compareOp .NotIn) (rIn K true) := by subst h; exact op_notIn_seq
theorem ix_listK (h : X.K = K) : IxR X (rIxL K) := by subst h; exact ix_list
theorem ix_tupK (h : X.K = K) : IxR X (rIxT K) := by subst h; exact ix_tup
theorem op_eqDK (h : X.K = K) (hu : X.A.units + 64 < cLine) : OpR X (compareOp .Eq) (rEqD K) := by subst h; exact op_eqD hu
theorem op_neDK (h : X.K = K) (hu : X.A.units + 64 < cLine) : OpR X (compareOp .NotEq) (rNeD K) := by subst h; exact op_neD hu
theorem sl_listK (h : X.K = K) : SlR X (rSlL K) := by subst h; exact sl_list
theorem sl_tupAK (h : X.K = K) : SlR X (rSlA K) := by subst h; exact sl_tupA
theorem call_lenK (h : X.K = K) : CallR X (.builtin "len") (fun xs H Q => ∃ x n, xs = [x] ∧ LenV K x H n ∧ Q (.int n) H) := by subst h; exact call_len
theorem pi_listK {tg l : Expr} {tl : TE} (h : X.K = K) (hl : PE X l tl) : PI X tg l (iList K tl) := by subst h; exact pi_list hl
theorem mt_extK (h : X.K = K) : MtR X "list.extend" (rExtA K) := by subst h; exact mt_extA
theorem call_listK (h : X.K = K) : CallR X (.type "list") (fun xs H Q => ∃ p ys, xs = [.ref p] ∧ (SqL K H p ys ∨ SqT K H p ys) ∧ ∀ l, H l = none → Q (.ref l) (upd H l (.lst ys))) := by subst h; exact call_list_of
theorem pe_tupleK {a : Expr} {ta : TE} {p pos : Pos} (h : X.K = K) (hg : Gl X "tuple") (hm : X.mg "tuple" = none) (ha : PE X a ta) (na : starEach [a] X.env = (false, eval a X.env) :: starEach [] X.env := by rfl) :
    PE X (.Call (.Name "tuple" p) [a] [] pos) (tThen ta (kTup K)) := by subst h; exact pe_tupleOf hg hm ha na
theorem pa_starK {e : Expr} {es : List Expr} {te : TE} {t : TA} {p : Pos} (h : X.K = K) (he : PE X e te) (hr : PA X es t) (hs : starEach (.Starred e p :: es) X.env = (true, eval e X.env) :: starEach es X.env := by rfl) : PA X (.Starred e p :: es) (StX.tStar K te t) := by subst h; exact StX.pa_star he hr hs
/-- sorted(set(e)): words, ints below 31 -/
def kSortS (K : PySem.W.Frag) (x : V) (H : Hp) (Q : VK) : Prop := ∃ a ns, x = .ref a ∧ (SqL K H a (ns.map V.str) ∨ SqT K H a (ns.map V.str)) ∧ ns.length ≤ 1000 ∧ (∀ k ∈ ns, k ∈ uS) ∧ ∀ p H', Sm H H' → H p = none → H' p = some (.lst ((sS ns).map V.str)) → Q (.ref p) H'
def kSortI (K : PySem.W.Frag) (x : V) (H : Hp) (Q : VK) : Prop := ∃ a ns, x = .ref a ∧ (SqL K H a (ns.map V.int) ∨ SqT K H a (ns.map V.int)) ∧ ns.length ≤ 1000 ∧ (∀ k ∈ ns, 0 ≤ k ∧ k < 31) ∧ ∀ p H', Sm H H' → H p = none → H' p = some (.lst ((sI ns).map V.int)) → Q (.ref p) H'
theorem pe_sortS {e : Expr} {t : TE} {p p2 pos pos2 : Pos} (h : X.K = K) (hc : X.calm = true) (hg : Gl X "sorted") (hm : X.mg "sorted" = none) (hg2 : Gl X "set") (hm2 : X.mg "set" = none) (ha : PE X e t) (hs : starEach [e] X.env = (false, eval e X.env) :: starEach [] X.env := by rfl)
    (hs2 : starEach [.Call (.Name "set" p2) [e] [] pos2] X.env = (false, eval (.Call (.Name "set" p2) [e] [] pos2) X.env) :: starEach [] X.env := by rfl) :
    PE X (.Call (.Name "sorted" p) [.Call (.Name "set" p2) [e] [] pos2] [] pos) (tThen t (kSortS K)) := by
  subst h
  refine ⟨fun pins s σ H Q I h => (pe_callB (cr_sortDS hc) hg hm (by decide +kernel) (pa_cons (pe_callTy (cr_setD hc) hg2 hm2 (by decide +kernel) (pa_cons (pe_cut ha) pa_nil hs) (he := hs)) pa_nil hs2) (he := hs2)).run pins s σ H Q I ⟨_, h, fun x H1 q => ?_⟩⟩
  obtain ⟨a, ns, ex, h1, h2, h3, q⟩ := q
  exact rd_sortS ex h1 h2 h3 q
theorem pe_sortI {e : Expr} {t : TE} {p p2 pos pos2 : Pos} (h : X.K = K) (hc : X.calm = true) (hg : Gl X "sorted") (hm : X.mg "sorted" = none) (hg2 : Gl X "set") (hm2 : X.mg "set" = none) (ha : PE X e t) (hs : starEach [e] X.env = (false, eval e X.env) :: starEach [] X.env := by rfl)
    (hs2 : starEach [.Call (.Name "set" p2) [e] [] pos2] X.env = (false, eval (.Call (.Name "set" p2) [e] [] pos2) X.env) :: starEach [] X.env := by rfl) :
    PE X (.Call (.Name "sorted" p) [.Call (.Name "set" p2) [e] [] pos2] [] pos) (tThen t (kSortI K)) := by
  subst h
  refine ⟨fun pins s σ H Q I h => (pe_callB (cr_sortDI hc) hg hm (by decide +kernel) (pa_cons (pe_callTy (cr_setD hc) hg2 hm2 (by decide +kernel) (pa_cons (pe_cut ha) pa_nil hs) (he := hs)) pa_nil hs2) (he := hs2)).run pins s σ H Q I ⟨_, h, fun x H1 q => ?_⟩⟩
  obtain ⟨a, ns, ex, h1, h2, h3, q⟩ := q
  exact rd_sortI ex h1 h2 h3 q
end
theorem dT {p : Prop} [Decidable p] (h : p) : decide p = true := decide_eq_true h
theorem dF {p : Prop} [Decidable p] (h : ¬ p) : decide p = false := decide_eq_false h
theorem nT {p : Prop} [Decidable p] (h : ¬ p) : (!decide p) = true := by rw [dF h]; rfl
theorem nF {p : Prop} [Decidable p] (h : p) : (!decide p) = false := by rw [dT h]; rfl
theorem take_snoc {α : Type} {l : List α} {i : Nat} {c : α} (h : l[i]? = some c) : l.take (i + 1) = l.take i ++ [c] := by
  rw [List.take_add_one, h]; rfl
theorem get_lt {α : Type} {l : List α} {i : Nat} {c : α} (h : l[i]? = some c) : i < l.length := (List.getElem?_eq_some_iff.mp h).1
theorem get_of_lt {α : Type} {l : List α} {i : Nat} (h : i < l.length) : ∃ c, l[i]? = some c := ⟨l[i], List.getElem?_eq_getElem h⟩
/-- the cards but those at the places ns -/
def lessT (cs : List CardD) (ns : List Int) : Nat → List CardD
  | 0 => []
  | i + 1 => if (i : Int) ∈ ns then lessT cs ns i else lessT cs ns i ++ (cs[i]?).toList
def less (cs : List CardD) (ns : List Int) : List CardD := lessT cs ns cs.length
theorem lessT_in {cs : List CardD} {ns : List Int} {i : Nat} (h : (i : Int) ∈ ns) : lessT cs ns (i + 1) = lessT cs ns i := by
  show (if (i : Int) ∈ ns then lessT cs ns i else lessT cs ns i ++ (cs[i]?).toList) = _
  rw [if_pos h]
theorem lessT_out {cs : List CardD} {ns : List Int} {i : Nat} {c : CardD} (h : (i : Int) ∉ ns) (e : cs[i]? = some c) : lessT cs ns (i + 1) = lessT cs ns i ++ [c] := by
  show (if (i : Int) ∈ ns then lessT cs ns i else lessT cs ns i ++ (cs[i]?).toList) = _
  rw [if_neg h, e]; rfl
theorem lessT_len (cs : List CardD) (ns : List Int) : ∀ i, (lessT cs ns i).length ≤ i
  | 0 => Nat.le_refl _
  | i + 1 => by
    have ih := lessT_len cs ns i
    show (if (i : Int) ∈ ns then lessT cs ns i else lessT cs ns i ++ (cs[i]?).toList).length ≤ _
    split
    · omega
    · rw [List.length_append]
      cases cs[i]? <;> simp <;> omega
theorem lessT_mem {cs : List CardD} {ns : List Int} : ∀ {i : Nat} {c : CardD}, c ∈ lessT cs ns i → c ∈ cs
  | 0, _, h => nomatch h
  | i + 1, c, h => by
    have h : c ∈ (if (i : Int) ∈ ns then lessT cs ns i else lessT cs ns i ++ (cs[i]?).toList) := h
    split at h
    · exact lessT_mem h
    · rcases List.mem_append.mp h with h | h
      · exact lessT_mem h
      · cases e : cs[i]? with
        | none => rw [e] at h; cases h
        | some d =>
          rw [e] at h
          have : c = d := by simpa using h
          subst this
          exact List.mem_of_getElem? e
theorem Ok.less {cs : List CardD} (o : Ok cs) (ns : List Int) : Ok (less cs ns) := ⟨fun c h => o.all c (lessT_mem h), Nat.le_trans (lessT_len _ _ _) o.len⟩
end Se
namespace Se
open PySem PySem.Spec PyProof.Rows L2
section
variable {P : Program} {w : World} {K : PySem.W.Frag} {mg : Str → Option Value} {base : Heap} {CC CD CW CG aR aW : Addr}
/-! ### Drawer -/
/-- a list grows: the cards stay -/
theorem SqT.updL {H : Hp} {a D : Addr} {xs ys : List V} {u : HO} (h : SqT K H a xs) (e : H D = some (.lst ys)) : SqT K (upd H D u) a xs := by
  rcases h with (h | ⟨o, h⟩) | h
  · exact .inl (.inl (by rw [upd_ne (ne_of h e fun z => nomatch z)]; exact h))
  · exact .inl (.inr ⟨o, by rw [upd_ne (ne_of h e fun z => nomatch z)]; exact h⟩)
  · exact .inr h
theorem TupF.updL {H : Hp} {a D : Addr} {c : CardD} {ys : List V} {u : HO} (h : TupF K H a c) (e : H D = some (.lst ys)) : TupF K (upd H D u) a c := by
  obtain ⟨b, l, h1, h2, h3⟩ := h.ex
  exact ⟨b, l, SqT.updL h1 e, SqT.updL h2 e, SqT.updL h3 e⟩
theorem slO_lst {a C dx : Addr} {vs : List (Option V)} {ys : List V} : SlX.SlO a C dx vs ≠ .lst ys := fun z => by
  unfold SlX.SlO at z
  cases z
theorem Slt.updL {H : Hp} {a C dx D : Addr} {vs : List (Option V)} {ys : List V} {u : HO} (h : SlX.Slt H a C dx vs) (e : H D = some (.lst ys)) : SlX.Slt (upd H D u) a C dx vs := by
  rcases h with ⟨h1, h2⟩ | ⟨h1, h2⟩
  · exact .inl ⟨by rw [upd_ne (ne_of h1 e fun z => nomatch z)]; exact h1, h2⟩
  · exact .inr ⟨by rw [upd_ne (ne_of h1 e slO_lst)]; exact h1, by rw [upd_ne (ne_of h2 e fun z => nomatch z)]; exact h2⟩
theorem CardAt.updL {H : Hp} {a D : Addr} {c : CardD} {ys : List V} {u : HO} (h : CardAt K CC H a c) (e : H D = some (.lst ys)) : CardAt K CC (upd H D u) a c := by
  obtain ⟨dx, f, h1, h2⟩ := h.ex
  exact ⟨dx, f, Slt.updL h1 e, h2.updL e⟩
theorem RowAt.updL {H : Hp} {D : Addr} {xs : List V} {cs : List CardD} {ys : List V} {u : HO} (h : RowAt K CC H xs cs) (e : H D = some (.lst ys)) : RowAt K CC (upd H D u) xs cs := h.mono fun _ _ ⟨a, q, z⟩ => ⟨a, q, z.updL e⟩
theorem SomeL.updL {H : Hp} {D : Addr} {xs : List V} {cs : List CardD} {ys : List V} {u : HO} (h : SomeL K H xs cs) (e : H D = some (.lst ys)) : SomeL K (upd H D u) xs cs := h.mono fun _ _ ⟨a, q, z⟩ => ⟨a, q, z.updL e⟩
/-- an instance with slots is made and stored into -/
theorem Sm.made {H : Hp} {x dx C : Addr} {vs : List (Option V)} (nx : H x = none) (ndx : H dx = none) (ne : dx ≠ x) : Sm H (SlX.slH (upd (upd H dx (.own x)) x (.ins C dx [])) x C dx vs) := fun b o e => by
  have h1 := ne_of_none e nx
  have h2 := ne_of_none e ndx
  rw [SlX.slH_ne h1 h2, upd_ne h1, upd_ne h2]
  exact e
theorem sc_Drawer_init : FnScope ["self", "cards"] ["self", "cards"] (defScope s_Drawer_init) := C8.fnScope_by (by decide +kernel)
def sp_Drawer (K : PySem.W.Frag) (CD : Addr) : Sp := fun vs H Q _ => ∃ a dx row xs, vs = [.ref a, .ref row] ∧ NewI H a CD dx ∧ SqT K H row xs ∧ xs.length ≤ 16 ∧ Q .non (SlX.slH H a CD dx [some (.ref row)])
theorem mk_Drawer_init (T : Tx K mg CC CD CW CG aR aW) : C8.Mak P w K mg base 1 "Drawer" CD (sp_Drawer K CD) [] := by
  refine mak_of T.i_Drawer (fun _ _ _ _ _ _ us hl => match us, hl with | [_, _], _ => rfl) sc_Drawer_init (fun vs H Q E h => ?_) (fun f cdv A outer s H vs Q E hr h => ?_)
  · obtain ⟨a, dx, row, xs, rfl, hN, hx, hl, q⟩ := h; rfl
  · obtain ⟨a, dx, row, xs, rfl, hN, hx, hl, q⟩ := h
    refine ⟨_, (pss_cons (ps_if (pt_cmpR op_gt (pe_callB (call_lenK (K := K) rfl) (by rfl) T.b_len PySem.boot_len (pa_cons (pv 1) pa_nil)) (C8.pe_gc (by rfl) T.c_MAX_CARDS) (nomark _)) pss_never pss_nil)
      (pss_one (SlX.ps_sl (pv 0) (pv 1)))), ?_⟩
    obtain ⟨p, sl⟩ := T.fD
    refine ⟨_, rfl, _, _, rfl, .inr ⟨_, hx, rfl⟩, _, _, rfl, rfl, _, rfl, ifF (dF (by omega)) ?_⟩
    exact ⟨_, rfl, _, rfl, a, CD, dx, p, [], 0, rfl, .inl ⟨hN.i, rfl⟩, T.kD, sl, q⟩
theorem sc_Drawer_cards : FnScope ["self"] ["self"] (defScope s_Drawer_cards) := C8.fnScope_by (by decide +kernel)
def sp_d_cards (K : PySem.W.Frag) (CD CC : Addr) : Sp := fun vs H Q _ => ∃ a cs, vs = [.ref a] ∧ DrawAt K CD CC H a cs ∧ ∀ row xs, SqT K H row xs → RowAt K CC H xs cs → Q (.ref row) H
theorem pr_Drawer_cards (T : Tx K mg CC CD CW CG aR aW) : PrpR P w K mg base 1 CD "cards" (sp_d_cards K CD CC) := by
  refine prp_of T.p_Drawer_cards (fun _ _ _ _ _ _ us hl => match us, hl with | [_], _ => rfl) sc_Drawer_cards (fun vs H Q E h => ?_) (fun f cdv A outer s H vs Q E hr h => ?_)
  · obtain ⟨a, cs, rfl, hd, q⟩ := h; rfl
  · obtain ⟨a, cs, rfl, hd, q⟩ := h
    refine ⟨_, (pss_one (ps_ret (SlX.pe_sl (pv 0)))), ?_⟩
    obtain ⟨dx, row, xs, hs, hx, hr2⟩ := hd
    obtain ⟨p, sl⟩ := T.fD
    exact ⟨_, rfl, a, CD, dx, p, _, 0, _, rfl, hs, T.kD, sl, rfl, q row xs hx hr2⟩
theorem sc_Drawer_headings : FnScope ["self", "card"] ["self"] (defScope s_Drawer_headings) := C8.fnScope_by (by decide +kernel)
def sp_d_headings (K : PySem.W.Frag) (CD CC : Addr) : Sp := fun vs H Q _ => ∃ a cs, vs = [.ref a] ∧ DrawAt K CD CC H a cs ∧ Ok cs ∧ ∀ p H', Sm H H' → SqT K H' p ((sS (cs.map (·.h))).map V.str) → Q (.ref p) H'
theorem pr_Drawer_headings (T : Tx K mg CC CD CW CG aR aW) : PrpR P w K mg base 3 CD "headings" (sp_d_headings K CD CC) := by
  refine prp_of T.p_Drawer_headings (fun _ _ _ _ _ _ us hl => match us, hl with | [_], _ => rfl) sc_Drawer_headings (fun vs H Q E h => ?_) (fun f cdv A outer s H vs Q E hr h => ?_)
  · obtain ⟨a, cs, rfl, hd, ok, q⟩ := h; rfl
  · obtain ⟨a, cs, rfl, hd, ok, q⟩ := h
    refine ⟨_, (pss_one (ps_ret (pe_tupleK (K := K) rfl (by rfl) T.b_tuple (pe_sortS (K := K) rfl rfl (by rfl) T.b_sorted (by rfl) T.b_set (pe_lc (own := [("card", 1)]) (g := (gName 1)) (tt := tYes) rfl sc_Drawer_headings.nd (pi_tup (SlX.pe_sl (pv 0))) (blkOk_by (own := [("card", 1)]) (N := ["self", "card"]) (sc := defScope s_Drawer_headings) (by decide +kernel)) (fun _ _ _ _ _ => (pg_name (i := 1) sc_Drawer_headings.nd rfl (by first | exact Or.inl rfl | exact Or.inr rfl))) (fun _ _ _ _ _ => pts_nil) (fun _ _ _ _ _ => (pe_prp T.kC (pr_Card_heading T) hr (by decide) (pv 1)))))))), ?_⟩
    obtain ⟨dx, row, xs, hs, hx, hr2⟩ := hd
    obtain ⟨p, sl⟩ := T.fD
    have len : xs.length = cs.length := hr2.1
    have ol := ok.len
    refine ⟨_, rfl, a, CD, dx, p, _, 0, _, rfl, hs, T.kD, sl, rfl, row, rfl, ⟨_, hx⟩, fun D hD => lc_it (walk_tup (xs := xs)) (fun i H' => Sm H H' ∧ H' D = some (.lst (((cs.take i).map (·.h)).map V.str))) ⟨Sm.new hD, upd_same⟩ (fun i H' _ ⟨s1, _⟩ => s1.tup hx)
      (fun i v H1 H2 hi ⟨s1, e1⟩ hy => ?_) (fun H1 ⟨s1, e1⟩ => ?_)⟩
    · obtain ⟨rfl, ev⟩ := hy
      obtain ⟨c, hc, ca, rfl, hca⟩ := hr2.at' ev
      refine ⟨rfl, yes_if ⟨_, rfl, ca, _, _, rfl, ((hca.same s1).ex.choose_spec.choose_spec).1, ca, c, rfl, hca.same s1, _, e1, sizeLt (by simp; omega), s1.wr hD, ?_⟩⟩
      rw [upd_same, take_snoc hc, List.map_append, List.map_append]
      rfl
    · rw [len, List.take_length] at e1
      refine ⟨D, _, rfl, .inl (SqL.of e1), (by simp; omega), fun k hk => ?_, fun z H2 s2 hz e2 => .inl ⟨z, _, rfl, SqL.of e2, fun t ht => q t _ ((s1.trans s2).new' ht) (SqT.of upd_same)⟩⟩
      obtain ⟨c, hc, rfl⟩ := List.mem_map.mp hk
      exact (ok.all c hc).hd
theorem sc_Drawer_check_place : FnScope ["self", "place"] ["self", "place"] (defScope s_Drawer_check_place) := C8.fnScope_by (by decide +kernel)
def sp_d_check (K : PySem.W.Frag) (CD CC : Addr) : Sp := fun vs H Q _ => ∃ a cs, ∃ p : Int, vs = [.ref a, .int p] ∧ DrawAt K CD CC H a cs ∧ (0 ≤ p ∧ p < cs.length) ∧ Q .non H
theorem mt_Drawer_check_place (T : Tx K mg CC CD CW CG aR aW) : MetR P w K mg base 2 CD "check_place" (sp_d_check K CD CC) := by
  refine met_of T.m_Drawer_check_place (fun _ _ _ _ _ _ us hl => match us, hl with | [_, _], _ => rfl) sc_Drawer_check_place (fun vs H Q E h => ?_) (fun f cdv A outer s H vs Q E hr h => ?_)
  · obtain ⟨a, cs, p, rfl, hd, hp, q⟩ := h; rfl
  · obtain ⟨a, cs, p, rfl, hd, hp, q⟩ := h
    refine ⟨_, (pss_one (ps_if (pt_not (pt_c (ok_is_number T) hr (by decide) (by rfl) (pa_cons (pv 1) (pa_cons pe_int (pa_cons (pe_op op_sub (pe_callB (call_lenK (K := K) rfl) (by rfl) T.b_len PySem.boot_len (pa_cons (SlX.pe_sl (pv 0)) pa_nil)) pe_int) pa_nil))))) pss_never pss_nil)), ?_⟩
    obtain ⟨dx, row, xs, hs, hx, hr2⟩ := hd
    obtain ⟨pp, sl⟩ := T.fD
    have len : xs.length = cs.length := hr2.1
    refine ⟨_, rfl, _, rfl, a, CD, dx, pp, _, 0, _, rfl, hs, T.kD, sl, rfl, _, _, rfl, .inr ⟨_, hx, rfl⟩, _, _, rfl, rfl, p, 0, _, rfl, _, rfl, ?_⟩
    rw [dT (show (0 : Int) ≤ p ∧ p ≤ ((xs.length : Nat) : Int) - 1 by omega)]
    exact iteF q
theorem sc_Drawer_without : FnScope ["self", "places", "index", "place", "card"] ["self", "places"] (defScope s_Drawer_without) := C8.fnScope_by (by decide +kernel)
def sp_d_without (K : PySem.W.Frag) (CD CC : Addr) : Sp := fun vs H Q _ => ∃ a cs l, ∃ ns : List Int, vs = [.ref a, .ref l] ∧ DrawAt K CD CC H a cs ∧ Ok cs ∧ SqT K H l (ns.map V.int) ∧ ns.length ≤ 1 ∧ (∀ k ∈ ns, 0 ≤ k ∧ k < cs.length) ∧ ∀ d H', Sm H H' → DrawAt K CD CC H' d (less cs ns) → Q (.ref d) H'
theorem cut_0 (xs : List V) : cutV xs none (some 0) = [] := by
  unfold cutV
  rw [show HT.sIx xs.length xs.length (some 0) = min 0 xs.length from HT.sIx_nat xs.length _ 0, HT.sIx_none]
  simp
theorem mt_Drawer_without (T : Tx K mg CC CD CW CG aR aW) : MetR P w K mg base 3 CD "without" (sp_d_without K CD CC) := by
  refine met_of T.m_Drawer_without (fun _ _ _ _ _ _ us hl => match us, hl with | [_, _], _ => rfl) sc_Drawer_without (fun vs H Q E h => ?_) (fun f cdv A outer s H vs Q E hr h => ?_)
  · obtain ⟨a, cs, l, ns, rfl, hd, ok, hl, hn, hb, q⟩ := h; rfl
  · obtain ⟨a, cs, l, ns, rfl, hd, ok, hl, hn, hb, q⟩ := h
    refine ⟨_, (pss_cons (ps_for PassesOwn.never rfl (pi_enumT (by rfl) T.b_enumerate (pa_cons (pv 1) pa_nil)) (pg_tup rfl (pgs_cons (pg_name (i := 2) sc_Drawer_without.nd rfl (by first | exact Or.inl rfl | exact Or.inr rfl)) (pgs_cons (pg_name (i := 3) sc_Drawer_without.nd rfl (by first | exact Or.inl rfl | exact Or.inr rfl)) pgs_nil))) (pss_cons (ps_expr (pe_ms T.kD (mt_Drawer_check_place T) hr (by decide) (pv 0) (pa_cons (pv 3) pa_nil)))
      (pss_one (ps_if (pt_cmpR (op_inK (K := K) rfl) (pv 3) (pe_slice (sl_tupAK (K := K) rfl) (pv 1) po_none (po_some (pv 2))) (by rfl)) pss_never pss_nil))))
      (pss_one (ps_ret (C8.pe_mk (mk_Drawer_init T) hr (by decide) (by rfl) (pa_cons (pe_tupleK (K := K) rfl (by rfl) T.b_tuple (pe_lc (own := [("place", 3), ("card", 4)]) (g := (gTup K 2 (gCons (gName 3) (gCons (gName 4) gNil)))) rfl sc_Drawer_without.nd (pi_enumT (by rfl) T.b_enumerate (pa_cons (SlX.pe_sl (pv 0)) pa_nil)) (blkOk_by (own := [("place", 3), ("card", 4)]) (N := ["self", "places", "index", "place", "card"]) (sc := defScope s_Drawer_without) (by decide +kernel)) (fun _ _ _ _ _ => (pg_tup rfl (pgs_cons (pg_name (i := 3) sc_Drawer_without.nd rfl (by first | exact Or.inl rfl | exact Or.inr rfl)) (pgs_cons (pg_name (i := 4) sc_Drawer_without.nd rfl (by first | exact Or.inl rfl | exact Or.inr rfl)) pgs_nil)))) (fun _ _ _ _ _ => (pts_one (pt_cmpR (op_ninK (K := K) rfl) (pv 3) (pv 1) (by rfl)))) (fun _ _ _ _ _ => (pv 4)))) pa_nil))))), ?_⟩
    have hd0 := hd
    obtain ⟨dx, row, xs, hs, hx, hr2⟩ := hd
    obtain ⟨pp, sl⟩ := T.fD
    have len : xs.length = cs.length := hr2.1
    refine ⟨_, rfl, l, _, rfl, hl, for_it walk_enumT (fun i σ' H' => (∃ o2 o3 o4, σ' = [some (.ref a), some (.ref l), o2, o3, o4]) ∧ Sm H H') ⟨⟨_, _, _, rfl⟩, Sm.refl _⟩ (fun i σ' H' _ ⟨_, s1⟩ => s1.tup hl)
      (fun i v σ1 H1 H2 hi ⟨⟨o2, o3, o4, e0⟩, s1⟩ hy => ?_) (fun σ1 H1 ⟨⟨o2, o3, o4, e0⟩, s1⟩ => ?_)⟩
    · subst e0
      obtain ⟨t, x, y, rfl, nt, rfl, ex, ey⟩ := hy
      cases ex
      dsimp only at ey
      rw [List.getElem?_map] at ey
      obtain ⟨k, ek, rfl⟩ := Option.map_eq_some_iff.mp ey
      have s2 := s1.new' (o := .tup [.int (i : Nat), .int k]) nt
      have hi0 : i = 0 := by rw [List.length_map] at hi; omega
      subst hi0
      refine ⟨t, _, rfl, SqT.of upd_same, rfl, _, _, rfl, _, _, rfl, rfl, _, rfl, a, dx, _, rfl, s2.slt hs, _, rfl, a, cs, k, rfl, hd0.same s2, hb k (List.mem_of_getElem? ek), ?_⟩
      refine ⟨_, rfl, _, rfl, _, rfl, _, rfl, l, _, rfl, s2.tup hl, fun hw => ?_, fun hw p hp => ?_⟩
      · exfalso
        have h1 := hw.2
        rw [show HT.sIx (ns.map V.int).length (ns.map V.int).length (some ((0 : Nat) : Int)) = min 0 (ns.map V.int).length from HT.sIx_nat _ _ 0] at h1
        omega
      · refine rd_inI (ns := []) (.inr (SqT.of ?_)) ⟨_, rfl, iteF ⟨⟨_, _, _, rfl⟩, s2.new' hp⟩⟩
        rw [upd_same]
        exact congrArg _ (congrArg _ (cut_0 _))
    · subst e0
      refine ⟨_, rfl, a, CD, dx, pp, _, 0, _, rfl, s1.slt hs, T.kD, sl, rfl, row, xs, rfl, s1.tup hx, fun D hD => lc_it (walk_enumT (xs := xs)) (fun i H' => Sm H1 H' ∧ ∃ ys, H' D = some (.lst ys) ∧ RowAt K CC H' ys (lessT cs ns i)) ⟨Sm.new hD, [], upd_same, Each.nil⟩ (fun i H' _ ⟨s2, _⟩ => (s1.trans s2).tup hx)
        (fun i v H2 H3 hi ⟨s2, ys, e1, hy2⟩ hy => ?_) (fun H2 ⟨s2, ys, e1, hy2⟩ => ?_)⟩
      · obtain ⟨t, x, y, rfl, nt, rfl, ex, ey⟩ := hy
        cases ex
        dsimp only at ey
        obtain ⟨c, hc, ca, rfl, hca⟩ := hr2.at' ey
        have s3 := s2.new' (o := .tup [.int (i : Nat), .ref ca]) nt
        have nD : D ≠ t := fun z => by rw [z, nt] at e1; cases e1
        refine ⟨t, _, rfl, SqT.of upd_same, rfl, _, _, rfl, _, _, rfl, rfl, rfl, _, rfl, _, rfl, rd_ninI (.inr ((s1.trans s3).tup hl)) ⟨_, rfl, ?_⟩⟩
        by_cases m : (i : Int) ∈ ns
        · refine ifF (nF m) ⟨s3, ys, by rw [upd_ne nD]; exact e1, ?_⟩
          rw [lessT_in m]
          exact hy2.same (Sm.new nt)
        · refine ifT (nT m) ⟨_, rfl, ys, by rw [upd_ne nD]; exact e1, sizeLt ?_, s3.wr hD, _, upd_same, ?_⟩
          · have := lessT_len cs ns i
            have := hy2.1
            have := ok.len
            omega
          · rw [lessT_out m hc]
            refine Each.snoc (hy2.mono fun x c ⟨a', e', z⟩ => ⟨a', e', ?_⟩) ⟨ca, rfl, hca.same (s1.trans (s3.wr hD))⟩
            exact (z.same (Sm.new nt)).updL (by rw [upd_ne nD]; exact e1)
      · refine .inl ⟨D, ys, rfl, SqL.of e1, fun t ht x dx' nx ndx ne => ?_⟩
        have s3 : Sm H2 (upd H2 t (.tup ys)) := Sm.new ht
        have hN : NewI (upd (upd (upd H2 t (.tup ys)) dx' (.own x)) x (.ins CD dx' [])) x CD dx' := NewI.of ne
        have s4 : Sm (upd H2 t (.tup ys)) (upd (upd (upd H2 t (.tup ys)) dx' (.own x)) x (.ins CD dx' [])) := (Sm.new ndx).trans (Sm.new (by rw [upd_ne (Ne.symm ne)]; exact nx))
        have hl2 := lessT_len cs ns cs.length
        have hl3 := hy2.1
        have hl4 := ok.len
        rw [len] at hy2 hl3
        have s5 : Sm (upd H2 t (.tup ys)) (SlX.slH (upd (upd (upd H2 t (.tup ys)) dx' (.own x)) x (.ins CD dx' [])) x CD dx' [some (.ref t)]) := Sm.made nx ndx ne
        refine ⟨x, dx', t, ys, rfl, hN, SqT.of (s4 _ _ upd_same), by omega, rfl, q x _ ((s1.trans s2).trans (s3.trans s5)) ⟨dx', t, ys, SlX.slH_slt ne, SqT.of (s5 _ _ upd_same), hy2.same (s3.trans s5)⟩⟩
end
end Se
namespace Se
open PySem PySem.Spec PyProof.Rows L2
section
variable {P : Program} {w : World} {K : PySem.W.Frag} {mg : Str → Option Value} {base : Heap} {CC CD CW CG aR aW : Addr}
section
variable {H : Hp} {a : Addr} {cs : List CardD} {c : CardD} {Q : VK} {E : XK}
theorem rd_cards (h : DrawAt K CD CC H a cs) (q : ∀ row xs, SqT K H row xs → RowAt K CC H xs cs → Q (.ref row) H) : ∃ a' dx vs, V.ref a = .ref a' ∧ SlX.Slt H a' CD dx vs ∧ sp_d_cards K CD CC [.ref a'] H Q E := by
  obtain ⟨dx, row, xs, hs, hx, hr2⟩ := h.ex
  exact ⟨a, dx, _, rfl, hs, a, cs, rfl, h, q⟩
theorem rd_headings (h : DrawAt K CD CC H a cs) (ok : Ok cs) (q : ∀ p H', Sm H H' → SqT K H' p ((sS (cs.map (·.h))).map V.str) → Q (.ref p) H') : ∃ a' dx vs, V.ref a = .ref a' ∧ SlX.Slt H a' CD dx vs ∧ sp_d_headings K CD CC [.ref a'] H Q E := by
  obtain ⟨dx, row, xs, hs, hx, hr2⟩ := h.ex
  exact ⟨a, dx, _, rfl, hs, a, cs, rfl, h, ok, q⟩
theorem rd_heading (h : CardAt K CC H a c) (q : Q (.str c.h) H) : ∃ a' dx vs, V.ref a = .ref a' ∧ SlX.Slt H a' CC dx vs ∧ sp_c_heading K CC [.ref a'] H Q E := by
  obtain ⟨dx, f, hs, hf⟩ := h.ex
  exact ⟨a, dx, _, rfl, hs, a, c, rfl, h, q⟩
theorem rd_books (h : CardAt K CC H a c) (q : ∀ b, SqT K H b (c.bk.map V.int) → Q (.ref b) H) : ∃ a' dx vs, V.ref a = .ref a' ∧ SlX.Slt H a' CC dx vs ∧ sp_c_books K CC [.ref a'] H Q E := by
  obtain ⟨dx, f, hs, hf⟩ := h.ex
  exact ⟨a, dx, _, rfl, hs, a, c, rfl, h, q⟩
theorem rd_see (h : CardAt K CC H a c) (q : Q (.str c.see) H) : ∃ a' dx vs, V.ref a = .ref a' ∧ SlX.Slt H a' CC dx vs ∧ sp_c_see K CC [.ref a'] H Q E := by
  obtain ⟨dx, f, hs, hf⟩ := h.ex
  exact ⟨a, dx, _, rfl, hs, a, c, rfl, h, q⟩
theorem rd_also (h : CardAt K CC H a c) (q : ∀ b, SqT K H b (c.al.map V.str) → Q (.ref b) H) : ∃ a' dx vs, V.ref a = .ref a' ∧ SlX.Slt H a' CC dx vs ∧ sp_c_also K CC [.ref a'] H Q E := by
  obtain ⟨dx, f, hs, hf⟩ := h.ex
  exact ⟨a, dx, _, rfl, hs, a, c, rfl, h, q⟩
theorem rd_leads (h : CardAt K CC H a c) (q : Q (.bl (!decide (c.see = Str.empty))) H) : ∃ a' dx vs, V.ref a = .ref a' ∧ SlX.Slt H a' CC dx vs ∧ sp_c_leads K CC [.ref a'] H Q E := by
  obtain ⟨dx, f, hs, hf⟩ := h.ex
  exact ⟨a, dx, _, rfl, hs, a, c, rfl, h, q⟩
end
def allB (cs : List CardD) : List Int := cs.flatMap (·.bk)
theorem allB_snoc (cs : List CardD) (c : CardD) : allB (cs ++ [c]) = allB cs ++ c.bk := by simp [allB]
theorem flat_len {α : Type} {f : CardD → List α} {n : Nat} : ∀ cs : List CardD, (∀ c ∈ cs, (f c).length ≤ n) → (cs.flatMap f).length ≤ n * cs.length
  | [], _ => by simp
  | c :: cs, h => by
    have ih := flat_len cs fun d hd => h d (List.mem_cons_of_mem _ hd)
    have h1 := h c List.mem_cons_self
    rw [List.flatMap_cons, List.length_append, List.length_cons, Nat.mul_succ]
    omega
theorem allB_len {cs : List CardD} (o : Ok cs) : (allB cs).length ≤ 64 := by
  have := flat_len (f := (·.bk)) (n := 4) cs fun c h => (o.all c h).bkL
  have := o.len
  unfold allB
  omega
theorem allB_bd {cs : List CardD} (o : Ok cs) : ∀ k ∈ allB cs, 0 ≤ k ∧ k < 31 := fun k h => by
  obtain ⟨c, hc, hk⟩ := List.mem_flatMap.mp h
  have := (o.all c hc).bkB k hk
  omega
theorem Ok.take {cs : List CardD} (o : Ok cs) (i : Nat) : Ok (cs.take i) := ⟨fun c h => o.all c (List.mem_of_mem_take h), by have := o.len; rw [List.length_take]; omega⟩
/-! ### all_books -/
theorem sc_all_books : FnScope ["drawer", "found", "card"] ["drawer"] (defScope s_all_books) := C8.fnScope_by (by decide +kernel)
def sp_all_books (K : PySem.W.Frag) (CD CC : Addr) : Sp := fun vs H Q _ => ∃ d cs, vs = [.ref d] ∧ DrawAt K CD CC H d cs ∧ Ok cs ∧ ∀ p H', Sm H H' → H' p = some (.lst ((sI (allB cs)).map V.int)) → Q (.ref p) H'
theorem ok_all_books (T : Tx K mg CC CD CW CG aR aW) : C8.Cal P w K mg base 3 "all_books" (sp_all_books K CD CC) [] := by
  refine cal_of T.d_all_books (fun _ _ _ _ _ _ us hl => match us, hl with | [_], _ => rfl) sc_all_books (fun vs H Q E h => ?_) (fun f cdv A outer s H vs Q E hr h => ?_)
  · obtain ⟨d, cs, rfl, hd, ok, q⟩ := h; rfl
  · obtain ⟨d, cs, rfl, hd, ok, q⟩ := h
    refine ⟨_, (pss_cons (ps_set (i := 1) sc_all_books.nd rfl (by first | exact Or.inl rfl | exact Or.inr rfl) (pe_lst pa_nil))
      (pss_cons (ps_for PassesOwn.never rfl (pi_tup (pe_prp T.kD (pr_Drawer_cards T) hr (by decide) (pv 0))) (pg_name (i := 2) sc_all_books.nd rfl (by first | exact Or.inl rfl | exact Or.inr rfl)) (pss_one (ps_expr (pe_bm PySem.F.plainAttrs_list PySem.F.slot_list_extend PySem.F.type_list_extend (mt_extK (K := K) rfl) (pv 1) (pa_cons (pe_prp T.kC (pr_Card_books T) hr (by decide) (pv 2)) pa_nil)))))
      (pss_one (ps_ret (pe_sortI (K := K) rfl rfl (by rfl) T.b_sorted (by rfl) T.b_set (pv 1)))))), ?_⟩
    refine ⟨by decide, fun F hF => ⟨_, rfl, rd_cards (hd.same (Sm.new hF)) fun row xs hx hrow => ⟨row, rfl, ⟨_, hx⟩, ?_⟩⟩⟩
    have len : xs.length = cs.length := hrow.1
    refine for_it (walk_tup (xs := xs)) (fun i σ' H' => (∃ o, σ' = [some (.ref d), some (.ref F), o]) ∧ Sm H H' ∧ SqT K H' row xs ∧ RowAt K CC H' xs cs ∧ H' F = some (.lst ((allB (cs.take i)).map V.int))) ⟨⟨_, rfl⟩, Sm.new hF, hx, hrow, upd_same⟩ (fun i σ' H' _ h => h.2.2.1)
      (fun i v σ1 H1 H2 hi ⟨⟨o, e0⟩, s1, hx1, hr1, e1⟩ hy => ?_) (fun σ1 H1 ⟨⟨o, e0⟩, s1, hx1, hr1, e1⟩ => ?_)
    · subst e0
      obtain ⟨rfl, ev⟩ := hy
      obtain ⟨c, hc, ca, rfl, hca⟩ := hr1.at' ev
      refine ⟨_, rfl, .inl ⟨rfl, _, SqL.of e1⟩, _, rfl, rd_books hca fun b hb => ⟨F, b, _, _, rfl, rfl, e1, .inr hb, ?_, ⟨_, rfl⟩, s1.wr hF, SqT.updL hx1 e1, hr1.updL e1, ?_⟩⟩
      · have := allB_len (ok.take i)
        have := (ok.at hc).bkL
        simp only [List.length_map]; omega
      · rw [upd_same, take_snoc hc, allB_snoc, List.map_append]
    · subst e0
      rw [len, List.take_length] at e1
      exact ⟨_, rfl, F, _, rfl, .inl (SqL.of e1), Nat.le_trans (allB_len ok) (by decide), allB_bd ok, fun p H2 s2 _ e2 => q p H2 (s1.trans s2) e2⟩
/-! ### known_headings -/
def knF (c : CardD) : List Str := if c.see = Str.empty then c.al else [c.see]
def kn (cs : List CardD) : List Str := cs.flatMap fun c => c.h :: ((if c.see = Str.empty then [] else [c.see]) ++ c.al)
def known (cs : List CardD) : List Str := sS (kn cs)
theorem knF_len {c : CardD} (o : CardOk c) : (knF c).length ≤ 4 := by
  unfold knF; split
  · exact o.alL
  · simp
theorem knF_u {c : CardD} (o : CardOk c) : ∀ k ∈ knF c, k ∈ uS := fun k h => by
  unfold knF at h; split at h
  · exact (o.alU k h).1
  · rename_i e
    have : k = c.see := by simpa using h
    subst this
    rcases o.see with z | z
    · exact absurd z e
    · exact z.1
theorem knF_mem {c : CardD} (o : CardOk c) (k : Str) : k ∈ knF c ↔ k ∈ (if c.see = Str.empty then [] else [c.see]) ++ c.al := by
  unfold knF; split
  · simp
  · rename_i e
    rcases o.see with z | z
    · exact absurd z e
    · rw [z.2.2.2]; simp
theorem known_eq {cs : List CardD} (o : Ok cs) : sS (sS (cs.map (·.h)) ++ cs.flatMap knF) = known cs := by
  refine sS_congr fun k => ?_
  rw [List.mem_append, mem_sS fun k hk => by obtain ⟨c, hc, rfl⟩ := List.mem_map.mp hk; exact (o.all c hc).hd]
  unfold kn
  rw [List.mem_map, List.mem_flatMap, List.mem_flatMap]
  constructor
  · rintro (⟨c, hc, rfl⟩ | ⟨c, hc, hk⟩)
    · exact ⟨c, hc, List.mem_cons_self⟩
    · exact ⟨c, hc, List.mem_cons_of_mem _ ((knF_mem (o.all c hc) k).1 hk)⟩
  · rintro ⟨c, hc, hk⟩
    rcases List.mem_cons.mp hk with z | z
    · exact .inl ⟨c, hc, z.symm⟩
    · exact .inr ⟨c, hc, (knF_mem (o.all c hc) k).2 z⟩
theorem knU {cs : List CardD} (o : Ok cs) : ∀ k ∈ kn cs, k ∈ uS := fun k h => by
  obtain ⟨c, hc, hk⟩ := List.mem_flatMap.mp h
  rcases List.mem_cons.mp hk with z | z
  · rw [z]; exact (o.all c hc).hd
  · exact knF_u (o.all c hc) k ((knF_mem (o.all c hc) k).2 z)
theorem sc_known_headings : FnScope ["drawer", "found", "card"] ["drawer"] (defScope s_known_headings) := C8.fnScope_by (by decide +kernel)
def sp_known_headings (K : PySem.W.Frag) (CD CC : Addr) : Sp := fun vs H Q _ => ∃ d cs, vs = [.ref d] ∧ DrawAt K CD CC H d cs ∧ Ok cs ∧ ∀ p H', Sm H H' → H' p = some (.lst ((known cs).map V.str)) → Q (.ref p) H'
theorem ok_known_headings (T : Tx K mg CC CD CW CG aR aW) : C8.Cal P w K mg base 5 "known_headings" (sp_known_headings K CD CC) [] := by
  refine cal_of T.d_known_headings (fun _ _ _ _ _ _ us hl => match us, hl with | [_], _ => rfl) sc_known_headings (fun vs H Q E h => ?_) (fun f cdv A outer s H vs Q E hr h => ?_)
  · obtain ⟨d, cs, rfl, hd, ok, q⟩ := h; rfl
  · obtain ⟨d, cs, rfl, hd, ok, q⟩ := h
    refine ⟨_, (pss_cons (ps_set (i := 1) sc_known_headings.nd rfl (by first | exact Or.inl rfl | exact Or.inr rfl) (pe_callTy (call_listK (K := K) rfl) (by rfl) T.b_list (by decide +kernel) (pa_cons (pe_prp T.kD (pr_Drawer_headings T) hr (by decide) (pv 0)) pa_nil)))
      (pss_cons (ps_for PassesOwn.never rfl (pi_tup (pe_prp T.kD (pr_Drawer_cards T) hr (by decide) (pv 0))) (pg_name (i := 2) sc_known_headings.nd rfl (by first | exact Or.inl rfl | exact Or.inr rfl)) (pss_one (ps_expr (pe_bm PySem.F.plainAttrs_list PySem.F.slot_list_extend PySem.F.type_list_extend (mt_extK (K := K) rfl) (pv 1) (pa_cons (pe_ifExp (pt_val (pe_prp T.kC (pr_Card_leads T) hr (by decide) (pv 2))) (pe_lst (pa_cons (pe_prp T.kC (pr_Card_see T) hr (by decide) (pv 2)) pa_nil)) (pe_prp T.kC (pr_Card_also T) hr (by decide) (pv 2))) pa_nil)))))
      (pss_one (ps_ret (pe_sortS (K := K) rfl rfl (by rfl) T.b_sorted (by rfl) T.b_set (pv 1)))))), ?_⟩
    refine ⟨_, rfl, rd_headings hd ok fun hp H0 s0 eh => ⟨hp, _, rfl, .inr eh, fun F hF => ?_⟩⟩
    have hF0 : H F = none := s0.free hF
    have sF : Sm H (upd H0 F (.lst ((sS (cs.map (·.h))).map V.str))) := s0.new' hF
    refine ⟨_, rfl, rd_cards (hd.same sF) fun row xs hx hrow => ⟨row, rfl, ⟨_, hx⟩, ?_⟩⟩
    have len : xs.length = cs.length := hrow.1
    refine for_it (walk_tup (xs := xs)) (fun i σ' H' => (∃ o, σ' = [some (.ref d), some (.ref F), o]) ∧ Sm H H' ∧ SqT K H' row xs ∧ RowAt K CC H' xs cs ∧ H' F = some (.lst ((sS (cs.map (·.h)) ++ (cs.take i).flatMap knF).map V.str))) ⟨⟨_, rfl⟩, sF, hx, hrow, by rw [upd_same]; simp⟩ (fun i σ' H' _ h => h.2.2.1)
      (fun i v σ1 H1 H2 hi ⟨⟨o, e0⟩, s1, hx1, hr1, e1⟩ hy => ?_) (fun σ1 H1 ⟨⟨o, e0⟩, s1, hx1, hr1, e1⟩ => ?_)
    · subst e0
      obtain ⟨rfl, ev⟩ := hy
      obtain ⟨c, hc, ca, rfl, hca⟩ := hr1.at' ev
      have fl : (((cs.take i).flatMap knF).length) ≤ 64 := by
        have := flat_len (f := knF) (n := 4) (cs.take i) fun c h => knF_len (ok.all c (List.mem_of_mem_take h))
        have := (ok.take i).len
        omega
      have sl := sS_len (cs.map (·.h))
      have kl := knF_len (ok.at hc)
      have fin : ∀ H3 b, Sm H2 H3 → H3 F = some (.lst ((sS (cs.map (·.h)) ++ (cs.take i).flatMap knF).map V.str)) → (H3 b = some (.lst ((knF c).map V.str)) ∨ SqT K H3 b ((knF c).map V.str)) → rExtA K (.ref F) [.ref b] H3 (fun _ H' => (∃ o, [some (V.ref d), some (V.ref F), some (V.ref ca)] = [some (.ref d), some (.ref F), o]) ∧ Sm H H' ∧ SqT K H' row xs ∧ RowAt K CC H' xs cs ∧ H' F = some (.lst ((sS (cs.map (·.h)) ++ (cs.take (i + 1)).flatMap knF).map V.str))) := fun H3 b s3 e3 hb => by
        refine ⟨F, b, _, _, rfl, rfl, e3, hb, by simp only [List.length_map, List.length_append]; omega, ⟨_, rfl⟩, (s1.trans s3).wr hF0, SqT.updL (s3.tup hx1) e3, (hr1.same s3).updL e3, ?_⟩
        rw [upd_same, take_snoc hc]
        simp
      refine ⟨_, rfl, .inl ⟨rfl, _, SqL.of e1⟩, _, rfl, rd_leads hca ⟨_, rfl, ?_⟩⟩
      by_cases es : c.see = Str.empty
      · refine ifF (nF es) ⟨_, rfl, rd_also hca fun b hb => fin _ _ (Sm.refl _) e1 (.inr ?_)⟩
        unfold knF; rw [if_pos es]; exact hb
      · refine ifT (nT es) ⟨_, rfl, rd_see hca ⟨szl rfl, fun b hb => fin _ _ (Sm.new hb) ((Sm.new hb) _ _ e1) (.inl ?_)⟩⟩
        unfold knF; rw [if_neg es]; exact upd_same
    · subst e0
      rw [len, List.take_length] at e1
      refine ⟨_, rfl, F, _, rfl, .inl (SqL.of e1), ?_, ?_, fun p H2 s2 _ e2 => q p H2 (s1.trans s2) (by rw [← known_eq ok]; exact e2)⟩
      · have := flat_len (f := knF) (n := 4) cs fun c h => knF_len (ok.all c h)
        have := ok.len
        have := sS_len (cs.map (·.h))
        rw [List.length_append]; omega
      · intro k hk
        rcases List.mem_append.mp hk with z | z
        · exact (sS_in z).1
        · obtain ⟨c, hc, hk⟩ := List.mem_flatMap.mp z
          exact knF_u (ok.all c hc) k hk
end
end Se
namespace Se
open PySem PySem.Spec PyProof.Rows L2
section
variable {P : Program} {w : World} {K : PySem.W.Frag} {mg : Str → Option Value} {base : Heap} {CC CD CW CG aR aW : Addr}
/-- the answer of a look: the place or None, the places seen -/
def LookQ (K : PySem.W.Frag) (H : Hp) (Q : VK) (r : Option Nat) : Prop := ∀ p lk ls H', Sm H H' → SqT K H' p [optV r, .ref lk] → SqT K H' lk ls → ls.length ≤ 17 → Q (.ref p) H'
theorem sgt_iff {a b : Str} : decide (b.cps.toList < a.cps.toList) = sgt a b := rfl
/-! ### by_halves -/
theorem sc_by_halves : FnScope ["drawer", "heading", "looks", "first", "last", "middle", "here"] ["drawer", "heading"] (defScope s_by_halves) := C8.fnScope_by (by decide +kernel)
def sp_by_halves (K : PySem.W.Frag) (CD CC : Addr) : Sp := fun vs H Q _ => ∃ d cs h, vs = [.ref d, .str h] ∧ DrawAt K CD CC H d cs ∧ Ok cs ∧ LookQ K H Q (look cs .half h)
def muB : L2.St → Hp → Nat := fun σ _ => match σ with
  | [_, _, _, some (.int a), some (.int b), _, _] => (b - a + 1).toNat
  | _ => 0
theorem mid_eq {lo hi : Nat} (h : lo < hi) : ((lo : Int) + ((hi : Int) - 1)) / 2 = ((mid .half lo hi : Nat) : Int) := by
  unfold mid
  rw [if_pos rfl]
  omega
theorem ok_by_halves (T : Tx K mg CC CD CW CG aR aW) : C8.Cal P w K mg base 3 "by_halves" (sp_by_halves K CD CC) [] := by
  refine cal_of T.d_by_halves (fun _ _ _ _ _ _ us hl => match us, hl with | [_, _], _ => rfl) sc_by_halves (fun vs H Q E h => ?_) (fun f cdv A outer s H vs Q E hr h => ?_)
  · obtain ⟨d, cs, h, rfl, hd, ok, q⟩ := h; rfl
  · obtain ⟨d, cs, h, rfl, hd, ok, q⟩ := h
    refine ⟨_, (pss_cons (ps_set (i := 2) sc_by_halves.nd rfl (by first | exact Or.inl rfl | exact Or.inr rfl) (pe_lst pa_nil))
      (pss_cons (ps_par (i := 3) (j := 4) rfl sc_by_halves.nd rfl rfl (by decide) rfl rfl (pa_cons pe_int (pa_cons (pe_op op_sub (pe_callB (call_lenK (K := K) rfl) (by rfl) T.b_len PySem.boot_len (pa_cons (pe_prp T.kD (pr_Drawer_cards T) hr (by decide) (pv 0)) pa_nil)) pe_int) pa_nil)) (by rfl))
      (pss_cons (ps_while PassesOwn.never (pt_cmpR op_le (pv 3) (pv 4) (nomark _)) (pss_cons (ps_set (i := 5) sc_by_halves.nd rfl (by first | exact Or.inl rfl | exact Or.inr rfl) (pe_op op_fdiv (pe_op op_add (pv 3) (pv 4)) pe_int))
      (pss_cons (ps_expr (pe_bm PySem.F.plainAttrs_list PySem.F.slot_list_append PySem.F.type_list_append mt_append (pv 2) (pa_cons (pv 5) pa_nil)))
      (pss_cons (ps_set (i := 6) sc_by_halves.nd rfl (by first | exact Or.inl rfl | exact Or.inr rfl) (pe_prp T.kC (pr_Card_heading T) hr (by decide) (pe_ix (ix_tupK (K := K) rfl) (pe_prp T.kD (pr_Drawer_cards T) hr (by decide) (pv 0)) (pv 5) (fun _ _ => rfl))))
      (pss_cons (ps_if (pt_cmpR op_eq (pv 6) (pv 1) (nomark _)) (pss_one (ps_ret (pe_tup (pa_cons (pv 5) (pa_cons (pe_tupleK (K := K) rfl (by rfl) T.b_tuple (pv 2)) pa_nil))))) pss_nil)
      (pss_one (ps_if (pt_cmpR op_gt_str (pv 6) (pv 1) (nomark _)) (pss_one (ps_set (i := 4) sc_by_halves.nd rfl (by first | exact Or.inl rfl | exact Or.inr rfl) (pe_op op_sub (pv 5) pe_int))) (pss_one (ps_set (i := 3) sc_by_halves.nd rfl (by first | exact Or.inl rfl | exact Or.inr rfl) (pe_op op_add (pv 5) pe_int))))))))))
      (pss_one (ps_ret (pe_tup (pa_cons pe_non (pa_cons (pe_tupleK (K := K) rfl (by rfl) T.b_tuple (pv 2)) pa_nil)))))))), ?_⟩
    refine ⟨szl rfl, fun L hL => ?_⟩
    have sL : Sm H (upd H L (.lst [])) := Sm.new hL
    refine ⟨_, rfl, rd_cards (hd.same sL) fun row xs hx hrow => ⟨_, _, rfl, .inr ⟨_, hx, rfl⟩, _, _, rfl, rfl, _, _, rfl, ?_⟩⟩
    have len : xs.length = cs.length := hrow.1
    have ol := ok.len
    refine while_by (fun σ' H' => ∃ lo hi : Nat, ∃ o5 o6, ∃ ls : List V, σ' = [some (.ref d), some (.str h), some (.ref L), some (.int lo), some (.int ((hi : Int) - 1)), o5, o6] ∧ hi ≤ cs.length ∧ lo ≤ hi ∧ Sm H H' ∧ H' L = some (.lst ls) ∧ ls.length + (hi - lo) ≤ cs.length ∧
      look cs .half h = lookF cs .half h (cs.length + 1) lo hi) muB ⟨0, cs.length, none, none, [], by rw [len]; rfl, Nat.le_refl _, Nat.zero_le _, sL, upd_same, by simp, rfl⟩ (fun σ1 H1 ⟨lo, hi, o5, o6, ls, e0, b1, b2, s1, e1, b3, el⟩ => ?_) ?_
    · subst e0
      refine ⟨_, rfl, _, rfl, _, _, rfl, rfl, _, rfl, ?_⟩
      by_cases hl : lo < hi
      · refine ifT (dT (by omega)) ?_
        have m1 := mid_lo (r := .half) hl
        have m2 := mid_hi (r := .half) hl
        obtain ⟨c, hc⟩ := get_of_lt (l := cs) (i := mid .half lo hi) (by omega)
        refine ⟨_, rfl, _, rfl, _, _, rfl, rfl, _, _, rfl, rfl, ⟨by decide, by decide⟩, ?_⟩
        dsimp only
        rw [mid_eq hl]
        refine ⟨_, rfl, .inl ⟨rfl, _, SqL.of e1⟩, _, rfl, L, _, _, rfl, rfl, e1, sizeLt (by omega), ?_⟩
        have s2 := s1.wr (o := .lst (ls ++ [.int (mid .half lo hi : Nat)])) hL
        refine ⟨_, rfl, rd_cards (hd.same s2) fun row xs hx hrow => ?_⟩
        obtain ⟨v, ev, ca, rfl, hca⟩ := hrow.at hc
        refine ⟨_, rfl, row, xs, _, _, rfl, rfl, hx, atI_nat ev, rd_heading hca ⟨_, rfl, _, rfl, rfl, _, rfl, ?_⟩⟩
        by_cases eh : c.h = h
        · refine ifT (dT (congrArg V.str eh)) ?_
          refine ⟨_, rfl, _, rfl, .inl ⟨L, _, rfl, SqL.of upd_same, fun t ht => ⟨szl rfl, fun p hp => ?_⟩⟩⟩
          refine q p t (ls ++ [.int (mid .half lo hi : Nat)]) _ ((s2.new' ht).new' hp) (SqT.of ?_) (SqT.of ?_) (by rw [List.length_append]; simp; omega)
          · rw [upd_same, el, lookF_hit hl hc eh]; rfl
          · rw [upd_ne (ne_of_none upd_same hp), upd_same]
        · refine ifF (dF (str_ne eh)) ⟨_, rfl, _, rfl, _, _, rfl, rfl, _, rfl, ?_⟩
          by_cases g : sgt c.h h = true
          · refine ifT g ⟨_, rfl, _, _, rfl, rfl, ⟨lo, mid .half lo hi, _, _, _, rfl, by omega, m1, s2, upd_same, by rw [List.length_append]; simp; omega, ?_⟩, ?_⟩
            · rw [el, lookF_gt hl hc eh g (by decide), if_pos rfl]
              exact lookF_fuel _ _ _ _ _ _ _ (by omega) (by omega)
            · show (((mid .half lo hi : Nat) : Int) - 1 - (lo : Int) + 1).toNat < ((hi : Int) - 1 - (lo : Int) + 1).toNat
              omega
          · refine ifF (show sgt c.h h = false by simpa using g) ⟨_, rfl, _, _, rfl, rfl, ⟨mid .half lo hi + 1, hi, _, _, _, rfl, b1, by omega, s2, upd_same, by rw [List.length_append]; simp; omega, ?_⟩, ?_⟩
            · rw [el, lookF_on hl hc eh fun z => g z.1]
              exact lookF_fuel _ _ _ _ _ _ _ (by omega) (by omega)
            · show ((hi : Int) - 1 - (((mid .half lo hi : Nat) : Int) + 1) + 1).toNat < ((hi : Int) - 1 - (lo : Int) + 1).toNat
              omega
      · refine ifF (dF (by omega)) ?_
        refine ⟨_, rfl, .inl ⟨L, _, rfl, SqL.of e1, fun t ht => ⟨szl rfl, fun p hp => ?_⟩⟩⟩
        refine q p t ls _ ((s1.new' ht).new' hp) (SqT.of ?_) (SqT.of ?_) (by omega)
        · rw [upd_same, el, lookF_end (by omega)]; rfl
        · rw [upd_ne (ne_of_none upd_same hp), upd_same]
    · rintro σ H Q Q' f ⟨v1, h1, v2, h2, i, j, h3, h4, k, h5, h6⟩
      exact ⟨v1, h1, v2, h2, i, j, h3, h4, k, h5, f _ _ h6⟩
/-! ### one_by_one -/
theorem sc_one_by_one : FnScope ["drawer", "heading", "is_leafing", "place", "card"] ["drawer", "heading", "is_leafing"] (defScope s_one_by_one) := C8.fnScope_by (by decide +kernel)
def sp_one_by_one (K : PySem.W.Frag) (CD CC : Addr) : Sp := fun vs H Q _ => ∃ d cs h, ∃ r : Rl, vs = [.ref d, .str h, .bl (decide (r = .leaf))] ∧ r ≠ .half ∧ DrawAt K CD CC H d cs ∧ Ok cs ∧ LookQ K H Q (look cs r h)
theorem ok_one_by_one (T : Tx K mg CC CD CW CG aR aW) : C8.Cal P w K mg base 3 "one_by_one" (sp_one_by_one K CD CC) [] := by
  refine cal_of T.d_one_by_one (fun _ _ _ _ _ _ us hl => match us, hl with | [_, _, _], _ => rfl) sc_one_by_one (fun vs H Q E h => ?_) (fun f cdv A outer s H vs Q E hr h => ?_)
  · obtain ⟨d, cs, h, r, rfl, nr, hd, ok, q⟩ := h; rfl
  · obtain ⟨d, cs, h, r, rfl, nr, hd, ok, q⟩ := h
    refine ⟨_, (pss_cons (ps_for PassesOwn.never rfl (pi_enumT (by rfl) T.b_enumerate (pa_cons (pe_prp T.kD (pr_Drawer_cards T) hr (by decide) (pv 0)) pa_nil)) (pg_tup rfl (pgs_cons (pg_name (i := 3) sc_one_by_one.nd rfl (by first | exact Or.inl rfl | exact Or.inr rfl)) (pgs_cons (pg_name (i := 4) sc_one_by_one.nd rfl (by first | exact Or.inl rfl | exact Or.inr rfl)) pgs_nil))) (pss_cons (ps_if (pt_cmpR op_eq (pe_prp T.kC (pr_Card_heading T) hr (by decide) (pv 4)) (pv 1) (nomark _)) (pss_one (ps_ret (pe_tup (pa_cons (pv 3) (pa_cons (pe_tupRg rfl (by rfl) T.b_tuple (prg_1 (by rfl) T.b_range (pe_op op_add (pv 3) pe_int))) pa_nil))))) pss_nil)
      (pss_one (ps_if (PW.pt (pw_and (pt_val (pv 2)) (pw_and1 (pt_cmpR op_gt_str (pe_prp T.kC (pr_Card_heading T) hr (by decide) (pv 4)) (pv 1) (nomark _))))) (pss_one (ps_ret (pe_tup (pa_cons pe_non (pa_cons (pe_tupRg rfl (by rfl) T.b_tuple (prg_1 (by rfl) T.b_range (pe_op op_add (pv 3) pe_int))) pa_nil))))) pss_nil))))
      (pss_one (ps_ret (pe_tup (pa_cons pe_non (pa_cons (pe_tupRg rfl (by rfl) T.b_tuple (prg_1 (by rfl) T.b_range (pe_callB (call_lenK (K := K) rfl) (by rfl) T.b_len PySem.boot_len (pa_cons (pe_prp T.kD (pr_Drawer_cards T) hr (by decide) (pv 0)) pa_nil)))) pa_nil)))))), ?_⟩
    have ol := ok.len
    have rgl : ∀ n : Nat, n ≤ 17 → (rgV 0 (n : Int)).length ≤ 17 := fun n hn => by rw [rgV_length]; omega
    have md : ∀ lo hi, mid r lo hi = lo := fun lo hi => by unfold mid; rw [if_neg nr]
    refine ⟨_, rfl, rd_cards hd fun row xs hx hrow => ⟨row, xs, rfl, hx, ?_⟩⟩
    have len : xs.length = cs.length := hrow.1
    refine for_it (walk_enumT (xs := xs)) (fun i σ' H' => (∃ o3 o4, σ' = [some (.ref d), some (.str h), some (.bl (decide (r = .leaf))), o3, o4]) ∧ Sm H H' ∧ look cs r h = lookF cs r h (cs.length + 1) i cs.length) ⟨⟨_, _, rfl⟩, Sm.refl _, rfl⟩ (fun i σ' H' _ h => h.2.1.tup hx)
      (fun i v σ1 H1 H2 hi ⟨⟨o3, o4, e0⟩, s1, el⟩ hy => ?_) (fun σ1 H1 ⟨⟨o3, o4, e0⟩, s1, el⟩ => ?_)
    · subst e0
      obtain ⟨t, x, y, rfl, nt, rfl, ex, ey⟩ := hy
      cases ex
      dsimp only at ey
      obtain ⟨c, hc, ca, rfl, hca⟩ := hrow.at' ey
      have s2 := s1.new' (o := .tup [.int (i : Nat), .ref ca]) nt
      have il := get_lt hc
      have hc2 : cs[mid r i cs.length]? = some c := by rw [md]; exact hc
      refine ⟨t, _, rfl, SqT.of upd_same, rfl, _, _, rfl, _, _, rfl, rfl, _, rfl, rd_heading (hca.same s2) ⟨_, rfl, rfl, _, rfl, ?_⟩⟩
      by_cases eh : c.h = h
      · refine ifT (dT (congrArg V.str eh)) ⟨_, rfl, _, rfl, _, _, rfl, rfl, _, rfl, RgOk.of_le (by omega) (by omega) (by omega) (by omega), fun z hz => ⟨szl rfl, fun p hp => ?_⟩⟩
        refine q p z _ _ ((s2.new' hz).new' hp) (SqT.of ?_) (SqT.of ?_) (rgl (i + 1) (by omega))
        · rw [upd_same, el, lookF_hit il hc2 eh, md]; rfl
        · rw [upd_ne (ne_of_none upd_same hp), upd_same]; rfl
      · refine ifF (dF (str_ne eh)) ⟨_, rfl, _, rfl, ?_⟩
        by_cases hlf : r = .leaf
        · rw [dT hlf]
          refine iteT ⟨_, rfl, rd_heading (hca.same s2) ⟨_, rfl, _, _, rfl, rfl, _, rfl, ?_⟩⟩
          by_cases g : sgt c.h h = true
          · refine ifT g ⟨_, rfl, _, _, rfl, rfl, _, rfl, RgOk.of_le (by omega) (by omega) (by omega) (by omega), fun z hz => ⟨szl rfl, fun p hp => ?_⟩⟩
            refine q p z _ _ ((s2.new' hz).new' hp) (SqT.of ?_) (SqT.of ?_) (rgl (i + 1) (by omega))
            · rw [upd_same, el, lookF_gt il hc2 eh g (by rw [hlf]; decide), if_neg nr, lookF_end (Nat.le_refl _)]; rfl
            · rw [upd_ne (ne_of_none upd_same hp), upd_same]; rfl
          · refine ifF (show sgt c.h h = false by simpa using g) ⟨⟨_, _, rfl⟩, s2, ?_⟩
            rw [el, lookF_on il hc2 eh (fun z => g z.1), md]
            exact lookF_fuel _ _ _ _ _ _ _ (by omega) (by omega)
        · rw [dF hlf]
          refine iteF ⟨⟨_, _, rfl⟩, s2, ?_⟩
          have ha : r = .all := by cases r <;> simp_all
          rw [el, lookF_on il hc2 eh (fun z => z.2 ha), md]
          exact lookF_fuel _ _ _ _ _ _ _ (by omega) (by omega)
    · subst e0
      refine ⟨_, rfl, rd_cards (hd.same s1) fun row2 xs2 hx2 hrow2 => ⟨_, _, rfl, .inr ⟨_, hx2, rfl⟩, _, rfl, RgOk.of_le (by omega) ?_ (by omega) (by omega), fun z hz => ⟨szl rfl, fun p hp => ?_⟩⟩⟩
      · have := hrow2.1; omega
      · have l2 := hrow2.1
        refine q p z _ _ ((s1.new' hz).new' hp) (SqT.of ?_) (SqT.of ?_) (rgl xs2.length (by omega))
        · rw [upd_same, el, len, lookF_end (Nat.le_refl _)]; rfl
        · rw [upd_ne (ne_of_none upd_same hp), upd_same]
/-! ### looked_up -/
theorem sc_looked_up : FnScope ["drawer", "rule", "heading"] ["drawer", "rule", "heading"] (defScope s_looked_up) := C8.fnScope_by (by decide +kernel)
def sp_look (K : PySem.W.Frag) (CD CC : Addr) : Sp := fun vs H Q _ => ∃ d cs h, ∃ r : Rl, vs = [.ref d, .str r.str, .str h] ∧ DrawAt K CD CC H d cs ∧ Ok cs ∧ LookQ K H Q (look cs r h)
theorem rl_half {r : Rl} : decide (V.str r.str = V.str "half") = decide (r = .half) := by cases r <;> decide +kernel
theorem rl_leaf {r : Rl} : decide (V.str r.str = V.str "leaf") = decide (r = .leaf) := by cases r <;> decide +kernel
theorem rl_all {r : Rl} : decide (V.str r.str = V.str "all") = decide (r = .all) := by cases r <;> decide +kernel
theorem ok_looked_up (T : Tx K mg CC CD CW CG aR aW) : C8.Cal P w K mg base 4 "looked_up" (sp_look K CD CC) [] := by
  refine cal_of T.d_looked_up (fun _ _ _ _ _ _ us hl => match us, hl with | [_, _, _], _ => rfl) sc_looked_up (fun vs H Q E h => ?_) (fun f cdv A outer s H vs Q E hr h => ?_)
  · obtain ⟨d, cs, h, r, rfl, hd, ok, q⟩ := h; rfl
  · obtain ⟨d, cs, h, r, rfl, hd, ok, q⟩ := h
    refine ⟨_, (pss_cons (ps_if (pt_cmpR op_eq (pv 1) (C8.pe_gc (by rfl) T.c_HALF) (nomark _)) (pss_one (ps_ret (C8.pe_c (ok_by_halves T) hr (by decide) (by rfl) (pa_cons (pv 0) (pa_cons (pv 2) pa_nil))))) pss_nil)
      (pss_one (ps_ret (C8.pe_c (ok_one_by_one T) hr (by decide) (by rfl) (pa_cons (pv 0) (pa_cons (pv 2) (pa_cons (pe_cmpR op_eq (pv 1) (C8.pe_gc (by rfl) T.c_LEAF) (nomark _)) pa_nil))))))), ?_⟩
    refine ⟨_, rfl, rfl, _, rfl, ?_⟩
    by_cases e : r = .half
    · refine ifT (by rw [rl_half]; exact dT e) ⟨_, rfl, _, rfl, d, cs, h, rfl, hd, ok, ?_⟩
      rw [← e]; exact q
    · refine ifF (by rw [rl_half]; exact dF e) ⟨_, rfl, _, rfl, _, rfl, rfl, d, cs, h, r, ?_, e, hd, ok, q⟩
      rw [show decide (V.str r.str = V.str "leaf") = decide (r = .leaf) from rl_leaf]
      rfl
end
end Se
namespace Se
open PySem PySem.Spec PyProof.Rows L2
section
variable {P : Program} {w : World} {K : PySem.W.Frag} {mg : Str → Option Value} {base : Heap} {CC CD CW CG aR aW : Addr}
/-! ### is_all_found -/
def found (cs : List CardD) (r : Rl) : Bool := (sS (cs.map (·.h))).all fun h => (look cs r h).isSome
theorem isN_opt (o : Option Nat) : (!decide (optV o = V.non)) = o.isSome := by
  cases o with
  | none => rfl
  | some n => exact nT fun z => nomatch z
theorem sc_is_all_found : FnScope ["drawer", "rule", "heading"] ["drawer", "rule"] (defScope s_is_all_found) := C8.fnScope_by (by decide +kernel)
def sp_found (K : PySem.W.Frag) (CD CC : Addr) : Sp := fun vs H Q _ => ∃ d cs, ∃ r : Rl, vs = [.ref d, .str r.str] ∧ DrawAt K CD CC H d cs ∧ Ok cs ∧ ∀ H', Sm H H' → Q (.bl (found cs r)) H'
theorem ok_is_all_found (T : Tx K mg CC CD CW CG aR aW) : C8.Cal P w K mg base 5 "is_all_found" (sp_found K CD CC) [] := by
  refine cal_of T.d_is_all_found (fun _ _ _ _ _ _ us hl => match us, hl with | [_, _], _ => rfl) sc_is_all_found (fun vs H Q E h => ?_) (fun f cdv A outer s H vs Q E hr h => ?_)
  · obtain ⟨d, cs, r, rfl, hd, ok, q⟩ := h; rfl
  · obtain ⟨d, cs, r, rfl, hd, ok, q⟩ := h
    refine ⟨_, (pss_one (ps_ret (pe_callB (cr_all rfl) (by rfl) T.b_all (by decide +kernel) (pa_cons (pe_lc (own := [("heading", 2)]) (g := (gName 2)) (tt := tYes) rfl sc_is_all_found.nd (pi_tup (pe_prp T.kD (pr_Drawer_headings T) hr (by decide) (pv 0))) (blkOk_by (own := [("heading", 2)]) (N := ["drawer", "rule", "heading"]) (sc := defScope s_is_all_found) (by decide +kernel)) (fun _ _ _ _ _ => (pg_name (i := 2) sc_is_all_found.nd rfl (by first | exact Or.inl rfl | exact Or.inr rfl))) (fun _ _ _ _ _ => pts_nil) (fun _ _ _ _ _ => (pe_cmpR op_notN (pe_ix (ix_tupK (K := K) rfl) (C8.pe_c (ok_looked_up T) hr (by decide) (by rfl) (pa_cons (pv 0) (pa_cons (pv 1) (pa_cons (pv 2) pa_nil)))) pe_int (fun _ _ => rfl)) pe_non (nomark _)))) pa_nil)))), ?_⟩
    refine ⟨_, rfl, rd_headings hd ok fun hp H0 s0 eh => ⟨hp, rfl, ⟨_, eh⟩, fun D hD => lc_it (walk_tup (xs := (sS (cs.map (·.h))).map V.str)) (fun i H' => Sm H0 H' ∧ H' D = some (.lst ((((sS (cs.map (·.h))).take i).map fun h => (look cs r h).isSome).map V.bl))) ⟨Sm.new hD, upd_same⟩ (fun i H' _ ⟨s1, _⟩ => s1.tup eh)
      (fun i v H1 H2 hi ⟨s1, e1⟩ hy => ?_) (fun H1 ⟨s1, e1⟩ => ?_)⟩⟩
    · obtain ⟨rfl, ev⟩ := hy
      rw [List.getElem?_map] at ev
      obtain ⟨h, eh2, rfl⟩ := Option.map_eq_some_iff.mp ev
      have sl := sS_len (cs.map (·.h))
      refine ⟨rfl, yes_if ⟨_, rfl, _, rfl, _, rfl, d, cs, h, r, rfl, hd.same (s0.trans s1), ok, fun p lk ls H3 s3 ep _ _ => ⟨p, _, _, _, rfl, rfl, ep, rfl, rfl, _, s3 _ _ e1, sizeLt (by simp; omega), (s1.trans s3).wr hD, ?_⟩⟩⟩
      rw [upd_same, take_snoc eh2, List.map_append, List.map_append]
      exact congrArg (fun b => some (HO.lst (_ ++ [V.bl b]))) (isN_opt _)
    · refine ⟨D, _, rfl, SqL.of e1, ?_⟩
      rw [List.length_map, List.take_length, List.all_map]
      exact q H1 (s0.trans s1)
/-! ### choices of at most one place -/
def chs (n : Nat) : Nat → List (List Int)
  | 0 => [[]]
  | _ => (List.range n).map fun k : Nat => [(k : Int)]
/-- a list of tuples of ints -/
def TupsAt (K : PySem.W.Frag) (H : Hp) (xs : List V) (cs : List (List Int)) : Prop := Each (fun x (ns : List Int) => ∃ t, x = V.ref t ∧ SqT K H t (ns.map V.int)) xs cs
theorem TupsAt.same {H H' : Hp} {xs : List V} {cs : List (List Int)} (h : TupsAt K H xs cs) (s : Sm H H') : TupsAt K H' xs cs := h.mono fun _ _ ⟨a, e, z⟩ => ⟨a, e, s.tup z⟩
theorem TupsAt.updL {H : Hp} {D : Addr} {xs ys : List V} {cs : List (List Int)} {u : HO} (h : TupsAt K H xs cs) (e : H D = some (.lst ys)) : TupsAt K (upd H D u) xs cs := h.mono fun _ _ ⟨a, q, z⟩ => ⟨a, q, SqT.updL z e⟩
theorem sc_choices : FnScope ["places", "size", "found", "turn", "longer", "some", "place"] ["places", "size"] (defScope s_choices) := C8.fnScope_by (by decide +kernel)
def sp_choices (K : PySem.W.Frag) : Sp := fun vs H Q _ => ∃ l n, ∃ k : Nat, vs = [.ref l, .int k] ∧ SqL K H l ((List.range n).map vN) ∧ n ≤ 16 ∧ k ≤ 1 ∧ ∀ p xs H', Sm H H' → H p = none → H' p = some (.lst xs) → TupsAt K H' xs (chs n k) → Q (.ref p) H'
theorem ok_choices (T : Tx K mg CC CD CW CG aR aW) : C8.Cal P w K mg base 1 "choices" (sp_choices K) [] := by
  refine cal_of T.d_choices (fun _ _ _ _ _ _ us hl => match us, hl with | [_, _], _ => rfl) sc_choices (fun vs H Q E h => ?_) (fun f cdv A outer s H vs Q E hr h => ?_)
  · obtain ⟨l, n, k, rfl, hl, hn, hk, q⟩ := h; rfl
  · obtain ⟨l, n, k, rfl, hl, hn, hk, q⟩ := h
    refine ⟨_, (pss_cons (ps_set (i := 2) sc_choices.nd rfl (by first | exact Or.inl rfl | exact Or.inr rfl) (pe_lst (pa_cons (pe_tup pa_nil) pa_nil)))
      (pss_cons (ps_for PassesOwn.never rfl (pi_range1 (by rfl) T.b_range (pa_cons (pv 1) pa_nil)) (pg_name (i := 3) sc_choices.nd rfl (by first | exact Or.inl rfl | exact Or.inr rfl)) (pss_cons (ps_set (i := 4) sc_choices.nd rfl (by first | exact Or.inl rfl | exact Or.inr rfl) (pe_lst pa_nil))
      (pss_cons (ps_for PassesOwn.never rfl (pi_list (pv 2)) (pg_name (i := 5) sc_choices.nd rfl (by first | exact Or.inl rfl | exact Or.inr rfl)) (pss_one (ps_expr (pe_bm PySem.F.plainAttrs_list PySem.F.slot_list_extend PySem.F.type_list_extend (mt_extK (K := K) rfl) (pv 4) (pa_cons (pe_lc (own := [("place", 6)]) (g := (gName 6)) rfl sc_choices.nd (pi_list (pv 0)) (blkOk_by (own := [("place", 6)]) (N := ["places", "size", "found", "turn", "longer", "some", "place"]) (sc := defScope s_choices) (by decide +kernel)) (fun _ _ _ _ _ => (pg_name (i := 6) sc_choices.nd rfl (by first | exact Or.inl rfl | exact Or.inr rfl))) (fun _ _ _ _ _ => (pts_one (PW.pt (pw_or (pt_cmpR (op_eqDK (K := K) rfl hr.units) (pv 5) (pe_tup pa_nil) (nomark _)) (pw_or1 (pt_cmpR op_gt (pv 6) (pe_ix (ix_listK (K := K) rfl) (pv 5) (pe_un un_neg pe_int) (fun _ _ => rfl)) (nomark _))))))) (fun _ _ _ _ _ => (pe_tup (pa_starK (K := K) rfl (pv 5) (pa_cons (pv 6) pa_nil))))) pa_nil)))))
      (pss_one (ps_set (i := 2) sc_choices.nd rfl (by first | exact Or.inl rfl | exact Or.inr rfl) (pv 4))))))
      (pss_one (ps_ret (pv 2))))), ?_⟩
    refine ⟨szl rfl, fun t ht => ⟨szl rfl, fun F hF => ?_⟩⟩
    have s0 : Sm H (upd (upd H t (.tup [])) F (.lst [.ref t])) := (Sm.new ht).new' hF
    have hF0 : H F = none := (Sm.new ht).free hF
    refine ⟨_, rfl, _, rfl, by omega, by omega, ?_⟩
    refine for_it (walk_range (lo := 0) (n := k)) (fun i σ' H' => ∃ F' xs, (∃ o3 o4 o5 o6, σ' = [some (.ref l), some (.int k), some (.ref F'), o3, o4, o5, o6]) ∧ Sm H H' ∧ H' F' = some (.lst xs) ∧ H F' = none ∧ TupsAt K H' xs (chs n i))
      ⟨F, _, ⟨_, _, _, _, rfl⟩, s0, upd_same, hF0, Each.snoc Each.nil ⟨t, rfl, SqT.of ?_⟩⟩ (fun _ _ _ _ _ => trivial)
      (fun i v σ1 H1 H2 hi ⟨F', xs, ⟨o3, o4, o5, o6, e0⟩, s1, e1, hF', hx⟩ hy => ?_) (fun σ1 H1 ⟨F', xs, ⟨o3, o4, o5, o6, e0⟩, s1, e1, hF', hx⟩ => ?_)
    · rw [upd_ne (ne_of_none upd_same hF), upd_same]; rfl
    · subst e0
      obtain ⟨rfl, rfl⟩ := hy
      have hi0 : i = 0 := by omega
      subst hi0
      have hx1 : xs.length = 1 := hx.1
      refine ⟨szl rfl, fun G hG => ?_⟩
      have s2 := s1.new' (o := .lst []) hG
      have hG0 : H G = none := s1.free hG
      have nFG : F' ≠ G := ne_of_none e1 hG
      refine ⟨_, rfl, F', rfl, ⟨_, SqL.of (by rw [upd_ne nFG]; exact e1)⟩, ?_⟩
      refine for_it (walk_list (xs := xs)) (fun j σ' H' => (∃ o3 o5 o6, σ' = [some (.ref l), some (.int k), some (.ref F'), o3, some (.ref G), o5, o6]) ∧ Sm H H' ∧ H' F' = some (.lst xs) ∧ TupsAt K H' xs [[]] ∧ ∃ zs, H' G = some (.lst zs) ∧ TupsAt K H' zs (if j = 0 then [] else chs n 1))
        ⟨⟨_, _, _, rfl⟩, s2, by rw [upd_ne nFG]; exact e1, hx.same (Sm.new hG), [], upd_same, Each.nil⟩ (fun _ _ _ _ h => SqL.of h.2.2.1) (fun j v σ1 H3 H4 hj ⟨⟨o3, o5, o6, e0⟩, s3, e3, hx3, zs, ez, hz⟩ hy => ?_) (fun σ1 H3 ⟨⟨o3, o5, o6, e0⟩, s3, e3, hx3, zs, ez, hz⟩ => ?_)
      · subst e0
        obtain ⟨rfl, ev⟩ := hy
        have hj0 : j = 0 := by omega
        subst hj0
        obtain ⟨ns, ens, t2, rfl, ht2⟩ := hx3.at' ev
        have : ns = [] := (Option.some.inj ens).symm
        subst this
        have hz0 : zs = [] := List.eq_nil_of_length_eq_zero hz.1
        subst hz0
        refine ⟨_, rfl, .inl ⟨rfl, _, SqL.of ez⟩, _, rfl, l, rfl, ⟨_, s3.seq hl⟩, fun D hD => lc_it (walk_list (xs := (List.range n).map vN)) (fun m H' => Sm H4 H' ∧ ∃ ys, H' D = some (.lst ys) ∧ TupsAt K H' ys ((List.range m).map fun k : Nat => [(k : Int)])) ⟨Sm.new hD, [], upd_same, Each.nil⟩ (fun m H' _ ⟨s4, _⟩ => (s3.trans s4).seq hl)
          (fun m v H5 H6 hm ⟨s4, ys, ey, hys⟩ hy => ?_) (fun H5 ⟨s4, ys, ey, hys⟩ => ?_)⟩
        · obtain ⟨rfl, ev2⟩ := hy
          rw [List.getElem?_map] at ev2
          obtain ⟨m', em, rfl⟩ := Option.map_eq_some_iff.mp ev2
          obtain ⟨hm1, em⟩ := List.getElem?_eq_some_iff.mp em
          rw [List.getElem_range] at em
          subst em
          refine ⟨rfl, _, rfl, szl rfl, fun t3 ht3 => eqD_of (eTup eInt) (u := []) (v := []) (by decide) (dp_intsT ((Sm.new ht3).tup (s4.tup ht2))) (dp_nilT eInt upd_same) (fun _ h => (nomatch h)) (fun _ h => (nomatch h)) ⟨_, rfl, ?_⟩⟩
          have s5 := s4.new' (o := .tup []) ht3
          have nD : D ≠ t3 := ne_of_none ey ht3
          have hyl := hys.1
          rw [List.length_map, List.length_range] at hyl
          rw [List.length_map, List.length_range] at hm
          refine iteT ⟨_, rfl, t2, [], rfl, .inl (s5.tup ht2), _, rfl, szl rfl, fun p hp => ⟨ys, by rw [upd_ne (ne_of_none (by rw [upd_ne nD]; exact ey) hp), upd_ne nD]; exact ey, sizeLt (by omega), (s5.new' hp).wr hD, _, upd_same, ?_⟩⟩
          rw [List.range_succ, List.map_append]
          have ed : (upd (upd H6 t3 (.tup [])) p (.tup ([] ++ [V.int (m : Nat)]))) D = some (.lst ys) := by rw [upd_ne (ne_of_none (by rw [upd_ne nD]; exact ey) hp), upd_ne nD]; exact ey
          exact Each.snoc (((hys.same (Sm.new ht3)).same (Sm.new hp)).updL ed) ⟨p, rfl, SqT.updL (SqT.of upd_same) ed⟩
        · have hyl := hys.1
          simp only [List.length_map, List.length_range] at hyl
          rw [List.length_map, List.length_range] at hys
          refine ⟨G, D, [], ys, rfl, rfl, s4 _ _ ez, .inl ey, by simp; omega, ⟨_, _, _, rfl⟩, (s3.trans s4).wr hG0, ?_, (hx3.same s4).updL (s4 _ _ ez), _, upd_same, ?_⟩
          · rw [upd_ne nFG]; exact s4 _ _ e3
          · exact hys.updL (s4 _ _ ez)
      · subst e0
        rw [hx1] at hz
        exact ⟨_, rfl, G, zs, ⟨_, _, _, _, rfl⟩, s3, ez, hG0, hz⟩
    · subst e0
      exact ⟨_, rfl, q F' xs H1 s1 hF' e1 hx⟩
/-! ### fewest_moves, none allowed -/
theorem sc_fewest_moves : FnScope ["drawer", "rule", "most", "places", "level", "turn", "moves", "here", "later", "place", "goal", "goals"] ["drawer", "rule", "most"] (defScope s_fewest_moves) := C8.fnScope_by (by decide +kernel)
def sp_fewest (K : PySem.W.Frag) (CD CC : Addr) : Sp := fun vs H Q _ => ∃ d cs, ∃ r : Rl, vs = [.ref d, .str r.str, .int 0] ∧ DrawAt K CD CC H d cs ∧ Ok cs ∧ (found cs r = true → ∀ p H', Sm H H' → H' p = some (.lst []) → Q (.ref p) H') ∧ (found cs r = false → ∀ H', Sm H H' → Q .non H')
theorem ok_fewest_moves (T : Tx K mg CC CD CW CG aR aW) : C8.Cal P w K mg base 6 "fewest_moves" (sp_fewest K CD CC) [] := by
  refine cal_of T.d_fewest_moves (fun _ _ _ _ _ _ us hl => match us, hl with | [_, _, _], _ => rfl) sc_fewest_moves (fun vs H Q E h => ?_) (fun f cdv A outer s H vs Q E hr h => ?_)
  · obtain ⟨d, cs, r, rfl, hd, ok, q1, q2⟩ := h; rfl
  · obtain ⟨d, cs, r, rfl, hd, ok, q1, q2⟩ := h
    refine ⟨_, (pss_cons (ps_expr (C8.pe_c (ok_check_rule T) hr (by decide) (by rfl) (pa_cons (pv 1) pa_nil)))
      (pss_cons (ps_expr (C8.pe_c (ok_check_number T) hr (by decide) (by rfl) (pa_cons (pv 2) (pa_cons pe_int (pa_cons (C8.pe_gc (by rfl) T.c_MAX_MOVES) pa_nil)))))
      (pss_cons (ps_set (i := 3) sc_fewest_moves.nd rfl (by first | exact Or.inl rfl | exact Or.inr rfl) (pe_listRg rfl (by rfl) T.b_list (prg_1 (by rfl) T.b_range (pe_callB (call_lenK (K := K) rfl) (by rfl) T.b_len PySem.boot_len (pa_cons (pe_prp T.kD (pr_Drawer_cards T) hr (by decide) (pv 0)) pa_nil)))))
      (pss_cons (ps_set (i := 4) sc_fewest_moves.nd rfl (by first | exact Or.inl rfl | exact Or.inr rfl) (pe_lst (pa_cons (pe_tup (pa_cons (pe_lst pa_nil) (pa_cons (pv 0) pa_nil))) pa_nil)))
      (pss_cons (ps_for PassesOwn.never rfl (pi_range1 (by rfl) T.b_range (pa_cons (pe_op op_add (pv 2) pe_int) pa_nil)) (pg_name (i := 5) sc_fewest_moves.nd rfl (by first | exact Or.inl rfl | exact Or.inr rfl)) (pss_cons (ps_for PassesOwn.never rfl (pi_list (pv 4)) (pg_tup rfl (pgs_cons (pg_name (i := 6) sc_fewest_moves.nd rfl (by first | exact Or.inl rfl | exact Or.inr rfl)) (pgs_cons (pg_name (i := 7) sc_fewest_moves.nd rfl (by first | exact Or.inl rfl | exact Or.inr rfl)) pgs_nil))) (pss_one (ps_if (pt_c (ok_is_all_found T) hr (by decide) (by rfl) (pa_cons (pv 7) (pa_cons (pv 1) pa_nil))) (pss_one (ps_ret (pv 6))) pss_nil)))
      (pss_cons (ps_set (i := 8) sc_fewest_moves.nd rfl (by first | exact Or.inl rfl | exact Or.inr rfl) (pe_lst pa_nil))
      (pss_cons (ps_if (pt_cmpR op_lt (pv 5) (pv 2) (nomark _)) pss_never pss_nil)
      (pss_one (ps_set (i := 4) sc_fewest_moves.nd rfl (by first | exact Or.inl rfl | exact Or.inr rfl) (pv 8)))))))
      (pss_one (ps_ret pe_non))))))), ?_⟩
    have ol := ok.len
    refine ⟨_, rfl, r, rfl, _, rfl, 0, 0, 2, rfl, by decide, ?_⟩
    refine ⟨_, rfl, rd_cards hd fun row xs hx hrow => ⟨_, _, rfl, .inr ⟨_, hx, rfl⟩, _, rfl, RgOk.of_le (by omega) ?_ (by omega) (by omega), fun l hl => ?_⟩⟩
    · have := hrow.1; omega
    refine ⟨szl rfl, fun m hm => ⟨_, rfl, szl rfl, fun t ht => ⟨szl rfl, fun L hL => ?_⟩⟩⟩
    have s1 : Sm H (upd H l (.lst (rgV 0 ((xs.length : Nat) : Int)))) := Sm.new hl
    have s2 := s1.new' (o := .lst []) hm
    have s3 := s2.new' (o := .tup ([.ref m, .ref d])) ht
    have s4 := s3.new' (o := .lst [.ref t]) hL
    refine ⟨_, rfl, _, _, rfl, rfl, _, rfl, by decide, by decide, ?_⟩
    refine for_it (walk_range (lo := 0) (n := 1)) (fun i σ' H' => (i = 0 → ∃ o5 o6 o7 o8 o9 o10 o11, σ' = [some (.ref d), some (.str r.str), some (.int 0), some (.ref l), some (.ref L), o5, o6, o7, o8, o9, o10, o11] ∧ H' = upd (upd (upd (upd H l (.lst (rgV 0 ((xs.length : Nat) : Int)))) m (.lst [])) t (.tup [.ref m, .ref d])) L (.lst [.ref t])) ∧ (i ≠ 0 → found cs r = false ∧ Sm H H'))
      ⟨fun _ => ⟨_, _, _, _, _, _, _, rfl, rfl⟩, fun z => absurd rfl z⟩ (fun _ _ _ _ _ => trivial) (fun i v σ1 H1 H2 hi ⟨h0, _⟩ hy => ?_) (fun σ1 H1 ⟨_, h1⟩ => q2 (h1 (by decide)).1 H1 (h1 (by decide)).2)
    have hi0 : i = 0 := by omega
    subst hi0
    obtain ⟨o5, o6, o7, o8, o9, o10, o11, rfl, e1⟩ := h0 rfl
    obtain ⟨rfl, rfl⟩ := hy
    subst e1
    refine ⟨_, rfl, L, rfl, ⟨_, SqL.of upd_same⟩, ?_⟩
    refine for_it (walk_list (xs := [.ref t])) (fun j σ' H' => (∃ o5 o6 o7 o8 o9 o10 o11, σ' = [some (.ref d), some (.str r.str), some (.int 0), some (.ref l), some (.ref L), some (.int (0 + ((0 : Nat) : Int))), o6, o7, o8, o9, o10, o11]) ∧ Sm (upd (upd (upd (upd H l (.lst (rgV 0 ((xs.length : Nat) : Int)))) m (.lst [])) t (.tup [.ref m, .ref d])) L (.lst [.ref t])) H' ∧ (j ≠ 0 → found cs r = false))
      ⟨⟨o5, _, _, _, _, _, _, rfl⟩, Sm.refl _, fun z => absurd rfl z⟩ (fun _ _ _ _ h => SqL.of (h.2.1 _ _ upd_same)) (fun j v σ1 H3 H4 hj ⟨⟨o5, o6, o7, o8, o9, o10, o11, e0⟩, s5, _⟩ hy => ?_) (fun σ1 H3 ⟨⟨o5, o6, o7, o8, o9, o10, o11, e0⟩, s5, hf⟩ => ?_)
    · subst e0
      obtain ⟨rfl, ev⟩ := hy
      have hj0 : j = 0 := by simp at hj; omega
      subst hj0
      cases ev
      have et : upd (upd (upd (upd H l (.lst (rgV 0 ((xs.length : Nat) : Int)))) m (.lst [])) t (.tup [.ref m, .ref d])) L (.lst [.ref t]) t = some (.tup [.ref m, .ref d]) := by rw [upd_ne (ne_of_none upd_same hL), upd_same]
      have em : upd (upd (upd (upd H l (.lst (rgV 0 ((xs.length : Nat) : Int)))) m (.lst [])) t (.tup [.ref m, .ref d])) L (.lst [.ref t]) m = some (.lst []) := by
        rw [upd_ne (ne_of_none (by rw [upd_ne (ne_of_none upd_same ht), upd_same]) hL), upd_ne (ne_of_none upd_same ht), upd_same]
      refine ⟨t, _, rfl, SqT.of (s5 _ _ et), rfl, _, _, rfl, _, _, rfl, rfl, _, rfl, _, rfl, d, cs, r, rfl, hd.same (s4.trans s5), ok, fun H5 s6 => ⟨_, rfl, ?_⟩⟩
      by_cases hf : found cs r = true
      · exact ifT hf ⟨_, rfl, q1 hf m H5 ((s4.trans s5).trans s6) (s6 _ _ (s5 _ _ em))⟩
      · have hf' : found cs r = false := by simpa using hf
        exact ifF hf' ⟨⟨none, _, _, _, _, _, _, rfl⟩, s5.trans s6, fun _ => hf'⟩
    · subst e0
      refine ⟨szl rfl, fun G hG => ⟨_, rfl, _, rfl, _, _, rfl, rfl, _, rfl, ifF (dF (by decide)) ⟨_, rfl, fun z => absurd z (by decide), fun _ => ⟨hf (Nat.succ_ne_zero 0), (s4.trans s5).new' hG⟩⟩⟩⟩
end
end Se
namespace Se
open PySem PySem.Spec PyProof.Rows L2
/-! what may change: instances with a dict, lists, dicts; what never does: cards, drawers, tuples -/
inductive Vol : HO → Prop
  | ins (C dx : Addr) (fs : List (Str × V)) : Vol (.ins C dx fs)
  | lst (xs : List V) : Vol (.lst xs)
  | own (x : Addr) : Vol (.own x)
  | dK (kvs : List (Key × V)) : Vol (.dK kvs)
/-- all that never changes is as it was -/
def SmD (H H' : Hp) : Prop := ∀ b o, H b = some o → ¬ Vol o → H' b = some o
theorem Sm.d {H H' : Hp} (s : Sm H H') : SmD H H' := fun b o e _ => s b o e
theorem SmD.refl (H : Hp) : SmD H H := fun _ _ e _ => e
theorem SmD.trans {H H1 H2 : Hp} (a : SmD H H1) (b : SmD H1 H2) : SmD H H2 := fun c o e n => b c o (a c o e n) n
theorem SmD.upd {H H' : Hp} {a : Addr} {o u : HO} (s : SmD H H') (e : H' a = some o) (v : Vol o) : SmD H (L2.upd H' a u) := fun c z ec n => by
  have h := s c z ec n
  have : c ≠ a := fun x => by
    rw [x, e] at h
    cases h
    exact n v
  rw [upd_ne this]; exact h
theorem SmD.new {H H' : Hp} {a : Addr} {u : HO} (s : SmD H H') (e : H' a = none) : SmD H (L2.upd H' a u) := s.trans (Sm.new e).d
theorem SmD.but {as : List Addr} {H H' : Hp} (b : But as H H') (v : ∀ a ∈ as, ∃ o, H a = some o ∧ Vol o) : SmD H H' := fun c o e n => b c o e fun m => by
  obtain ⟨z, h, hv⟩ := v c m
  rw [h] at e
  cases e
  exact n hv
section
variable {K : PySem.W.Frag} {CC CD : Addr} {H H' : Hp} {a : Addr}
theorem SmD.tup {xs : List V} (s : SmD H H') (h : SqT K H a xs) : SqT K H' a xs := by
  rcases h with (h | ⟨o, h⟩) | h
  · exact .inl (.inl (s _ _ h fun v => nomatch v))
  · exact .inl (.inr ⟨o, s _ _ h fun v => nomatch v⟩)
  · exact .inr h
theorem TupF.sd {c : CardD} (h : TupF K H a c) (s : SmD H H') : TupF K H' a c := by
  obtain ⟨b, l, h1, h2, h3⟩ := h.ex
  exact ⟨b, l, s.tup h1, s.tup h2, s.tup h3⟩
theorem slt_sd {C dx : Addr} {v : Option V} {vs : List (Option V)} (h : SlX.Slt H a C dx (v :: vs)) (s : SmD H H') : SlX.Slt H' a C dx (v :: vs) := by
  rcases h with ⟨_, h2⟩ | ⟨h1, h2⟩
  · cases h2
  · refine .inr ⟨s _ _ h1 fun v => ?_, s _ _ h2 fun v => nomatch v⟩
    unfold SlX.SlO at v
    cases v
theorem CardAt.sd {c : CardD} (h : CardAt K CC H a c) (s : SmD H H') : CardAt K CC H' a c := by
  obtain ⟨dx, f, h1, h2⟩ := h.ex
  exact ⟨dx, f, slt_sd h1 s, h2.sd s⟩
theorem RowAt.sd {xs : List V} {cs : List CardD} (h : RowAt K CC H xs cs) (s : SmD H H') : RowAt K CC H' xs cs := h.mono fun _ _ ⟨a, e, z⟩ => ⟨a, e, z.sd s⟩
theorem SomeL.sd {xs : List V} {cs : List CardD} (h : SomeL K H xs cs) (s : SmD H H') : SomeL K H' xs cs := h.mono fun _ _ ⟨a, e, z⟩ => ⟨a, e, z.sd s⟩
theorem TupsAt.sd {xs : List V} {cs : List (List Int)} (h : TupsAt K H xs cs) (s : SmD H H') : TupsAt K H' xs cs := h.mono fun _ _ ⟨a, e, z⟩ => ⟨a, e, s.tup z⟩
theorem DrawAt.sd {cs : List CardD} (h : DrawAt K CD CC H a cs) (s : SmD H H') : DrawAt K CD CC H' a cs := by
  obtain ⟨dx, row, xs, h1, h2, h3⟩ := h.ex
  exact ⟨dx, row, xs, slt_sd h1 s, s.tup h2, h3.sd s⟩
end
/-! joining of argument lists; a while by a ghost number -/
def tCutA (t : TA) : TA := fun σ H Q => ∃ R : List V → Hp → Prop, t σ H R ∧ ∀ x H1, R x H1 → Q x H1
theorem pa_cut {X : Cx} {es : List Expr} {t : TA} (h : PA X es t) : PA X es (tCutA t) := ⟨fun pos pins s σ H Q I ⟨R, h1, h2⟩ => thn (h.run pos pins s σ H R I h1) fun u s' ⟨v, H', I', r, q⟩ => ⟨v, H', I', r, h2 v H' q⟩⟩
theorem while_m {c : TT} {tb : TS} {D : Ends} {σ : L2.St} {H : Hp} (Pv : Nat → L2.St → Hp → Prop) (m0 : Nat) (h0 : Pv m0 σ H)
    (hs : ∀ m σ H, Pv m σ H → c σ H fun b H1 => if b = true then tb { D with nx := fun σ' H' => ∃ m', m' < m ∧ Pv m' σ' H', ct := fun σ' H' => ∃ m', m' < m ∧ Pv m' σ' H', bk := D.nx } σ H1 else D.nx σ H1)
    (mono : ∀ σ H Q Q', (∀ b H1, Q b H1 → Q' b H1) → c σ H Q → c σ H Q') : tWhile c tb D σ H := by
  refine ⟨Pv, ⟨m0, h0⟩, ?_⟩
  intro m σ H p
  refine mono σ H _ _ (fun b H1 q => ?_) (hs m σ H p)
  cases b with
  | true => exact ⟨_, fun σ' H' q' => q', q⟩
  | false => exact q
end Se
namespace Se
open PySem PySem.Spec PyProof.Rows L2
section
variable {P : Program} {w : World} {K : PySem.W.Frag} {mg : Str → Option Value} {base : Heap} {CC CD CW CG aR aW : Addr}
/-! ### Walk -/
def fW (wd : V) (S G : Addr) (n : V) : List (Str × V) := [("word", wd), ("steps", .ref S), ("sought", .ref G), ("effort", n)]
theorem fW_lt {wd : V} {S G : Addr} {n : V} : (fW wd S G n).length < 1000 := by show 4 < 1000; decide
theorem upd_none {H : Hp} {a b : Addr} {o : HO} (h : upd H a o b = none) : b ≠ a ∧ H b = none := by
  have n : b ≠ a := fun z => by rw [z, upd_same] at h; cases h
  exact ⟨n, by rw [upd_ne n] at h; exact h⟩
theorem putW_word {wd y : V} {S G : Addr} {n : V} : putF "word" y (fW wd S G n) = fW y S G n := rfl
theorem putW_eff {wd y : V} {S G : Addr} {n : V} : putF "effort" y (fW wd S G n) = fW wd S G y := rfl
theorem sc_Walk_go_on : FnScope ["self", "drawer", "rule", "heading", "place", "looks", "card"] ["self", "drawer", "rule", "heading"] (defScope s_Walk_go_on) := C8.fnScope_by (by decide +kernel)
structure WSt (CW : Addr) (H : Hp) (a dx S G : Addr) (wd : V) (n : V) (steps : List V) (so : List Str) : Prop where
  i : H a = some (.ins CW dx (fW wd S G n))
  s : H S = some (.lst steps)
  g : H G = some (.lst (so.map V.str))
  sg : S ≠ G
theorem WSt.aS {CW : Addr} {H : Hp} {a dx S G : Addr} {wd n : V} {steps : List V} {so : List Str} (w : WSt CW H a dx S G wd n steps so) : a ≠ S := ne_of w.i w.s fun z => nomatch z
theorem WSt.aG {CW : Addr} {H : Hp} {a dx S G : Addr} {wd n : V} {steps : List V} {so : List Str} (w : WSt CW H a dx S G wd n steps so) : a ≠ G := ne_of w.i w.g fun z => nomatch z
theorem WSt.same {CW : Addr} {H H' : Hp} {a dx S G : Addr} {wd n : V} {steps : List V} {so : List Str} (w : WSt CW H a dx S G wd n steps so) (s : Sm H H') : WSt CW H' a dx S G wd n steps so := ⟨s _ _ w.i, s _ _ w.s, s _ _ w.g, w.sg⟩
theorem WSt.put {CW : Addr} {H : Hp} {a dx S G : Addr} {wd n wd' n' : V} {steps : List V} {so : List Str} (w : WSt CW H a dx S G wd n steps so) : WSt CW (upd H a (.ins CW dx (fW wd' S G n'))) a dx S G wd' n' steps so :=
  ⟨upd_same, by rw [upd_ne w.aS.symm]; exact w.s, by rw [upd_ne w.aG.symm]; exact w.g, w.sg⟩
theorem WSt.putS {CW : Addr} {H : Hp} {a dx S G : Addr} {wd n : V} {steps steps' : List V} {so : List Str} (w : WSt CW H a dx S G wd n steps so) : WSt CW (upd H S (.lst steps')) a dx S G wd n steps' so :=
  ⟨by rw [upd_ne w.aS]; exact w.i, upd_same, by rw [upd_ne w.sg.symm]; exact w.g, w.sg⟩
theorem WSt.putG {CW : Addr} {H : Hp} {a dx S G : Addr} {wd n : V} {steps : List V} {so so' : List Str} (w : WSt CW H a dx S G wd n steps so) : WSt CW (upd H G (.lst (so'.map V.str))) a dx S G wd n steps so' :=
  ⟨by rw [upd_ne w.aG]; exact w.i, by rw [upd_ne w.sg]; exact w.s, upd_same, w.sg⟩
def sp_w_go (K : PySem.W.Frag) (CW CD CC : Addr) : Sp := fun vs H Q _ => ∃ a dx S G d cs h so steps, ∃ n : Int, ∃ r : Rl, vs = [.ref a, .ref d, .str r.str, .str h] ∧ WSt CW H a dx S G .non (.int n) steps so ∧ DrawAt K CD CC H d cs ∧ Ok cs ∧ so.length ≤ 17 ∧ steps.length ≤ 17 ∧
  ∀ H' wd h' so' steps', ∀ n' : Int, But [a, S, G] H H' → WSt CW H' a dx S G wd (.int n') steps' so' →
    ((h ∈ so ∧ wd = .str "ring" ∧ so' = so) ∨ (h ∉ so ∧ look cs r h = none ∧ wd = .str "lost" ∧ so' = so ++ [h]) ∨
      (h ∉ so ∧ ∃ p c, look cs r h = some p ∧ cs[p]? = some c ∧ c.see = Str.empty ∧ wd = .str "entry" ∧ steps' = steps ++ [vN p]) ∨
      (h ∉ so ∧ ∃ p c, look cs r h = some p ∧ cs[p]? = some c ∧ c.see ≠ Str.empty ∧ wd = .non ∧ so' = so ++ [h] ∧ steps' = steps ++ [vN p] ∧ h' = c.see)) → Q (.str h') H'
theorem mt_Walk_go_on (T : Tx K mg CC CD CW CG aR aW) : C8.Met P w K mg base 5 CW "go_on" (sp_w_go K CW CD CC) [] := by
  refine metd_of T.kW T.m_Walk_go_on (fun _ _ _ _ _ _ us hl => match us, hl with | [_, _, _, _], _ => rfl) sc_Walk_go_on (fun vs H Q E h => ?_) (fun f cdv A outer s H vs Q E hr h => ?_)
  · obtain ⟨a, dx, S, G, d, cs, h, so, steps, n, r, rfl, ws, hd, ok, l1, l2, q⟩ := h; rfl
  · obtain ⟨a, dx, S, G, d, cs, h, so, steps, n, r, rfl, ws, hd, ok, l1, l2, q⟩ := h
    refine ⟨_, (pss_cons (ps_if (pt_cmpR (op_inK (K := K) rfl) (pv 3) (pe_fld (pv 0) rfl) (by rfl)) (pss_cons (ps_fld (pv 0) (C8.pe_gc (by rfl) T.c_RING) rfl)
      (pss_one (ps_ret (pv 3)))) pss_nil)
      (pss_cons (ps_expr (pe_bm PySem.F.plainAttrs_list PySem.F.slot_list_append PySem.F.type_list_append mt_append (pe_fld (pv 0) rfl) (pa_cons (pv 3) pa_nil)))
      (pss_cons (ps_asg (C8.pe_c (ok_looked_up T) hr (by decide) (by rfl) (pa_cons (pv 1) (pa_cons (pv 2) (pa_cons (pv 3) pa_nil)))) (pg_tup rfl (pgs_cons (pg_name (i := 4) sc_Walk_go_on.nd rfl (by first | exact Or.inl rfl | exact Or.inr rfl)) (pgs_cons (pg_name (i := 5) sc_Walk_go_on.nd rfl (by first | exact Or.inl rfl | exact Or.inr rfl)) pgs_nil))))
      (pss_cons (ps_fldaug (pv 0) (pe_callB (call_lenK (K := K) rfl) (by rfl) T.b_len PySem.boot_len (pa_cons (pv 5) pa_nil)) in_add)
      (pss_cons (ps_if (pt_cmpR op_isN (pv 4) pe_non (nomark _)) (pss_cons (ps_fld (pv 0) (C8.pe_gc (by rfl) T.c_LOST) rfl)
      (pss_one (ps_ret (pv 3)))) pss_nil)
      (pss_cons (ps_expr (pe_bm PySem.F.plainAttrs_list PySem.F.slot_list_append PySem.F.type_list_append mt_append (pe_fld (pv 0) rfl) (pa_cons (pv 4) pa_nil)))
      (pss_cons (ps_set (i := 6) sc_Walk_go_on.nd rfl (by first | exact Or.inl rfl | exact Or.inr rfl) (pe_ix (ix_tupK (K := K) rfl) (pe_prp T.kD (pr_Drawer_cards T) hr (by decide) (pv 1)) (pv 4) (fun _ _ => rfl)))
      (pss_cons (ps_if (pt_not (pt_val (pe_prp T.kC (pr_Card_leads T) hr (by decide) (pv 6)))) (pss_cons (ps_fld (pv 0) (C8.pe_gc (by rfl) T.c_ENTRY) rfl)
      (pss_one (ps_ret (pv 3)))) pss_nil)
      (pss_one (ps_ret (pe_prp T.kC (pr_Card_see T) hr (by decide) (pv 6)))))))))))), ?_⟩
    have vol : ∀ {n wd steps so} {H1 : Hp}, WSt CW H1 a dx S G wd n steps so → ∀ b ∈ [a, S, G], ∃ o, H1 b = some o ∧ Vol o := fun {n wd steps so H1} w b hb => by
      rcases List.mem_cons.mp hb with rfl | hb
      · exact ⟨_, w.i, .ins _ _ _⟩
      · rcases List.mem_cons.mp hb with rfl | hb
        · exact ⟨_, w.s, .lst _⟩
        · rw [List.mem_singleton.mp hb]
          exact ⟨_, w.g, .lst _⟩
    refine ⟨_, rfl, _, rfl, a, CW, dx, _, _, rfl, ws.i, T.kW, T.nW_sought, rfl, rd_inS (.inl (SqL.of ws.g)) ⟨_, rfl, ?_⟩⟩
    by_cases m : h ∈ so
    · refine ifT (dT m) ⟨_, rfl, a, CW, dx, _, rfl, ws.i, T.kW, T.nW_word, fW_lt, ?_⟩
      refine ⟨_, rfl, q _ (.str "ring") h so steps n ((But.of (Sm.refl H)).wr List.mem_cons_self) ?_ (.inl ⟨m, rfl, rfl⟩)⟩
      rw [putW_word]; exact ws.put
    · refine ifF (dF m) ⟨_, rfl, a, CW, dx, _, _, rfl, ws.i, T.kW, T.nW_sought, rfl, .inl ⟨rfl, _, SqL.of ws.g⟩, _, rfl, G, _, _, rfl, rfl, ws.g, sizeLt (by rw [List.length_map]; omega), ?_⟩
      have w1 : WSt CW (upd H G (.lst ((so ++ [h]).map V.str))) a dx S G .non (.int n) steps (so ++ [h]) := ws.putG
      have b1 : But [a, S, G] H (upd H G (.lst ((so ++ [h]).map V.str))) := (But.of (Sm.refl H)).wr (by simp)
      rw [show so.map V.str ++ [V.str h] = (so ++ [h]).map V.str by simp]
      refine ⟨_, rfl, _, rfl, _, rfl, d, cs, h, r, rfl, hd.sd (SmD.but b1 (vol ws)), ok, fun p lk ls H2 s2 ep elk hls => ⟨p, _, rfl, ep, rfl, _, _, rfl, _, _, rfl, rfl, ?_⟩⟩
      have w2 := w1.same s2
      refine ⟨_, rfl, a, CW, dx, _, _, rfl, w2.i, T.kW, T.nW_effort, rfl, _, rfl, _, _, rfl, .inr ⟨_, elk, rfl⟩, _, _, rfl, rfl, dx, _, w2.i, fW_lt, ?_⟩
      rw [putW_eff]
      have w3 : WSt CW (upd H2 a (.ins CW dx (fW .non S G (.int (n + ls.length))))) a dx S G .non (.int (n + ls.length)) steps (so ++ [h]) := w2.put
      have b3 : But [a, S, G] H (upd H2 a (.ins CW dx (fW .non S G (.int (n + ls.length))))) := (b1.trans (But.of s2)).wr (by simp)
      refine ⟨_, rfl, rfl, _, rfl, ?_⟩
      cases el : look cs r h with
      | none =>
        refine ifT rfl ⟨_, rfl, a, CW, dx, _, rfl, w3.i, T.kW, T.nW_word, fW_lt, ?_⟩
        refine ⟨_, rfl, q _ (.str "lost") h (so ++ [h]) steps (n + ls.length) (b3.wr (by simp)) ?_ (.inr (.inl ⟨m, el, rfl, rfl⟩))⟩
        rw [putW_word]; exact w3.put
      | some pl =>
        obtain ⟨c, hc, ech⟩ := look_at el
        refine ifF rfl ⟨_, rfl, a, CW, dx, _, _, rfl, w3.i, T.kW, T.nW_steps, rfl, .inl ⟨rfl, _, SqL.of w3.s⟩, _, rfl, S, _, _, rfl, rfl, w3.s, sizeLt (by omega), ?_⟩
        have w4 : WSt CW (upd (upd H2 a (.ins CW dx (fW .non S G (.int (n + ls.length))))) S (.lst (steps ++ [vN pl]))) a dx S G .non (.int (n + ls.length)) (steps ++ [vN pl]) (so ++ [h]) := w3.putS
        have b4 : But [a, S, G] H (upd (upd H2 a (.ins CW dx (fW .non S G (.int (n + ls.length))))) S (.lst (steps ++ [vN pl]))) := b3.wr (by simp)
        have hd4 := hd.sd (SmD.but b4 (vol ws))
        refine ⟨_, rfl, rd_cards hd4 fun row xs hx hrow => ?_⟩
        obtain ⟨v, ev, ca, rfl, hca⟩ := hrow.at hc
        refine ⟨_, rfl, row, xs, _, _, rfl, rfl, hx, atI_nat ev, ?_⟩
        refine ⟨_, rfl, rd_leads hca ⟨_, rfl, ?_⟩⟩
        by_cases es : c.see = Str.empty
        · refine ifT (by rw [dT es]; rfl) ⟨_, rfl, a, CW, dx, _, rfl, w4.i, T.kW, T.nW_word, fW_lt, ?_⟩
          refine ⟨_, rfl, q _ (.str "entry") h (so ++ [h]) _ (n + ls.length) (b4.wr (by simp)) ?_ (.inr (.inr (.inl ⟨m, pl, c, el, hc, es, rfl, rfl⟩)))⟩
          rw [putW_word]; exact w4.put
        · refine ifF (by rw [dF es]; rfl) ⟨_, rfl, rd_see hca ?_⟩
          exact q _ .non c.see (so ++ [h]) _ (n + ls.length) b4 w4 (.inr (.inr (.inr ⟨m, pl, c, el, hc, es, rfl, rfl, rfl, rfl⟩)))
/-- a walk that has come to its end -/
structure WEnd (CW : Addr) (H : Hp) (a : Addr) (W : Wd) : Prop where
  ex : ∃ dx S G steps so, ∃ n : Int, WSt CW H a dx S G (.str W.str) (.int n) steps so ∧ ∀ p, W = .entry p → ∃ st, steps = st ++ [vN p]
theorem sc_Walk_init : FnScope ["self", "drawer", "rule", "heading"] ["self", "drawer", "rule", "heading"] (defScope s_Walk_init) := C8.fnScope_by (by decide +kernel)
def sp_Walk (K : PySem.W.Frag) (CW CD CC : Addr) : Sp := fun vs H Q _ => ∃ a dx d cs h, ∃ r : Rl, vs = [.ref a, .ref d, .str r.str, .str h] ∧ NewI H a CW dx ∧ DrawAt K CD CC H d cs ∧ Ok cs ∧ ∀ H', But [a] H H' → WEnd CW H' a (wlk cs r h) → Q .non H'
theorem mk_Walk_init (T : Tx K mg CC CD CW CG aR aW) : C8.Mak P w K mg base 6 "Walk" CW (sp_Walk K CW CD CC) [] := by
  refine mak_of T.i_Walk (fun _ _ _ _ _ _ us hl => match us, hl with | [_, _, _, _], _ => rfl) sc_Walk_init (fun vs H Q E h => ?_) (fun f cdv A outer s H vs Q E hr h => ?_)
  · obtain ⟨a, dx, d, cs, h0, r, rfl, hN, hd, ok, q⟩ := h; rfl
  · obtain ⟨a, dx, d, cs, h0, r, rfl, hN, hd, ok, q⟩ := h
    refine ⟨_, (pss_cons (ps_fld (pv 0) pe_non rfl)
      (pss_cons (ps_fld (pv 0) (pe_lst pa_nil) rfl)
      (pss_cons (ps_fld (pv 0) (pe_lst pa_nil) rfl)
      (pss_cons (ps_fld (pv 0) pe_int rfl)
      (pss_one (ps_while PassesOwn.never (pt_cmpR op_isN (pe_fld (pv 0) rfl) pe_non (nomark _)) (pss_one (ps_set (i := 3) sc_Walk_init.nd rfl (by first | exact Or.inl rfl | exact Or.inr rfl) (C8.pe_mt (mt_Walk_go_on T) hr (by decide) (pv 0) (pa_cons (pv 1) (pa_cons (pv 2) (pa_cons (pv 3) pa_nil)))))))))))), ?_⟩
    refine ⟨_, rfl, a, CW, dx, _, rfl, hN.i, T.kW, T.nW_word, by decide, szl rfl, fun S hS => ⟨_, rfl, a, CW, dx, putF "word" .non [], rfl, by rw [upd_ne (upd_none hS).1.symm, upd_same], T.kW, T.nW_steps, (by show 1 < 1000; decide), szl rfl, fun G hG => ⟨_, rfl, a, CW, dx, putF "steps" (.ref S) (putF "word" .non []), rfl, by rw [upd_ne (upd_none hG).1.symm, upd_same], T.kW, T.nW_sought, (by show 2 < 1000; decide), _, rfl, a, CW, dx, putF "sought" (.ref G) (putF "steps" (.ref S) (putF "word" .non [])), rfl, upd_same, T.kW, T.nW_effort, (by show 3 < 1000; decide), ?_⟩⟩⟩
    obtain ⟨Sa, hS0⟩ := upd_none hS
    obtain ⟨Ga, hG0⟩ := upd_none hG
    obtain ⟨GS, hG1⟩ := upd_none hG0
    obtain ⟨_, hG2⟩ := upd_none hG1
    have w0 : WSt CW (upd (upd (upd (upd (upd (upd H a (.ins CW dx (putF "word" .non []))) S (.lst [])) a (.ins CW dx (putF "steps" (.ref S) (putF "word" .non [])))) G (.lst [])) a (.ins CW dx (putF "sought" (.ref G) (putF "steps" (.ref S) (putF "word" .non []))))) a (.ins CW dx (fW .non S G (.int 0)))) a dx S G .non (.int 0) [] [] :=
      ⟨upd_same, by rw [upd_ne Sa, upd_ne Sa, upd_ne GS.symm, upd_ne Sa, upd_same], by rw [upd_ne Ga, upd_ne Ga, upd_same]; rfl, GS.symm⟩
    have b0 : But [a] H (upd (upd (upd (upd (upd (upd H a (.ins CW dx (putF "word" .non []))) S (.lst [])) a (.ins CW dx (putF "steps" (.ref S) (putF "word" .non [])))) G (.lst [])) a (.ins CW dx (putF "sought" (.ref G) (putF "steps" (.ref S) (putF "word" .non []))))) a (.ins CW dx (fW .non S G (.int 0)))) :=
      ((((((But.of (Sm.refl H)).wr List.mem_cons_self).new hS).wr List.mem_cons_self).new hG).wr List.mem_cons_self).wr List.mem_cons_self
    have volA : ∀ b ∈ [a], ∃ o, H b = some o ∧ Vol o := fun b hb => by rw [List.mem_singleton.mp hb]; exact ⟨_, hN.i, .ins _ _ _⟩
    refine while_m (fun m σ' H' => ∃ h so steps wd, ∃ n : Int, σ' = [some (.ref a), some (.ref d), some (.str r.str), some (.str h)] ∧ But [a] H H' ∧ WSt CW H' a dx S G wd (.int n) steps so ∧
      ((wd = .non ∧ Sought cs h0 h so ∧ steps.length = so.length ∧ m = 20 - so.length ∧ walkF cs r (99 - so.length) h so = wlk cs r h0) ∨ (m = 0 ∧ wd = .str (wlk cs r h0).str ∧ ∀ p, wlk cs r h0 = .entry p → ∃ st, steps = st ++ [vN p])))
      20 ⟨h0, [], [], .non, 0, rfl, b0, w0, .inl ⟨rfl, Sought.start cs h0, rfl, rfl, rfl⟩⟩ (fun m σ1 H1 ⟨h, so, steps, wd, n, e0, b1, w1, hh⟩ => ?_) ?_
    · subst e0
      refine ⟨_, rfl, a, CW, dx, _, _, rfl, w1.i, T.kW, T.nW_word, rfl, rfl, _, rfl, ?_⟩
      rcases hh with ⟨rfl, sg, hl, rfl, hw⟩ | ⟨_, rfl, hst⟩
      · have sl := sg.len ok.len
        refine ifT rfl ⟨_, rfl, a, dx, _, rfl, w1.i, rfl, _, rfl, _, rfl, _, rfl, a, dx, S, G, d, cs, h, so, steps, n, r, rfl, w1, hd.sd (SmD.but b1 volA), ok, sl, by omega, fun H2 wd' h' so' steps' n' b2 w2 hc => ?_⟩
        have b3 : But [a] H H2 := fun b o e nb => b2 b o (b1 b o e nb) fun mb => by
          rcases List.mem_cons.mp mb with z | mb
          · exact nb (by rw [z]; exact List.mem_cons_self)
          · rcases List.mem_cons.mp mb with z | mb
            · rw [z, (upd_none hS).2] at e; cases e
            · rw [List.mem_singleton.mp mb, hG2] at e; cases e
        obtain ⟨k, hk⟩ : ∃ k, 99 - so.length = k + 1 := ⟨98 - so.length, by omega⟩
        rw [hk] at hw
        rcases hc with ⟨c1, rfl, rfl⟩ | ⟨c1, c2, rfl, rfl⟩ | ⟨c1, p, c, c2, c3, c4, rfl, rfl⟩ | ⟨c1, p, c, c2, c3, c4, rfl, rfl, rfl, rfl⟩
        · rw [walkF_ring c1] at hw
          exact ⟨0, by omega, h', _, _, _, _, rfl, b3, w2, .inr ⟨rfl, by rw [← hw]; rfl, fun p z => by rw [← hw] at z; cases z⟩⟩
        · rw [walkF_lost c1 c2] at hw
          exact ⟨0, by omega, h', _, _, _, _, rfl, b3, w2, .inr ⟨rfl, by rw [← hw]; rfl, fun p z => by rw [← hw] at z; cases z⟩⟩
        · rw [walkF_entry c1 c2 c3 c4] at hw
          exact ⟨0, by omega, h', _, _, _, _, rfl, b3, w2, .inr ⟨rfl, by rw [← hw]; rfl, fun p' z => by rw [← hw] at z; cases z; exact ⟨_, rfl⟩⟩⟩
        · rw [walkF_on c1 c2 c3 c4] at hw
          exact ⟨20 - (so ++ [h]).length, by rw [List.length_append]; simp; omega, _, _, _, _, _, rfl, b3, w2, .inl ⟨rfl, sg.step c1 c3, by simp [hl], rfl, by rw [← hw, List.length_append]; congr 1; simp; omega⟩⟩
      · refine ifF (dF (fun z => nomatch z)) (q H1 b1 ⟨dx, S, G, steps, so, n, w1, hst⟩)
    · rintro σ H Q Q' f ⟨v1, h1, a, C, dx, fs, v, h2, h3, h4, h5, h6, h7, k, h8, h9⟩
      exact ⟨v1, h1, a, C, dx, fs, v, h2, h3, h4, h5, h6, h7, k, h8, f _ _ h9⟩
theorem sc_Walk_landing : FnScope ["self"] ["self"] (defScope s_Walk_landing) := C8.fnScope_by (by decide +kernel)
def sp_w_land (K : PySem.W.Frag) (CW : Addr) : Sp := fun vs H Q _ => ∃ a W, vs = [.ref a] ∧ WEnd CW H a W ∧ ∀ p, H p = none → Q (.ref p) (upd H p (.tup [.str W.str, optV W.pl]))
theorem wd_entry {W : Wd} : decide (V.str W.str = V.str "entry") = (match W with | .entry _ => true | _ => false) := by
  cases W with
  | entry p => exact dT rfl
  | lost => decide +kernel
  | ring => decide +kernel
theorem mt_Walk_landing (T : Tx K mg CC CD CW CG aR aW) : C8.Met P w K mg base 1 CW "landing" (sp_w_land K CW) [] := by
  refine metd_of T.kW T.m_Walk_landing (fun _ _ _ _ _ _ us hl => match us, hl with | [_], _ => rfl) sc_Walk_landing (fun vs H Q E h => ?_) (fun f cdv A outer s H vs Q E hr h => ?_)
  · obtain ⟨a, W, rfl, ⟨dx, S, G, steps, so, n, ws, hst⟩, q⟩ := h; rfl
  · obtain ⟨a, W, rfl, ⟨dx, S, G, steps, so, n, ws, hst⟩, q⟩ := h
    refine ⟨_, (pss_one (ps_ret (pe_tup (pa_cons (pe_fld (pv 0) rfl) (pa_cons (pe_ifExp (pt_cmpR op_eq (pe_fld (pv 0) rfl) (C8.pe_gc (by rfl) T.c_ENTRY) (nomark _)) (pe_ix (ix_listK (K := K) rfl) (pe_fld (pv 0) rfl) (pe_un un_neg pe_int) (fun _ _ => rfl)) pe_non) pa_nil))))), ?_⟩
    refine ⟨_, rfl, a, CW, dx, _, _, rfl, ws.i, T.kW, T.nW_word, rfl, _, rfl, a, CW, dx, _, _, rfl, ws.i, T.kW, T.nW_word, rfl, rfl, _, rfl, ?_⟩
    cases W with
    | entry p =>
      obtain ⟨st, rfl⟩ := hst p rfl
      exact ifT rfl ⟨_, rfl, a, CW, dx, _, _, rfl, ws.i, T.kW, T.nW_steps, rfl, 1, rfl, S, _, _, _, rfl, rfl, SqL.of ws.s, atI_last _ _, szl rfl, fun t ht => q t ht⟩
    | lost => exact ifF rfl ⟨szl rfl, fun t ht => q t ht⟩
    | ring => exact ifF rfl ⟨szl rfl, fun t ht => q t ht⟩
end
end Se
namespace Se
open PySem PySem.Spec PyProof.Rows L2
/-! ### Walk(..).landing() as one rule -/
def tLand (K : PySem.W.Frag) (CD CC : Addr) (t : TA) : TE := fun σ H Q => t σ H fun vs H1 => ∃ d cs h, ∃ r : Rl, vs = [.ref d, .str r.str, .str h] ∧ DrawAt K CD CC H1 d cs ∧ Ok cs ∧ ∀ p H', Sm H1 H' → H' p = some (.tup [.str (wlk cs r h).str, optV (land cs r h)]) → Q (.ref p) H'
theorem pe_landing {pl : Sem Bool} {X : Cx} {K : PySem.W.Frag} {CC CD CW CG aR aW : Addr} {j : Nat} {e1 e2 e3 : Expr} {t : TA} {p apos pos cpos : Pos} (hK : X.K = K) (T : Tx K X.mg CC CD CW CG aR aW) (hr : Room j X.A) (hj : 7 ≤ j) (hg : Gl X "Walk") (ha : PA X [e1, e2, e3] t)
    (ht : eval (.Call (.Attribute (.Call (.Name "Walk" p) [e1, e2, e3] [] pos) "landing" apos) [] [] cpos) X.env = (do
      let ov ← eval (.Call (.Name "Walk" p) [e1, e2, e3] [] pos) X.env
      standAt apos.atName
      let (f, first) ← holding [ov] (getMethod ov "landing" pl)
      callWith cpos f first (backTo cpos (starEach [] X.env)) (backToKw cpos (keywordEach [] X.env))) := by rfl)
    (he : starEach [e1, e2, e3] X.env = (false, eval e1 X.env) :: starEach [e2, e3] X.env := by rfl) (hpl : (backTo pos (starEach [e2, e3] X.env)).any (·.1) = false := by rfl) :
    PE X (.Call (.Attribute (.Call (.Name "Walk" p) [e1, e2, e3] [] pos) "landing" apos) [] [] cpos) (tLand K CD CC t) := by
  subst hK
  refine ⟨fun pins s σ H Q I h => (C8.pe_mt0 (mt_Walk_landing T) hr (Nat.le_trans (by decide) hj) (C8.pe_mk (mk_Walk_init T) hr hj hg (pa_cut ha) (by decide) he hpl) (pl := pl) ht).run pins s σ H Q I ⟨_, h, ?_⟩⟩
  rintro vs H1 ⟨d, cs, h, r, rfl, hd, ok, q⟩ x dx nx ndx ne
  have hN : NewI (upd (upd H1 dx (.own x)) x (.ins CW dx [])) x CW dx := NewI.of ne
  have s1 : Sm H1 (upd (upd H1 dx (.own x)) x (.ins CW dx [])) := (Sm.new ndx).trans (Sm.new (by rw [upd_ne ne.symm]; exact nx))
  refine ⟨x, dx, d, cs, h, r, rfl, hN, hd.same s1, ok, fun H2 b2 w2 => ⟨rfl, ?_⟩⟩
  have s2 : Sm H1 H2 := fun b o e => b2 b o (s1 b o e) fun m => ne_of_none e nx (List.mem_singleton.mp m)
  obtain ⟨dx', S, G, st, so, n, ws, hst⟩ := w2.ex
  refine ⟨x, dx', _, rfl, ws.i, rfl, x, wlk cs r h, rfl, w2, fun z hz => q z _ (s2.new' hz) ?_⟩
  rw [upd_same]; rfl
/-! ### dicts by their keys -/
section
variable {kvs : List (L2.Key × V)} {k : L2.Key} {v : V}
theorem valV_in : ∀ (kvs : List (L2.Key × V)) (k : L2.Key), (valV kvs k).isSome = decide (k ∈ kvs.map Prod.fst)
  | [], k => rfl
  | p :: r, k => by
    by_cases e : p.1 = k
    · rw [valV_pos e, dT (by rw [List.map_cons, e]; exact List.mem_cons_self)]; rfl
    · rw [valV_neg e, valV_in r k]
      exact decide_eq_decide.mpr ⟨fun h => List.mem_cons_of_mem _ h, fun h => (List.mem_cons.mp h).resolve_left fun z => e z.symm⟩
theorem putK_new (h : k ∉ kvs.map Prod.fst) : putK kvs k v = kvs ++ [(k, v)] := by
  unfold putK
  rw [if_neg]
  intro z
  obtain ⟨p, hp, e⟩ := List.any_eq_true.mp z
  exact h (List.mem_map.mpr ⟨p, hp, of_decide_eq_true e⟩)
theorem putK_keys_old (h : k ∈ kvs.map Prod.fst) : (putK kvs k v).map Prod.fst = kvs.map Prod.fst := by
  unfold putK
  split
  · rw [List.map_map]
    apply List.map_congr_left
    intro p _
    simp only [Function.comp]
    split <;> rfl
  · rename_i n
    obtain ⟨p, hp, e⟩ := List.mem_map.mp h
    exact absurd (List.any_eq_true.mpr ⟨p, hp, decide_eq_true e⟩) n
theorem putK_keys_new (h : k ∉ kvs.map Prod.fst) : (putK kvs k v).map Prod.fst = kvs.map Prod.fst ++ [k] := by rw [putK_new h, List.map_append]; rfl
end
/-- a comprehension of a dict over any walk -/
theorem dc_it {J : It} {n : Nat} {G : Hp → Prop} {Y : Nat → Hp → V → Hp → Prop} (w : Walk J n G Y) {g : TG} {tt : TT} {tk tv : TE} {vs : List Nat} {σ : L2.St} {H1 : Hp} {D : Addr} {Qd : Hp → Prop} (Pv : Nat → Hp → Prop) (h0 : Pv 0 (upd H1 D (.dK []))) (hG : ∀ i H, i ≤ n → Pv i H → G H)
    (hs : ∀ i x H H', i < n → Pv i H → Y i H x H' → g x (wipe σ vs) H' fun σ2 H2 => wipe σ2 vs = wipe σ vs ∧ tt σ2 H2 fun b H3 =>
      if b = true then tk σ2 H3 fun y H4 => tv σ2 H4 fun z H5 => ∃ kvs k, y = kV k ∧ H5 D = some (.dK kvs) ∧ kvs.length < sizeLine ∧ Pv (i + 1) (upd H5 D (.dK (putK kvs k z))) else Pv (i + 1) H3) (hd : ∀ H, Pv n H → Qd H) :
    ∃ W : Nat → Nat → Hp → Prop, (∃ m, W 0 m (upd H1 D (.dK []))) ∧ ∀ i m H, W i m H →
      (J.stop i H ∧ Qd H) ∨ (J.go i H ∧ ∃ Nx : Hp → Prop, (∀ H', Nx H' → ∃ m', m' < m ∧ W (i + 1) m' H') ∧ ∀ x H', J.yld i H x H' → g x (wipe σ vs) H' fun σ2 H2 => wipe σ2 vs = wipe σ vs ∧ tt σ2 H2 fun b H3 =>
        if b = true then tk σ2 H3 fun y H4 => tv σ2 H4 fun z H5 => ∃ kvs k, y = kV k ∧ H5 D = some (.dK kvs) ∧ kvs.length < sizeLine ∧ Nx (upd H5 D (.dK (putK kvs k z))) else Nx H3) := by
  refine ⟨fun i m H => m = n - i ∧ i ≤ n ∧ Pv i H, ⟨n, by simp, Nat.zero_le _, h0⟩, ?_⟩
  rintro i m H ⟨rfl, hi, p⟩
  have q := hG i H hi p
  by_cases hlt : i < n
  · exact .inr ⟨w.goes i H hlt q, Pv (i + 1), fun H' p' => ⟨n - (i + 1), by omega, rfl, hlt, p'⟩, fun x H' y => hs i x H H' hlt p (w.yields i H x H' hlt q y)⟩
  · have e : i = n := by omega
    subst e
    exact .inl ⟨w.stops H q, hd H p⟩
theorem known_nodup (cs : List CardD) : (known cs).Nodup := sS_nodup _
theorem known_u {cs : List CardD} : ∀ k ∈ known cs, k ∈ uS := fun k h => (sS_in h).1
section
variable {P : Program} {w : World} {K : PySem.W.Frag} {mg : Str → Option Value} {base : Heap} {CC CD CW CG aR aW : Addr}
/-! ### landings -/
theorem sc_landings : FnScope ["drawer", "rule", "heading"] ["drawer", "rule"] (defScope s_landings) := C8.fnScope_by (by decide +kernel)
def sp_landings (K : PySem.W.Frag) (CD CC : Addr) : Sp := fun vs H Q _ => ∃ d cs, ∃ r : Rl, vs = [.ref d, .str r.str] ∧ DrawAt K CD CC H d cs ∧ Ok cs ∧ ∀ p kvs H', Sm H H' → H' p = some (.dK kvs) → kvs.map Prod.fst = (known cs).map Sum.inr → Q (.ref p) H'
theorem ok_landings (T : Tx K mg CC CD CW CG aR aW) : C8.Cal P w K mg base 8 "landings" (sp_landings K CD CC) [] := by
  refine cal_of T.d_landings (fun _ _ _ _ _ _ us hl => match us, hl with | [_, _], _ => rfl) sc_landings (fun vs H Q E h => ?_) (fun f cdv A outer s H vs Q E hr h => ?_)
  · obtain ⟨d, cs, r, rfl, hd, ok, q⟩ := h; rfl
  · obtain ⟨d, cs, r, rfl, hd, ok, q⟩ := h
    refine ⟨_, (pss_cons (ps_expr (C8.pe_c (ok_check_rule T) hr (by decide) (by rfl) (pa_cons (pv 1) pa_nil)))
      (pss_one (ps_ret (pe_dc (own := [("heading", 2)]) (g := (gName 2)) (tt := tYes) rfl sc_landings.nd (pi_list (C8.pe_c (ok_known_headings T) hr (by decide) (by rfl) (pa_cons (pv 0) pa_nil))) (blkOk_by (own := [("heading", 2)]) (N := ["drawer", "rule", "heading"]) (sc := defScope s_landings) (by decide +kernel)) (fun _ _ _ _ _ => (pg_name (i := 2) sc_landings.nd rfl (by first | exact Or.inl rfl | exact Or.inr rfl))) (fun _ _ _ _ _ => pts_nil) (fun _ _ _ _ _ => (pv 2)) (fun _ _ _ _ _ => (pe_landing (K := K) rfl T hr (by decide) (by rfl) (pa_cons (pv 0) (pa_cons (pv 1) (pa_cons (pv 2) pa_nil))))))))), ?_⟩
    refine ⟨_, rfl, r, rfl, _, rfl, d, cs, rfl, hd, ok, fun l H1 s1 e1 => ⟨l, rfl, ⟨_, SqL.of e1⟩, fun D hD => dc_it (walk_list (xs := (known cs).map V.str)) (fun i H' => Sm H1 H' ∧ ∃ kvs, H' D = some (.dK kvs) ∧ kvs.map Prod.fst = ((known cs).take i).map Sum.inr) ⟨Sm.new hD, [], upd_same, rfl⟩ (fun i H' _ ⟨s2, _⟩ => SqL.of (s2 _ _ e1))
      (fun i v H2 H3 hi ⟨s2, kvs, e2, ek⟩ hy => ?_) (fun H2 ⟨s2, kvs, e2, ek⟩ => ?_)⟩⟩
    · obtain ⟨rfl, ev⟩ := hy
      rw [List.getElem?_map] at ev
      obtain ⟨h, eh, rfl⟩ := Option.map_eq_some_iff.mp ev
      have kl : (known cs).length ≤ 11 := sS_len _
      have il := get_lt eh
      refine ⟨rfl, yes_if ⟨_, rfl, _, rfl, _, rfl, _, rfl, d, cs, h, r, rfl, hd.same (s1.trans s2), ok, fun p H4 s4 _ => ⟨kvs, .inr h, rfl, s4 _ _ e2, sizeLt ?_, (s2.trans s4).wr hD, _, upd_same, ?_⟩⟩⟩
      · have := congrArg List.length ek
        simp only [List.length_map, List.length_take] at this
        omega
      · have nin : (Sum.inr h : L2.Key) ∉ kvs.map Prod.fst := by
          rw [ek]
          intro z
          obtain ⟨x, hx, e⟩ := List.mem_map.mp z
          cases e
          have nd := known_nodup cs
          rw [← List.take_append_drop i (known cs), List.nodup_append] at nd
          refine nd.2.2 h hx h ?_ rfl
          rw [List.drop_eq_getElem_cons il]
          have : (known cs)[i] = h := by rw [List.getElem?_eq_getElem il] at eh; exact Option.some.inj eh
          rw [this]; exact List.mem_cons_self
        rw [putK_keys_new nin, ek, take_snoc eh, List.map_append]; rfl
    · rw [List.length_map, List.take_length] at ek
      exact q D kvs H2 (s1.trans s2) e2 ek
end
end Se
namespace Se
open PySem PySem.Spec PyProof.Rows L2
/-! ### Gathering -/
def fG (d : Addr) (r : Rl) (w : Wy) (A Wk Vi Ga : Addr) : List (Str × V) := [("drawer", .ref d), ("rule", .str r.str), ("way", .str w.str), ("agenda", .ref A), ("walked", .ref Wk), ("visited", .ref Vi), ("gathered", .ref Ga)]
theorem fG_lt {d : Addr} {r : Rl} {w : Wy} {A Wk Vi Ga : Addr} : (fG d r w A Wk Vi Ga).length < 1000 := by show 7 < 1000; decide
theorem putG_ag {d : Addr} {r : Rl} {w : Wy} {A A' Wk Vi Ga : Addr} : putF "agenda" (.ref A') (fG d r w A Wk Vi Ga) = fG d r w A' Wk Vi Ga := rfl
def dnK (dn : List Str) : List (L2.Key × V) := dn.map fun h => (Sum.inr h, V.bl true)
theorem dnK_keys (dn : List Str) : (dnK dn).map Prod.fst = dn.map Sum.inr := by unfold dnK; rw [List.map_map]; rfl
theorem mem_dnK {dn : List Str} {h : Str} : (Sum.inr h : L2.Key) ∈ (dnK dn).map Prod.fst ↔ h ∈ dn := by
  rw [dnK_keys, List.mem_map]
  exact ⟨fun ⟨x, hx, e⟩ => by cases e; exact hx, fun m => ⟨h, m, rfl⟩⟩
structure GSt (CG : Addr) (H : Hp) (a dx d : Addr) (r : Rl) (w : Wy) (A Wk Vi Ga : Addr) (s : GS) : Prop where
  i : H a = some (.ins CG dx (fG d r w A Wk Vi Ga))
  ag : H A = some (.lst (s.ag.map V.str))
  wk : H Wk = some (.dK (dnK s.dn))
  vi : H Vi = some (.lst (s.vis.map vN))
  ga : ∃ kvs, H Ga = some (.dK kvs) ∧ kvs.map Prod.fst = s.met.map Sum.inl
  av : A ≠ Vi
  wg : Wk ≠ Ga
section
variable {CG : Addr} {H : Hp} {a dx d : Addr} {r : Rl} {w : Wy} {A Wk Vi Ga : Addr} {s : GS}
theorem GSt.same (g : GSt CG H a dx d r w A Wk Vi Ga s) {H' : Hp} (z : Sm H H') : GSt CG H' a dx d r w A Wk Vi Ga s := ⟨z _ _ g.i, z _ _ g.ag, z _ _ g.wk, z _ _ g.vi, let ⟨k, e1, e2⟩ := g.ga; ⟨k, z _ _ e1, e2⟩, g.av, g.wg⟩
theorem GSt.n1 (g : GSt CG H a dx d r w A Wk Vi Ga s) : a ≠ A := ne_of g.i g.ag fun z => nomatch z
theorem GSt.n2 (g : GSt CG H a dx d r w A Wk Vi Ga s) : a ≠ Wk := ne_of g.i g.wk fun z => nomatch z
theorem GSt.n3 (g : GSt CG H a dx d r w A Wk Vi Ga s) : a ≠ Vi := ne_of g.i g.vi fun z => nomatch z
theorem GSt.n4 (g : GSt CG H a dx d r w A Wk Vi Ga s) : a ≠ Ga := let ⟨_, e, _⟩ := g.ga; ne_of g.i e fun z => nomatch z
theorem GSt.n5 (g : GSt CG H a dx d r w A Wk Vi Ga s) : A ≠ Wk := ne_of g.ag g.wk fun z => nomatch z
theorem GSt.n6 (g : GSt CG H a dx d r w A Wk Vi Ga s) : A ≠ Ga := let ⟨_, e, _⟩ := g.ga; ne_of g.ag e fun z => nomatch z
theorem GSt.n7 (g : GSt CG H a dx d r w A Wk Vi Ga s) : Vi ≠ Wk := ne_of g.vi g.wk fun z => nomatch z
theorem GSt.n8 (g : GSt CG H a dx d r w A Wk Vi Ga s) : Vi ≠ Ga := let ⟨_, e, _⟩ := g.ga; ne_of g.vi e fun z => nomatch z
theorem GSt.putA (g : GSt CG H a dx d r w A Wk Vi Ga s) {ag : List Str} : GSt CG (upd H A (.lst (ag.map V.str))) a dx d r w A Wk Vi Ga { s with ag := ag } :=
  ⟨by rw [upd_ne g.n1]; exact g.i, upd_same, by rw [upd_ne g.n5.symm]; exact g.wk, by rw [upd_ne g.av.symm]; exact g.vi, let ⟨k, e1, e2⟩ := g.ga; ⟨k, by rw [upd_ne g.n6.symm]; exact e1, e2⟩, g.av, g.wg⟩
theorem GSt.putW (g : GSt CG H a dx d r w A Wk Vi Ga s) {dn : List Str} : GSt CG (upd H Wk (.dK (dnK dn))) a dx d r w A Wk Vi Ga { s with dn := dn } :=
  ⟨by rw [upd_ne g.n2]; exact g.i, by rw [upd_ne g.n5]; exact g.ag, upd_same, by rw [upd_ne g.n7]; exact g.vi, let ⟨k, e1, e2⟩ := g.ga; ⟨k, by rw [upd_ne g.wg.symm]; exact e1, e2⟩, g.av, g.wg⟩
theorem GSt.putV (g : GSt CG H a dx d r w A Wk Vi Ga s) {vis : List Nat} : GSt CG (upd H Vi (.lst (vis.map vN))) a dx d r w A Wk Vi Ga { s with vis := vis } :=
  ⟨by rw [upd_ne g.n3]; exact g.i, by rw [upd_ne g.av]; exact g.ag, by rw [upd_ne g.n7.symm]; exact g.wk, upd_same, let ⟨k, e1, e2⟩ := g.ga; ⟨k, by rw [upd_ne g.n8.symm]; exact e1, e2⟩, g.av, g.wg⟩
theorem GSt.putM (g : GSt CG H a dx d r w A Wk Vi Ga s) {met : List Int} {kvs : List (L2.Key × V)} (e : kvs.map Prod.fst = met.map Sum.inl) : GSt CG (upd H Ga (.dK kvs)) a dx d r w A Wk Vi Ga { s with met := met } :=
  ⟨by rw [upd_ne g.n4]; exact g.i, by rw [upd_ne g.n6]; exact g.ag, by rw [upd_ne g.wg]; exact g.wk, by rw [upd_ne g.n8]; exact g.vi, ⟨kvs, upd_same, e⟩, g.av, g.wg⟩
/-- a new list for an agenda -/
theorem GSt.newA (g : GSt CG H a dx d r w A Wk Vi Ga s) {A' : Addr} {ag : List Str} (n : H A' = none) : GSt CG (upd (upd H A' (.lst (ag.map V.str))) a (.ins CG dx (fG d r w A' Wk Vi Ga))) a dx d r w A' Wk Vi Ga { s with ag := ag } := by
  have z : Sm H (upd H A' (.lst (ag.map V.str))) := Sm.new n
  have nA : A' ≠ a := (ne_of_none g.i n).symm
  obtain ⟨k, e1, e2⟩ := g.ga
  exact ⟨upd_same, by rw [upd_ne nA, upd_same], by rw [upd_ne g.n2.symm]; exact z _ _ g.wk, by rw [upd_ne g.n3.symm]; exact z _ _ g.vi, ⟨k, by rw [upd_ne g.n4.symm]; exact z _ _ e1, e2⟩, (ne_of_none g.vi n).symm, g.wg⟩
theorem GSt.vol (g : GSt CG H a dx d r w A Wk Vi Ga s) : ∀ b ∈ [a, A, Wk, Vi, Ga], ∃ o, H b = some o ∧ Vol o := fun b hb => by
  simp only [List.mem_cons, List.not_mem_nil, or_false] at hb
  obtain ⟨k, e1, e2⟩ := g.ga
  rcases hb with rfl | rfl | rfl | rfl | rfl
  · exact ⟨_, g.i, .ins _ _ _⟩
  · exact ⟨_, g.ag, .lst _⟩
  · exact ⟨_, g.wk, .dK _⟩
  · exact ⟨_, g.vi, .lst _⟩
  · exact ⟨_, e1, .dK _⟩
end
theorem wy_broad {w : Wy} : decide (V.str w.str = V.str "broad") = decide (w = .broad) := by cases w <;> decide +kernel
theorem wy_deep {w : Wy} : decide (V.str w.str = V.str "deep") = decide (w = .deep) := by cases w <;> decide +kernel
theorem addB_in {m : List Int} {b : Int} (h : b ∈ m) : addB m b = m := by unfold addB; rw [if_pos h]
theorem addB_out {m : List Int} {b : Int} (h : b ∉ m) : addB m b = m ++ [b] := by unfold addB; rw [if_neg h]
theorem addBs_snoc (m bk : List Int) (b : Int) : addBs m (bk ++ [b]) = addB (addBs m bk) b := by unfold addBs; rw [List.foldl_append]; rfl
theorem addBs_len (m : List Int) : ∀ bk : List Int, (addBs m bk).length ≤ m.length + bk.length
  | [] => Nat.le_refl _
  | b :: bk => by
    have := addBs_len (addB m b) bk
    have h : (addB m b).length ≤ m.length + 1 := by unfold addB; split <;> simp
    show (addBs (addB m b) bk).length ≤ _
    rw [List.length_cons]; omega
section
variable {P : Program} {w : World} {K : PySem.W.Frag} {mg : Str → Option Value} {base : Heap} {CC CD CW CG aR aW : Addr}
theorem sc_Gathering_visit : FnScope ["self", "place", "card", "book"] ["self", "place"] (defScope s_Gathering_visit) := C8.fnScope_by (by decide +kernel)
def sp_g_visit (K : PySem.W.Frag) (CG CD CC : Addr) : Sp := fun vs H Q _ => ∃ a dx d r w A Wk Vi Ga s cs c, ∃ p : Nat, vs = [.ref a, .int p] ∧ GSt CG H a dx d r w A Wk Vi Ga s ∧ DrawAt K CD CC H d cs ∧ Ok cs ∧ cs[p]? = some c ∧ s.vis.length ≤ 500 ∧ s.met.length ≤ 500 ∧ s.ag.length ≤ 500 ∧
  ∀ H' A', But [a, A, Wk, Vi, Ga] H H' → H A' = none → GSt CG H' a dx d r w A' Wk Vi Ga ⟨comb w s.ag c.al, s.dn, s.vis ++ [p], addBs s.met c.bk⟩ → Q .non H'
theorem mt_Gathering_visit (T : Tx K mg CC CD CW CG aR aW) : C8.Met P w K mg base 3 CG "visit" (sp_g_visit K CG CD CC) [] := by
  refine metd_of T.kG T.m_Gathering_visit (fun _ _ _ _ _ _ us hl => match us, hl with | [_, _], _ => rfl) sc_Gathering_visit (fun vs H Q E h => ?_) (fun f cdv A outer s H vs Q E hr h => ?_)
  · obtain ⟨a, dx, d, r, w_, A_, Wk, Vi, Ga, s_, cs, c, p, rfl, g, hd, ok, hc, l1, l2, l3, q⟩ := h; rfl
  · obtain ⟨a, dx, d, r, w_, A_, Wk, Vi, Ga, s_, cs, c, p, rfl, g, hd, ok, hc, l1, l2, l3, q⟩ := h
    refine ⟨_, (pss_cons (ps_expr (pe_bm PySem.F.plainAttrs_list PySem.F.slot_list_append PySem.F.type_list_append mt_append (pe_fld (pv 0) rfl) (pa_cons (pv 1) pa_nil)))
      (pss_cons (ps_set (i := 2) sc_Gathering_visit.nd rfl (by first | exact Or.inl rfl | exact Or.inr rfl) (pe_ix (ix_tupK (K := K) rfl) (pe_prp T.kD (pr_Drawer_cards T) hr (by decide) (pe_fld (pv 0) rfl)) (pv 1) (fun _ _ => rfl)))
      (pss_cons (ps_for PassesOwn.never rfl (pi_tup (pe_prp T.kC (pr_Card_books T) hr (by decide) (pv 2))) (pg_name (i := 3) sc_Gathering_visit.nd rfl (by first | exact Or.inl rfl | exact Or.inr rfl)) (pss_one (ps_expr (pe_dsetd (pe_fld (pv 0) rfl) (pv 3) (pe_callB call_lenD (by rfl) T.b_len PySem.boot_len (pa_cons (pe_fld (pv 0) rfl) pa_nil)) ⟨rfl, rfl, rfl, rfl⟩))))
      (pss_one (ps_if (pt_cmpR op_eq (pe_fld (pv 0) rfl) (C8.pe_gc (by rfl) T.c_BROAD) (nomark _)) (pss_one (ps_fld (pv 0) (pe_lst (pa_starK (K := K) rfl (pe_fld (pv 0) rfl) (pa_starK (K := K) rfl (pe_prp T.kC (pr_Card_also T) hr (by decide) (pv 2)) pa_nil))) rfl)) (pss_one (ps_if (pt_cmpR op_eq (pe_fld (pv 0) rfl) (C8.pe_gc (by rfl) T.c_DEEP) (nomark _)) (pss_one (ps_fld (pv 0) (pe_lst (pa_starK (K := K) rfl (pe_prp T.kC (pr_Card_also T) hr (by decide) (pv 2)) (pa_starK (K := K) rfl (pe_fld (pv 0) rfl) pa_nil))) rfl)) (pss_one (ps_fld (pv 0) (pe_callTy (call_listK (K := K) rfl) (by rfl) T.b_list (by decide +kernel) (pa_cons (pe_prp T.kC (pr_Card_also T) hr (by decide) (pv 2)) pa_nil)) rfl))))))))), ?_⟩
    have cok := ok.at hc
    refine ⟨_, rfl, a, CG, dx, _, _, rfl, g.i, T.kG, T.nG_visited, rfl, .inl ⟨rfl, _, SqL.of g.vi⟩, _, rfl, Vi, _, _, rfl, rfl, g.vi, sizeLt (by rw [List.length_map]; omega), ?_⟩
    rw [show s_.vis.map vN ++ [V.int p] = (s_.vis ++ [p]).map vN by simp]
    have g1 : GSt CG (upd H Vi (.lst ((s_.vis ++ [p]).map vN))) a dx d r w_ A_ Wk Vi Ga { s_ with vis := s_.vis ++ [p] } := g.putV
    have b1 : But [a, A_, Wk, Vi, Ga] H (upd H Vi (.lst ((s_.vis ++ [p]).map vN))) := (But.of (Sm.refl H)).wr (by simp)
    have hd1 := hd.sd (SmD.but b1 g.vol)
    refine ⟨_, rfl, a, CG, dx, _, _, rfl, g1.i, T.kG, T.nG_drawer, rfl, rd_cards hd1 fun row xs hx hrow => ?_⟩
    obtain ⟨v, ev, ca, rfl, hca⟩ := hrow.at hc
    refine ⟨_, rfl, row, xs, _, _, rfl, rfl, hx, atI_nat ev, ?_⟩
    refine ⟨_, rfl, rd_books hca fun b hb => ⟨b, rfl, ⟨_, hb⟩, ?_⟩⟩
    refine for_it (walk_tup (xs := c.bk.map V.int)) (fun j σ' H' => (∃ o3, σ' = [some (.ref a), some (.int p), some (.ref ca), o3]) ∧ But [a, A_, Wk, Vi, Ga] H H' ∧ SqT K H' b (c.bk.map V.int) ∧ CardAt K CC H' ca c ∧ GSt CG H' a dx d r w_ A_ Wk Vi Ga ⟨s_.ag, s_.dn, s_.vis ++ [p], addBs s_.met (c.bk.take j)⟩)
      ⟨⟨_, rfl⟩, b1, hb, hca, g1⟩ (fun _ _ _ _ h => h.2.2.1) (fun j v σ1 H1 H2 hj ⟨⟨o3, e0⟩, b2, hb2, hc2, g2⟩ hy => ?_) (fun σ1 H1 ⟨⟨o3, e0⟩, b2, hb2, hc2, g2⟩ => ?_)
    · subst e0
      obtain ⟨rfl, ev2⟩ := hy
      rw [List.getElem?_map] at ev2
      obtain ⟨bk, ek, rfl⟩ := Option.map_eq_some_iff.mp ev2
      obtain ⟨kvs, e1, e2⟩ := g2.ga
      have ml := addBs_len s_.met (c.bk.take j)
      have kl := congrArg List.length e2
      have bl := cok.bkL
      simp only [List.length_map, List.length_take] at kl ml
      refine ⟨_, rfl, a, CG, dx, _, _, rfl, g2.i, T.kG, T.nG_gathered, rfl, Ga, rfl, .inl ⟨kvs, .inl e1⟩, _, rfl, _, rfl, a, CG, dx, _, _, rfl, g2.i, T.kG, T.nG_walked, rfl, Wk, _, rfl, g2.wk, kvs, .inl bk, e1, rfl, sizeLt (by omega), fun v hv => ?_, fun hn => ?_⟩
      · have m : bk ∈ addBs s_.met (c.bk.take j) := by
          have := valV_in kvs (.inl bk)
          rw [hv, e2] at this
          obtain ⟨x, hx, e⟩ := List.mem_map.mp (of_decide_eq_true this.symm)
          cases e
          exact hx
        refine ⟨⟨_, rfl⟩, b2, hb2, hc2, ?_⟩
        rw [take_snoc ek, addBs_snoc, addB_in m]
        exact g2
      · have m0 : (Sum.inl bk : L2.Key) ∉ kvs.map Prod.fst := by
          have := valV_in kvs (.inl bk)
          rw [hn] at this
          exact of_decide_eq_false this.symm
        have m : bk ∉ addBs s_.met (c.bk.take j) := fun z => m0 (by rw [e2]; exact List.mem_map_of_mem z)
        have sd : SmD H2 (upd H2 Ga (.dK (putK kvs (.inl bk) (.int ((dnK s_.dn).length : Nat))))) := (SmD.refl _).upd e1 (.dK _)
        refine ⟨⟨_, rfl⟩, b2.wr (by simp), sd.tup hb2, hc2.sd sd, ?_⟩
        rw [take_snoc ek, addBs_snoc, addB_out m]
        exact g2.putM (by rw [putK_keys_new m0, e2, List.map_append]; rfl)
    · subst e0
      rw [List.length_map, List.take_length] at g2
      have al := cok.alL
      have fin : ∀ A', H1 A' = none → ∀ H3, H3 = upd H1 A' (.lst ((comb w_ s_.ag c.al).map V.str)) → sFld K (tVar 0) (fun _ _ Q => Q (.ref A') H3) "agenda" { nx := fun x H' => Q V.non H', rt := Q } [some (.ref a), some (.int p), some (.ref ca), o3] H1 := fun A' hA H3 e3 => by
        subst e3
        have ni := g2.i
        refine ⟨_, rfl, a, CG, dx, _, rfl, (Sm.new hA) _ _ g2.i, T.kG, T.nG_agenda, fG_lt, ?_⟩
        rw [putG_ag]
        refine q _ A' ((b2.new hA).wr (by simp)) ?_ (g2.newA hA)
        cases e : H A' with
        | none => rfl
        | some o =>
          by_cases m : A' ∈ [a, A_, Wk, Vi, Ga]
          · obtain ⟨o', eo, _⟩ := g2.vol A' m
            rw [hA] at eo; cases eo
          · rw [b2 _ _ e m] at hA; cases hA
      refine ⟨_, rfl, a, CG, dx, _, _, rfl, g2.i, T.kG, T.nG_way, rfl, rfl, _, rfl, ?_⟩
      by_cases e1 : w_ = .broad
      · subst e1
        refine ifT (by rw [wy_broad]; rfl) ⟨_, rfl, a, CG, dx, _, _, rfl, g2.i, T.kG, T.nG_agenda, rfl, A_, _, rfl, .inr (SqL.of g2.ag), _, rfl, rd_also hc2 fun l hl => ⟨l, _, rfl, .inl hl, sizeOf' (by simp; omega), fun A' hA => fin A' hA _ (by simp [comb])⟩⟩
      · refine ifF (by rw [wy_broad]; exact dF e1) ⟨_, rfl, a, CG, dx, _, _, rfl, g2.i, T.kG, T.nG_way, rfl, rfl, _, rfl, ?_⟩
        by_cases e2 : w_ = .deep
        · subst e2
          refine ifT (by rw [wy_deep]; rfl) ⟨_, rfl, rd_also hc2 fun l hl => ⟨l, _, rfl, .inl hl, _, rfl, a, CG, dx, _, _, rfl, g2.i, T.kG, T.nG_agenda, rfl, A_, _, rfl, .inr (SqL.of g2.ag), sizeOf' (by simp; omega), fun A' hA => fin A' hA _ (by simp [comb])⟩⟩
        · have e3 : w_ = .straight := by cases w_ <;> simp_all
          subst e3
          refine ifF (by rw [wy_deep]; rfl) ⟨_, rfl, rd_also hc2 fun l hl => ⟨l, _, rfl, .inr hl, fun A' hA => fin A' hA _ rfl⟩⟩
end
end Se
namespace Se
open PySem PySem.Spec PyProof.Rows L2
section
variable {P : Program} {w : World} {K : PySem.W.Frag} {mg : Str → Option Value} {base : Heap} {CC CD CW CG aR aW : Addr}
theorem sc_Gathering_go_on : FnScope ["self", "heading", "word", "place"] ["self"] (defScope s_Gathering_go_on) := C8.fnScope_by (by decide +kernel)
def sp_g_go (K : PySem.W.Frag) (CG CD CC : Addr) : Sp := fun vs H Q _ => ∃ a dx d r w A Wk Vi Ga s cs h0, vs = [.ref a] ∧ GSt CG H a dx d r w A Wk Vi Ga s ∧ DrawAt K CD CC H d cs ∧ Ok cs ∧ GOk cs h0 s ∧ s.ag ≠ [] ∧ s.ag.length ≤ 100 ∧
  ∀ H' A', But [a, A, Wk, Vi, Ga] H H' → (A' = A ∨ H A' = none) → GSt CG H' a dx d r w A' Wk Vi Ga (gstep cs r w s) → Q .non H'
theorem erase0 {α : Type} (x : α) (xs : List α) : (x :: xs).eraseIdx 0 = xs := rfl
theorem mt_Gathering_go_on (T : Tx K mg CC CD CW CG aR aW) : C8.Met P w K mg base 8 CG "go_on" (sp_g_go K CG CD CC) [] := by
  refine metd_of T.kG T.m_Gathering_go_on (fun _ _ _ _ _ _ us hl => match us, hl with | [_], _ => rfl) sc_Gathering_go_on (fun vs H Q E h => ?_) (fun f cdv A outer s H vs Q E hr h => ?_)
  · obtain ⟨a, dx, d, r, w_, A_, Wk, Vi, Ga, s_, cs, h0, rfl, g, hd, ok, go, ne, l1, q⟩ := h; rfl
  · obtain ⟨a, dx, d, r, w_, A_, Wk, Vi, Ga, s_, cs, h0, rfl, g, hd, ok, go, ne, l1, q⟩ := h
    refine ⟨_, (pss_cons (ps_set (i := 1) sc_Gathering_go_on.nd rfl (by first | exact Or.inl rfl | exact Or.inr rfl) (pe_bm PySem.F.plainAttrs_list PySem.F.slot_list_pop PySem.F.type_list_pop mt_popAt (pe_fld (pv 0) rfl) (pa_cons pe_int pa_nil)))
      (pss_cons (ps_if (pt_cmp (pc_din (hu_of hr) (pv 1) (pe_fld (pv 0) rfl)) rfl) (pss_one ps_retN) pss_nil)
      (pss_cons (ps_dput (hu_of hr) (pe_fld (pv 0) rfl) (pv 1) pe_bl rfl)
      (pss_cons (ps_asg (pe_landing (K := K) rfl T hr (by decide) (by rfl) (pa_cons (pe_fld (pv 0) rfl) (pa_cons (pe_fld (pv 0) rfl) (pa_cons (pv 1) pa_nil)))) (pg_tup rfl (pgs_cons (pg_name (i := 2) sc_Gathering_go_on.nd rfl (by first | exact Or.inl rfl | exact Or.inr rfl)) (pgs_cons (pg_name (i := 3) sc_Gathering_go_on.nd rfl (by first | exact Or.inl rfl | exact Or.inr rfl)) pgs_nil))))
      (pss_one (ps_if (PW.pt (pw_and (pt_cmpR op_notN (pv 3) pe_non (nomark _)) (pw_and1 (pt_cmpR (op_ninK (K := K) rfl) (pv 3) (pe_fld (pv 0) rfl) (by rfl))))) (pss_one (ps_expr (C8.pe_mt (mt_Gathering_visit T) hr (by decide) (pv 0) (pa_cons (pv 3) pa_nil)))) pss_nil)))))), ?_⟩
    have vl := go.visLen ok.len
    have dl := go.dnLen
    have ml := go.metLen ok
    obtain ⟨h, rest, ea⟩ : ∃ h rest, s_.ag = h :: rest := by
      cases e : s_.ag with
      | nil => exact absurd e ne
      | cons h rest => exact ⟨h, rest, rfl⟩
    have sq : seqIndex? 0 (s_.ag.map V.str).length = some 0 := (ixN_seq (j := 0) (by rw [ea]; unfold ixN; rw [if_pos (by decide), if_pos (by simp)]; rfl)).1
    refine ⟨_, rfl, a, CG, dx, _, _, rfl, g.i, T.kG, T.nG_agenda, rfl, .inl ⟨rfl, _, SqL.of g.ag⟩, A_, _, 0, 0, .str h, rfl, rfl, g.ag, by decide, by decide, sq, by rw [ea]; rfl, ?_⟩
    have ee : (s_.ag.map V.str).eraseIdx 0 = rest.map V.str := by rw [ea]; rfl
    rw [ee]
    have g1 : GSt CG (upd H A_ (.lst (rest.map V.str))) a dx d r w_ A_ Wk Vi Ga { s_ with ag := rest } := g.putA
    have b1 : But [a, A_, Wk, Vi, Ga] H (upd H A_ (.lst (rest.map V.str))) := (But.of (Sm.refl H)).wr (by simp)
    refine ⟨_, rfl, _, rfl, a, CG, dx, _, _, rfl, g1.i, T.kG, T.nG_walked, rfl, Wk, _, rfl, DGet.k (k := .inr h) g1.wk, _, rfl, ?_⟩
    rw [valV_in]
    by_cases m : h ∈ s_.dn
    · refine ifT (dT (mem_dnK.mpr m)) (q _ A_ b1 (.inl rfl) ?_)
      rw [gstep_done ea m]
      exact g1
    · have nin : (Sum.inr h : L2.Key) ∉ (dnK s_.dn).map Prod.fst := fun z => m (mem_dnK.mp z)
      refine ifF (dF nin) ⟨_, rfl, a, CG, dx, _, _, rfl, g1.i, T.kG, T.nG_walked, rfl, _, rfl, Wk, _, rfl, DPut.k (k := .inr h) g1.wk (sizeLt (by unfold dnK; rw [List.length_map]; show s_.dn.length ≤ 1000; omega)), ?_⟩
      rw [putK_new nin, show dnK s_.dn ++ [((Sum.inr h : L2.Key), V.bl true)] = dnK (s_.dn ++ [h]) by unfold dnK; rw [List.map_append]; rfl]
      have g2 : GSt CG (upd (upd H A_ (.lst (rest.map V.str))) Wk (.dK (dnK (s_.dn ++ [h])))) a dx d r w_ A_ Wk Vi Ga { s_ with ag := rest, dn := s_.dn ++ [h] } := g1.putW
      have b2 : But [a, A_, Wk, Vi, Ga] H (upd (upd H A_ (.lst (rest.map V.str))) Wk (.dK (dnK (s_.dn ++ [h])))) := b1.wr (by simp)
      refine ⟨_, rfl, a, CG, dx, _, _, rfl, g2.i, T.kG, T.nG_drawer, rfl, _, rfl, a, CG, dx, _, _, rfl, g2.i, T.kG, T.nG_rule, rfl, _, rfl, d, cs, h, r, rfl, hd.sd (SmD.but b2 g.vol), ok, fun p H3 s3 e3 => ⟨p, _, rfl, SqT.of e3, rfl, _, _, rfl, _, _, rfl, rfl, ?_⟩⟩
      have g3 := g2.same s3
      have b3 := b2.trans (But.of s3)
      have hd3 := hd.sd (SmD.but b3 g.vol)
      refine ⟨_, rfl, rfl, _, rfl, ?_⟩
      cases el : land cs r h with
      | none =>
        refine ifF rfl (ifF rfl (q _ A_ b3 (.inl rfl) ?_))
        rw [gstep_none ea m el]
        exact g3
      | some pl =>
        refine ifT rfl ⟨_, rfl, _, rfl, a, CG, dx, _, _, rfl, g3.i, T.kG, T.nG_visited, rfl, rd_ninN (.inl (SqL.of g3.vi)) ⟨_, rfl, ?_⟩⟩
        by_cases v : pl ∈ s_.vis
        · refine ifF (nF v) (q _ A_ b3 (.inl rfl) ?_)
          rw [gstep_seen ea m el v]
          exact g3
        · obtain ⟨c, hc⟩ := get_of_lt (land_lt el)
          refine ifT (nT v) ⟨_, rfl, a, dx, _, rfl, g3.i, rfl, _, rfl, a, dx, d, r, w_, A_, Wk, Vi, Ga, _, cs, c, pl, rfl, g3, hd3, ok, hc, (by show s_.vis.length ≤ 500; omega), (by show s_.met.length ≤ 500; omega), ?_, fun H4 A' b4 hA g4 => q H4 A' (b3.trans b4) ?_ ?_⟩
          · show rest.length ≤ 500
            rw [ea] at l1
            simp only [List.length_cons] at l1
            omega
          · refine .inr ?_
            cases e : H A' with
            | none => rfl
            | some o =>
              by_cases mm : A' ∈ [a, A_, Wk, Vi, Ga]
              · obtain ⟨o', eo, _⟩ := g3.vol A' mm
                rw [hA] at eo; cases eo
              · rw [b3 _ _ e mm] at hA; cases hA
          · rw [gstep_new ea m el v hc]
            exact g4
/-- a gathering at its end -/
structure GEnd (CG : Addr) (H : Hp) (a : Addr) (s : GS) : Prop where
  ex : ∃ dx d r w A Wk Vi Ga, GSt CG H a dx d r w A Wk Vi Ga s
theorem sc_Gathering_init : FnScope ["self", "drawer", "rule", "way", "heading", "patience"] ["self", "drawer", "rule", "way", "heading", "patience"] (defScope s_Gathering_init) := C8.fnScope_by (by decide +kernel)
def sp_Gath (K : PySem.W.Frag) (CG CD CC : Addr) : Sp := fun vs H Q _ => ∃ a dx d cs h, ∃ r : Rl, ∃ w : Wy, ∃ pat : Nat, vs = [.ref a, .ref d, .str r.str, .str w.str, .str h, .int pat] ∧ NewI H a CG dx ∧ DrawAt K CD CC H d cs ∧ Ok cs ∧ h ∈ uS ∧ ∀ H', But [a] H H' → GEnd CG H' a (gath cs r w h pat) → Q .non H'
theorem ins_at {C dx : Addr} {H : Hp} {a b : Addr} {fs : List (Str × V)} {o : HO} (h : H a = some (.ins C dx fs)) (n : H b = none) : upd H b o a = some (.ins C dx fs) := (Sm.new n) _ _ h
theorem mk_Gathering_init (T : Tx K mg CC CD CW CG aR aW) : C8.Mak P w K mg base 9 "Gathering" CG (sp_Gath K CG CD CC) [] := by
  refine mak_of T.i_Gathering (fun _ _ _ _ _ _ us hl => match us, hl with | [_, _, _, _, _, _], _ => rfl) sc_Gathering_init (fun vs H Q E h => ?_) (fun f cdv A outer s H vs Q E hr h => ?_)
  · obtain ⟨a, dx, d, cs, h, r, w_, pat, rfl, hN, hd, ok, hu, q⟩ := h; rfl
  · obtain ⟨a, dx, d, cs, h, r, w_, pat, rfl, hN, hd, ok, hu, q⟩ := h
    refine ⟨_, (pss_cons (ps_fld (pv 0) (pv 1) rfl)
      (pss_cons (ps_fld (pv 0) (pv 2) rfl)
      (pss_cons (ps_fld (pv 0) (pv 3) rfl)
      (pss_cons (ps_fld (pv 0) (pe_lst (pa_cons (pv 4) pa_nil)) rfl)
      (pss_cons (ps_fld (pv 0) pe_dnewK rfl)
      (pss_cons (ps_fld (pv 0) (pe_lst pa_nil) rfl)
      (pss_cons (ps_fld (pv 0) pe_dnewK rfl)
      (pss_one (ps_while PassesOwn.never (PW.pt (pw_and (pt_cmpR (op_neDK (K := K) rfl hr.units) (pe_fld (pv 0) rfl) (pe_lst pa_nil) (nomark _)) (pw_and1 (pt_cmpR op_lt (pe_callB call_lenD (by rfl) T.b_len PySem.boot_len (pa_cons (pe_fld (pv 0) rfl) pa_nil)) (pv 5) (nomark _))))) (pss_one (ps_expr (C8.pe_mt0 (mt_Gathering_go_on T) hr (by decide) (pv 0))))))))))))), ?_⟩
    refine ⟨_, rfl, _, rfl, a, CG, dx, _, rfl, hN.i, T.kG, T.nG_drawer, by decide, ?_⟩
    refine ⟨_, rfl, _, rfl, a, CG, dx, putF "drawer" (.ref d) [], rfl, upd_same, T.kG, T.nG_rule, (by show 1 < 1000; decide), ?_⟩
    refine ⟨_, rfl, _, rfl, a, CG, dx, putF "rule" (.str r.str) (putF "drawer" (.ref d) []), rfl, upd_same, T.kG, T.nG_way, (by show 2 < 1000; decide), ?_⟩
    refine ⟨_, rfl, szl rfl, fun A0 hA => ⟨_, rfl, a, CG, dx, putF "way" (.str w_.str) (putF "rule" (.str r.str) (putF "drawer" (.ref d) [])), rfl, ins_at upd_same hA, T.kG, T.nG_agenda, (by show 3 < 1000; decide), ?_⟩⟩
    refine fun Wk hWk => ⟨_, rfl, a, CG, dx, putF "agenda" (.ref A0) (putF "way" (.str w_.str) (putF "rule" (.str r.str) (putF "drawer" (.ref d) []))), rfl, ins_at upd_same hWk, T.kG, T.nG_walked, (by show 4 < 1000; decide), ?_⟩
    refine ⟨szl rfl, fun Vi hVi => ⟨_, rfl, a, CG, dx, putF "walked" (.ref Wk) (putF "agenda" (.ref A0) (putF "way" (.str w_.str) (putF "rule" (.str r.str) (putF "drawer" (.ref d) [])))), rfl, ins_at upd_same hVi, T.kG, T.nG_visited, (by show 5 < 1000; decide), ?_⟩⟩
    refine fun Ga hGa => ⟨_, rfl, a, CG, dx, putF "visited" (.ref Vi) (putF "walked" (.ref Wk) (putF "agenda" (.ref A0) (putF "way" (.str w_.str) (putF "rule" (.str r.str) (putF "drawer" (.ref d) []))))), rfl, ins_at upd_same hGa, T.kG, T.nG_gathered, (by show 6 < 1000; decide), ?_⟩
    obtain ⟨Aa, hA1⟩ := upd_none hA
    obtain ⟨_, hA2⟩ := upd_none hA1
    obtain ⟨_, hA3⟩ := upd_none hA2
    obtain ⟨Wa, hW1⟩ := upd_none hWk
    obtain ⟨WA, hW2⟩ := upd_none hW1
    obtain ⟨_, hW3⟩ := upd_none hW2
    obtain ⟨_, hW4⟩ := upd_none hW3
    obtain ⟨_, hW5⟩ := upd_none hW4
    obtain ⟨Va, hV1⟩ := upd_none hVi
    obtain ⟨VW, hV2⟩ := upd_none hV1
    obtain ⟨_, hV3⟩ := upd_none hV2
    obtain ⟨VA, hV4⟩ := upd_none hV3
    obtain ⟨_, hV5⟩ := upd_none hV4
    obtain ⟨_, hV6⟩ := upd_none hV5
    obtain ⟨_, hV7⟩ := upd_none hV6
    obtain ⟨Ga_, hG1⟩ := upd_none hGa
    obtain ⟨GV, hG2⟩ := upd_none hG1
    obtain ⟨_, hG3⟩ := upd_none hG2
    obtain ⟨GW, hG4⟩ := upd_none hG3
    obtain ⟨_, hG5⟩ := upd_none hG4
    obtain ⟨GA, hG6⟩ := upd_none hG5
    obtain ⟨_, hG7⟩ := upd_none hG6
    obtain ⟨_, hG8⟩ := upd_none hG7
    obtain ⟨_, hG9⟩ := upd_none hG8
    have b0 := (((((((((((But.of (as := [a]) (Sm.refl H)).wr (p := a) (o := .ins CG dx (putF "drawer" (.ref d) [])) (by simp)).wr (p := a) (o := .ins CG dx (putF "rule" (.str r.str) (putF "drawer" (.ref d) []))) (by simp)).wr (p := a) (o := .ins CG dx (putF "way" (.str w_.str) (putF "rule" (.str r.str) (putF "drawer" (.ref d) [])))) (by simp)).new (o := .lst [.str h]) hA).wr (p := a)
      (o := .ins CG dx (putF "agenda" (.ref A0) (putF "way" (.str w_.str) (putF "rule" (.str r.str) (putF "drawer" (.ref d) []))))) (by simp)).new (o := .dK []) hWk).wr (p := a) (o := .ins CG dx (putF "walked" (.ref Wk) (putF "agenda" (.ref A0) (putF "way" (.str w_.str) (putF "rule" (.str r.str) (putF "drawer" (.ref d) [])))))) (by simp)).new (o := .lst []) hVi).wr (p := a)
      (o := .ins CG dx (putF "visited" (.ref Vi) (putF "walked" (.ref Wk) (putF "agenda" (.ref A0) (putF "way" (.str w_.str) (putF "rule" (.str r.str) (putF "drawer" (.ref d) []))))))) (by simp)).new (o := .dK []) hGa).wr (p := a) (o := .ins CG dx (fG d r w_ A0 Wk Vi Ga)) (by simp)
    have g0 : GSt CG _ a dx d r w_ A0 Wk Vi Ga (gs0 h) := ⟨(upd_same : upd (upd (upd (upd (upd (upd (upd (upd (upd (upd (upd H a (.ins CG dx (putF "drawer" (.ref d) []))) a (.ins CG dx (putF "rule" (.str r.str) (putF "drawer" (.ref d) [])))) a (.ins CG dx (putF "way" (.str w_.str) (putF "rule" (.str r.str) (putF "drawer" (.ref d) []))))) A0 (.lst [.str h])) a
        (.ins CG dx (putF "agenda" (.ref A0) (putF "way" (.str w_.str) (putF "rule" (.str r.str) (putF "drawer" (.ref d) [])))))) Wk (.dK [])) a (.ins CG dx (putF "walked" (.ref Wk) (putF "agenda" (.ref A0) (putF "way" (.str w_.str) (putF "rule" (.str r.str) (putF "drawer" (.ref d) []))))))) Vi (.lst [])) a
        (.ins CG dx (putF "visited" (.ref Vi) (putF "walked" (.ref Wk) (putF "agenda" (.ref A0) (putF "way" (.str w_.str) (putF "rule" (.str r.str) (putF "drawer" (.ref d) [])))))))) Ga (.dK [])) a (.ins CG dx (fG d r w_ A0 Wk Vi Ga)) a = some (.ins CG dx (fG d r w_ A0 Wk Vi Ga))),
      by rw [upd_ne Aa, upd_ne GA.symm, upd_ne Aa, upd_ne VA.symm, upd_ne Aa, upd_ne WA.symm, upd_ne Aa, upd_same]; rfl,
      by rw [upd_ne Wa, upd_ne GW.symm, upd_ne Wa, upd_ne VW.symm, upd_ne Wa, upd_same]; rfl,
      by rw [upd_ne Va, upd_ne GV.symm, upd_ne Va, upd_same]; rfl, ⟨[], by rw [upd_ne Ga_, upd_same], rfl⟩, VA.symm, GW.symm⟩
    have volA : ∀ b ∈ [a], ∃ o, H b = some o ∧ Vol o := fun b hb => by rw [List.mem_singleton.mp hb]; exact ⟨_, hN.i, .ins _ _ _⟩
    refine while_m (fun m σ' H' => ∃ A s, σ' = [some (.ref a), some (.ref d), some (.str r.str), some (.str w_.str), some (.str h), some (.int pat)] ∧ But [a] H H' ∧ H A = none ∧ GSt CG H' a dx d r w_ A Wk Vi Ga s ∧ GOk cs h s ∧ m = mu s ∧ mu s ≤ 65 ∧ gathF cs r w_ pat (mu s) s = gath cs r w_ h pat)
      (mu (gs0 h)) ⟨A0, gs0 h, rfl, b0, hA3, g0, GOk.start cs hu, rfl, mu0 h, gathF_fuel ok _ _ _ (GOk.start cs hu) (Nat.le_refl _) (Nat.le_trans (mu0 h) (by decide))⟩ (fun m σ1 H1 ⟨A1, s_, e0, b1, hA1, g1, go, em, ml, ef⟩ => ?_) ?_
    · subst e0
      have fin : ∀ H2, Sm H1 H2 → (s_.ag = [] ∨ pat ≤ s_.dn.length) → Q .non H2 := fun H2 s2 c => q H2 (b1.trans (But.of s2)) ⟨dx, d, r, w_, A1, Wk, Vi, Ga, by rw [← ef, gathF_end c]; exact g1.same s2⟩
      refine ⟨_, rfl, a, CG, dx, _, _, rfl, g1.i, T.kG, T.nG_agenda, rfl, szl rfl, fun t ht => neD_of (eList eStr) (u := s_.ag) (v := []) (by decide) (dp_strsL (SqL.of ((Sm.new ht) _ _ g1.ag))) (dp_nilL eStr upd_same) (fun x hx => uS_ok (go.agU x hx)) (fun _ hx => (nomatch hx)) ⟨_, rfl, ?_⟩⟩
      by_cases en : s_.ag = []
      · exact ifF (nF en) (ifF rfl (fin _ (Sm.new ht) (.inl en)))
      · have g2 := g1.same (Sm.new (o := .lst []) ht)
        have b2 := b1.trans (But.of (Sm.new (o := .lst []) ht))
        refine ifT (nT en) ⟨_, rfl, a, CG, dx, _, _, rfl, g2.i, T.kG, T.nG_walked, rfl, Wk, _, rfl, g2.wk, _, rfl, _, _, rfl, rfl, _, rfl, ?_⟩
        have el : (dnK s_.dn).length = s_.dn.length := by unfold dnK; rw [List.length_map]
        rw [el]
        by_cases ep : s_.dn.length < pat
        · refine ifT (dT (by omega)) ⟨_, rfl, a, dx, _, rfl, g2.i, rfl, a, dx, d, r, w_, A1, Wk, Vi, Ga, s_, cs, h, rfl, g2, hd.sd (SmD.but b2 volA), ok, go, en, ?_, fun H2 A' b3 hA' g3 => ?_⟩
          · unfold mu at ml; omega
          · have nb : ¬ (s_.ag = [] ∨ pat ≤ s_.dn.length) := fun z => z.elim en (by omega)
            have lt := mu_step (r := r) (w := w_) go ok en
            have b4 : But [a] H H2 := fun b o e nb => b3 b o (b2 b o e nb) fun mb => by
              simp only [List.mem_cons, List.not_mem_nil, or_false] at mb
              rcases mb with z | z | z | z | z
              · exact nb (by rw [z]; exact List.mem_cons_self)
              · rw [z, hA1] at e; cases e
              · rw [z, hW5] at e; cases e
              · rw [z, hV7] at e; cases e
              · rw [z, hG9] at e; cases e
            refine ⟨_, by rw [em]; exact lt, A', _, rfl, b4, ?_, g3, go.step ok, rfl, by omega, ?_⟩
            · rcases hA' with z | z
              · rw [z]; exact hA1
              · cases e : H A' with
                | none => rfl
                | some o =>
                  by_cases mm : A' = a
                  · rw [mm, g2.i] at z; cases z
                  · rw [b2 _ _ e (fun y => mm (List.mem_singleton.mp y))] at z; cases z
            · rw [← ef]
              cases hm : mu s_ with
              | zero => omega
              | succ n =>
                rw [gathF_on nb]
                exact gathF_fuel ok _ _ _ (go.step ok) (Nat.le_refl _) (by omega)
        · exact ifF (dF (by omega)) (q _ b2 ⟨dx, d, r, w_, A1, Wk, Vi, Ga, by rw [← ef, gathF_end (.inr (by omega))]; exact g2⟩)
    · rintro σ H Q Q' f ⟨v1, h1, a, C, dx, fs, v, h2, h3, h4, h5, h6, z, hp⟩
      refine ⟨v1, h1, a, C, dx, fs, v, h2, h3, h4, h5, h6, z, fun p hn => ?_⟩
      obtain ⟨d1, d2, i1, i2, i3, i4, k, i5, i6⟩ := hp p hn
      refine ⟨d1, d2, i1, i2, i3, i4, k, i5, ?_⟩
      cases k with
      | false => exact ifF rfl (f _ _ i6)
      | true =>
        obtain ⟨v1, j1, a, C, dx, fs, v, j2, j3, j4, j5, j6, l, kvs, j7, j8, v2, j9, i, j, j10, j11, k2, j12, j13⟩ := i6
        exact ifT rfl ⟨v1, j1, a, C, dx, fs, v, j2, j3, j4, j5, j6, l, kvs, j7, j8, v2, j9, i, j, j10, j11, k2, j12, f _ _ j13⟩
/-! ### gather, reached, reached_together, hidden -/
theorem sc_gather : FnScope ["drawer", "rule", "way", "heading", "patience", "found"] ["drawer", "rule", "way", "heading", "patience"] (defScope s_gather) := C8.fnScope_by (by decide +kernel)
theorem GSt.metD {H : Hp} {a dx d : Addr} {r : Rl} {w : Wy} {A Wk Vi Ga : Addr} {s : GS} (g : GSt CG H a dx d r w A Wk Vi Ga s) : ∃ kvs, H Ga = some (.dK kvs) ∧ kvs.map Prod.fst = s.met.map Sum.inl := g.ga
theorem sorted_sI {ys ns : List Int} (pm : ys.Perm ns) (so : ys.Pairwise (· ≤ ·)) (nd : ns.Nodup) (b : ∀ k ∈ ns, 0 ≤ k ∧ k < 31) : ys = sI ns := by
  refine sI_eq b ?_ fun k => pm.mem_iff
  have nd2 : ys.Nodup := pm.nodup_iff.mpr nd
  exact so.imp₂ (fun a b h n => by omega) nd2
def sp_gather (K : PySem.W.Frag) (CD CC : Addr) : Sp := fun vs H Q _ => ∃ d cs h, ∃ r : Rl, ∃ w : Wy, ∃ pat : Nat, vs = [.ref d, .str r.str, .str w.str, .str h, .int pat] ∧ DrawAt K CD CC H d cs ∧ Ok cs ∧ h ∈ uS ∧ (1 ≤ pat ∧ pat ≤ 99) ∧
  ∀ p t v H', Sm H H' → H' p = some (.tup [.ref t, .ref v, .int (gath cs r w h pat).dn.length]) → H' t = some (.tup ((sI (gath cs r w h pat).met).map V.int)) → H' v = some (.tup ((gath cs r w h pat).vis.map vN)) → Q (.ref p) H'
theorem makeG {H H2 : Hp} {x dx C : Addr} (nx : H x = none) (ndx : H dx = none) (ne : dx ≠ x) (b : But [x] (upd (upd H dx (.own x)) x (.ins C dx [])) H2) : Sm H H2 := fun c o e =>
  b c o (by rw [upd_ne (ne_of_none e nx), upd_ne (ne_of_none e ndx)]; exact e) fun m => ne_of_none e nx (List.mem_singleton.mp m)
theorem makeS {H : Hp} {x dx C : Addr} (nx : H x = none) (ndx : H dx = none) (ne : dx ≠ x) : Sm H (upd (upd H dx (.own x)) x (.ins C dx [])) := fun c o e => by
  rw [upd_ne (ne_of_none e nx), upd_ne (ne_of_none e ndx)]; exact e
theorem ok_gather (T : Tx K mg CC CD CW CG aR aW) : C8.Cal P w K mg base 11 "gather" (sp_gather K CD CC) [] := by
  refine cal_of T.d_gather (fun _ _ _ _ _ _ us hl => match us, hl with | [_, _, _, _, _], _ => rfl) sc_gather (fun vs H Q E h => ?_) (fun f cdv A outer s H vs Q E hr h => ?_)
  · obtain ⟨d, cs, h, r, w_, pat, rfl, hd, ok, hu, hp, q⟩ := h; rfl
  · obtain ⟨d, cs, h, r, w_, pat, rfl, hd, ok, hu, hp, q⟩ := h
    refine ⟨_, (pss_cons (ps_expr (C8.pe_c (ok_check_rule T) hr (by decide) (by rfl) (pa_cons (pv 1) pa_nil)))
      (pss_cons (ps_expr (C8.pe_c (ok_check_way T) hr (by decide) (by rfl) (pa_cons (pv 2) pa_nil)))
      (pss_cons (ps_expr (C8.pe_c (ok_check_heading T) hr (by decide) (by rfl) (pa_cons (pv 3) pa_nil)))
      (pss_cons (ps_expr (C8.pe_c (ok_check_number T) hr (by decide) (by rfl) (pa_cons (pv 4) (pa_cons pe_int (pa_cons (C8.pe_gc (by rfl) T.c_MAX_PATIENCE) pa_nil)))))
      (pss_cons (ps_set (i := 5) sc_gather.nd rfl (by first | exact Or.inl rfl | exact Or.inr rfl) (C8.pe_mk (mk_Gathering_init T) hr (by decide) (by rfl) (pa_cons (pv 0) (pa_cons (pv 1) (pa_cons (pv 2) (pa_cons (pv 3) (pa_cons (pv 4) pa_nil)))))))
      (pss_one (ps_ret (pe_tup (pa_cons (pe_tupleK (K := K) rfl (by rfl) T.b_tuple (pe_callB (call_sortedDI rfl) (by rfl) T.b_sorted (by decide +kernel) (pa_cons (pe_fld (pv 5) rfl) pa_nil))) (pa_cons (pe_tupleK (K := K) rfl (by rfl) T.b_tuple (pe_fld (pv 5) rfl)) (pa_cons (pe_callB call_lenD (by rfl) T.b_len PySem.boot_len (pa_cons (pe_fld (pv 5) rfl) pa_nil)) pa_nil))))))))))), ?_⟩
    refine ⟨_, rfl, r, rfl, _, rfl, w_, rfl, _, rfl, h, rfl, hu, fun H1 s1 => ⟨_, rfl, pat, 1, 99, rfl, by omega, ?_⟩⟩
    refine ⟨_, rfl, _, rfl, _, rfl, _, rfl, _, rfl, fun x dx nx ndx ne => ?_⟩
    refine ⟨x, dx, d, cs, h, r, w_, pat, rfl, NewI.of ne, hd.sd (s1.d.trans (makeS nx ndx ne).d), ok, hu, fun H2 b2 e2 => ⟨rfl, ?_⟩⟩
    have s2 : Sm H H2 := s1.trans (makeG nx ndx ne b2)
    obtain ⟨go, _⟩ := gath_ok (r := r) (w := w_) (pat := pat) ok hu
    obtain ⟨dx', d', r', w', A', Wk, Vi, Ga, g⟩ := e2.ex
    obtain ⟨kvs, ek, em⟩ := g.ga
    have ml := go.metLen ok
    refine ⟨_, rfl, x, CG, dx', _, _, rfl, g.i, T.kG, T.nG_gathered, rfl, Ga, kvs, _, rfl, .inl ek, em, by omega, fun ys p1 pm so hp1 => ?_⟩
    rw [sorted_sI pm so go.metN fun k hk => by have := go.metIn ok k hk; omega]
    refine .inl ⟨p1, _, rfl, SqL.of upd_same, fun t ht => ?_⟩
    have g1 := (g.same (Sm.new (o := .lst ((sI (gath cs r w_ h pat).met).map V.int)) hp1)).same (Sm.new (o := .tup ((sI (gath cs r w_ h pat).met).map V.int)) ht)
    have s3 := (s2.new' (o := .lst ((sI (gath cs r w_ h pat).met).map V.int)) hp1).new' (o := .tup ((sI (gath cs r w_ h pat).met).map V.int)) ht
    refine ⟨_, rfl, x, CG, dx', _, _, rfl, g1.i, T.kG, T.nG_visited, rfl, .inl ⟨Vi, _, rfl, SqL.of g1.vi, fun v hv => ?_⟩⟩
    have g2 := g1.same (Sm.new (o := .tup ((gath cs r w_ h pat).vis.map vN)) hv)
    have s4 := s3.new' (o := .tup ((gath cs r w_ h pat).vis.map vN)) hv
    refine ⟨_, rfl, x, CG, dx', _, _, rfl, g2.i, T.kG, T.nG_walked, rfl, Wk, _, rfl, g2.wk, szl rfl, fun p hp => ?_⟩
    have el : (dnK (gath cs r w_ h pat).dn).length = (gath cs r w_ h pat).dn.length := by unfold dnK; rw [List.length_map]
    rw [el]
    refine q p t v _ (s4.new' hp) upd_same ?_ ?_
    · exact (Sm.new hp) _ _ ((Sm.new hv) _ _ upd_same)
    · exact (Sm.new hp) _ _ upd_same
theorem sc_reached : FnScope ["drawer", "rule", "heading"] ["drawer", "rule", "heading"] (defScope s_reached) := C8.fnScope_by (by decide +kernel)
def sp_reached (K : PySem.W.Frag) (CD CC : Addr) : Sp := fun vs H Q _ => ∃ d cs h, ∃ r : Rl, vs = [.ref d, .str r.str, .str h] ∧ DrawAt K CD CC H d cs ∧ Ok cs ∧ h ∈ uS ∧ ∀ p H', Sm H H' → H' p = some (.tup ((reach cs r h).map V.int)) → Q (.ref p) H'
theorem reach_bd {cs : List CardD} {r : Rl} {h : Str} : ∀ k ∈ reach cs r h, 0 ≤ k ∧ k < 31 := fun k hk => sI_bd k hk
theorem ok_reached (T : Tx K mg CC CD CW CG aR aW) : C8.Cal P w K mg base 11 "reached" (sp_reached K CD CC) [] := by
  refine cal_of T.d_reached (fun _ _ _ _ _ _ us hl => match us, hl with | [_, _, _], _ => rfl) sc_reached (fun vs H Q E h => ?_) (fun f cdv A outer s H vs Q E hr h => ?_)
  · obtain ⟨d, cs, h, r, rfl, hd, ok, hu, q⟩ := h; rfl
  · obtain ⟨d, cs, h, r, rfl, hd, ok, hu, q⟩ := h
    refine ⟨_, (pss_one (ps_ret (pe_tupleK (K := K) rfl (by rfl) T.b_tuple (pe_callB (call_sortedDI rfl) (by rfl) T.b_sorted (by decide +kernel) (pa_cons (pe_fld (C8.pe_mk (mk_Gathering_init T) hr (by decide) (by rfl) (pa_cons (pv 0) (pa_cons (pv 1) (pa_cons (C8.pe_gc (by rfl) T.c_BROAD) (pa_cons (pv 2) (pa_cons (C8.pe_gc (by rfl) T.c_MAX_PATIENCE) pa_nil)))))) rfl) pa_nil))))), ?_⟩
    refine ⟨_, rfl, _, rfl, _, rfl, fun x dx nx ndx ne => ?_⟩
    refine ⟨x, dx, d, cs, h, r, .broad, 99, rfl, NewI.of ne, hd.sd (makeS nx ndx ne).d, ok, hu, fun H2 b2 e2 => ⟨rfl, ?_⟩⟩
    have s2 : Sm H H2 := makeG nx ndx ne b2
    obtain ⟨go, _⟩ := gath_ok (r := r) (w := .broad) (pat := 99) ok hu
    obtain ⟨dx', d', r', w', A', Wk, Vi, Ga, g⟩ := e2.ex
    obtain ⟨kvs, ek, em⟩ := g.ga
    have ml := go.metLen ok
    refine ⟨x, CG, dx', _, _, rfl, g.i, T.kG, T.nG_gathered, rfl, Ga, kvs, _, rfl, .inl ek, em, by omega, fun ys p1 pm so hp1 => ?_⟩
    rw [sorted_sI pm so go.metN fun k hk => by have := go.metIn ok k hk; omega]
    exact .inl ⟨p1, _, rfl, SqL.of upd_same, fun t ht => q t _ ((s2.new' hp1).new' ht) upd_same⟩
end
end Se
namespace Se
open PySem PySem.Spec PyProof.Rows L2
section
variable {P : Program} {w : World} {K : PySem.W.Frag} {mg : Str → Option Value} {base : Heap} {CC CD CW CG aR aW : Addr}
theorem reach_len {cs : List CardD} {r : Rl} {h : Str} : (reach cs r h).length ≤ 31 := sI_len _
def reachL (cs : List CardD) (r : Rl) (ns : List Str) : List Int := ns.flatMap (reach cs r)
theorem reachL_len (cs : List CardD) (r : Rl) : ∀ ns : List Str, (reachL cs r ns).length ≤ 31 * ns.length
  | [] => by simp [reachL]
  | n :: ns => by
    have := reachL_len cs r ns
    have := reach_len (cs := cs) (r := r) (h := n)
    unfold reachL at *
    rw [List.flatMap_cons, List.length_append, List.length_cons, Nat.mul_succ]; omega
theorem reachL_bd {cs : List CardD} {r : Rl} {ns : List Str} : ∀ k ∈ reachL cs r ns, 0 ≤ k ∧ k < 31 := fun k h => by
  obtain ⟨n, _, hk⟩ := List.mem_flatMap.mp h
  exact reach_bd k hk
/-! ### reached_together -/
theorem sc_reached_together : FnScope ["drawer", "rule", "headings", "found", "heading"] ["drawer", "rule", "headings"] (defScope s_reached_together) := C8.fnScope_by (by decide +kernel)
def sp_rtog (K : PySem.W.Frag) (CD CC : Addr) : Sp := fun vs H Q _ => ∃ d cs l ns, ∃ r : Rl, vs = [.ref d, .str r.str, .ref l] ∧ DrawAt K CD CC H d cs ∧ Ok cs ∧ SqT K H l (ns.map V.str) ∧ ns.length ≤ 3 ∧ (∀ n ∈ ns, n ∈ uS) ∧ ∀ p H', Sm H H' → H' p = some (.lst ((sI (reachL cs r ns)).map V.int)) → Q (.ref p) H'
theorem ok_reached_together (T : Tx K mg CC CD CW CG aR aW) : C8.Cal P w K mg base 12 "reached_together" (sp_rtog K CD CC) [] := by
  refine cal_of T.d_reached_together (fun _ _ _ _ _ _ us hl => match us, hl with | [_, _, _], _ => rfl) sc_reached_together (fun vs H Q E h => ?_) (fun f cdv A outer s H vs Q E hr h => ?_)
  · obtain ⟨d, cs, l, ns, r, rfl, hd, ok, hl, hn, hu, q⟩ := h; rfl
  · obtain ⟨d, cs, l, ns, r, rfl, hd, ok, hl, hn, hu, q⟩ := h
    refine ⟨_, (pss_cons (ps_set (i := 3) sc_reached_together.nd rfl (by first | exact Or.inl rfl | exact Or.inr rfl) (pe_lst pa_nil))
      (pss_cons (ps_for PassesOwn.never rfl (pi_tup (pv 2)) (pg_name (i := 4) sc_reached_together.nd rfl (by first | exact Or.inl rfl | exact Or.inr rfl)) (pss_one (ps_expr (pe_bm PySem.F.plainAttrs_list PySem.F.slot_list_extend PySem.F.type_list_extend (mt_extK (K := K) rfl) (pv 3) (pa_cons (C8.pe_c (ok_reached T) hr (by decide) (by rfl) (pa_cons (pv 0) (pa_cons (pv 1) (pa_cons (pv 4) pa_nil)))) pa_nil)))))
      (pss_one (ps_ret (pe_sortI (K := K) rfl rfl (by rfl) T.b_sorted (by rfl) T.b_set (pv 3)))))), ?_⟩
    refine ⟨szl rfl, fun F hF => ⟨_, rfl, l, rfl, ⟨_, (Sm.new hF).tup hl⟩, ?_⟩⟩
    refine for_it (walk_tup (xs := ns.map V.str)) (fun i σ' H' => (∃ o, σ' = [some (.ref d), some (.str r.str), some (.ref l), some (.ref F), o]) ∧ Sm H H' ∧ H' F = some (.lst ((reachL cs r (ns.take i)).map V.int))) ⟨⟨_, rfl⟩, Sm.new hF, upd_same⟩ (fun _ _ _ _ h => h.2.1.tup hl)
      (fun i v σ1 H1 H2 hi ⟨⟨o, e0⟩, s1, e1⟩ hy => ?_) (fun σ1 H1 ⟨⟨o, e0⟩, s1, e1⟩ => ?_)
    · subst e0
      obtain ⟨rfl, ev⟩ := hy
      rw [List.getElem?_map] at ev
      obtain ⟨n, en, rfl⟩ := Option.map_eq_some_iff.mp ev
      have ll := reachL_len cs r (ns.take i)
      have l2 := reach_len (cs := cs) (r := r) (h := n)
      rw [List.length_take] at ll
      refine ⟨_, rfl, .inl ⟨rfl, _, SqL.of e1⟩, _, rfl, _, rfl, _, rfl, d, cs, n, r, rfl, hd.same s1, ok, hu n (List.mem_of_getElem? en), fun p H3 s3 e3 => ⟨F, p, _, _, rfl, rfl, s3 _ _ e1, .inr (SqT.of e3), by simp only [List.length_map]; omega, ⟨_, rfl⟩, (s1.trans s3).wr hF, ?_⟩⟩
      rw [upd_same, take_snoc en]
      simp [reachL]
    · subst e0
      rw [List.length_map, List.take_length] at e1
      have ll := reachL_len cs r ns
      exact ⟨_, rfl, F, _, rfl, .inl (SqL.of e1), by omega, reachL_bd, fun p H2 s2 _ e2 => q p H2 (s1.trans s2) e2⟩
/-! ### hidden -/
def hid (cs : List CardD) (r : Rl) (ns : List Str) : List Int := (sI (allB cs)).filter fun b => !decide (b ∈ sI (reachL cs r ns))
theorem sc_hidden : FnScope ["drawer", "rule", "headings", "heading", "found", "book"] ["drawer", "rule", "headings"] (defScope s_hidden) := C8.fnScope_by (by decide +kernel)
def sp_hidden (K : PySem.W.Frag) (CD CC : Addr) : Sp := fun vs H Q _ => ∃ d cs l ns, ∃ r : Rl, vs = [.ref d, .str r.str, .ref l] ∧ DrawAt K CD CC H d cs ∧ Ok cs ∧ SqT K H l (ns.map V.str) ∧ ns.length ≤ 3 ∧ (∀ n ∈ ns, n ∈ uS) ∧ ∀ p H', Sm H H' → H' p = some (.lst ((hid cs r ns).map V.int)) → Q (.ref p) H'
theorem filter_snoc {α : Type} {f : α → Bool} {l : List α} {x : α} : (l ++ [x]).filter f = l.filter f ++ (if f x = true then [x] else []) := by
  rw [List.filter_append, List.filter_cons]; rfl
theorem filter_t {α : Type} {f : α → Bool} {l : List α} {x : α} (h : f x = true) : (l ++ [x]).filter f = l.filter f ++ [x] := by rw [filter_snoc, if_pos h]
theorem filter_f {α : Type} {f : α → Bool} {l : List α} {x : α} (h : f x = false) : (l ++ [x]).filter f = l.filter f := by rw [filter_snoc, if_neg (by rw [h]; exact Bool.false_ne_true), List.append_nil]
theorem ok_hidden (T : Tx K mg CC CD CW CG aR aW) : C8.Cal P w K mg base 13 "hidden" (sp_hidden K CD CC) [] := by
  refine cal_of T.d_hidden (fun _ _ _ _ _ _ us hl => match us, hl with | [_, _, _], _ => rfl) sc_hidden (fun vs H Q E h => ?_) (fun f cdv A outer s H vs Q E hr h => ?_)
  · obtain ⟨d, cs, l, ns, r, rfl, hd, ok, hl, hn, hu, q⟩ := h; rfl
  · obtain ⟨d, cs, l, ns, r, rfl, hd, ok, hl, hn, hu, q⟩ := h
    refine ⟨_, (pss_cons (ps_expr (C8.pe_c (ok_check_rule T) hr (by decide) (by rfl) (pa_cons (pv 1) pa_nil)))
      (pss_cons (ps_for PassesOwn.never rfl (pi_tup (pv 2)) (pg_name (i := 3) sc_hidden.nd rfl (by first | exact Or.inl rfl | exact Or.inr rfl)) (pss_one (ps_expr (C8.pe_c (ok_check_heading T) hr (by decide) (by rfl) (pa_cons (pv 3) pa_nil)))))
      (pss_cons (ps_set (i := 4) sc_hidden.nd rfl (by first | exact Or.inl rfl | exact Or.inr rfl) (C8.pe_c (ok_reached_together T) hr (by decide) (by rfl) (pa_cons (pv 0) (pa_cons (pv 1) (pa_cons (pv 2) pa_nil)))))
      (pss_one (ps_ret (pe_lc (own := [("book", 5)]) (g := (gName 5)) rfl sc_hidden.nd (pi_list (C8.pe_c (ok_all_books T) hr (by decide) (by rfl) (pa_cons (pv 0) pa_nil))) (blkOk_by (own := [("book", 5)]) (N := ["drawer", "rule", "headings", "heading", "found", "book"]) (sc := defScope s_hidden) (by decide +kernel)) (fun _ _ _ _ _ => (pg_name (i := 5) sc_hidden.nd rfl (by first | exact Or.inl rfl | exact Or.inr rfl))) (fun _ _ _ _ _ => (pts_one (pt_cmpR (op_ninK (K := K) rfl) (pv 5) (pv 4) (by rfl)))) (fun _ _ _ _ _ => (pv 5)))))))), ?_⟩
    refine ⟨_, rfl, r, rfl, _, rfl, l, rfl, ⟨_, hl⟩, ?_⟩
    refine for_it (walk_tup (xs := ns.map V.str)) (fun i σ' H' => (∃ o o2 o3, σ' = [some (.ref d), some (.str r.str), some (.ref l), o, o2, o3]) ∧ Sm H H') ⟨⟨_, _, _, rfl⟩, Sm.refl _⟩ (fun _ _ _ _ h => h.2.tup hl)
      (fun i v σ1 H1 H2 hi ⟨⟨o, o2, o3, e0⟩, s1⟩ hy => ?_) (fun σ1 H1 ⟨⟨o, o2, o3, e0⟩, s1⟩ => ?_)
    · subst e0
      obtain ⟨rfl, ev⟩ := hy
      rw [List.getElem?_map] at ev
      obtain ⟨n, en, rfl⟩ := Option.map_eq_some_iff.mp ev
      exact ⟨_, rfl, n, rfl, hu n (List.mem_of_getElem? en), fun H3 s3 => ⟨⟨_, _, _, rfl⟩, s1.trans s3⟩⟩
    · subst e0
      refine ⟨_, rfl, _, rfl, _, rfl, d, cs, l, ns, r, rfl, hd.same s1, ok, s1.tup hl, hn, hu, fun p H2 s2 e2 => ?_⟩
      have s02 := s1.trans s2
      refine ⟨_, rfl, d, cs, rfl, hd.same s02, ok, fun b H3 s3 e3 => ⟨b, rfl, ⟨_, SqL.of e3⟩, fun D hD => lc_it (walk_list (xs := (sI (allB cs)).map V.int)) (fun i H' => Sm H3 H' ∧ H' D = some (.lst ((((sI (allB cs)).take i).filter fun b => !decide (b ∈ sI (reachL cs r ns))).map V.int))) ⟨Sm.new hD, upd_same⟩ (fun i H' _ ⟨s4, _⟩ => SqL.of (s4 _ _ e3))
        (fun i v H4 H5 hi ⟨s4, e4⟩ hy => ?_) (fun H4 ⟨s4, e4⟩ => ?_)⟩⟩
      · obtain ⟨rfl, ev⟩ := hy
        rw [List.getElem?_map] at ev
        obtain ⟨k, ek, rfl⟩ := Option.map_eq_some_iff.mp ev
        refine ⟨rfl, _, rfl, _, rfl, rd_ninI (.inl (SqL.of (s4 _ _ (s3 _ _ e2)))) ⟨_, rfl, ?_⟩⟩
        have fl : (((sI (allB cs)).take i).filter fun b => !decide (b ∈ sI (reachL cs r ns))).length ≤ 31 := Nat.le_trans (List.length_filter_le _ _) (by have := sI_len (allB cs); rw [List.length_take]; omega)
        by_cases m : k ∈ sI (reachL cs r ns)
        · refine ifF (nF m) ⟨s4, ?_⟩
          rw [take_snoc ek, filter_f (f := fun b => !decide (b ∈ sI (reachL cs r ns))) (nF m)]; exact e4
        · refine ifT (nT m) ⟨_, rfl, _, e4, sizeLt (by rw [List.length_map]; omega), s4.wr hD, ?_⟩
          rw [upd_same, take_snoc ek, filter_t (f := fun b => !decide (b ∈ sI (reachL cs r ns))) (nT m), List.map_append]; rfl
      · rw [List.length_map, List.take_length] at e4
        exact q D H4 ((s02.trans s3).trans s4) e4
/-! ### led_to -/
def waysOf (cs : List CardD) (r : Rl) (c : CardD) : List Int := sI ((c.al.filterMap (land cs r)).map fun n : Nat => (n : Int))
theorem fm_snoc {α β : Type} {f : α → Option β} {l : List α} {x : α} : (l ++ [x]).filterMap f = l.filterMap f ++ (f x).toList := by
  rw [List.filterMap_append]; congr 1
theorem land_bd {cs : List CardD} {r : Rl} {c : CardD} (ok : Ok cs) : ∀ k ∈ (c.al.filterMap (land cs r)).map (fun n : Nat => (n : Int)), 0 ≤ k ∧ k < 31 := fun k hk => by
  obtain ⟨n, hn, rfl⟩ := List.mem_map.mp hk
  obtain ⟨a, _, ha⟩ := List.mem_filterMap.mp hn
  have := land_lt ha
  have := ok.len
  omega
theorem sc_led_to : FnScope ["drawer", "rule", "place", "heading", "found", "goal"] ["drawer", "rule", "place"] (defScope s_led_to) := C8.fnScope_by (by decide +kernel)
def sp_led (K : PySem.W.Frag) (CD CC : Addr) : Sp := fun vs H Q _ => ∃ d cs c, ∃ r : Rl, ∃ p : Nat, vs = [.ref d, .str r.str, .int p] ∧ DrawAt K CD CC H d cs ∧ Ok cs ∧ cs[p]? = some c ∧ ∀ p H', Sm H H' → H p = none → H' p = some (.lst ((waysOf cs r c).map V.int)) → Q (.ref p) H'
theorem ok_led_to (T : Tx K mg CC CD CW CG aR aW) : C8.Cal P w K mg base 8 "led_to" (sp_led K CD CC) [] := by
  refine cal_of T.d_led_to (fun _ _ _ _ _ _ us hl => match us, hl with | [_, _, _], _ => rfl) sc_led_to (fun vs H Q E h => ?_) (fun f cdv A outer s H vs Q E hr h => ?_)
  · obtain ⟨d, cs, c, r, p, rfl, hd, ok, hc, q⟩ := h; rfl
  · obtain ⟨d, cs, c, r, p, rfl, hd, ok, hc, q⟩ := h
    refine ⟨_, (pss_cons (ps_setLc (i := 4) (own := [("heading", 3)]) (g := (gName 3)) (tt := tYes) rfl sc_led_to.nd rfl rfl (sw_true rfl rfl rfl (by decide +kernel)) (pi_tup (pe_prp T.kC (pr_Card_also T) hr (by decide) (pe_ix (ix_tupK (K := K) rfl) (pe_prp T.kD (pr_Drawer_cards T) hr (by decide) (pv 0)) (pv 2) (fun _ _ => rfl)))) (blkOk_by (own := [("heading", 3)]) (N := ["drawer", "rule", "place", "heading", "found", "goal"]) (sc := defScope s_led_to) (by decide +kernel)) (fun _ _ _ _ _ => (pg_name (i := 3) sc_led_to.nd rfl (by first | exact Or.inl rfl | exact Or.inr rfl))) (fun _ _ _ _ _ => pts_nil) (fun _ _ _ _ _ => (pe_ix (ix_tupK (K := K) rfl) (pe_landing (K := K) rfl T hr (by decide) (by rfl) (pa_cons (pv 0) (pa_cons (pv 1) (pa_cons (pv 3) pa_nil)))) pe_int (fun _ _ => rfl))))
      (pss_one (ps_ret (pe_sortI (K := K) rfl rfl (by rfl) T.b_sorted (by rfl) T.b_set (pe_lc (own := [("goal", 5)]) (g := (gName 5)) rfl sc_led_to.nd (pi_list (pv 4)) (blkOk_by (own := [("goal", 5)]) (N := ["drawer", "rule", "place", "heading", "found", "goal"]) (sc := defScope s_led_to) (by decide +kernel)) (fun _ _ _ _ _ => (pg_name (i := 5) sc_led_to.nd rfl (by first | exact Or.inl rfl | exact Or.inr rfl))) (fun _ _ _ _ _ => (pts_one (pt_cmpR op_notN (pv 5) pe_non (nomark _)))) (fun _ _ _ _ _ => (pv 5))))))), ?_⟩
    have cok := ok.at hc
    have al := cok.alL
    refine ⟨_, rfl, rd_cards hd fun row xs hx hrow => ?_⟩
    obtain ⟨v, ev, ca, rfl, hca⟩ := hrow.at hc
    refine ⟨_, rfl, row, xs, _, _, rfl, rfl, hx, atI_nat ev, rd_also hca fun b hb => ⟨b, rfl, ⟨_, hb⟩, fun D hD => lc_it (walk_tup (xs := c.al.map V.str)) (fun i H' => Sm H H' ∧ H' D = some (.lst (((c.al.take i).map (land cs r)).map optV))) ⟨Sm.new hD, upd_same⟩ (fun i H' _ ⟨s1, _⟩ => s1.tup hb)
      (fun i v H1 H2 hi ⟨s1, e1⟩ hy => ?_) (fun H1 ⟨s1, e1⟩ => ?_)⟩⟩
    · obtain ⟨rfl, ev2⟩ := hy
      rw [List.getElem?_map] at ev2
      obtain ⟨h, eh, rfl⟩ := Option.map_eq_some_iff.mp ev2
      refine ⟨rfl, yes_if ⟨_, rfl, _, rfl, _, rfl, d, cs, h, r, rfl, hd.same s1, ok, fun t H3 s3 e3 => ⟨t, _, _, _, rfl, rfl, SqT.of e3, rfl, _, s3 _ _ e1, sizeLt (by simp; omega), (s1.trans s3).wr hD, ?_⟩⟩⟩
      rw [upd_same, take_snoc eh, List.map_append, List.map_append]; rfl
    · rw [List.length_map, List.take_length] at e1
      refine ⟨_, rfl, D, rfl, ⟨_, SqL.of e1⟩, fun D2 hD2 => lc_it (walk_list (xs := (c.al.map (land cs r)).map optV)) (fun i H' => Sm H1 H' ∧ H' D2 = some (.lst ((((c.al.take i).filterMap (land cs r)).map fun n : Nat => (n : Int)).map V.int))) ⟨Sm.new hD2, upd_same⟩ (fun i H' _ ⟨s2, _⟩ => SqL.of (s2 _ _ e1))
        (fun i v H2 H3 hi ⟨s2, e2⟩ hy => ?_) (fun H2 ⟨s2, e2⟩ => ?_)⟩
      · obtain ⟨rfl, ev2⟩ := hy
        rw [List.getElem?_map, List.getElem?_map, Option.map_map] at ev2
        obtain ⟨h, eh, rfl⟩ := Option.map_eq_some_iff.mp ev2
        have fl : ((c.al.take i).filterMap (land cs r)).length ≤ 4 := Nat.le_trans (List.length_filterMap_le _ _) (by rw [List.length_take]; omega)
        refine ⟨rfl, _, rfl, rfl, _, rfl, ?_⟩
        obtain el | ⟨n, el⟩ : land cs r h = none ∨ ∃ n, land cs r h = some n := by
          cases land cs r h with
          | none => exact .inl rfl
          | some n => exact .inr ⟨n, rfl⟩
        · refine ifF (by show (!decide (optV (land cs r h) = V.non)) = false; rw [el]; rfl) ⟨s2, ?_⟩
          rw [take_snoc eh, fm_snoc, el]
          simpa using e2
        · refine ifT (by show (!decide (optV (land cs r h) = V.non)) = true; rw [el]; rfl) ⟨_, rfl, _, e2, sizeLt (by simp only [List.length_map]; omega), s2.wr hD2, ?_⟩
          rw [upd_same, take_snoc eh, fm_snoc, el, List.map_append, List.map_append]
          exact congrArg (fun o => some (HO.lst (_ ++ [optV o]))) el
      · simp only [List.length_map, List.take_length] at e2
        have fl : (c.al.filterMap (land cs r)).length ≤ 4 := Nat.le_trans (List.length_filterMap_le _ _) al
        exact ⟨D2, _, rfl, .inl (SqL.of e2), by simp only [List.length_map]; omega, land_bd ok, fun p H4 s4 hp e4 => q p H4 ((s1.trans s2).trans s4) ((s1.trans s2).free hp) e4⟩
end
end Se
namespace Se
open PySem PySem.Spec PyProof.Rows L2
section
variable {P : Program} {w : World} {K : PySem.W.Frag} {mg : Str → Option Value} {base : Heap} {CC CD CW CG aR aW : Addr}
/-! ### all_ahead -/
def wsOf (cs : List CardD) (r : Rl) : List (List Int) := cs.map (waysOf cs r)
theorem wsOf_ok {cs : List CardD} {r : Rl} (ok : Ok cs) : WOk (wsOf cs r) := by
  refine ⟨by unfold wsOf; rw [List.length_map]; exact ok.len, fun l hl k hk => ?_, fun l hl => ?_⟩
  · obtain ⟨c, _, rfl⟩ := List.mem_map.mp hl
    unfold waysOf at hk
    rw [mem_sI (land_bd ok)] at hk
    obtain ⟨n, hn, rfl⟩ := List.mem_map.mp hk
    obtain ⟨a, _, ha⟩ := List.mem_filterMap.mp hn
    have := land_lt ha
    unfold wsOf
    rw [List.length_map]; omega
  · obtain ⟨c, _, rfl⟩ := List.mem_map.mp hl
    exact sI_len _
/-- a list of lists of ints, each at its own place -/
def WaysL (H : Hp) (xs : List V) (W : List (List Int)) : Prop := Each (fun x (l : List Int) => ∃ a, x = V.ref a ∧ H a = some (.lst (l.map V.int))) xs W
theorem WaysL.same {H H' : Hp} {xs : List V} {W : List (List Int)} (h : WaysL H xs W) (s : Sm H H') : WaysL H' xs W := h.mono fun _ _ ⟨a, e, z⟩ => ⟨a, e, s _ _ z⟩
/-- the dicts of what lies ahead -/
def AheadL (H : Hp) (W : List (List Int)) (xs : List V) (is : List Nat) : Prop := Each (fun x i => ∃ a kvs, ∃ ks : List Int, x = V.ref a ∧ H a = some (.dK kvs) ∧ kvs.map Prod.fst = ks.map Sum.inl ∧ ∀ k, k ∈ ks ↔ Rc W i k) xs is
theorem AheadL.same {H H' : Hp} {W : List (List Int)} {xs : List V} {is : List Nat} (h : AheadL H W xs is) (s : Sm H H') : AheadL H' W xs is := h.mono fun _ _ ⟨a, k, ks, e, z, y⟩ => ⟨a, k, ks, e, s _ _ z, y⟩
theorem AheadL.updL {H : Hp} {W : List (List Int)} {xs ys : List V} {is : List Nat} {F : Addr} {u : HO} (h : AheadL H W xs is) (e : H F = some (.lst ys)) : AheadL (upd H F u) W xs is := h.mono fun _ _ ⟨a, k, ks, e', z, y⟩ => ⟨a, k, ks, e', by rw [upd_ne (ne_of z e fun z => nomatch z)]; exact z, y⟩
theorem sc_all_ahead : FnScope ["drawer", "rule", "place", "ways", "found", "waiting", "met", "here"] ["drawer", "rule"] (defScope s_all_ahead) := C8.fnScope_by (by decide +kernel)
def sp_ahead (K : PySem.W.Frag) (CD CC : Addr) : Sp := fun vs H Q _ => ∃ d cs, ∃ r : Rl, vs = [.ref d, .str r.str] ∧ DrawAt K CD CC H d cs ∧ Ok cs ∧ ∀ p xs H', Sm H H' → H' p = some (.lst xs) → AheadL H' (wsOf cs r) xs (List.range cs.length) → Q (.ref p) H'
theorem dropLast_snoc {α : Type} (l : List α) (x : α) : (l ++ [x]).dropLast = l := by simp
theorem ok_all_ahead (T : Tx K mg CC CD CW CG aR aW) : C8.Cal P w K mg base 9 "all_ahead" (sp_ahead K CD CC) [] := by
  refine cal_of T.d_all_ahead (fun _ _ _ _ _ _ us hl => match us, hl with | [_, _], _ => rfl) sc_all_ahead (fun vs H Q E h => ?_) (fun f cdv A outer s H vs Q E hr h => ?_)
  · obtain ⟨d, cs, r, rfl, hd, ok, q⟩ := h; rfl
  · obtain ⟨d, cs, r, rfl, hd, ok, q⟩ := h
    refine ⟨_, (pss_cons (ps_setLc (i := 3) (own := [("place", 2)]) (g := (gName 2)) (tt := tYes) rfl sc_all_ahead.nd rfl rfl (sw_true rfl rfl rfl (by decide +kernel)) (pi_range1 (by rfl) T.b_range (pa_cons (pe_callB (call_lenK (K := K) rfl) (by rfl) T.b_len PySem.boot_len (pa_cons (pe_prp T.kD (pr_Drawer_cards T) hr (by decide) (pv 0)) pa_nil)) pa_nil)) (blkOk_by (own := [("place", 2)]) (N := ["drawer", "rule", "place", "ways", "found", "waiting", "met", "here"]) (sc := defScope s_all_ahead) (by decide +kernel)) (fun _ _ _ _ _ => (pg_name (i := 2) sc_all_ahead.nd rfl (by first | exact Or.inl rfl | exact Or.inr rfl))) (fun _ _ _ _ _ => pts_nil) (fun _ _ _ _ _ => (C8.pe_c (ok_led_to T) hr (by decide) (by rfl) (pa_cons (pv 0) (pa_cons (pv 1) (pa_cons (pv 2) pa_nil))))))
      (pss_cons (ps_set (i := 4) sc_all_ahead.nd rfl (by first | exact Or.inl rfl | exact Or.inr rfl) (pe_lst pa_nil))
      (pss_cons (ps_for PassesOwn.never rfl (pi_range1 (by rfl) T.b_range (pa_cons (pe_callB (call_lenK (K := K) rfl) (by rfl) T.b_len PySem.boot_len (pa_cons (pv 3) pa_nil)) pa_nil)) (pg_name (i := 2) sc_all_ahead.nd rfl (by first | exact Or.inl rfl | exact Or.inr rfl)) (pss_cons (ps_par (i := 5) (j := 6) rfl sc_all_ahead.nd rfl rfl (by decide) rfl rfl (pa_cons (pe_callTy (call_listK (K := K) rfl) (by rfl) T.b_list (by decide +kernel) (pa_cons (pe_ix (ix_listK (K := K) rfl) (pv 3) (pv 2) (fun _ _ => rfl)) pa_nil)) (pa_cons pe_dnewK pa_nil)) (by rfl))
      (pss_cons (ps_while PassesOwn.never (pt_cmpR (op_neDK (K := K) rfl hr.units) (pv 5) (pe_lst pa_nil) (nomark _)) (pss_cons (ps_set (i := 7) sc_all_ahead.nd rfl (by first | exact Or.inl rfl | exact Or.inr rfl) (pe_bm0 PySem.F.plainAttrs_list PySem.F.slot_list_pop PySem.F.type_list_pop mt_pop (pv 5)))
      (pss_one (ps_if (pt_cmp (pc_dnotin (hu_of hr) (pv 7) (pv 6)) rfl) (pss_cons (ps_dput (hu_of hr) (pv 6) (pv 7) pe_bl rfl)
      (pss_one (ps_expr (pe_bm PySem.F.plainAttrs_list PySem.F.slot_list_extend PySem.F.type_list_extend (mt_extK (K := K) rfl) (pv 5) (pa_cons (pe_ix (ix_listK (K := K) rfl) (pv 3) (pv 7) (fun _ _ => rfl)) pa_nil))))) pss_nil))))
      (pss_one (ps_expr (pe_bm PySem.F.plainAttrs_list PySem.F.slot_list_append PySem.F.type_list_append mt_append (pv 4) (pa_cons (pv 6) pa_nil)))))))
      (pss_one (ps_ret (pv 4)))))), ?_⟩
    have ol := ok.len
    have wo := wsOf_ok (r := r) ok
    have wl : (wsOf cs r).length = cs.length := by unfold wsOf; rw [List.length_map]
    refine ⟨_, rfl, rd_cards hd fun row xs hx hrow => ⟨_, _, rfl, .inr ⟨_, hx, rfl⟩, _, rfl, by have := hrow.1; omega, by have := hrow.1; omega, fun D hD => lc_it (walk_range (lo := 0) (n := xs.length)) (fun i H' => Sm H H' ∧ ∃ ys, H' D = some (.lst ys) ∧ Each (fun x (l : List Int) => ∃ a, x = V.ref a ∧ a ≠ D ∧ H' a = some (.lst (l.map V.int))) ys ((wsOf cs r).take i)) ⟨Sm.new hD, [], upd_same, Each.nil⟩ (fun _ _ _ _ => trivial)
      (fun i v H1 H2 hi ⟨s1, ys, e1, hy1⟩ hy => ?_) (fun H1 ⟨s1, ys, e1, hy1⟩ => ?_)⟩⟩
    · obtain ⟨rfl, rfl⟩ := hy
      rw [hrow.1] at hi
      obtain ⟨c, hc⟩ := get_of_lt hi
      have hw : (wsOf cs r)[i]? = some (waysOf cs r c) := by unfold wsOf; rw [List.getElem?_map, hc]; rfl
      have yl := hy1.1
      rw [List.length_take] at yl
      refine ⟨rfl, yes_if ⟨_, rfl, _, rfl, _, rfl, d, cs, c, r, i, (by show [V.ref d, V.str r.str, V.int (0 + (i : Nat))] = _; rw [Int.zero_add]), hd.same s1, ok, hc, fun p H3 s3 hp e3 => ⟨ys, s3 _ _ e1, sizeLt (by omega), (s1.trans s3).wr hD, _, upd_same, ?_⟩⟩⟩
      have pD : p ≠ D := (ne_of_none e1 hp).symm
      rw [take_snoc hw]
      exact Each.snoc (hy1.mono fun _ _ ⟨a, e, n, z⟩ => ⟨a, e, n, by rw [upd_ne n]; exact s3 _ _ z⟩) ⟨p, rfl, pD, by rw [upd_ne pD]; exact e3⟩
    · rw [hrow.1, ← wl, List.take_length] at hy1
      have hW : WaysL H1 ys (wsOf cs r) := hy1.mono fun _ _ ⟨a, e, n, z⟩ => ⟨a, e, z⟩
      have yl : ys.length = cs.length := by rw [hy1.1, wl]
      refine ⟨szl rfl, fun F hF => ⟨_, rfl, _, _, rfl, .inl ⟨_, SqL.of ((Sm.new hF) _ _ e1), rfl⟩, _, rfl, by omega, by omega, ?_⟩⟩
      refine for_it (walk_range (lo := 0) (n := ys.length)) (fun i σ' H' => (∃ o3 o5 o6 o7, σ' = [some (.ref d), some (.str r.str), o3, some (.ref D), some (.ref F), o5, o6, o7]) ∧ Sm H1 H' ∧ ∃ zs, H' F = some (.lst zs) ∧ AheadL H' (wsOf cs r) zs (List.range i))
        ⟨⟨_, _, _, _, rfl⟩, Sm.new hF, [], upd_same, Each.nil⟩ (fun _ _ _ _ _ => trivial) (fun i v σ1 H2 H3 hi ⟨⟨o3, o5, o6, o7, e0⟩, s2, zs, ez, hz⟩ hy => ?_) (fun σ1 H2 ⟨⟨o3, o5, o6, o7, e0⟩, s2, zs, ez, hz⟩ => ?_)
      · subst e0
        obtain ⟨rfl, rfl⟩ := hy
        obtain ⟨l, hl⟩ := get_of_lt (l := wsOf cs r) (i := i) (by omega)
        obtain ⟨v, ev, la, rfl, hla⟩ := hW.at hl
        have zl := hz.1
        rw [List.length_range] at zl
        refine ⟨_, rfl, _, rfl, D, _, _, _, rfl, rfl, SqL.of (s2 _ _ e1), (by rw [Int.zero_add]; exact atI_nat ev), la, _, rfl, .inl (SqL.of (s2 _ _ hla)), fun L hL M hM => ⟨_, _, rfl, ?_⟩⟩
        have sL : Sm H3 (upd (upd H3 L (.lst (l.map V.int))) M (.dK [])) := (Sm.new hL).new' hM
        have hM0 : H3 M = none := (Sm.new hL).free hM
        have nLM : L ≠ M := ne_of_none upd_same hM
        refine while_m (fun m σ' H' => ∃ o7 wt mt kvs, σ' = [some (.ref d), some (.str r.str), some (.int (0 + (i : Nat))), some (.ref D), some (.ref F), some (.ref L), some (.ref M), o7] ∧ Sm H3 H' ∧ H' L = some (.lst (wt.map V.int)) ∧ H' M = some (.dK kvs) ∧ kvs.map Prod.fst = mt.map Sum.inl ∧ DInv (wsOf cs r) i wt mt ∧ wt.length + 32 * (16 - mt.length) = m ∧ m ≤ 600)
          (l.length + 32 * 16) ⟨_, l, [], [], rfl, sL, by rw [upd_ne nLM, upd_same], upd_same, rfl, DInv.start hl, rfl, by have := wo.ll l (List.mem_of_getElem? hl); omega⟩ (fun m σ1 H4 ⟨o7, wt, mt, kvs, e0, s4, eL, eM, ek, di, em, mb⟩ => ?_) ?_
        · subst e0
          have ml := di.len wo
          refine ⟨_, rfl, szl rfl, fun t ht => neD_of (eList eInt) (u := wt) (v := []) (by decide) (dp_intsL (SqL.of ((Sm.new ht) _ _ eL))) (dp_nilL eInt upd_same) (fun _ _ => trivial) (fun _ h => (nomatch h)) ⟨_, rfl, ?_⟩⟩
          have s5 := s4.new' (o := .lst []) ht
          have eL5 : upd H4 t (.lst []) L = some (.lst (wt.map V.int)) := (Sm.new ht) _ _ eL
          have eM5 : upd H4 t (.lst []) M = some (.dK kvs) := (Sm.new ht) _ _ eM
          by_cases ew : wt = []
          · subst ew
            refine ifF (nF rfl) ⟨_, rfl, .inl ⟨rfl, _, SqL.of (s5 _ _ ez)⟩, _, rfl, F, _, _, rfl, rfl, s5 _ _ ez, sizeLt (by omega), ⟨_, _, _, _, rfl⟩, (s2.trans s5).wr hF, _, upd_same, ?_⟩
            rw [List.range_succ]
            exact Each.snoc ((hz.same s5).updL (s5 _ _ ez)) ⟨M, kvs, mt, rfl, by rw [upd_ne (ne_of eM5 (s5 _ _ ez) fun z => nomatch z)]; exact eM5, ek, di.fin⟩
          · obtain ⟨w0, k, rfl⟩ : ∃ w0 k, wt = w0 ++ [k] := ⟨wt.dropLast, wt.getLast ew, (List.dropLast_concat_getLast ew).symm⟩
            refine ifT (nT ew) ⟨_, rfl, .inl ⟨rfl, _, SqL.of eL5⟩, L, _, .int k, rfl, rfl, eL5, by simp, ?_⟩
            rw [show ((w0 ++ [k]).map V.int).dropLast = w0.map V.int by simp]
            have s6 : Sm H3 (upd (upd H4 t (.lst [])) L (.lst (w0.map V.int))) := s5.wr hL
            have eM6 : upd (upd H4 t (.lst [])) L (.lst (w0.map V.int)) M = some (.dK kvs) := by rw [upd_ne nLM.symm]; exact eM5
            refine ⟨_, rfl, _, rfl, M, _, rfl, DGet.k (k := .inl k) eM6, _, rfl, ?_⟩
            rw [valV_in, ek]
            have mk : (Sum.inl k : L2.Key) ∈ mt.map Sum.inl ↔ k ∈ mt := ⟨fun z => by obtain ⟨x, hx, e⟩ := List.mem_map.mp z; cases e; exact hx, fun z => List.mem_map_of_mem z⟩
            by_cases mm : k ∈ mt
            · refine ifF (nF (mk.2 mm)) ⟨_, ?_, _, w0, mt, kvs, rfl, s6, upd_same, eM6, ek, di.old mm, rfl, ?_⟩
              · rw [← em, List.length_append]; simp
              · rw [← em, List.length_append] at mb; simp at mb; omega
            · have kr := (di.wr k (by simp)).bd wo
              obtain ⟨n, rfl⟩ : ∃ n : Nat, k = (n : Int) := ⟨k.toNat, by omega⟩
              obtain ⟨l2, hl2⟩ := get_of_lt (l := wsOf cs r) (i := n) (by omega)
              obtain ⟨v2, ev2, la2, rfl, hla2⟩ := hW.at hl2
              have ll2 := wo.ll l2 (List.mem_of_getElem? hl2)
              have di2 := di.new mm hl2
              have ml2 := di2.len wo
              have kl : kvs.length = mt.length := by have := congrArg List.length ek; simpa using this
              have s7 := s6.wr (o := .dK (putK kvs (.inl (n : Int)) (.bl true))) hM0
              have eL7 : upd (upd (upd H4 t (.lst [])) L (.lst (w0.map V.int))) M (.dK (putK kvs (.inl (n : Int)) (.bl true))) L = some (.lst (w0.map V.int)) := by rw [upd_ne nLM, upd_same]
              rw [List.length_append] at em ml2
              simp only [List.length_cons, List.length_nil] at em ml2
              refine ifT (nT fun z => mm (mk.1 z)) ⟨_, rfl, _, rfl, M, _, rfl, DPut.k (k := .inl (n : Int)) eM6 (sizeLt (by omega)), ?_⟩
              refine ⟨_, rfl, .inl ⟨rfl, _, SqL.of eL7⟩, _, rfl, _, rfl, D, _, _, _, rfl, rfl, SqL.of (s7 _ _ (s2 _ _ e1)), atI_nat ev2, L, la2, _, _, rfl, rfl, eL7, .inl (s7 _ _ (s2 _ _ hla2)), by simp only [List.length_map]; omega, ?_⟩
              refine ⟨(w0 ++ l2).length + 32 * (16 - (mt ++ [(n : Int)]).length), ?_, _, w0 ++ l2, mt ++ [(n : Int)], _, rfl, s7.wr hL, by rw [upd_same, List.map_append], by rw [upd_ne nLM.symm, upd_same], ?_, di2, rfl, ?_⟩
              · rw [List.length_append, List.length_append]; simp only [List.length_cons, List.length_nil]; omega
              · rw [putK_keys_new (by rw [ek]; exact fun z => mm (mk.1 z)), ek, List.map_append]; rfl
              · rw [List.length_append, List.length_append]; simp only [List.length_cons, List.length_nil]; omega
        · rintro σ H Q Q' f ⟨v1, h1, z, hp⟩
          refine ⟨v1, h1, z, fun p hn => ?_⟩
          obtain ⟨d1, d2, i1, i2, i3, i4, k, i5, i6⟩ := hp p hn
          exact ⟨d1, d2, i1, i2, i3, i4, k, i5, f _ _ i6⟩
      · subst e0
        rw [yl] at hz
        exact ⟨_, rfl, q F zs H2 (s1.trans s2) ez hz⟩
end
end Se
namespace Se
open PySem PySem.Spec PyProof.Rows L2
section
variable {P : Program} {w : World} {K : PySem.W.Frag} {mg : Str → Option Value} {base : Heap} {CC CD CW CG aR aW : Addr}
theorem AheadL.at_ {H : Hp} {W : List (List Int)} {xs : List V} {n i : Nat} (h : AheadL H W xs (List.range n)) (hi : i < n) : ∃ a kvs, xs[i]? = some (.ref a) ∧ H a = some (.dK kvs) ∧ ∀ k : Int, (valV kvs (.inl k)).isSome = true ↔ Rc W i k := by
  obtain ⟨x, ex, a, kvs, ks, rfl, e, ek, hk⟩ := h.at (i := i) (y := i) (by rw [List.getElem?_range hi])
  refine ⟨a, kvs, ex, e, fun k => ?_⟩
  rw [valV_in, ek, ← hk, decide_eq_true_iff, List.mem_map]
  exact ⟨fun ⟨x, hx, e⟩ => by cases e; exact hx, fun m => ⟨k, m, rfl⟩⟩
theorem sc_also_rings : FnScope ["drawer", "rule", "ahead", "found", "place", "other", "group"] ["drawer", "rule"] (defScope s_also_rings) := C8.fnScope_by (by decide +kernel)
def sp_rings (K : PySem.W.Frag) (CD CC : Addr) : Sp := fun vs H Q _ => ∃ d cs, ∃ r : Rl, vs = [.ref d, .str r.str] ∧ DrawAt K CD CC H d cs ∧ Ok cs ∧ ∀ p xs H', Sm H H' → H' p = some (.lst xs) → TupsAt K H' xs (rings (wsOf cs r)) → Q (.ref p) H'
theorem grp_head {W : List (List Int)} {i n : Nat} {g : Int} (h : (grpT W i n).head? = some g) : ((grpT W i n).map V.int)[0]? = some (.int g) := by
  cases e : grpT W i n with
  | nil => rw [e] at h; cases h
  | cons x xs => rw [e] at h; cases h; rfl
theorem ringsT_yes {W : List (List Int)} {i : Nat} (h : 1 < (grp W i).length ∧ (grp W i).head? = some (i : Int)) : ringsT W (i + 1) = ringsT W i ++ [grp W i] := by
  show ringsT W i ++ _ = _
  rw [if_pos h]
theorem ringsT_no {W : List (List Int)} {i : Nat} (h : ¬ (1 < (grp W i).length ∧ (grp W i).head? = some (i : Int))) : ringsT W (i + 1) = ringsT W i := by
  show ringsT W i ++ _ = _
  rw [if_neg h, List.append_nil]
theorem ok_also_rings (T : Tx K mg CC CD CW CG aR aW) : C8.Cal P w K mg base 10 "also_rings" (sp_rings K CD CC) [] := by
  refine cal_of T.d_also_rings (fun _ _ _ _ _ _ us hl => match us, hl with | [_, _], _ => rfl) sc_also_rings (fun vs H Q E h => ?_) (fun f cdv A outer s H vs Q E hr h => ?_)
  · obtain ⟨d, cs, r, rfl, hd, ok, q⟩ := h; rfl
  · obtain ⟨d, cs, r, rfl, hd, ok, q⟩ := h
    refine ⟨_, (pss_cons (ps_expr (C8.pe_c (ok_check_rule T) hr (by decide) (by rfl) (pa_cons (pv 1) pa_nil)))
      (pss_cons (ps_set (i := 2) sc_also_rings.nd rfl (by first | exact Or.inl rfl | exact Or.inr rfl) (C8.pe_c (ok_all_ahead T) hr (by decide) (by rfl) (pa_cons (pv 0) (pa_cons (pv 1) pa_nil))))
      (pss_cons (ps_set (i := 3) sc_also_rings.nd rfl (by first | exact Or.inl rfl | exact Or.inr rfl) (pe_lst pa_nil))
      (pss_cons (ps_for PassesOwn.never rfl (pi_range1 (by rfl) T.b_range (pa_cons (pe_callB (call_lenK (K := K) rfl) (by rfl) T.b_len PySem.boot_len (pa_cons (pv 2) pa_nil)) pa_nil)) (pg_name (i := 4) sc_also_rings.nd rfl (by first | exact Or.inl rfl | exact Or.inr rfl)) (pss_cons (ps_setLc (i := 6) (own := [("other", 5)]) (g := (gName 5)) rfl sc_also_rings.nd rfl rfl (sw_true rfl rfl rfl (by decide +kernel)) (pi_range1 (by rfl) T.b_range (pa_cons (pe_callB (call_lenK (K := K) rfl) (by rfl) T.b_len PySem.boot_len (pa_cons (pv 2) pa_nil)) pa_nil)) (blkOk_by (own := [("other", 5)]) (N := ["drawer", "rule", "ahead", "found", "place", "other", "group"]) (sc := defScope s_also_rings) (by decide +kernel)) (fun _ _ _ _ _ => (pg_name (i := 5) sc_also_rings.nd rfl (by first | exact Or.inl rfl | exact Or.inr rfl))) (fun _ _ _ _ _ => (pts_one (PW.pt (pw_and (pt_cmp (pc_din (hu_of hr) (pv 5) (pe_ix (ix_listK (K := K) rfl) (pv 2) (pv 4) (fun _ _ => rfl))) rfl) (pw_and1 (pt_cmp (pc_din (hu_of hr) (pv 4) (pe_ix (ix_listK (K := K) rfl) (pv 2) (pv 5) (fun _ _ => rfl))) rfl)))))) (fun _ _ _ _ _ => (pv 5)))
      (pss_one (ps_if (PW.pt (pw_and (pt_cmpR op_gt (pe_callB (call_lenK (K := K) rfl) (by rfl) T.b_len PySem.boot_len (pa_cons (pv 6) pa_nil)) pe_int (nomark _)) (pw_and1 (pt_cmpR op_eq (pe_ix (ix_listK (K := K) rfl) (pv 6) pe_int (fun _ _ => rfl)) (pv 4) (nomark _))))) (pss_one (ps_expr (pe_bm PySem.F.plainAttrs_list PySem.F.slot_list_append PySem.F.type_list_append mt_append (pv 3) (pa_cons (pe_tupleK (K := K) rfl (by rfl) T.b_tuple (pv 6)) pa_nil)))) pss_nil))))
      (pss_one (ps_ret (pv 3))))))), ?_⟩
    have ol := ok.len
    have wl : (wsOf cs r).length = cs.length := by unfold wsOf; rw [List.length_map]
    refine ⟨_, rfl, r, rfl, _, rfl, _, rfl, d, cs, r, rfl, hd, ok, fun Ah as H1 s1 e1 ha => ⟨szl rfl, fun F hF => ?_⟩⟩
    have al : as.length = cs.length := by have := ha.1; rwa [List.length_range] at this
    refine ⟨_, rfl, _, _, rfl, .inl ⟨_, SqL.of ((Sm.new hF) _ _ e1), rfl⟩, _, rfl, by omega, by omega, ?_⟩
    refine for_it (walk_range (lo := 0) (n := as.length)) (fun i σ' H' => (∃ o4 o5 o6, σ' = [some (.ref d), some (.str r.str), some (.ref Ah), some (.ref F), o4, o5, o6]) ∧ Sm H1 H' ∧ ∃ zs, H' F = some (.lst zs) ∧ TupsAt K H' zs (ringsT (wsOf cs r) i))
      ⟨⟨_, _, _, rfl⟩, Sm.new hF, [], upd_same, Each.nil⟩ (fun _ _ _ _ _ => trivial) (fun i v σ1 H2 H3 hi ⟨⟨o4, o5, o6, e0⟩, s2, zs, ez, hz⟩ hy => ?_) (fun σ1 H2 ⟨⟨o4, o5, o6, e0⟩, s2, zs, ez, hz⟩ => ?_)
    · subst e0
      obtain ⟨rfl, rfl⟩ := hy
      have iv : (0 : Int) + (i : Nat) = (i : Int) := Int.zero_add _
      have ha3 := ha.same s2
      obtain ⟨ai, ki, exi, ei, hki⟩ := ha3.at_ (i := i) (by omega)
      refine ⟨_, rfl, _, _, rfl, .inl ⟨_, SqL.of (s2 _ _ e1), rfl⟩, _, rfl, by omega, by omega, fun D hD => lc_it (walk_range (lo := 0) (n := as.length)) (fun j H' => Sm H3 H' ∧ H' D = some (.lst ((grpT (wsOf cs r) i j).map V.int))) ⟨Sm.new hD, upd_same⟩ (fun _ _ _ _ => trivial)
        (fun j v H4 H5 hj ⟨s4, e4⟩ hy => ?_) (fun H4 ⟨s4, e4⟩ => ?_)⟩
      · obtain ⟨rfl, rfl⟩ := hy
        have jv : (0 : Int) + (j : Nat) = (j : Int) := Int.zero_add _
        have ha5 := ha3.same s4
        obtain ⟨aj, kj, exj, ej, hkj⟩ := ha5.at_ (i := j) (by omega)
        have gl := grpT_len (wsOf cs r) i j
        refine ⟨rfl, _, rfl, _, rfl, _, rfl, Ah, _, _, _, rfl, rfl, SqL.of (s4 _ _ (s2 _ _ e1)), (by rw [iv]; exact atI_nat exi), ai, _, rfl, DGet.k (k := .inl (0 + (j : Nat))) (s4 _ _ ei), _, rfl, ?_⟩
        by_cases h1 : Rc (wsOf cs r) i (j : Int)
        · refine ifT ((hki _).2 (by rw [jv]; exact h1)) ⟨_, rfl, _, rfl, _, rfl, Ah, _, _, _, rfl, rfl, SqL.of (s4 _ _ (s2 _ _ e1)), (by rw [jv]; exact atI_nat exj), aj, _, rfl, DGet.k (k := .inl (0 + (i : Nat))) ej, _, rfl, ?_⟩
          by_cases h2 : Rc (wsOf cs r) j (i : Int)
          · refine ifT ((hkj _).2 (by rw [iv]; exact h2)) ⟨_, rfl, _, e4, sizeLt (by rw [List.length_map]; omega), s4.wr hD, ?_⟩
            rw [upd_same, grpT_in (inRing_t.2 ⟨h1, h2⟩), List.map_append]
            exact congrArg (fun z => some (HO.lst (_ ++ [V.int z]))) jv
          · refine ifF (by have := mt (hkj (0 + (i : Nat))).1 (by rw [iv]; exact h2); simpa using this) ⟨s4, ?_⟩
            rw [grpT_out (by have := mt (inRing_t (W := wsOf cs r) (i := i) (j := j)).1 (fun z => h2 z.2); simpa using this)]; exact e4
        · refine ifF (by have := mt (hki (0 + (j : Nat))).1 (by rw [jv]; exact h1); simpa using this) (ifF rfl ⟨s4, ?_⟩)
          rw [grpT_out (by have := mt (inRing_t (W := wsOf cs r) (i := i) (j := j)).1 (fun z => h1 z.1); simpa using this)]; exact e4
      · rw [al, ← wl] at e4
        have ez4 := s4 _ _ ez
        have rl := ringsT_len (wsOf cs r) i
        have zl := hz.1
        have glen : (grpT (wsOf cs r) i (wsOf cs r).length).length = (grp (wsOf cs r) i).length := rfl
        have no : ¬ (1 < (grp (wsOf cs r) i).length ∧ (grp (wsOf cs r) i).head? = some (i : Int)) → Sm H1 H4 ∧ ∃ zs, H4 F = some (.lst zs) ∧ TupsAt K H4 zs (ringsT (wsOf cs r) (i + 1)) := fun z =>
          ⟨s2.trans s4, zs, ez4, by rw [ringsT_no z]; exact hz.same s4⟩
        refine ⟨_, rfl, _, _, rfl, .inl ⟨_, SqL.of e4, rfl⟩, _, _, rfl, rfl, _, rfl, ?_⟩
        rw [List.length_map]
        by_cases h1 : 1 < (grp (wsOf cs r) i).length
        · obtain ⟨g, hg⟩ : ∃ g, (grp (wsOf cs r) i).head? = some g := by
            cases e : grp (wsOf cs r) i with
            | nil => rw [e] at h1; simp at h1
            | cons x xs => exact ⟨x, rfl⟩
          refine ifT (dT (by omega)) ⟨_, rfl, D, _, _, _, rfl, rfl, SqL.of e4, atI_nat (j := 0) (grp_head hg), _, rfl, rfl, _, rfl, ?_⟩
          by_cases h2 : g = (i : Int)
          · refine ifT (dT (by rw [h2]; exact congrArg V.int iv.symm)) ⟨_, rfl, .inl ⟨rfl, _, SqL.of ez4⟩, _, rfl, .inl ⟨D, _, rfl, SqL.of e4, fun t ht => ⟨F, _, _, rfl, rfl, (Sm.new ht) _ _ ez4, sizeLt (by omega), ⟨_, _, _, rfl⟩, ((s2.trans s4).new' ht).wr hF, _, upd_same, ?_⟩⟩⟩
            rw [ringsT_yes ⟨h1, by rw [hg, h2]⟩]
            exact Each.snoc ((hz.same (s4.new' ht)).updL ((Sm.new ht) _ _ ez4)) ⟨t, rfl, SqT.updL (SqT.of upd_same) ((Sm.new ht) _ _ ez4)⟩
          · refine ifF (dF (fun z => h2 ((V.int.inj z).trans iv))) ⟨⟨_, _, _, rfl⟩, no fun z => h2 (by rw [hg] at z; exact Option.some.inj z.2)⟩
        · exact ifF (dF (by omega)) (ifF rfl ⟨⟨_, _, _, rfl⟩, no fun z => h1 z.1⟩)
    · subst e0
      rw [al, ← wl] at hz
      exact ⟨_, rfl, q F zs H2 (s1.trans s2) ez hz⟩
end
end Se
namespace Se
open PySem PySem.Spec PyProof.Rows L2
section
variable {P : Program} {w : World} {K : PySem.W.Frag} {mg : Str → Option Value} {base : Heap} {CC CD CW CG aR aW : Addr}
theorem lessT_nil (cs : List CardD) : ∀ i, i ≤ cs.length → lessT cs [] i = cs.take i
  | 0, _ => by simp [lessT]
  | i + 1, h => by
    obtain ⟨c, hc⟩ := get_of_lt (l := cs) (i := i) (by omega)
    rw [lessT_out (by simp) hc, lessT_nil cs i (by omega), take_snoc hc]
theorem less_nil (cs : List CardD) : less cs [] = cs := by unfold less; rw [lessT_nil cs _ (Nat.le_refl _), List.take_length]
/-! ### safe_books, one lost -/
noncomputable def safeT (cs : List CardD) (r : Rl) (h : Str) (i : Nat) : List Int := (reach cs r h).filter fun b => decide (∀ k, k < i → b ∈ reach (less cs [(k : Int)]) r h)
noncomputable def safe (cs : List CardD) (r : Rl) (h : Str) : List Int := safeT cs r h cs.length
theorem safeT_0 (cs : List CardD) (r : Rl) (h : Str) : safeT cs r h 0 = reach cs r h := by
  unfold safeT
  rw [List.filter_eq_self]
  intro a _
  exact dT fun k hk => absurd hk (Nat.not_lt_zero _)
theorem safeT_s (cs : List CardD) (r : Rl) (h : Str) (i : Nat) : safeT cs r h (i + 1) = (safeT cs r h i).filter fun b => decide (b ∈ reach (less cs [(i : Int)]) r h) := by
  unfold safeT
  rw [List.filter_filter]
  apply List.filter_congr
  intro b _
  rw [← Bool.decide_and]
  refine decide_eq_decide.mpr ⟨fun z => ⟨z i (by omega), fun k hk => z k (by omega)⟩, fun z k hk => ?_⟩
  by_cases e : k = i
  · rw [e]; exact z.1
  · exact z.2 k (by omega)
theorem safeT_len (cs : List CardD) (r : Rl) (h : Str) (i : Nat) : (safeT cs r h i).length ≤ 31 := Nat.le_trans (List.length_filter_le _ _) reach_len
theorem sc_safe_books : FnScope ["drawer", "rule", "heading", "count", "places", "found", "some", "left", "book"] ["drawer", "rule", "heading", "count"] (defScope s_safe_books) := C8.fnScope_by (by decide +kernel)
def sp_safe (K : PySem.W.Frag) (CD CC : Addr) : Sp := fun vs H Q _ => ∃ d cs h, ∃ r : Rl, vs = [.ref d, .str r.str, .str h, .int 1] ∧ DrawAt K CD CC H d cs ∧ Ok cs ∧ 1 ≤ cs.length ∧ h ∈ uS ∧ ∀ p H', Sm H H' → H' p = some (.tup ((safe cs r h).map V.int)) → Q (.ref p) H'
theorem range_nats (n : Nat) : rgV 0 (n : Int) = (List.range n).map vN := by
  unfold rgV
  rw [Int.sub_zero, Int.toNat_natCast]
  apply List.map_congr_left
  intro k _
  rw [Int.zero_add]
theorem ok_safe_books (T : Tx K mg CC CD CW CG aR aW) : C8.Cal P w K mg base 12 "safe_books" (sp_safe K CD CC) [] := by
  refine cal_of T.d_safe_books (fun _ _ _ _ _ _ us hl => match us, hl with | [_, _, _, _], _ => rfl) sc_safe_books (fun vs H Q E h => ?_) (fun f cdv A outer s H vs Q E hr h => ?_)
  · obtain ⟨d, cs, h, r, rfl, hd, ok, hn, hu, q⟩ := h; rfl
  · obtain ⟨d, cs, h, r, rfl, hd, ok, hn, hu, q⟩ := h
    refine ⟨_, (pss_cons (ps_expr (C8.pe_c (ok_check_rule T) hr (by decide) (by rfl) (pa_cons (pv 1) pa_nil)))
      (pss_cons (ps_expr (C8.pe_c (ok_check_heading T) hr (by decide) (by rfl) (pa_cons (pv 2) pa_nil)))
      (pss_cons (ps_expr (C8.pe_c (ok_check_number T) hr (by decide) (by rfl) (pa_cons (pv 3) (pa_cons pe_int (pa_cons (C8.pe_gc (by rfl) T.c_MAX_LOST_losing) pa_nil)))))
      (pss_cons (ps_set (i := 4) sc_safe_books.nd rfl (by first | exact Or.inl rfl | exact Or.inr rfl) (pe_listRg rfl (by rfl) T.b_list (prg_1 (by rfl) T.b_range (pe_callB (call_lenK (K := K) rfl) (by rfl) T.b_len PySem.boot_len (pa_cons (pe_prp T.kD (pr_Drawer_cards T) hr (by decide) (pv 0)) pa_nil)))))
      (pss_cons (ps_set (i := 5) sc_safe_books.nd rfl (by first | exact Or.inl rfl | exact Or.inr rfl) (pe_callTy (call_listK (K := K) rfl) (by rfl) T.b_list (by decide +kernel) (pa_cons (C8.pe_c (ok_reached T) hr (by decide) (by rfl) (pa_cons (pv 0) (pa_cons (pv 1) (pa_cons (pv 2) pa_nil)))) pa_nil)))
      (pss_cons (ps_for PassesOwn.never rfl (pi_list (C8.pe_c (ok_choices T) hr (by decide) (by rfl) (pa_cons (pv 4) (pa_cons (pe_callB (call_min2 rfl) (by rfl) T.b_min (by decide +kernel) (pa_cons (pv 3) (pa_cons (pe_callB (call_lenK (K := K) rfl) (by rfl) T.b_len PySem.boot_len (pa_cons (pv 4) pa_nil)) pa_nil))) pa_nil)))) (pg_name (i := 6) sc_safe_books.nd rfl (by first | exact Or.inl rfl | exact Or.inr rfl)) (pss_cons (ps_set (i := 7) sc_safe_books.nd rfl (by first | exact Or.inl rfl | exact Or.inr rfl) (C8.pe_c (ok_reached T) hr (by decide) (by rfl) (pa_cons (pe_ms T.kD (mt_Drawer_without T) hr (by decide) (pv 0) (pa_cons (pv 6) pa_nil)) (pa_cons (pv 1) (pa_cons (pv 2) pa_nil)))))
      (pss_one (ps_setLc (i := 5) (own := [("book", 8)]) (g := (gName 8)) rfl sc_safe_books.nd rfl rfl (sw_true rfl rfl rfl (by decide +kernel)) (pi_list (pv 5)) (blkOk_by (own := [("book", 8)]) (N := ["drawer", "rule", "heading", "count", "places", "found", "some", "left", "book"]) (sc := defScope s_safe_books) (by decide +kernel)) (fun _ _ _ _ _ => (pg_name (i := 8) sc_safe_books.nd rfl (by first | exact Or.inl rfl | exact Or.inr rfl))) (fun _ _ _ _ _ => (pts_one (pt_cmpR (op_inK (K := K) rfl) (pv 8) (pv 7) (by rfl)))) (fun _ _ _ _ _ => (pv 8))))))
      (pss_one (ps_ret (pe_tupleK (K := K) rfl (by rfl) T.b_tuple (pv 5)))))))))), ?_⟩
    have ol := ok.len
    refine ⟨_, rfl, r, rfl, _, rfl, h, rfl, hu, fun H0 s0 => ⟨_, rfl, 1, 0, 2, rfl, by decide, ?_⟩⟩
    refine ⟨_, rfl, rd_cards (hd.same s0) fun row xs hx hrow => ⟨_, _, rfl, .inr ⟨_, hx, rfl⟩, _, rfl, RgOk.of_le (by omega) (by have := hrow.1; omega) (by omega) (by omega), fun Pl hP => ?_⟩⟩
    rw [hrow.1, range_nats]
    have s1 := s0.new' (o := .lst ((List.range cs.length).map vN)) hP
    refine ⟨_, rfl, _, rfl, _, rfl, d, cs, h, r, rfl, hd.same s1, ok, hu, fun t H2 s2 e2 => ⟨t, _, rfl, .inr (SqT.of e2), fun F hF => ?_⟩⟩
    have s3 := (s1.trans s2).new' (o := .lst ((reach cs r h).map V.int)) hF
    have eP : upd H2 F (.lst ((reach cs r h).map V.int)) Pl = some (.lst ((List.range cs.length).map vN)) := (Sm.new hF) _ _ (s2 _ _ upd_same)
    refine ⟨_, rfl, _, rfl, _, rfl, _, _, rfl, .inl ⟨_, SqL.of eP, rfl⟩, _, _, rfl, ?_⟩
    rw [List.length_map, List.length_range, if_neg (by omega)]
    refine ⟨Pl, cs.length, 1, rfl, SqL.of eP, ol, by decide, fun C ys H3 s4 hC e4 hy => ⟨C, rfl, ⟨_, SqL.of e4⟩, ?_⟩⟩
    have yl : ys.length = cs.length := by rw [hy.1]; simp [chs]
    have s5 := s3.trans s4
    have eF3 : H3 F = some (.lst ((reach cs r h).map V.int)) := s4 _ _ upd_same
    refine for_it (walk_list (xs := ys)) (fun i σ' H' => ∃ F' o6 o7 o8, σ' = [some (.ref d), some (.str r.str), some (.str h), some (.int 1), some (.ref Pl), some (.ref F'), o6, o7, o8] ∧ Sm H3 H' ∧ H' F' = some (.lst ((safeT cs r h i).map V.int)))
      ⟨F, none, none, none, rfl, Sm.refl _, by rw [safeT_0]; exact eF3⟩ (fun _ _ _ _ ⟨_, _, _, _, _, s, _⟩ => SqL.of (s _ _ e4)) (fun i v σ1 H4 H5 hi ⟨F', o6, o7, o8, e0, s6, e6⟩ hyy => ?_) (fun σ1 H4 ⟨F', o6, o7, o8, e0, s6, e6⟩ => ?_)
    · subst e0
      obtain ⟨rfl, ev⟩ := hyy
      obtain ⟨ns, ens, tt, rfl, htt⟩ := hy.at' ev
      have : ns = [(i : Int)] := by
        rw [show chs cs.length 1 = (List.range cs.length).map (fun k : Nat => [(k : Int)]) from rfl] at ens
        rw [List.getElem?_map, List.getElem?_range (by omega)] at ens
        exact (Option.some.inj ens).symm
      subst this
      have htt5 := s6.tup htt
      have hd5 := hd.same (s5.trans s6)
      obtain ⟨ddx, _, _, hs5, _⟩ := hd5.ex
      refine ⟨_, rfl, d, ddx, _, rfl, hs5, _, rfl, d, cs, tt, [(i : Int)], rfl, hd5, ok, htt5, by simp, fun k hk => by rw [List.mem_singleton.mp hk]; omega, fun d2 H6 s7 hd2 => ?_⟩
      refine ⟨_, rfl, _, rfl, d2, less cs [(i : Int)], h, r, rfl, hd2, ok.less _, hu, fun L H7 s8 e8 => ?_⟩
      refine ⟨_, rfl, F', rfl, ⟨_, SqL.of (s8 _ _ (s7 _ _ e6))⟩, fun D hD => lc_it (walk_list (xs := (safeT cs r h i).map V.int)) (fun j H' => Sm H7 H' ∧ H' D = some (.lst ((((safeT cs r h i).take j).filter fun b => decide (b ∈ reach (less cs [(i : Int)]) r h)).map V.int))) ⟨Sm.new hD, upd_same⟩ (fun j H' _ ⟨s9, _⟩ => SqL.of (s9 _ _ (s8 _ _ (s7 _ _ e6))))
        (fun j v H8 H9 hj ⟨s9, e9⟩ hyy => ?_) (fun H8 ⟨s9, e9⟩ => ?_)⟩
      · obtain ⟨rfl, ev2⟩ := hyy
        rw [List.getElem?_map] at ev2
        obtain ⟨k, ek, rfl⟩ := Option.map_eq_some_iff.mp ev2
        have fl : (((safeT cs r h i).take j).filter fun b => decide (b ∈ reach (less cs [(i : Int)]) r h)).length ≤ 31 := Nat.le_trans (List.length_filter_le _ _) (by have := safeT_len cs r h i; rw [List.length_take]; omega)
        refine ⟨rfl, _, rfl, _, rfl, rd_inI (.inr (SqT.of (s9 _ _ e8))) ⟨_, rfl, ?_⟩⟩
        by_cases m : k ∈ reach (less cs [(i : Int)]) r h
        · refine ifT (dT m) ⟨_, rfl, _, e9, sizeLt (by rw [List.length_map]; omega), s9.wr hD, ?_⟩
          rw [upd_same, take_snoc ek, filter_t (f := fun b => decide (b ∈ reach (less cs [(i : Int)]) r h)) (dT m), List.map_append]; rfl
        · refine ifF (dF m) ⟨s9, ?_⟩
          rw [take_snoc ek, filter_f (f := fun b => decide (b ∈ reach (less cs [(i : Int)]) r h)) (dF m)]; exact e9
      · rw [List.length_map, List.take_length, ← safeT_s] at e9
        exact ⟨D, _, _, _, rfl, ((s6.trans s7).trans s8).trans s9, e9⟩
    · subst e0
      rw [yl] at e6
      exact ⟨_, rfl, .inl ⟨F', _, rfl, SqL.of e6, fun p hp => q p _ ((s5.trans s6).new' hp) upd_same⟩⟩
theorem szLt0 : ([] : List V).length < sizeLine := by decide
/-! ### losses -/
def lossF (cs : List CardD) (r : Rl) (h : Str) (tm : List Int) (L : List (List Int)) : List (List Int) := L.filter fun ns => decide (reach (less cs ns) r h = tm)
def allC (n : Nat) : Nat → List (List Int)
  | 0 => []
  | 1 => chs n 0
  | _ => chs n 0 ++ chs n 1
theorem chs_in {n k : Nat} {ns : List Int} (hk : k ≤ 1) (h : ns ∈ chs n k) : ns.length ≤ 1 ∧ ∀ x ∈ ns, 0 ≤ x ∧ x < (n : Int) := by
  match k, hk with
  | 0, _ =>
    have : ns = [] := by simpa [chs] using h
    rw [this]; exact ⟨Nat.zero_le _, fun _ z => nomatch z⟩
  | 1, _ =>
    obtain ⟨k, hk, rfl⟩ := List.mem_map.mp (show ns ∈ (List.range n).map (fun k : Nat => [(k : Int)]) from h)
    have := List.mem_range.mp hk
    exact ⟨Nat.le_refl _, fun x hx => by rw [List.mem_singleton.mp hx]; omega⟩
theorem allC_len {n i : Nat} (hi : i ≤ 1) : (allC n i).length ≤ 1 := by
  match i, hi with
  | 0, _ => simp [allC]
  | 1, _ => simp [allC, chs]
theorem allC_s {n i : Nat} (hi : i ≤ 1) : allC n i ++ chs n i = allC n (i + 1) := by
  match i, hi with
  | 0, _ => rfl
  | 1, _ => rfl
theorem chs_len (n k : Nat) : (chs n k).length ≤ n + 1 := by
  cases k with
  | zero => simp [chs]
  | succ k => simp [chs]
theorem lossF_len (cs : List CardD) (r : Rl) (h : Str) (tm : List Int) (L : List (List Int)) : (lossF cs r h tm L).length ≤ L.length := List.length_filter_le _ _
theorem sc_losses : FnScope ["drawer", "rule", "log", "most", "found", "size", "some", "left", "heading", "books"] ["drawer", "rule", "log", "most"] (defScope s_losses) := C8.fnScope_by (by decide +kernel)
def sp_losses (K : PySem.W.Frag) (CD CC : Addr) : Sp := fun vs H Q _ => ∃ d cs h L t b tm, ∃ r : Rl, vs = [.ref d, .str r.str, .ref L, .int 1] ∧ DrawAt K CD CC H d cs ∧ Ok cs ∧ h ∈ uS ∧ SqL K H L [.ref t] ∧ SqT K H t [.str h, .ref b] ∧ SqT K H b (tm.map V.int) ∧
  ∀ p xs H', Sm H H' → H' p = some (.lst xs) → TupsAt K H' xs (lossF cs r h tm (allC cs.length 2)) → Q (.ref p) H'
theorem ok_losses (T : Tx K mg CC CD CW CG aR aW) : C8.Cal P w K mg base 12 "losses" (sp_losses K CD CC) [] := by
  refine cal_of T.d_losses (fun _ _ _ _ _ _ us hl => match us, hl with | [_, _, _, _], _ => rfl) sc_losses (fun vs H Q E h => ?_) (fun f cdv A outer s H vs Q E hr h => ?_)
  · obtain ⟨d, cs, h, L, t, b, tm, r, rfl, hd, ok, hu, hL, ht, hb, q⟩ := h; rfl
  · obtain ⟨d, cs, h, L, t, b, tm, r, rfl, hd, ok, hu, hL, ht, hb, q⟩ := h
    refine ⟨_, (pss_cons (ps_set (i := 4) sc_losses.nd rfl (by first | exact Or.inl rfl | exact Or.inr rfl) (pe_lst pa_nil))
      (pss_cons (ps_for PassesOwn.never rfl (pi_range1 (by rfl) T.b_range (pa_cons (pe_op op_add (pv 3) pe_int) pa_nil)) (pg_name (i := 5) sc_losses.nd rfl (by first | exact Or.inl rfl | exact Or.inr rfl)) (pss_one (ps_for PassesOwn.never rfl (pi_list (C8.pe_c (ok_choices T) hr (by decide) (by rfl) (pa_cons (pe_listRg rfl (by rfl) T.b_list (prg_1 (by rfl) T.b_range (pe_callB (call_lenK (K := K) rfl) (by rfl) T.b_len PySem.boot_len (pa_cons (pe_prp T.kD (pr_Drawer_cards T) hr (by decide) (pv 0)) pa_nil)))) (pa_cons (pv 5) pa_nil)))) (pg_name (i := 6) sc_losses.nd rfl (by first | exact Or.inl rfl | exact Or.inr rfl)) (pss_cons (ps_set (i := 7) sc_losses.nd rfl (by first | exact Or.inl rfl | exact Or.inr rfl) (pe_ms T.kD (mt_Drawer_without T) hr (by decide) (pv 0) (pa_cons (pv 6) pa_nil)))
      (pss_one (ps_if (pt_val (pe_callB (cr_all rfl) (by rfl) T.b_all (by decide +kernel) (pa_cons (pe_lc (own := [("heading", 8), ("books", 9)]) (g := (gTup K 2 (gCons (gName 8) (gCons (gName 9) gNil)))) (tt := tYes) rfl sc_losses.nd (pi_list (pv 2)) (blkOk_by (own := [("heading", 8), ("books", 9)]) (N := ["drawer", "rule", "log", "most", "found", "size", "some", "left", "heading", "books"]) (sc := defScope s_losses) (by decide +kernel)) (fun _ _ _ _ _ => (pg_tup rfl (pgs_cons (pg_name (i := 8) sc_losses.nd rfl (by first | exact Or.inl rfl | exact Or.inr rfl)) (pgs_cons (pg_name (i := 9) sc_losses.nd rfl (by first | exact Or.inl rfl | exact Or.inr rfl)) pgs_nil)))) (fun _ _ _ _ _ => pts_nil) (fun _ _ _ _ _ => (pe_cmpR (op_eqDK (K := K) rfl hr.units) (C8.pe_c (ok_reached T) hr (by decide) (by rfl) (pa_cons (pv 7) (pa_cons (pv 1) (pa_cons (pv 8) pa_nil)))) (pv 9) (nomark _)))) pa_nil))) (pss_one (ps_expr (pe_bm PySem.F.plainAttrs_list PySem.F.slot_list_append PySem.F.type_list_append mt_append (pv 4) (pa_cons (pv 6) pa_nil)))) pss_nil))))))
      (pss_one (ps_ret (pv 4))))), ?_⟩
    have ol := ok.len
    refine ⟨szl rfl, fun F hF => ⟨_, rfl, _, _, rfl, rfl, _, rfl, by decide, by decide, ?_⟩⟩
    refine for_it (walk_range (lo := 0) (n := 2)) (fun i σ' H' => (∃ o5 o6 o7 o8 o9, σ' = [some (.ref d), some (.str r.str), some (.ref L), some (.int 1), some (.ref F), o5, o6, o7, o8, o9]) ∧ Sm H H' ∧ ∃ zs, H' F = some (.lst zs) ∧ TupsAt K H' zs (lossF cs r h tm (allC cs.length i)))
      ⟨⟨_, _, _, _, _, rfl⟩, Sm.new hF, [], upd_same, Each.nil⟩ (fun _ _ _ _ _ => trivial) (fun i v σ1 H1 H2 hi ⟨⟨o5, o6, o7, o8, o9, e0⟩, s1, zs, ez, hz⟩ hy => ?_) (fun σ1 H1 ⟨⟨o5, o6, o7, o8, o9, e0⟩, s1, zs, ez, hz⟩ => ?_)
    · subst e0
      obtain ⟨rfl, rfl⟩ := hy
      have iv : (0 : Int) + (i : Nat) = (i : Int) := Int.zero_add _
      refine ⟨_, rfl, rd_cards (hd.same s1) fun row xs hx hrow => ⟨_, _, rfl, .inr ⟨_, hx, rfl⟩, _, rfl, RgOk.of_le (by omega) (by have := hrow.1; omega) (by omega) (by omega), fun Pl hP => ?_⟩⟩
      rw [hrow.1, range_nats]
      refine ⟨_, rfl, Pl, cs.length, i, congrArg (fun z => [V.ref Pl, V.int z]) iv, SqL.of upd_same, ol, by omega, fun C ys H3 s4 hC e4 hy => ⟨C, rfl, ⟨_, SqL.of e4⟩, ?_⟩⟩
      have s3 : Sm H2 H3 := (Sm.new hP).trans s4
      have yl : ys.length = (chs cs.length i).length := hy.1
      have cl := chs_len cs.length i
      have zl := hz.1
      have zl2 := lossF_len cs r h tm (allC cs.length i)
      have al := allC_len (n := cs.length) (i := i) (by omega)
      have nFC : F ≠ C := ne_of_none ((Sm.new hP) _ _ ez) hC
      refine for_it (walk_list (xs := ys)) (fun j σ' H' => (∃ o5 o6 o7 o8 o9, σ' = [some (.ref d), some (.str r.str), some (.ref L), some (.int 1), some (.ref F), o5, o6, o7, o8, o9]) ∧ Sm H H' ∧ (∃ zs, H' F = some (.lst zs) ∧ TupsAt K H' zs (lossF cs r h tm (allC cs.length i) ++ lossF cs r h tm ((chs cs.length i).take j))) ∧ H' C = some (.lst ys) ∧ TupsAt K H' ys (chs cs.length i))
        ⟨⟨_, _, _, _, _, rfl⟩, s1.trans s3, ⟨zs, s3 _ _ ez, by rw [List.take_zero]; show TupsAt _ _ _ (_ ++ []); rw [List.append_nil]; exact hz.same s3⟩, e4, hy⟩ (fun _ _ _ _ hh => SqL.of hh.2.2.2.1) (fun j v σ1 H4 H5 hj ⟨⟨o5, o6, o7, o8, o9, e0⟩, s5, ⟨zs2, ez2, hz2⟩, eC, hy5⟩ hyy => ?_) (fun σ1 H4 ⟨⟨o5, o6, o7, o8, o9, e0⟩, s5, ⟨zs2, ez2, hz2⟩, eC, hy5⟩ => ?_)
      · subst e0
        obtain ⟨rfl, ev⟩ := hyy
        obtain ⟨ns, ens, tt, rfl, htt⟩ := hy5.at' ev
        have hns := chs_in (by omega) (List.mem_of_getElem? ens)
        have hd5 := hd.same s5
        obtain ⟨ddx, _, _, hs5, _⟩ := hd5.ex
        refine ⟨_, rfl, d, ddx, _, rfl, hs5, _, rfl, d, cs, tt, ns, rfl, hd5, ok, htt, hns.1, hns.2, fun d2 H6 s6 hd2 => ?_⟩
        have s06 := s5.trans s6
        have z2 := hz2.1
        rw [List.length_append] at z2
        have z3 := lossF_len cs r h tm ((chs cs.length i).take j)
        rw [List.length_take] at z3
        refine ⟨_, rfl, L, rfl, ⟨_, s06.seq hL⟩, fun D hD => lc_it (walk_list (xs := [V.ref t])) (fun m H' => Sm H6 H' ∧ H' D = some (.lst ((List.replicate m (decide (reach (less cs ns) r h = tm))).map V.bl))) ⟨Sm.new hD, upd_same⟩ (fun _ _ _ ⟨s7, _⟩ => (s06.trans s7).seq hL)
          (fun m v H7 H8 hm ⟨s7, e7⟩ hyy => ?_) (fun H7 ⟨s7, e7⟩ => ?_)⟩
        · obtain ⟨rfl, ev7⟩ := hyy
          have hm0 : m = 0 := by have : m < 1 := hm; omega
          subst hm0
          cases ev7
          have s08 := s06.trans s7
          refine ⟨t, _, rfl, s08.tup ht, rfl, _, _, rfl, _, _, rfl, rfl, rfl, yes_if ⟨_, rfl, _, rfl, _, rfl, d2, less cs ns, h, r, rfl, hd2.same s7, ok.less _, hu, fun p H9 s9 e9 => ⟨_, rfl, eqD_of (eTup eInt) (u := reach (less cs ns) r h) (v := tm) (by decide) (dp_intsT (SqT.of e9)) (dp_intsT ((s08.trans s9).tup hb)) (fun _ _ => trivial) (fun _ _ => trivial) ⟨_, s9 _ _ e7, (szLt0 : ([] : List V).length < sizeLine), (s7.trans s9).wr hD, upd_same⟩⟩⟩⟩
        · refine ⟨D, _, rfl, SqL.of e7, _, rfl, ?_⟩
          have hall : ∀ b : Bool, (List.replicate [V.ref t].length b).all id = b := fun b => by cases b <;> rfl
          rw [hall]
          have ez7 := s7 _ _ (s6 _ _ ez2)
          have s07 := s06.trans s7
          by_cases e : reach (less cs ns) r h = tm
          · refine ifT (dT e) ⟨_, rfl, .inl ⟨rfl, _, SqL.of ez7⟩, _, rfl, F, _, _, rfl, rfl, ez7, sizeLt (by omega), ⟨_, _, _, _, _, rfl⟩, s07.wr hF, ⟨_, upd_same, ?_⟩, ?_, ?_⟩
            · rw [take_snoc ens]
              unfold lossF at hz2 ⊢
              rw [filter_t (f := fun ns => decide (reach (less cs ns) r h = tm)) (dT e), ← List.append_assoc]
              exact Each.snoc ((hz2.same (s6.trans s7)).updL ez7) ⟨tt, rfl, SqT.updL ((s6.trans s7).tup htt) ez7⟩
            · rw [upd_ne nFC.symm]; exact s7 _ _ (s6 _ _ eC)
            · exact (hy5.same (s6.trans s7)).updL ez7
          · refine ifF (dF e) ⟨⟨_, _, _, _, _, rfl⟩, s07, ⟨_, ez7, ?_⟩, s7 _ _ (s6 _ _ eC), hy5.same (s6.trans s7)⟩
            rw [take_snoc ens]
            unfold lossF at hz2 ⊢
            rw [filter_f (f := fun ns => decide (reach (less cs ns) r h = tm)) (dF e)]
            exact hz2.same (s6.trans s7)
      · subst e0
        refine ⟨⟨_, _, _, _, _, rfl⟩, s5, zs2, ez2, ?_⟩
        rw [yl, List.take_length] at hz2
        rw [← allC_s (by omega)]
        unfold lossF at hz2 ⊢
        rw [List.filter_append]
        exact hz2
    · subst e0
      exact ⟨_, rfl, q F zs H1 s1 ez hz⟩
end
end Se
namespace Se
open PySem PySem.Spec PyProof.Rows L2
section
variable {P : Program} {w : World} {K : PySem.W.Frag} {mg : Str → Option Value} {base : Heap} {CC CD CW CG aR aW : Addr}
theorem sc_check_log : FnScope ["log", "index", "row"] ["log"] (defScope s_check_log) := C8.fnScope_by (by decide +kernel)
def sp_clog (K : PySem.W.Frag) : Sp := fun vs H Q _ => ∃ L t b h, vs = [.ref L] ∧ h ∈ uS ∧ SqL K H L [.ref t] ∧ SqT K H t [.str h, .ref b] ∧ ∀ H', Sm H H' → Q .non H'
theorem ok_check_log (T : Tx K mg CC CD CW CG aR aW) : C8.Cal P w K mg base 2 "check_log" (sp_clog K) [] := by
  refine cal_of T.d_check_log (fun _ _ _ _ _ _ us hl => match us, hl with | [_], _ => rfl) sc_check_log (fun vs H Q E h => ?_) (fun f cdv A outer s H vs Q E hr h => ?_)
  · obtain ⟨L, t, b, h, rfl, hu, hL, ht, q⟩ := h; rfl
  · obtain ⟨L, t, b, h, rfl, hu, hL, ht, q⟩ := h
    refine ⟨_, (pss_one (ps_for PassesOwn.never rfl (pi_enum (by rfl) T.b_enumerate (pa_cons (pv 0) pa_nil)) (pg_tup rfl (pgs_cons (pg_name (i := 1) sc_check_log.nd rfl (by first | exact Or.inl rfl | exact Or.inr rfl)) (pgs_cons (pg_name (i := 2) sc_check_log.nd rfl (by first | exact Or.inl rfl | exact Or.inr rfl)) pgs_nil))) (pss_one (ps_if (pt_not (pt_c (ok_is_word T) hr (by decide) (by rfl) (pa_cons (pe_ix (ix_tupK (K := K) rfl) (pv 2) pe_int (fun _ _ => rfl)) pa_nil))) pss_never pss_nil)))), ?_⟩
    refine ⟨_, rfl, L, _, rfl, hL, for_it (walk_enum (xs := [V.ref t])) (fun i σ' H' => (∃ o1 o2, σ' = [some (.ref L), o1, o2]) ∧ Sm H H') ⟨⟨_, _, rfl⟩, Sm.refl _⟩ (fun _ _ _ _ hh => hh.2.seq hL) (fun i v σ1 H1 H2 hi ⟨⟨o1, o2, e0⟩, s1⟩ hy => ?_) (fun σ1 H1 ⟨_, s1⟩ => q H1 s1)⟩
    subst e0
    obtain ⟨T', x, y, rfl, nt, rfl, ex, ey⟩ := hy
    cases ex
    have hi0 : i = 0 := by have : i < 1 := hi; omega
    subst hi0
    cases ey
    have s2 := s1.new' (o := .tup [.int ((0 : Nat) : Int), .ref t]) nt
    refine ⟨T', _, rfl, SqT.of upd_same, rfl, _, _, rfl, _, _, rfl, rfl, _, rfl, t, _, _, _, rfl, rfl, s2.tup ht, rfl, h, rfl, .inl hu, fun H3 s3 => ⟨_, rfl, ifF (nF hu) ⟨⟨_, _, rfl⟩, s2.trans s3⟩⟩⟩
theorem sc_check_all : FnScope ["rule", "log", "most"] ["rule", "log", "most"] (defScope s_check_all) := C8.fnScope_by (by decide +kernel)
def sp_call (K : PySem.W.Frag) : Sp := fun vs H Q _ => ∃ L t b h, ∃ r : Rl, vs = [.str r.str, .ref L, .int 1] ∧ h ∈ uS ∧ SqL K H L [.ref t] ∧ SqT K H t [.str h, .ref b] ∧ ∀ H', Sm H H' → Q .non H'
theorem ok_check_all (T : Tx K mg CC CD CW CG aR aW) : C8.Cal P w K mg base 3 "check_all" (sp_call K) [] := by
  refine cal_of T.d_check_all (fun _ _ _ _ _ _ us hl => match us, hl with | [_, _, _], _ => rfl) sc_check_all (fun vs H Q E h => ?_) (fun f cdv A outer s H vs Q E hr h => ?_)
  · obtain ⟨L, t, b, h, r, rfl, hu, hL, ht, q⟩ := h; rfl
  · obtain ⟨L, t, b, h, r, rfl, hu, hL, ht, q⟩ := h
    refine ⟨_, (pss_cons (ps_expr (C8.pe_c (ok_check_rule T) hr (by decide) (by rfl) (pa_cons (pv 0) pa_nil)))
      (pss_cons (ps_expr (C8.pe_c (ok_check_log T) hr (by decide) (by rfl) (pa_cons (pv 1) pa_nil)))
      (pss_one (ps_expr (C8.pe_c (ok_check_number T) hr (by decide) (by rfl) (pa_cons (pv 2) (pa_cons pe_int (pa_cons (C8.pe_gc (by rfl) T.c_MAX_LOST_traces) pa_nil)))))))), ?_⟩
    exact ⟨_, rfl, r, rfl, _, rfl, L, t, b, h, rfl, hu, hL, ht, fun H' s' => ⟨_, rfl, 1, 0, 3, rfl, by decide, q H' s'⟩⟩
theorem sc_possible_losses : FnScope ["drawer", "rule", "log", "most"] ["drawer", "rule", "log", "most"] (defScope s_possible_losses) := C8.fnScope_by (by decide +kernel)
theorem ok_possible_losses (T : Tx K mg CC CD CW CG aR aW) : C8.Cal P w K mg base 13 "possible_losses" (sp_losses K CD CC) [] := by
  refine cal_of T.d_possible_losses (fun _ _ _ _ _ _ us hl => match us, hl with | [_, _, _, _], _ => rfl) sc_possible_losses (fun vs H Q E h => ?_) (fun f cdv A outer s H vs Q E hr h => ?_)
  · obtain ⟨d, cs, h, L, t, b, tm, r, rfl, hd, ok, hu, hL, ht, hb, q⟩ := h; rfl
  · obtain ⟨d, cs, h, L, t, b, tm, r, rfl, hd, ok, hu, hL, ht, hb, q⟩ := h
    refine ⟨_, (pss_cons (ps_expr (C8.pe_c (ok_check_all T) hr (by decide) (by rfl) (pa_cons (pv 1) (pa_cons (pv 2) (pa_cons (pv 3) pa_nil)))))
      (pss_one (ps_ret (C8.pe_c (ok_losses T) hr (by decide) (by rfl) (pa_cons (pv 0) (pa_cons (pv 1) (pa_cons (pv 2) (pa_cons (pv 3) pa_nil)))))))), ?_⟩
    exact ⟨_, rfl, _, rfl, _, rfl, L, t, b, h, r, rfl, hu, hL, ht, fun H1 s1 => ⟨_, rfl, _, rfl, _, rfl, _, rfl, d, cs, h, L, t, b, tm, r, rfl, hd.same s1, ok, hu, s1.seq hL, s1.tup ht, s1.tup hb, fun p xs H2 s2 e2 hx => q p xs H2 (s1.trans s2) e2 hx⟩⟩
end
end Se
namespace Se
open PySem PySem.Spec PyProof.Rows L2
/-! ### the row: a script and three numbers -/
/-- the script, never at R -/
def SqN (K : PySem.W.Frag) (H : Hp) (S R : Addr) (xs : List V) : Prop := (S ≠ R ∧ SqL K H S xs) ∨ ∀ H' : Hp, SqL K H' S xs
theorem SqN.seq {K : PySem.W.Frag} {H : Hp} {S R : Addr} {xs : List V} (h : SqN K H S R xs) : SqL K H S xs := h.elim (fun h => h.2) fun h => h H
theorem seq_but {K : PySem.W.Frag} {H H' : Hp} {as : List Addr} {a : Addr} {xs : List V} (b : But as H H') (n : a ∉ as) (h : SqL K H a xs) : SqL K H' a xs := by
  rcases h with (h | ⟨o, h⟩) | h
  · exact .inl (.inl (b _ _ h n))
  · exact .inl (.inr ⟨o, b _ _ h n⟩)
  · exact .inr h
theorem SqN.but {K : PySem.W.Frag} {H H' : Hp} {S R : Addr} {xs : List V} (h : SqN K H S R xs) (b : But [R] H H') : SqN K H' S R xs := by
  rcases h with ⟨n, h⟩ | h
  · exact .inl ⟨n, seq_but b (fun m => n (List.mem_singleton.mp m)) h⟩
  · exact .inr h
def rowV (S : Addr) (n b c : Int) : List V := [.ref S, .int n, .int b, .int c]
structure RowS (K : PySem.W.Frag) (H : Hp) (R S : Addr) (zs : List Int) : Prop where
  ex : ∃ (n : Nat) (b c : Int), H R = some (.lst (rowV S n b c)) ∧ 0 ≤ b ∧ b < 2147483647
  sc : SqN K H S R (zs.map V.int)
theorem RowS.lst {K : PySem.W.Frag} {H : Hp} {R S : Addr} {zs : List Int} (h : RowS K H R S zs) : ∃ xs, H R = some (.lst xs) := let ⟨_, _, _, e, _⟩ := h.ex; ⟨_, e⟩
theorem RowS.same {K : PySem.W.Frag} {H H' : Hp} {R S : Addr} {zs : List Int} (h : RowS K H R S zs) (s : Sm H H') : RowS K H' R S zs := by
  obtain ⟨n, b, c, e, h2⟩ := h.ex
  exact ⟨⟨n, b, c, s _ _ e, h2⟩, h.sc.but (But.of s)⟩
theorem RowS.put {K : PySem.W.Frag} {H : Hp} {R S X : Addr} {zs : List Int} {xs ys : List V} (h : RowS K H R S zs) (n : X ≠ R) (hb : But [R] H (L2.upd H X (.lst ys))) : RowS K (L2.upd H X (.lst ys)) R S zs := by
  obtain ⟨k, b, c, e, h2⟩ := h.ex
  exact ⟨⟨k, b, c, by rw [upd_ne n.symm]; exact e, h2⟩, h.sc.but hb⟩
theorem rset1 {S : Addr} {n b c : Int} {v : Int} : (rowV S n b c).set 1 (.int v) = rowV S v b c := rfl
theorem rset2 {S : Addr} {n b c : Int} {v : Int} : (rowV S n b c).set 2 (.int v) = rowV S n v c := rfl
theorem rset3 {S : Addr} {n b c : Int} {v : Int} : (rowV S n b c).set 3 (.int v) = rowV S n b v := rfl
section
variable {P : Program} {w : World} {K : PySem.W.Frag} {mg : Str → Option Value} {base : Heap} {CC CD CW CG aR aW : Addr}
theorem sc_law_taken : FnScope ["_law_row", "_law_many", "_law_found", "_law_cell"] ["_law_row", "_law_many"] (defScope s_law_taken) := C8.fnScope_by (by decide +kernel)
def sp_taken (K : PySem.W.Frag) : Sp := fun vs H Q _ => ∃ R S zs, ∃ m : Nat, vs = [.ref R, .int m] ∧ RowS K H R S zs ∧ 0 < m ∧ m ≤ 1000 ∧ ∀ v : Nat, ∀ H', But [R] H H' → RowS K H' R S zs → v < m → Q (.int v) H'
theorem ok_law_taken (T : Tx K mg CC CD CW CG aR aW) : C8.Cal P w K mg base 1 "_law_taken" (sp_taken K) [] := by
  refine cal_of T.d_law_taken (fun _ _ _ _ _ _ us hl => match us, hl with | [_, _], _ => rfl) sc_law_taken (fun vs H Q E h => ?_) (fun f cdv A outer s H vs Q E hr h => ?_)
  · obtain ⟨R, S, zs, m, rfl, rw_, hm, hm2, q⟩ := h; rfl
  · obtain ⟨R, S, zs, m, rfl, rw_, hm, hm2, q⟩ := h
    refine ⟨_, (pss_cons (ps_if (pt_cmpR op_gt (pe_ix (ix_listK (K := K) rfl) (pv 0) pe_int (fun _ _ => rfl)) pe_int (nomark _)) (pss_cons (ps_set (i := 2) sc_law_taken.nd rfl (by first | exact Or.inl rfl | exact Or.inr rfl) (pe_op op_mod (pe_callTy call_int1 (by rfl) T.b_int (by decide +kernel) (pa_cons (pe_ix (ix_listK (K := K) rfl) (pv 0) pe_int (fun _ _ => rfl)) pa_nil)) (pv 1)))
      (pss_cons (ps_asg (pe_op op_fdiv (pe_ix (ix_listK (K := K) rfl) (pv 0) pe_int (fun _ _ => rfl)) (pv 1)) (pg_sub (pv 0) pe_int set_list))
      (pss_one (ps_ret (pv 2))))) pss_nil)
      (pss_cons (ps_asg (pe_op op_add (pe_ix (ix_listK (K := K) rfl) (pv 0) pe_int (fun _ _ => rfl)) pe_int) (pg_sub (pv 0) pe_int set_list))
      (pss_cons (ps_if (pt_cmpR op_gt (pe_ix (ix_listK (K := K) rfl) (pv 0) pe_int (fun _ _ => rfl)) (pe_callB (call_lenK (K := K) rfl) (by rfl) T.b_len PySem.boot_len (pa_cons (pe_ix (ix_listK (K := K) rfl) (pv 0) pe_int (fun _ _ => rfl)) pa_nil)) (nomark _)) (pss_cons (ps_asg (pe_op op_mod (pe_callTy call_int1 (by rfl) T.b_int (by decide +kernel) (pa_cons (pe_op op_add (pe_op op_mul (pe_ix (ix_listK (K := K) rfl) (pv 0) pe_int (fun _ _ => rfl)) pe_int) pe_int) pa_nil)) pe_int) (pg_sub (pv 0) pe_int set_list))
      (pss_one (ps_ret (pe_op op_mod (pe_callTy call_int1 (by rfl) T.b_int (by decide +kernel) (pa_cons (pe_op op_fdiv (pe_ix (ix_listK (K := K) rfl) (pv 0) pe_int (fun _ _ => rfl)) pe_int) pa_nil)) (pv 1))))) pss_nil)
      (pss_cons (ps_set (i := 3) sc_law_taken.nd rfl (by first | exact Or.inl rfl | exact Or.inr rfl) (pe_ix (ix_listK (K := K) rfl) (pe_ix (ix_listK (K := K) rfl) (pv 0) pe_int (fun _ _ => rfl)) (pe_op op_sub (pe_ix (ix_listK (K := K) rfl) (pv 0) pe_int (fun _ _ => rfl)) pe_int) (fun _ _ => rfl)))
      (pss_cons (ps_asg (pe_op op_mod (pe_callTy call_int1 (by rfl) T.b_int (by decide +kernel) (pa_cons (pe_op op_add (pe_op op_add (pe_op op_mul (pe_ix (ix_listK (K := K) rfl) (pv 0) pe_int (fun _ _ => rfl)) pe_int) (pv 3)) pe_int) pa_nil)) pe_int) (pg_sub (pv 0) pe_int set_list))
      (pss_cons (ps_asg (pe_ifExp (pt_cmpR op_ge (pv 3) (pe_op op_pow pe_int pe_int) (nomark _)) (pe_op op_fdiv (pv 3) (pv 1)) pe_int) (pg_sub (pv 0) pe_int set_list))
      (pss_one (ps_ret (pe_op op_mod (pe_callTy call_int1 (by rfl) T.b_int (by decide +kernel) (pa_cons (pv 3) pa_nil)) (pv 1)))))))))), ?_⟩
    obtain ⟨n, b, c, e, hb0, hb1⟩ := rw_.ex
    have hsc := rw_.sc
    have fin : ∀ (H' : Hp) (i : Int), But [R] H H' → (∃ (n : Nat) (b c : Int), H' R = some (.lst (rowV S n b c)) ∧ 0 ≤ b ∧ b < 2147483647) → Q (.int (i % (m : Int))) H' := fun H' i bt ex => by
      have h0 := Int.emod_nonneg i (show (m : Int) ≠ 0 by omega)
      have h1 := Int.emod_lt_of_pos i (show (0 : Int) < (m : Int) by omega)
      have := q (i % (m : Int)).toNat H' bt ⟨ex, hsc.but bt⟩ (by omega)
      rwa [Int.toNat_of_nonneg h0] at this
    have u0 : But [R] H H := But.of (Sm.refl H)
    refine ⟨_, rfl, R, _, _, _, rfl, rfl, SqL.of e, rfl, _, _, rfl, rfl, _, rfl, ?_⟩
    by_cases hc : 0 < c
    · refine ifT (dT hc) ⟨_, rfl, R, _, _, _, rfl, rfl, SqL.of e, rfl, .inl ⟨_, rfl, _, rfl, _, _, rfl, rfl, by omega, ?_⟩⟩
      refine ⟨_, rfl, R, _, _, _, rfl, rfl, SqL.of e, rfl, _, rfl, _, _, rfl, rfl, ⟨by omega, by omega⟩, _, rfl, R, _, _, 3, rfl, rfl, e, rfl, ?_⟩
      exact ⟨_, rfl, fin _ _ (u0.wr List.mem_cons_self) ⟨n, b, _, upd_same, hb0, hb1⟩⟩
    · refine ifF (dF hc) ⟨_, rfl, R, _, _, _, rfl, rfl, SqL.of e, rfl, _, _, rfl, rfl, _, rfl, R, _, _, 1, rfl, rfl, e, rfl, ?_⟩
      have e1 : upd H R (.lst (rowV S ((n + 1 : Nat) : Int) b c)) R = some (.lst (rowV S ((n + 1 : Nat) : Int) b c)) := upd_same
      have u1 : But [R] H (upd H R (.lst (rowV S ((n + 1 : Nat) : Int) b c))) := u0.wr List.mem_cons_self
      have s1 := (hsc.but u1).seq
      refine ⟨_, rfl, R, _, _, _, rfl, rfl, SqL.of e1, rfl, _, rfl, R, _, _, _, rfl, rfl, SqL.of e1, rfl, _, _, rfl, .inl ⟨_, s1, rfl⟩, _, _, rfl, rfl, _, rfl, ?_⟩
      rw [List.length_map]
      by_cases hn : zs.length < n + 1
      · refine ifT (dT (by omega)) ⟨_, rfl, R, _, _, _, rfl, rfl, SqL.of e1, rfl, _, _, rfl, rfl, .inl ⟨by omega, by omega⟩, _, _, rfl, rfl, .inl ⟨_, rfl, _, _, rfl, rfl, (by show (0 : Int) < 2147483647; decide), _, rfl, R, _, _, 2, rfl, rfl, e1, rfl, ?_⟩⟩
        refine ⟨_, rfl, R, _, _, _, rfl, rfl, SqL.of upd_same, rfl, _, _, rfl, rfl, ⟨by decide, by decide⟩, .inl ⟨_, rfl, _, rfl, _, _, rfl, rfl, by omega, fin _ _ (u1.wr List.mem_cons_self) ⟨n + 1, _, c, upd_same, Int.emod_nonneg _ (by decide), Int.emod_lt_of_pos _ (by decide)⟩⟩⟩
      · obtain ⟨z, hz⟩ := get_of_lt (l := zs) (i := n) (by omega)
        have hz2 : (zs.map V.int)[n]? = some (.int z) := by rw [List.getElem?_map, hz]; rfl
        have ni : ((n + 1 : Nat) : Int) - 1 = (n : Int) := by omega
        refine ifF (dF (by omega)) ⟨_, rfl, R, _, _, _, rfl, rfl, SqL.of e1, rfl, _, rfl, R, _, _, _, rfl, rfl, SqL.of e1, rfl, _, _, rfl, rfl, S, _, _, _, rfl, rfl, s1, (by rw [ni]; exact atI_nat hz2), ?_⟩
        refine ⟨_, rfl, R, _, _, _, rfl, rfl, SqL.of e1, rfl, _, _, rfl, rfl, .inl ⟨by omega, by omega⟩, _, rfl, _, _, rfl, rfl, _, _, rfl, rfl, .inl ⟨_, rfl, _, _, rfl, rfl, (by show (0 : Int) < 2147483647; decide), _, rfl, R, _, _, 2, rfl, rfl, e1, rfl, ?_⟩⟩
        have nb0 := Int.emod_nonneg (b * 48271 + z + 11) (show (2147483647 : Int) ≠ 0 by decide)
        have nb1 := Int.emod_lt_of_pos (b * 48271 + z + 11) (show (0 : Int) < 2147483647 by decide)
        have e2 : upd (upd H R (.lst (rowV S ((n + 1 : Nat) : Int) b c))) R (.lst (rowV S ((n + 1 : Nat) : Int) ((b * 48271 + z + 11) % 2147483647) c)) R = some (.lst (rowV S ((n + 1 : Nat) : Int) ((b * 48271 + z + 11) % 2147483647) c)) := upd_same
        refine ⟨_, rfl, _, _, rfl, rfl, ⟨by decide, by decide, by decide⟩, _, _, rfl, rfl, _, rfl, ?_⟩
        by_cases hz3 : (10 : Int) ^ 18 ≤ z
        · refine ifT (dT hz3) ⟨_, rfl, _, rfl, _, _, rfl, rfl, ⟨by omega, by omega⟩, _, rfl, R, _, _, 3, rfl, rfl, e2, rfl, ?_⟩
          exact ⟨_, rfl, .inl ⟨_, rfl, _, rfl, _, _, rfl, rfl, by omega, fin _ _ ((u1.wr List.mem_cons_self).wr List.mem_cons_self) ⟨n + 1, _, _, upd_same, nb0, nb1⟩⟩⟩
        · refine ifF (dF hz3) ⟨_, rfl, R, _, _, 3, rfl, rfl, e2, rfl, ?_⟩
          exact ⟨_, rfl, .inl ⟨_, rfl, _, rfl, _, _, rfl, rfl, by omega, fin _ _ ((u1.wr List.mem_cons_self).wr List.mem_cons_self) ⟨n + 1, _, _, upd_same, nb0, nb1⟩⟩⟩
end
end Se
namespace Se
open PySem PySem.Spec PyProof.Rows L2
section
variable {P : Program} {w : World} {K : PySem.W.Frag} {mg : Str → Option Value} {base : Heap} {CC CD CW CG aR aW : Addr}
theorem sc_law_pick : FnScope ["_law_row", "_law_some"] ["_law_row", "_law_some"] (defScope s_law_pick) := C8.fnScope_by (by decide +kernel)
def sp_pick (K : PySem.W.Frag) : Sp := fun vs H Q _ => ∃ R S zs L ns, vs = [.ref R, .ref L] ∧ RowS K H R S zs ∧ SqL K H L (ns.map V.str) ∧ L ≠ R ∧ ns ≠ [] ∧ ns.length ≤ 1000 ∧ ∀ x H', But [R] H H' → RowS K H' R S zs → x ∈ ns → Q (.str x) H'
theorem ok_law_pick (T : Tx K mg CC CD CW CG aR aW) : C8.Cal P w K mg base 2 "_law_pick" (sp_pick K) [] := by
  refine cal_of T.d_law_pick (fun _ _ _ _ _ _ us hl => match us, hl with | [_, _], _ => rfl) sc_law_pick (fun vs H Q E h => ?_) (fun f cdv A outer s H vs Q E hr h => ?_)
  · obtain ⟨R, S, zs, L, ns, rfl, rw_, hL, nLR, ne, hl, q⟩ := h; rfl
  · obtain ⟨R, S, zs, L, ns, rfl, rw_, hL, nLR, ne, hl, q⟩ := h
    refine ⟨_, (pss_one (ps_ret (pe_ix (ix_listK (K := K) rfl) (pv 1) (C8.pe_c (ok_law_taken T) hr (by decide) (by rfl) (pa_cons (pv 0) (pa_cons (pe_callB (call_lenK (K := K) rfl) (by rfl) T.b_len PySem.boot_len (pa_cons (pv 1) pa_nil)) pa_nil))) (fun _ _ => rfl)))), ?_⟩
    have hp : 0 < ns.length := List.length_pos_iff.mpr ne
    refine ⟨_, rfl, _, rfl, _, rfl, _, _, rfl, .inl ⟨_, hL, rfl⟩, R, S, zs, ns.length, (by rw [List.length_map]; rfl), rw_, hp, hl, fun v H1 b1 r1 hv => ?_⟩
    obtain ⟨x, hx⟩ := get_of_lt hv
    exact ⟨L, _, _, _, rfl, rfl, seq_but b1 (fun m => nLR (List.mem_singleton.mp m)) hL, atI_nat (j := v) (by rw [List.getElem?_map, hx]; rfl), q x H1 b1 r1 (List.mem_of_getElem? hx)⟩
theorem sc_law_mixed : FnScope ["_law_row", "_law_things", "_law_left", "_law_found"] ["_law_row", "_law_things"] (defScope s_law_mixed) := C8.fnScope_by (by decide +kernel)
def sp_mixed (K : PySem.W.Frag) : Sp := fun vs H Q _ => ∃ R S zs L ns, vs = [.ref R, .ref L] ∧ RowS K H R S zs ∧ SqL K H L (ns.map V.str) ∧ ns.length ≤ 500 ∧ (∀ n ∈ ns, n ∈ uS) ∧ ∀ ys p H', But [R] H H' → RowS K H' R S zs → List.Perm ys ns → H p = none → H' p = some (.lst (ys.map V.str)) → Q (.ref p) H'
theorem erase_perm {α : Type} : ∀ (l : List α) (v : Nat) (x : α), l[v]? = some x → (x :: l.eraseIdx v).Perm l
  | [], _, _, e => by simp at e
  | y :: l, 0, x, e => by
    have : y = x := by simpa using e
    rw [this]; exact List.Perm.refl _
  | y :: l, v + 1, x, e => by
    show (x :: y :: l.eraseIdx v).Perm (y :: l)
    exact (List.Perm.swap y x _).trans (List.Perm.cons y (erase_perm l v x (by simpa using e)))
theorem map_erase {α β : Type} {f : α → β} : ∀ (l : List α) (v : Nat), (l.map f).eraseIdx v = (l.eraseIdx v).map f
  | [], _ => rfl
  | _ :: _, 0 => rfl
  | y :: l, v + 1 => by
    show f y :: (l.map f).eraseIdx v = f y :: (l.eraseIdx v).map f
    rw [map_erase l v]
theorem perm_pop {α : Type} {l f n : List α} {x : α} {v : Nat} (h : (f ++ l).Perm n) (e : l[v]? = some x) : ((f ++ [x]) ++ l.eraseIdx v).Perm n := by
  refine List.Perm.trans ?_ h
  rw [List.append_assoc]
  exact List.Perm.append_left f (erase_perm l v x e)
theorem upd_but {H H' : Hp} {as : List Addr} {X : Addr} {o : HO} (b : But as H H') (n : H X = none) : But as H (upd H' X o) := fun c u e m => by
  rw [upd_ne (ne_of_none e n)]; exact b c u e m
theorem ok_law_mixed (T : Tx K mg CC CD CW CG aR aW) : C8.Cal P w K mg base 2 "_law_mixed" (sp_mixed K) [] := by
  refine cal_of T.d_law_mixed (fun _ _ _ _ _ _ us hl => match us, hl with | [_, _], _ => rfl) sc_law_mixed (fun vs H Q E h => ?_) (fun f cdv A outer s H vs Q E hr h => ?_)
  · obtain ⟨R, S, zs, L, ns, rfl, rw_, hL, hl, hu, q⟩ := h; rfl
  · obtain ⟨R, S, zs, L, ns, rfl, rw_, hL, hl, hu, q⟩ := h
    refine ⟨_, (pss_cons (ps_par (i := 2) (j := 3) rfl sc_law_mixed.nd rfl rfl (by decide) rfl rfl (pa_cons (pe_callTy (call_listK (K := K) rfl) (by rfl) T.b_list (by decide +kernel) (pa_cons (pv 1) pa_nil)) (pa_cons (pe_lst pa_nil) pa_nil)) (by rfl))
      (pss_cons (ps_while PassesOwn.never (pt_cmpR (op_neDK (K := K) rfl hr.units) (pv 2) (pe_lst pa_nil) (nomark _)) (pss_one (ps_expr (pe_bm PySem.F.plainAttrs_list PySem.F.slot_list_append PySem.F.type_list_append mt_append (pv 3) (pa_cons (pe_bm PySem.F.plainAttrs_list PySem.F.slot_list_pop PySem.F.type_list_pop mt_popAt (pv 2) (pa_cons (C8.pe_c (ok_law_taken T) hr (by decide) (by rfl) (pa_cons (pv 0) (pa_cons (pe_callB (call_lenK (K := K) rfl) (by rfl) T.b_len PySem.boot_len (pa_cons (pv 2) pa_nil)) pa_nil))) pa_nil)) pa_nil)))))
      (pss_one (ps_ret (pv 3))))), ?_⟩
    refine ⟨_, rfl, L, _, rfl, .inl hL, fun A1 hA => ⟨szl rfl, fun F hF => ⟨_, _, rfl, ?_⟩⟩⟩
    obtain ⟨rx, eR⟩ := rw_.lst
    have sA : Sm H (upd H A1 (.lst (ns.map V.str))) := Sm.new hA
    have hF0 : H F = none := sA.free hF
    have nAF : A1 ≠ F := ne_of_none upd_same hF
    have nAR : A1 ≠ R := (ne_of_none eR hA).symm
    have nFR : F ≠ R := (ne_of_none eR hF0).symm
    have s0 := sA.new' (o := .lst []) hF
    refine while_m (fun m σ' H' => ∃ l f, σ' = [some (.ref R), some (.ref L), some (.ref A1), some (.ref F)] ∧ But [R] H H' ∧ RowS K H' R S zs ∧ H' A1 = some (.lst (l.map V.str)) ∧ H' F = some (.lst (f.map V.str)) ∧ (f ++ l).Perm ns ∧ m = l.length)
      ns.length ⟨ns, [], rfl, But.of s0, rw_.same s0, by rw [upd_ne nAF, upd_same], upd_same, List.Perm.refl _, rfl⟩ (fun m σ1 H1 ⟨l, f, e0, b1, r1, eA, eF, pm, em⟩ => ?_) ?_
    · subst e0 em
      have pl := pm.length_eq
      rw [List.length_append] at pl
      refine ⟨_, rfl, szl rfl, fun t ht => neD_of (eList eStr) (u := l) (v := []) (by decide) (dp_strsL (SqL.of ((Sm.new ht) _ _ eA))) (dp_nilL eStr upd_same) (fun x hx => uS_ok (hu x (pm.mem_iff.mp (List.mem_append_right _ hx)))) (fun _ hx => (nomatch hx)) ⟨_, rfl, ?_⟩⟩
      have s1 : Sm H1 (upd H1 t (.lst [])) := Sm.new ht
      have b2 := b1.trans (But.of s1)
      have r2 := r1.same s1
      by_cases en : l = []
      · subst en
        rw [List.append_nil] at pm
        exact ifF (nF rfl) ⟨_, rfl, q f F _ b2 r2 pm hF0 (s1 _ _ eF)⟩
      · have hl0 : 0 < l.length := List.length_pos_iff.mpr en
        refine ifT (nT en) ⟨_, rfl, .inl ⟨rfl, _, SqL.of (s1 _ _ eF)⟩, _, rfl, .inl ⟨rfl, _, SqL.of (s1 _ _ eA)⟩, _, rfl, _, rfl, _, _, rfl, .inl ⟨_, SqL.of (s1 _ _ eA), rfl⟩, R, S, zs, l.length, (by rw [List.length_map]; rfl), r2, hl0, by omega, fun v H3 b3 r3 hv => ?_⟩
        obtain ⟨x, hx⟩ := get_of_lt hv
        have eA3 : H3 A1 = some (.lst (l.map V.str)) := b3 _ _ (s1 _ _ eA) fun mm => nAR (List.mem_singleton.mp mm)
        have eF3 : H3 F = some (.lst (f.map V.str)) := b3 _ _ (s1 _ _ eF) fun mm => nFR (List.mem_singleton.mp mm)
        have b03 := b2.trans b3
        have sq : seqIndex? (v : Int) (l.map V.str).length = some v := (ixN_seq (j := v) (by unfold ixN; rw [if_pos (by omega), if_pos (by rw [List.length_map]; omega)]; simp)).1
        refine ⟨A1, _, v, v, .str x, rfl, rfl, eA3, by omega, by omega, sq, by rw [List.getElem?_map, hx]; rfl, ?_⟩
        rw [map_erase]
        have eF4 : upd H3 A1 (.lst ((l.eraseIdx v).map V.str)) F = some (.lst (f.map V.str)) := by rw [upd_ne nAF.symm]; exact eF3
        have b4 : But [R] H (upd H3 A1 (.lst ((l.eraseIdx v).map V.str))) := upd_but b03 hA
        have b4' : But [R] H3 (upd H3 A1 (.lst ((l.eraseIdx v).map V.str))) → True := fun _ => trivial
        refine ⟨F, _, _, rfl, rfl, eF4, sizeLt (by rw [List.length_map]; omega), ?_⟩
        have b5 : But [R] H (upd (upd H3 A1 (.lst ((l.eraseIdx v).map V.str))) F (.lst (f.map V.str ++ [.str x]))) := upd_but b4 hF0
        obtain ⟨n3, bb, cc, e3, hb3⟩ := r3.ex
        refine ⟨(l.eraseIdx v).length, ?_, l.eraseIdx v, f ++ [x], rfl, b5, ⟨⟨n3, bb, cc, ?_, hb3⟩, rw_.sc.but b5⟩, ?_, ?_, perm_pop pm hx, rfl⟩
        · have := List.length_eraseIdx_of_lt hv; omega
        · rw [upd_ne nFR.symm, upd_ne nAR.symm]; exact e3
        · rw [upd_ne nAF, upd_same]
        · rw [upd_same, List.map_append]; rfl
    · rintro σ H Q Q' f ⟨v1, h1, z, hp⟩
      refine ⟨v1, h1, z, fun p hn => ?_⟩
      obtain ⟨d1, d2, i1, i2, i3, i4, k, i5, i6⟩ := hp p hn
      exact ⟨d1, d2, i1, i2, i3, i4, k, i5, f _ _ i6⟩
end
end Se
namespace Se
open PySem PySem.Spec PyProof.Rows L2
section
variable {P : Program} {w : World} {K : PySem.W.Frag} {mg : Str → Option Value} {base : Heap} {CC CD CW CG aR aW : Addr}
/-! ### _law_drawer -/

theorem kb_Card (T : Tx K mg CC CD CW CG aR aW) : ∃ (f : Addr) (fd : FuncData) (its : List Value), Mk K CC f ∧ FnOk P w K mg base C8.CX0 3 f fd ["self", "heading", "books", "see", "also"] (sp_Card K CC) ∧ mg "Card" = some (.ref CC) ∧
    KBn K fd ["self", "heading", "books", "see", "also"] 2 ["books", "see", "also"] (fun us ws => us ++ ws) (fun vs zs => vs ++ zs) := by
  obtain ⟨f, fd, T1, T2, F, M, hm⟩ := T.i_Card
  obtain ⟨its, kb⟩ := F.kbindsD (ps := ["self", "heading", "books", "see", "also"]) 2 ["books", "see", "also"] (fun us _ ws => us ++ ws) (by simp) (fun r1 _ r3 => r1.append r3) (fun T kV doc pm an cdv ct us its ws h1 h2 h3 => by
    match us, its, ws, h1, h2, h3 with
    | [_, _], [_, _, _], [_, _, _], _, _, _ => exact ⟨_, rfl, rfl⟩)
  refine ⟨f, fd, its, M, ?_, hm, kb⟩
  refine F.ok sc_Card_init (fun vs H Q E h => ?_) fun cdv A outer s H vs Q E hr h => ?_
  · obtain ⟨a, dx, b, l, c, rfl, _⟩ := h; rfl
  · obtain ⟨t, h1, h2⟩ := body_Card T f cdv A outer s H vs Q E hr h
    exact ⟨t, h1.nox, h2⟩
theorem sc_law_drawer : FnScope ["_law_some", "_law_one"] ["_law_some"] (defScope s_law_drawer) := C8.fnScope_by (by decide +kernel)
def sp_ldrawer (K : PySem.W.Frag) (CD CC : Addr) : Sp := fun vs H Q _ => ∃ l cs, vs = [.ref l] ∧ SomeAt K H l cs ∧ Ok cs ∧ ∀ d H', Sm H H' → DrawAt K CD CC H' d cs → Q (.ref d) H'
theorem SomeAt.at_ {H : Hp} {l : Addr} {cs : List CardD} (h : SomeAt K H l cs) : ∃ xs, SqL K H l xs ∧ SomeL K H xs cs := h.ex
theorem ok_law_drawer (T : Tx K mg CC CD CW CG aR aW) : C8.Cal P w K mg base 5 "_law_drawer" (sp_ldrawer K CD CC) [] := by
  obtain ⟨fC, fdC, itsC, MC, FC, gC, KB⟩ := kb_Card (P := P) (w := w) (base := base) T
  refine cal_of T.d_law_drawer (fun _ _ _ _ _ _ us hl => match us, hl with | [_], _ => rfl) sc_law_drawer (fun vs H Q E h => ?_) (fun f cdv A outer s H vs Q E hr h => ?_)
  · obtain ⟨l, cs, rfl, hs, ok, q⟩ := h; rfl
  · obtain ⟨l, cs, rfl, hs, ok, q⟩ := h
    refine ⟨_, (pss_one (ps_ret (C8.pe_mk (mk_Drawer_init T) hr (by decide) (by rfl) (pa_cons (pe_tupleK (K := K) rfl (by rfl) T.b_tuple (pe_lc (own := [("_law_one", 1)]) (g := (gName 1)) (tt := tYes) rfl sc_law_drawer.nd (pi_list (pv 0)) (blkOk_by (own := [("_law_one", 1)]) (N := ["_law_some", "_law_one"]) (sc := defScope s_law_drawer) (by decide +kernel)) (fun _ _ _ _ _ => (pg_name (i := 1) sc_law_drawer.nd rfl (by first | exact Or.inl rfl | exact Or.inr rfl))) (fun _ _ _ _ _ => pts_nil) (fun _ _ _ _ _ => (pe_makeN (E := C8.E0) MC FC hr (by rfl) gC KB C8.pass0 (pa_cons (pe_ix (ix_tupK (K := K) rfl) (pv 1) pe_int (fun _ _ => rfl)) pa_nil) (pk_cons (pe_ix (ix_tupK (K := K) rfl) (pv 1) pe_int (fun _ _ => rfl)) (pk_cons (pe_ix (ix_tupK (K := K) rfl) (pv 1) pe_int (fun _ _ => rfl)) (pk_cons (pe_ix (ix_tupK (K := K) rfl) (pv 1) pe_int (fun _ _ => rfl)) pk_nil))))))) pa_nil)))), ?_⟩
    have ol := ok.len
    obtain ⟨xs, hl, hx⟩ := hs.ex
    have len := hx.1
    refine ⟨_, rfl, l, rfl, ⟨_, hl⟩, fun D hD => lc_it (walk_list (xs := xs)) (fun i H' => Sm H H' ∧ ∃ ys, H' D = some (.lst ys) ∧ RowAt K CC H' ys (cs.take i)) ⟨Sm.new hD, [], upd_same, Each.nil⟩ (fun i H' _ ⟨s1, _⟩ => s1.seq hl)
      (fun i v H1 H2 hi ⟨s1, ys, e1, hy1⟩ hy => ?_) (fun H1 ⟨s1, ys, e1, hy1⟩ => ?_)⟩
    · obtain ⟨rfl, ev⟩ := hy
      obtain ⟨c, hc, f, rfl, b, al, hf, hb, hal⟩ := hx.at' ev
      have hf1 := s1.tup hf
      have yl := hy1.1
      rw [List.length_take] at yl
      refine ⟨rfl, yes_if ⟨_, rfl, f, _, _, _, rfl, rfl, hf1, rfl, _, rfl, f, _, _, _, rfl, rfl, hf1, rfl, _, rfl, f, _, _, _, rfl, rfl, hf1, rfl, _, rfl, f, _, _, _, rfl, rfl, hf1, rfl, rfl, rfl, fun x dx nx ndx ne => ?_⟩⟩
      have sm := makeS (C := CC) nx ndx ne
      refine ⟨x, dx, b, al, c, rfl, ok.at hc, NewI.of ne, sm.tup (s1.tup hb), sm.tup (s1.tup hal), fun H3 b3 hca => ⟨rfl, ys, ?_⟩⟩
      have s3 : Sm H2 H3 := fun a o e => b3 a o (sm a o e) fun m => by
        rcases List.mem_cons.mp m with z | m
        · exact ne_of_none e nx z
        · exact ne_of_none e ndx (List.mem_singleton.mp m)
      have eD := s3 _ _ e1
      refine ⟨eD, sizeLt (by omega), (s1.trans s3).wr hD, _, upd_same, ?_⟩
      rw [take_snoc hc]
      exact Each.snoc ((hy1.same s3).updL eD) ⟨x, rfl, hca.updL eD⟩
    · rw [len, List.take_length] at hy1
      refine .inl ⟨D, ys, rfl, SqL.of e1, fun t ht x dx' nx ndx ne => ?_⟩
      have s3 : Sm H1 (upd H1 t (.tup ys)) := Sm.new ht
      have s4 := makeS (C := CD) nx ndx ne
      have s5 : Sm (upd H1 t (.tup ys)) (SlX.slH (upd (upd (upd H1 t (.tup ys)) dx' (.own x)) x (.ins CD dx' [])) x CD dx' [some (.ref t)]) := Sm.made nx ndx ne
      have hl3 := hy1.1
      refine ⟨x, dx', t, ys, rfl, NewI.of ne, SqT.of (s4 _ _ upd_same), by omega, rfl, q x _ (s1.trans (s3.trans s5)) ⟨dx', t, ys, SlX.slH_slt ne, SqT.of (s5 _ _ upd_same), hy1.same (s3.trans s5)⟩⟩
/-! ### _law_looked -/
theorem sc_law_looked : FnScope ["_law_some", "_law_rule", "_law_heading", "_law_met", "_law_low", "_law_high", "_law_turn", "_law_here"] ["_law_some", "_law_rule", "_law_heading"] (defScope s_law_looked) := C8.fnScope_by (by decide +kernel)
def sp_llook (K : PySem.W.Frag) : Sp := fun vs H Q _ => ∃ l cs h, ∃ r : Rl, vs = [.ref l, .str r.str, .str h] ∧ SomeAt K H l cs ∧ Ok cs ∧ LookQ K H Q (look cs r h)
theorem rl_nall {r : Rl} : (!decide (V.str r.str = V.str "all")) = !decide (r = .all) := by rw [rl_all]
theorem ok_law_looked (T : Tx K mg CC CD CW CG aR aW) : C8.Cal P w K mg base 1 "_law_looked" (sp_llook K) [] := by
  refine cal_of T.d_law_looked (fun _ _ _ _ _ _ us hl => match us, hl with | [_, _, _], _ => rfl) sc_law_looked (fun vs H Q E h => ?_) (fun f cdv A outer s H vs Q E hr h => ?_)
  · obtain ⟨l, cs, h, r, rfl, hs, ok, q⟩ := h; rfl
  · obtain ⟨l, cs, h, r, rfl, hs, ok, q⟩ := h
    refine ⟨_, (pss_cons (ps_par3 (i := 3) (j := 4) (l := 5) rfl sc_law_looked.nd rfl rfl rfl (by decide) (by decide) (by decide) rfl rfl rfl (pa_cons (pe_lst pa_nil) (pa_cons pe_int (pa_cons (pe_callB (call_lenK (K := K) rfl) (by rfl) T.b_len PySem.boot_len (pa_cons (pv 0) pa_nil)) pa_nil))) (by rfl))
      (pss_cons (ps_for PassesOwn.never rfl (pi_range1 (by rfl) T.b_range (pa_cons (pe_op op_add (pe_callB (call_lenK (K := K) rfl) (by rfl) T.b_len PySem.boot_len (pa_cons (pv 0) pa_nil)) pe_int) pa_nil)) (pg_name (i := 6) sc_law_looked.nd rfl (by first | exact Or.inl rfl | exact Or.inr rfl)) (pss_cons (ps_if (pt_cmpR op_ge (pv 4) (pv 5) (nomark _)) (pss_one (ps_ret (pe_tup (pa_cons pe_non (pa_cons (pe_tupleK (K := K) rfl (by rfl) T.b_tuple (pv 3)) pa_nil))))) pss_nil)
      (pss_cons (ps_set (i := 7) sc_law_looked.nd rfl (by first | exact Or.inl rfl | exact Or.inr rfl) (pe_cut (pe_ifExp (pt_cmpR op_eq (pv 1) pe_str (nomark _)) (pe_op op_fdiv (pe_op op_sub (pe_op op_add (pv 4) (pv 5)) pe_int) pe_int) (pv 4))))
      (pss_cons (ps_expr (pe_bm PySem.F.plainAttrs_list PySem.F.slot_list_append PySem.F.type_list_append mt_append (pv 3) (pa_cons (pv 7) pa_nil)))
      (pss_cons (ps_if (pt_cmpR op_eq (pe_ix (ix_tupK (K := K) rfl) (pe_ix (ix_listK (K := K) rfl) (pv 0) (pv 7) (fun _ _ => rfl)) pe_int (fun _ _ => rfl)) (pv 2) (nomark _)) (pss_one (ps_ret (pe_tup (pa_cons (pv 7) (pa_cons (pe_tupleK (K := K) rfl (by rfl) T.b_tuple (pv 3)) pa_nil))))) pss_nil)
      (pss_one (ps_if (PW.pt (pw_and (pt_cmpR op_gt_str (pe_ix (ix_tupK (K := K) rfl) (pe_ix (ix_listK (K := K) rfl) (pv 0) (pv 7) (fun _ _ => rfl)) pe_int (fun _ _ => rfl)) (pv 2) (nomark _)) (pw_and1 (pt_cmpR op_ne (pv 1) pe_str (nomark _))))) (pss_one (ps_set (i := 5) sc_law_looked.nd rfl (by first | exact Or.inl rfl | exact Or.inr rfl) (pe_cut (pe_ifExp (pt_cmpR op_eq (pv 1) pe_str (nomark _)) (pv 7) (pv 4))))) (pss_one (ps_set (i := 4) sc_law_looked.nd rfl (by first | exact Or.inl rfl | exact Or.inr rfl) (pe_op op_add (pv 7) pe_int))))))))))
      (pss_one (ps_ret (pe_tup (pa_cons pe_non (pa_cons (pe_tupleK (K := K) rfl (by rfl) T.b_tuple (pv 3)) pa_nil))))))), ?_⟩
    have ol := ok.len
    obtain ⟨xs, hl, hx⟩ := hs.ex
    have len := hx.1
    refine ⟨szl rfl, fun M hM => ⟨_, rfl, _, _, rfl, .inl ⟨_, (Sm.new hM).seq hl, rfl⟩, _, _, _, rfl, _, rfl, _, _, rfl, .inl ⟨_, (Sm.new hM).seq hl, rfl⟩, _, _, rfl, rfl, _, rfl, by omega, by omega, ?_⟩⟩
    have ret : ∀ (o : Option Nat) (H' : Hp) (ms : List V), Sm H H' → H' M = some (.lst ms) → ms.length ≤ 17 → (o = look cs r h) → kTup K (.ref M) H' fun x H2 => [optV o, x].length ≤ sizeLine ∧ ∀ p, H2 p = none → Q (.ref p) (upd H2 p (.tup [optV o, x])) := fun o H' ms s' e' ml eo => by
      refine .inl ⟨M, ms, rfl, SqL.of e', fun t ht => ⟨szl rfl, fun p hp => ?_⟩⟩
      refine q p t ms _ ((s'.new' ht).new' hp) (SqT.of (by rw [upd_same, eo])) (SqT.of ?_) ml
      rw [upd_ne (ne_of_none upd_same hp), upd_same]
    refine for_it (walk_range (lo := 0) (n := xs.length + 1)) (fun i σ' H' => ∃ lo hi : Nat, ∃ ms : List V, (∃ o6 o7, σ' = [some (.ref l), some (.str r.str), some (.str h), some (.ref M), some (.int lo), some (.int hi), o6, o7]) ∧ hi ≤ cs.length ∧ Sm H H' ∧ H' M = some (.lst ms) ∧ ms.length ≤ i ∧ look cs r h = lookF cs r h (cs.length + 1 - i) lo hi)
      ⟨0, xs.length, [], ⟨_, _, rfl⟩, by omega, Sm.new hM, upd_same, Nat.le_refl _, by rw [len]; rfl⟩ (fun _ _ _ _ _ => trivial) (fun i v σ1 H1 H2 hi ⟨lo, hh, ms, ⟨o6, o7, e0⟩, b1, s1, e1, ml, el⟩ hy => ?_) (fun σ1 H1 ⟨lo, hh, ms, ⟨o6, o7, e0⟩, b1, s1, e1, ml, el⟩ => ?_)
    · subst e0
      obtain ⟨rfl, rfl⟩ := hy
      refine ⟨_, rfl, _, rfl, _, _, rfl, rfl, _, rfl, ?_⟩
      by_cases hl2 : lo < hh
      · refine ifF (dF (by omega)) ?_
        have m1 := mid_lo (r := r) hl2
        have m2 := mid_hi (r := r) hl2
        obtain ⟨c, hc⟩ := get_of_lt (l := cs) (i := mid r lo hh) (by omega)
        obtain ⟨v, ev, f, rfl, b, al, hf, hb, hal⟩ := hx.at hc
        obtain ⟨k, hk⟩ : ∃ k, cs.length + 1 - i = k + 1 := ⟨cs.length - i, by omega⟩
        rw [hk] at el
        refine ⟨fun x H3 => x = .int (mid r lo hh : Nat) ∧ H3 = H2, ?_, ?_⟩
        · refine ⟨_, rfl, rfl, _, rfl, ?_⟩
          by_cases er : r = .half
          · refine ifT (by rw [rl_half]; exact dT er) ⟨_, rfl, _, rfl, _, _, rfl, rfl, _, _, rfl, rfl, _, _, rfl, rfl, ⟨by decide, by decide⟩, ?_, rfl⟩
            subst er
            show V.int (((lo : Int) + (hh : Int) - 1) / 2) = _
            unfold mid
            rw [if_pos rfl]
            congr 1
            omega
          · refine ifF (by rw [rl_half]; exact dF er) ⟨_, rfl, ?_, rfl⟩
            unfold mid
            rw [if_neg er]
        · rintro x H3 ⟨rfl, rfl⟩
          refine ⟨_, rfl, .inl ⟨rfl, _, SqL.of e1⟩, _, rfl, M, _, _, rfl, rfl, e1, sizeLt (by omega), ?_⟩
          have s2 : Sm H (upd H3 M (.lst (ms ++ [.int (mid r lo hh : Nat)]))) := s1.wr hM
          have hf2 := s2.tup hf
          have hl3 := s2.seq hl
          refine ⟨_, rfl, _, rfl, l, _, _, _, rfl, rfl, hl3, atI_nat ev, f, _, _, _, rfl, rfl, hf2, rfl, _, rfl, rfl, _, rfl, ?_⟩
          by_cases eh : c.h = h
          · refine ifT (dT (congrArg V.str eh)) ⟨_, rfl, _, rfl, ret (some (mid r lo hh)) _ _ s2 upd_same (by rw [List.length_append]; simp; omega) ?_⟩
            rw [el, lookF_hit hl2 hc eh]
          · refine ifF (dF (str_ne eh)) ⟨_, rfl, _, rfl, l, _, _, _, rfl, rfl, hl3, atI_nat ev, f, _, _, _, rfl, rfl, hf2, rfl, _, rfl, _, _, rfl, rfl, _, rfl, ?_⟩
            have hk2 : cs.length + 1 - (i + 1) = k := by omega
            have on : ¬ (sgt c.h h = true ∧ r ≠ .all) → ∃ lo' hh' : Nat, ∃ ms' : List V, (∃ o6 o7, [some (V.ref l), some (.str r.str), some (.str h), some (.ref M), some (.int ((mid r lo hh : Nat) + 1 : Int)), some (.int hh), some (.int (0 + (i : Nat))), some (.int (mid r lo hh : Nat))] = [some (.ref l), some (.str r.str), some (.str h), some (.ref M), some (.int lo'), some (.int hh'), o6, o7]) ∧ hh' ≤ cs.length ∧ Sm H (upd H3 M (.lst (ms ++ [.int (mid r lo hh : Nat)]))) ∧ upd H3 M (.lst (ms ++ [.int (mid r lo hh : Nat)])) M = some (.lst ms') ∧ ms'.length ≤ i + 1 ∧ look cs r h = lookF cs r h (cs.length + 1 - (i + 1)) lo' hh' := fun z =>
              ⟨mid r lo hh + 1, hh, _, ⟨_, _, rfl⟩, b1, s2, upd_same, by rw [List.length_append]; simp; omega, by rw [el, lookF_on hl2 hc eh z, hk2]⟩
            by_cases g : sgt c.h h = true
            · refine ifT g ⟨_, rfl, rfl, _, rfl, ?_⟩
              by_cases ea : r = .all
              · refine ifF (by rw [rl_nall]; exact nF ea) ⟨_, rfl, _, _, rfl, rfl, on fun z => z.2 ea⟩
              · refine ifT (by rw [rl_nall]; exact nT ea) ⟨fun x H4 => x = .int ((if r = .half then mid r lo hh else lo : Nat) : Int) ∧ H4 = upd H3 M (.lst (ms ++ [.int (mid r lo hh : Nat)])), ?_, ?_⟩
                · refine ⟨_, rfl, rfl, _, rfl, ?_⟩
                  by_cases er : r = .half
                  · exact ifT (by rw [rl_half]; exact dT er) ⟨_, rfl, by rw [if_pos er], rfl⟩
                  · exact ifF (by rw [rl_half]; exact dF er) ⟨_, rfl, by rw [if_neg er], rfl⟩
                · rintro x H4 ⟨rfl, rfl⟩
                  refine ⟨lo, if r = .half then mid r lo hh else lo, _, ⟨_, _, rfl⟩, ?_, s2, upd_same, by rw [List.length_append]; simp; omega, ?_⟩
                  · split <;> omega
                  · rw [el, lookF_gt hl2 hc eh g ea, hk2]
            · exact ifF (show sgt c.h h = false by simpa using g) (ifF rfl ⟨_, rfl, _, _, rfl, rfl, on fun z => g z.1⟩)
      · refine ifT (dT (by omega)) ⟨_, rfl, ret none _ _ s1 e1 (by omega) ?_⟩
        rw [el, lookF_end (by omega)]
    · subst e0
      refine ⟨_, rfl, ret none _ _ s1 e1 (by omega) ?_⟩
      rw [el, len, Nat.sub_self]; rfl
end
end Se
namespace Se
open PySem PySem.Spec PyProof.Rows L2
section
variable {P : Program} {w : World} {K : PySem.W.Frag} {mg : Str → Option Value} {base : Heap} {CC CD CW CG aR aW : Addr}
theorem sc_law_walked : FnScope ["_law_some", "_law_rule", "_law_heading", "_law_steps", "_law_count", "_law_sought", "_law_turn", "_law_place", "_law_met"] ["_law_some", "_law_rule", "_law_heading"] (defScope s_law_walked) := C8.fnScope_by (by decide +kernel)
def sp_lwalked (K : PySem.W.Frag) : Sp := fun vs H Q _ => ∃ l cs h, ∃ r : Rl, vs = [.ref l, .str r.str, .str h] ∧ SomeAt K H l cs ∧ Ok cs ∧
  ∀ p st so H' steps, ∀ n : Int, Sm H H' → H' p = some (.tup [.str (wlk cs r h).str, .ref st, .int n, .ref so]) → H' st = some (.tup steps) → (∀ p, wlk cs r h = .entry p → ∃ s', steps = s' ++ [vN p]) → Q (.ref p) H'
theorem ok_law_walked (T : Tx K mg CC CD CW CG aR aW) : C8.Cal P w K mg base 2 "_law_walked" (sp_lwalked K) [] := by
  refine cal_of T.d_law_walked (fun _ _ _ _ _ _ us hl => match us, hl with | [_, _, _], _ => rfl) sc_law_walked (fun vs H Q E h => ?_) (fun f cdv A outer s H vs Q E hr h => ?_)
  · obtain ⟨l, cs, h0, r, rfl, hs, ok, q⟩ := h; rfl
  · obtain ⟨l, cs, h0, r, rfl, hs, ok, q⟩ := h
    refine ⟨_, (pss_cons (ps_par3 (i := 3) (j := 4) (l := 5) rfl sc_law_walked.nd rfl rfl rfl (by decide) (by decide) (by decide) rfl rfl rfl (pa_cons (pe_lst pa_nil) (pa_cons pe_int (pa_cons (pe_lst pa_nil) pa_nil))) (by rfl))
      (pss_cons (ps_for PassesOwn.never rfl (pi_range1 (by rfl) T.b_range (pa_cons pe_int pa_nil)) (pg_name (i := 6) sc_law_walked.nd rfl (by first | exact Or.inl rfl | exact Or.inr rfl)) (pss_cons (ps_if (pt_cmpR (op_inK (K := K) rfl) (pv 2) (pv 5) (by rfl)) (pss_one (ps_ret (pe_tup (pa_cons pe_str (pa_cons (pe_tupleK (K := K) rfl (by rfl) T.b_tuple (pv 3)) (pa_cons (pv 4) (pa_cons (pv 5) pa_nil))))))) pss_nil)
      (pss_cons (ps_expr (pe_bm PySem.F.plainAttrs_list PySem.F.slot_list_append PySem.F.type_list_append mt_append (pv 5) (pa_cons (pv 2) pa_nil)))
      (pss_cons (ps_asg (C8.pe_c (ok_law_looked T) hr (by decide) (by rfl) (pa_cons (pv 0) (pa_cons (pv 1) (pa_cons (pv 2) pa_nil)))) (pg_tup rfl (pgs_cons (pg_name (i := 7) sc_law_walked.nd rfl (by first | exact Or.inl rfl | exact Or.inr rfl)) (pgs_cons (pg_name (i := 8) sc_law_walked.nd rfl (by first | exact Or.inl rfl | exact Or.inr rfl)) pgs_nil))))
      (pss_cons (ps_set (i := 4) sc_law_walked.nd rfl (by first | exact Or.inl rfl | exact Or.inr rfl) (pe_op op_add (pv 4) (pe_callB (call_lenK (K := K) rfl) (by rfl) T.b_len PySem.boot_len (pa_cons (pv 8) pa_nil))))
      (pss_cons (ps_if (pt_cmpR op_isN (pv 7) pe_non (nomark _)) (pss_one (ps_ret (pe_tup (pa_cons pe_str (pa_cons (pe_tupleK (K := K) rfl (by rfl) T.b_tuple (pv 3)) (pa_cons (pv 4) (pa_cons (pv 5) pa_nil))))))) pss_nil)
      (pss_cons (ps_expr (pe_bm PySem.F.plainAttrs_list PySem.F.slot_list_append PySem.F.type_list_append mt_append (pv 3) (pa_cons (pv 7) pa_nil)))
      (pss_cons (ps_if (pt_cmpR op_eq (pe_ix (ix_tupK (K := K) rfl) (pe_ix (ix_listK (K := K) rfl) (pv 0) (pv 7) (fun _ _ => rfl)) pe_int (fun _ _ => rfl)) pe_str (nomark _)) (pss_one (ps_ret (pe_tup (pa_cons pe_str (pa_cons (pe_tupleK (K := K) rfl (by rfl) T.b_tuple (pv 3)) (pa_cons (pv 4) (pa_cons (pv 5) pa_nil))))))) pss_nil)
      (pss_one (ps_set (i := 2) sc_law_walked.nd rfl (by first | exact Or.inl rfl | exact Or.inr rfl) (pe_ix (ix_tupK (K := K) rfl) (pe_ix (ix_listK (K := K) rfl) (pv 0) (pv 7) (fun _ _ => rfl)) pe_int (fun _ _ => rfl))))))))))))
      (pss_one (ps_ret (pe_tup (pa_cons pe_str (pa_cons (pe_tupleK (K := K) rfl (by rfl) T.b_tuple (pv 3)) (pa_cons (pv 4) (pa_cons (pv 5) pa_nil))))))))), ?_⟩
    have ol := ok.len
    obtain ⟨xs, hl, hx⟩ := hs.ex
    have len := hx.1
    refine ⟨szl rfl, fun S hS => ⟨szl rfl, fun G hG => ⟨_, _, _, rfl, ?_⟩⟩⟩
    have hG0 : H G = none := (Sm.new hS).free hG
    have nSG : S ≠ G := ne_of_none upd_same hG
    have s0 : Sm H (upd (upd H S (.lst [])) G (.lst [])) := (Sm.new hS).new' hG
    have ret : ∀ (W : Wd) (wd : Str) (n : Int) (H' : Hp) (steps so : List V), W = wlk cs r h0 → V.str W.str = V.str wd → Sm H H' → H' S = some (.lst steps) → (∀ p, W = .entry p → ∃ s', steps = s' ++ [vN p]) →
        ∀ t, H' t = none → ∀ p, upd H' t (.tup steps) p = none → Q (.ref p) (upd (upd H' t (.tup steps)) p (.tup [.str wd, .ref t, .int n, .ref G])) := fun W wd n H' steps so eW ewd s' e' hst t ht p hp => by
      subst eW
      refine q p t G _ steps n ((s'.new' ht).new' hp) (by rw [upd_same, ewd]) ?_ hst
      rw [upd_ne (ne_of_none upd_same hp), upd_same]
    refine ⟨_, rfl, by decide, by decide, ?_⟩
    refine for_it (walk_range (lo := 0) (n := 99)) (fun i σ' H' => ∃ h : Str, ∃ steps : List V, ∃ so : List Str, ∃ n : Int, (∃ o6 o7 o8, σ' = [some (.ref l), some (.str r.str), some (.str h), some (.ref S), some (.int n), some (.ref G), o6, o7, o8]) ∧ Sm H H' ∧ H' S = some (.lst steps) ∧ H' G = some (.lst (so.map V.str)) ∧ steps.length = i ∧ so.length = i ∧ walkF cs r (99 - i) h so = wlk cs r h0)
      ⟨h0, [], [], 0, ⟨_, _, _, rfl⟩, s0, by rw [upd_ne nSG, upd_same], upd_same, rfl, rfl, rfl⟩ (fun _ _ _ _ _ => trivial) (fun i v σ1 H1 H2 hi ⟨h, steps, so, n, ⟨o6, o7, o8, e0⟩, s1, eS, eG, l1, l2, ew⟩ hy => ?_) (fun σ1 H1 ⟨h, steps, so, n, ⟨o6, o7, o8, e0⟩, s1, eS, eG, l1, l2, ew⟩ => ?_)
    · subst e0
      obtain ⟨rfl, rfl⟩ := hy
      obtain ⟨k, hk⟩ : ∃ k, 99 - i = k + 1 := ⟨98 - i, by omega⟩
      have hk2 : 99 - (i + 1) = k := by omega
      rw [hk] at ew
      refine ⟨_, rfl, _, rfl, rd_inS (.inl (SqL.of eG)) ⟨_, rfl, ?_⟩⟩
      by_cases m : h ∈ so
      · rw [walkF_ring m] at ew
        exact ifT (dT m) ⟨_, rfl, .inl ⟨S, _, rfl, SqL.of eS, fun t ht => ⟨_, rfl, _, rfl, szl rfl, fun p hp => ret .ring "ring" _ _ _ [] ew rfl s1 eS (fun p z => nomatch z) t ht p hp⟩⟩⟩
      · refine ifF (dF m) ⟨_, rfl, .inl ⟨rfl, _, SqL.of eG⟩, _, rfl, G, _, _, rfl, rfl, eG, sizeLt (by rw [List.length_map]; omega), ?_⟩
        rw [show so.map V.str ++ [V.str h] = (so ++ [h]).map V.str by simp]
        have s2 : Sm H (upd H2 G (.lst ((so ++ [h]).map V.str))) := s1.wr hG0
        have eS2 : upd H2 G (.lst ((so ++ [h]).map V.str)) S = some (.lst steps) := by rw [upd_ne nSG]; exact eS
        refine ⟨_, rfl, _, rfl, _, rfl, l, cs, h, r, rfl, hs.same s2, ok, fun p lk ls H3 s3 ep elk hls => ⟨p, _, rfl, ep, rfl, _, _, rfl, _, _, rfl, rfl, ?_⟩⟩
        refine ⟨_, rfl, _, rfl, _, _, rfl, .inr ⟨_, elk, rfl⟩, _, _, rfl, rfl, _, rfl, rfl, _, rfl, ?_⟩
        have s03 := s2.trans s3
        have eS3 := s3 _ _ eS2
        have eG3 := s3 _ _ upd_same
        cases el : look cs r h with
        | none =>
          rw [walkF_lost m el] at ew
          exact ifT rfl ⟨_, rfl, .inl ⟨S, _, rfl, SqL.of eS3, fun t ht => ⟨_, rfl, _, rfl, szl rfl, fun p hp => ret .lost "lost" _ _ _ [] ew rfl s03 eS3 (fun p z => nomatch z) t ht p hp⟩⟩⟩
        | some pl =>
          obtain ⟨c, hc, ech⟩ := look_at el
          obtain ⟨v, ev, f, rfl, b, al, hf, hb, hal⟩ := hx.at hc
          refine ifF rfl ⟨_, rfl, .inl ⟨rfl, _, SqL.of eS3⟩, _, rfl, S, _, _, rfl, rfl, eS3, sizeLt (by omega), ?_⟩
          have s4 : Sm H (upd H3 S (.lst (steps ++ [vN pl]))) := s03.wr hS
          have hf4 := s4.tup hf
          have hl4 := s4.seq hl
          have eG4 : upd H3 S (.lst (steps ++ [vN pl])) G = some (.lst ((so ++ [h]).map V.str)) := by rw [upd_ne nSG.symm]; exact eG3
          refine ⟨_, rfl, _, rfl, l, _, _, _, rfl, rfl, hl4, atI_nat ev, f, _, _, _, rfl, rfl, hf4, rfl, rfl, _, rfl, ?_⟩
          by_cases es : c.see = Str.empty
          · rw [walkF_entry m el hc es] at ew
            exact ifT (dT (congrArg V.str es)) ⟨_, rfl, .inl ⟨S, _, rfl, SqL.of upd_same, fun t ht => ⟨_, rfl, _, rfl, szl rfl, fun p hp => ret (.entry pl) "entry" _ _ _ [] ew rfl s4 upd_same (fun p z => by cases z; exact ⟨steps, rfl⟩) t ht p hp⟩⟩⟩
          · rw [walkF_on m el hc es] at ew
            refine ifF (dF (str_ne es)) ⟨_, rfl, _, rfl, l, _, _, _, rfl, rfl, hl4, atI_nat ev, f, _, _, _, rfl, rfl, hf4, rfl, ?_⟩
            exact ⟨c.see, _, so ++ [h], _, ⟨_, _, _, rfl⟩, s4, upd_same, eG4, by rw [List.length_append, l1]; rfl, by rw [List.length_append, l2]; rfl, by rw [hk2]; exact ew⟩
    · subst e0
      exact ⟨_, rfl, .inl ⟨S, _, rfl, SqL.of eS, fun t ht => ⟨_, rfl, _, rfl, szl rfl, fun p hp => ret .ring "ring" _ _ _ [] ew rfl s1 eS (fun p z => nomatch z) t ht p hp⟩⟩⟩
theorem cut_2 {a b c d : V} : cutV [a, b, c, d] none (some 2) = [a, b] := by
  unfold cutV
  rw [show HT.sIx [a, b, c, d].length [a, b, c, d].length (some 2) = min 2 4 from HT.sIx_nat 4 4 2, HT.sIx_none]
  rfl
theorem sc_law_landing : FnScope ["_law_some", "_law_rule", "_law_heading", "_law_word", "_law_steps"] ["_law_some", "_law_rule", "_law_heading"] (defScope s_law_landing) := C8.fnScope_by (by decide +kernel)
def sp_lland (K : PySem.W.Frag) : Sp := fun vs H Q _ => ∃ l cs h, ∃ r : Rl, vs = [.ref l, .str r.str, .str h] ∧ SomeAt K H l cs ∧ Ok cs ∧ ∀ p H', Sm H H' → H' p = some (.tup [.str (wlk cs r h).str, optV (land cs r h)]) → Q (.ref p) H'
theorem ok_law_landing (T : Tx K mg CC CD CW CG aR aW) : C8.Cal P w K mg base 3 "_law_landing" (sp_lland K) [] := by
  refine cal_of T.d_law_landing (fun _ _ _ _ _ _ us hl => match us, hl with | [_, _, _], _ => rfl) sc_law_landing (fun vs H Q E h => ?_) (fun f cdv A outer s H vs Q E hr h => ?_)
  · obtain ⟨l, cs, h, r, rfl, hs, ok, q⟩ := h; rfl
  · obtain ⟨l, cs, h, r, rfl, hs, ok, q⟩ := h
    refine ⟨_, (pss_cons (ps_asg (pe_slice (sl_tupAK (K := K) rfl) (C8.pe_c (ok_law_walked T) hr (by decide) (by rfl) (pa_cons (pv 0) (pa_cons (pv 1) (pa_cons (pv 2) pa_nil)))) po_none (po_some pe_int)) (pg_tup rfl (pgs_cons (pg_name (i := 3) sc_law_landing.nd rfl (by first | exact Or.inl rfl | exact Or.inr rfl)) (pgs_cons (pg_name (i := 4) sc_law_landing.nd rfl (by first | exact Or.inl rfl | exact Or.inr rfl)) pgs_nil))))
      (pss_one (ps_ret (pe_tup (pa_cons (pv 3) (pa_cons (pe_ifExp (pt_cmpR op_eq (pv 3) pe_str (nomark _)) (pe_ix (ix_tupK (K := K) rfl) (pv 4) (pe_un un_neg pe_int) (fun _ _ => rfl)) pe_non) pa_nil)))))), ?_⟩
    refine ⟨_, rfl, _, rfl, _, rfl, l, cs, h, r, rfl, hs, ok, fun p st so H1 steps n s1 ep est hst => ⟨2, rfl, p, _, rfl, SqT.of ep, fun hw => ?_, fun hw t ht => ?_⟩⟩
    · exfalso
      have h1 := hw.2
      rw [show HT.sIx [V.str (wlk cs r h).str, .ref st, .int n, .ref so].length [V.str (wlk cs r h).str, .ref st, .int n, .ref so].length (some 2) = min 2 4 from HT.sIx_nat 4 4 2] at h1
      exact absurd h1 (by show ¬ min 2 4 = 4; decide)
    · rw [cut_2]
      have s2 : Sm H1 (upd H1 t (.tup [.str (wlk cs r h).str, .ref st])) := Sm.new ht
      refine ⟨t, _, rfl, SqT.of upd_same, rfl, _, _, rfl, _, _, rfl, rfl, _, rfl, _, rfl, rfl, _, rfl, ?_⟩
      have fin : ∀ o, o = optV (land cs r h) → [V.str (wlk cs r h).str, o].length ≤ sizeLine ∧ ∀ p, upd H1 t (.tup [.str (wlk cs r h).str, .ref st]) p = none → Q (.ref p) (upd (upd H1 t (.tup [.str (wlk cs r h).str, .ref st])) p (.tup [.str (wlk cs r h).str, o])) := fun o e =>
        ⟨szl rfl, fun z hz => q z _ ((s1.trans s2).new' hz) (by rw [upd_same, e])⟩
      have hd := wd_entry (W := wlk cs r h)
      obtain ⟨p', e⟩ | e : (∃ p', wlk cs r h = .entry p') ∨ (wlk cs r h = .lost ∨ wlk cs r h = .ring) := by
        cases wlk cs r h with
        | entry p => exact .inl ⟨p, rfl⟩
        | lost => exact .inr (.inl rfl)
        | ring => exact .inr (.inr rfl)
      · obtain ⟨s', rfl⟩ := hst p' e
        refine ifT (hd.trans (by rw [e])) ⟨_, rfl, 1, rfl, st, _, _, _, rfl, rfl, SqT.of (s2 _ _ est), atI_last _ _, ?_⟩
        exact fin (vN p') (by unfold land; rw [e]; rfl)
      · refine ifF (hd.trans ?_) (fin .non ?_)
        · rcases e with e | e <;> rw [e]
        · unfold land; rcases e with e | e <;> (rw [e]; rfl)
end
end Se
namespace Se
open PySem PySem.Spec PyProof.Rows L2
section
variable {P : Program} {w : World} {K : PySem.W.Frag} {mg : Str → Option Value} {base : Heap} {CC CD CW CG aR aW : Addr}
theorem kn_snoc (cs : List CardD) (c : CardD) : kn (cs ++ [c]) = ((kn cs ++ [c.h]) ++ (if c.see = Str.empty then [] else [c.see])) ++ c.al := by
  unfold kn; simp
theorem kn_len {cs : List CardD} (o : Ok cs) : (kn cs).length ≤ 96 := by
  have := flat_len (f := fun c => c.h :: ((if c.see = Str.empty then [] else [c.see]) ++ c.al)) (n := 6) cs fun c h => by
    have := (o.all c h).alL
    rw [List.length_cons, List.length_append]
    split <;> simp <;> omega
  have := o.len
  unfold kn; omega
theorem sc_law_known : FnScope ["_law_some", "_law_found", "_law_heading", "_law_tomes", "_law_goal_of", "_law_hints"] ["_law_some"] (defScope s_law_known) := C8.fnScope_by (by decide +kernel)
def sp_lknown (K : PySem.W.Frag) : Sp := fun vs H Q _ => ∃ l cs, vs = [.ref l] ∧ SomeAt K H l cs ∧ Ok cs ∧ ∀ p H', Sm H H' → H p = none → H' p = some (.lst ((known cs).map V.str)) → Q (.ref p) H'
theorem ok_law_known (T : Tx K mg CC CD CW CG aR aW) : C8.Cal P w K mg base 1 "_law_known" (sp_lknown K) [] := by
  refine cal_of T.d_law_known (fun _ _ _ _ _ _ us hl => match us, hl with | [_], _ => rfl) sc_law_known (fun vs H Q E h => ?_) (fun f cdv A outer s H vs Q E hr h => ?_)
  · obtain ⟨l, cs, rfl, hs, ok, q⟩ := h; rfl
  · obtain ⟨l, cs, rfl, hs, ok, q⟩ := h
    refine ⟨_, (pss_cons (ps_set (i := 1) sc_law_known.nd rfl (by first | exact Or.inl rfl | exact Or.inr rfl) (pe_lst pa_nil))
      (pss_cons (ps_for PassesOwn.never rfl (pi_list (pv 0)) (pg_tup rfl (pgs_cons (pg_name (i := 2) sc_law_known.nd rfl (by first | exact Or.inl rfl | exact Or.inr rfl)) (pgs_cons (pg_name (i := 3) sc_law_known.nd rfl (by first | exact Or.inl rfl | exact Or.inr rfl)) (pgs_cons (pg_name (i := 4) sc_law_known.nd rfl (by first | exact Or.inl rfl | exact Or.inr rfl)) (pgs_cons (pg_name (i := 5) sc_law_known.nd rfl (by first | exact Or.inl rfl | exact Or.inr rfl)) pgs_nil))))) (pss_one (ps_set (i := 1) sc_law_known.nd rfl (by first | exact Or.inl rfl | exact Or.inr rfl) (pe_op op_cat (pe_op op_cat (pe_op op_cat (pv 1) (pe_lst (pa_cons (pv 2) pa_nil))) (pe_ifExp (pt_cmpR op_ne (pv 4) pe_str (nomark _)) (pe_lst (pa_cons (pv 4) pa_nil)) (pe_lst pa_nil))) (pe_callTy (call_listK (K := K) rfl) (by rfl) T.b_list (by decide +kernel) (pa_cons (pv 5) pa_nil))))))
      (pss_one (ps_ret (pe_sortS (K := K) rfl rfl (by rfl) T.b_sorted (by rfl) T.b_set (pv 1)))))), ?_⟩
    have ol := ok.len
    obtain ⟨xs, hl, hx⟩ := hs.ex
    have len := hx.1
    refine ⟨szl rfl, fun F0 hF => ⟨_, rfl, l, rfl, ⟨_, (Sm.new hF).seq hl⟩, ?_⟩⟩
    refine for_it (walk_list (xs := xs)) (fun i σ' H' => ∃ F, (∃ o2 o3 o4 o5, σ' = [some (.ref l), some (.ref F), o2, o3, o4, o5]) ∧ Sm H H' ∧ H' F = some (.lst ((kn (cs.take i)).map V.str)))
      ⟨F0, ⟨_, _, _, _, rfl⟩, Sm.new hF, upd_same⟩ (fun _ _ _ _ ⟨_, _, s, _⟩ => s.seq hl) (fun i v σ1 H1 H2 hi ⟨F, ⟨o2, o3, o4, o5, e0⟩, s1, e1⟩ hy => ?_) (fun σ1 H1 ⟨F, ⟨o2, o3, o4, o5, e0⟩, s1, e1⟩ => ?_)
    · subst e0
      obtain ⟨rfl, ev⟩ := hy
      obtain ⟨c, hc, f, rfl, b, al, hf, hb, hal⟩ := hx.at' ev
      have kl := kn_len (ok.take i)
      have al4 := (ok.at hc).alL
      refine ⟨f, _, rfl, s1.tup hf, rfl, _, _, rfl, _, _, rfl, _, _, rfl, _, _, rfl, rfl, ?_⟩
      refine ⟨_, rfl, _, rfl, szl rfl, fun a1 h1 => ⟨F, a1, _, _, rfl, rfl, (Sm.new h1) _ _ e1, upd_same, sizeOf' (by simp; omega), fun c1 g1 => ?_⟩⟩
      have s2 := (s1.new' (o := .lst [.str c.h]) h1).new' (o := .lst ((kn (cs.take i)).map V.str ++ [.str c.h])) g1
      have e2 : upd (upd H2 a1 (.lst [.str c.h])) c1 (.lst ((kn (cs.take i)).map V.str ++ [.str c.h])) c1 = some (.lst ((kn (cs.take i)).map V.str ++ [.str c.h])) := upd_same
      have fin : ∀ (H3 : Hp) (a2 : Addr) (ys : List Str), Sm (upd (upd H2 a1 (.lst [.str c.h])) c1 (.lst ((kn (cs.take i)).map V.str ++ [.str c.h]))) H3 → H3 a2 = some (.lst (ys.map V.str)) → ys = (if c.see = Str.empty then [] else [c.see]) → ys.length ≤ 1 →
          rCat (.ref c1) (.ref a2) H3 fun x H4 => ∃ v, ([some (V.ref l), some (V.ref F), some (.str c.h), some (.ref b), some (.str c.see), some (.ref al)] : L2.St)[5]? = some (some v) ∧ ∃ p ys, [v] = [V.ref p] ∧ (SqL K H4 p ys ∨ SqT K H4 p ys) ∧ ∀ l', H4 l' = none → rCat x (.ref l') (upd H4 l' (.lst ys)) fun z H5 => ∃ F', (∃ o2 o3 o4 o5, ([some (V.ref l), some z, some (.str c.h), some (.ref b), some (.str c.see), some (.ref al)] : L2.St) = [some (.ref l), some (.ref F'), o2, o3, o4, o5]) ∧ Sm H H5 ∧ H5 F' = some (.lst ((kn (cs.take (i + 1))).map V.str)) := fun H3 a2 ys s3 e3 ey yl => by
        refine ⟨c1, a2, _, _, rfl, rfl, s3 _ _ e2, e3, sizeOf' (by simp; omega), fun c2 g2 => ⟨_, rfl, al, c.al.map V.str, rfl, .inr ?_, fun a3 h3 => ?_⟩⟩
        · exact (Sm.new g2).tup (s3.tup (s2.tup hal))
        · refine ⟨c2, a3, _, _, rfl, rfl, (Sm.new h3) _ _ upd_same, upd_same, sizeOf' (by simp; omega), fun c4 g4 => ⟨c4, ⟨_, _, _, _, rfl⟩, (((s2.trans s3).new' g2).new' h3).new' g4, ?_⟩⟩
          rw [upd_same, take_snoc hc, kn_snoc, ey]
          simp
      refine ⟨_, rfl, rfl, _, rfl, ?_⟩
      by_cases es : c.see = Str.empty
      · exact ifF (neF (congrArg V.str es)) ⟨szl rfl, fun a2 h2 => fin _ a2 [] (Sm.new h2) upd_same (by rw [if_pos es]) (by simp)⟩
      · exact ifT (neT (str_ne es)) ⟨_, rfl, szl rfl, fun a2 h2 => fin _ a2 [c.see] (Sm.new h2) upd_same (by rw [if_neg es]) (by simp)⟩
    · subst e0
      rw [len, List.take_length] at e1
      exact ⟨_, rfl, F, _, rfl, .inl (SqL.of e1), by have := kn_len ok; omega, knU ok, fun p H2 s2 hp e2 => q p H2 (s1.trans s2) (s1.free hp) e2⟩
theorem sc_law_headings : FnScope ["_law_some", "_law_one"] ["_law_some"] (defScope s_law_headings) := C8.fnScope_by (by decide +kernel)
def sp_lheadings (K : PySem.W.Frag) : Sp := fun vs H Q _ => ∃ l cs, vs = [.ref l] ∧ SomeAt K H l cs ∧ Ok cs ∧ ∀ p H', Sm H H' → H' p = some (.lst ((sS (cs.map (·.h))).map V.str)) → Q (.ref p) H'
theorem ok_law_headings (T : Tx K mg CC CD CW CG aR aW) : C8.Cal P w K mg base 1 "_law_headings" (sp_lheadings K) [] := by
  refine cal_of T.d_law_headings (fun _ _ _ _ _ _ us hl => match us, hl with | [_], _ => rfl) sc_law_headings (fun vs H Q E h => ?_) (fun f cdv A outer s H vs Q E hr h => ?_)
  · obtain ⟨l, cs, rfl, hs, ok, q⟩ := h; rfl
  · obtain ⟨l, cs, rfl, hs, ok, q⟩ := h
    refine ⟨_, (pss_one (ps_ret (pe_sortS (K := K) rfl rfl (by rfl) T.b_sorted (by rfl) T.b_set (pe_lc (own := [("_law_one", 1)]) (g := (gName 1)) (tt := tYes) rfl sc_law_headings.nd (pi_list (pv 0)) (blkOk_by (own := [("_law_one", 1)]) (N := ["_law_some", "_law_one"]) (sc := defScope s_law_headings) (by decide +kernel)) (fun _ _ _ _ _ => (pg_name (i := 1) sc_law_headings.nd rfl (by first | exact Or.inl rfl | exact Or.inr rfl))) (fun _ _ _ _ _ => pts_nil) (fun _ _ _ _ _ => (pe_ix (ix_tupK (K := K) rfl) (pv 1) pe_int (fun _ _ => rfl))))))), ?_⟩
    have ol := ok.len
    obtain ⟨xs, hl, hx⟩ := hs.ex
    have len := hx.1
    refine ⟨_, rfl, l, rfl, ⟨_, hl⟩, fun D hD => lc_it (walk_list (xs := xs)) (fun i H' => Sm H H' ∧ H' D = some (.lst (((cs.take i).map (·.h)).map V.str))) ⟨Sm.new hD, upd_same⟩ (fun i H' _ ⟨s1, _⟩ => s1.seq hl)
      (fun i v H1 H2 hi ⟨s1, e1⟩ hy => ?_) (fun H1 ⟨s1, e1⟩ => ?_)⟩
    · obtain ⟨rfl, ev⟩ := hy
      obtain ⟨c, hc, f, rfl, b, al, hf, hb, hal⟩ := hx.at' ev
      refine ⟨rfl, yes_if ⟨_, rfl, f, _, _, _, rfl, rfl, s1.tup hf, rfl, _, e1, sizeLt (by simp; omega), s1.wr hD, ?_⟩⟩
      rw [upd_same, take_snoc hc, List.map_append, List.map_append]
      rfl
    · rw [len, List.take_length] at e1
      refine ⟨D, _, rfl, .inl (SqL.of e1), by simp; omega, fun k hk => ?_, fun z H2 s2 hz e2 => q z H2 (s1.trans s2) e2⟩
      obtain ⟨c, hc, rfl⟩ := List.mem_map.mp hk
      exact (ok.all c hc).hd
theorem sc_law_less : FnScope ["_law_some", "_law_places", "_law_k"] ["_law_some", "_law_places"] (defScope s_law_less) := C8.fnScope_by (by decide +kernel)
def sp_lless (K : PySem.W.Frag) : Sp := fun vs H Q _ => ∃ l cs p, ∃ ns : List Int, vs = [.ref l, .ref p] ∧ SomeAt K H l cs ∧ Ok cs ∧ SqT K H p (ns.map V.int) ∧ ∀ p H', Sm H H' → SomeAt K H' p (less cs ns) → Q (.ref p) H'
theorem ok_law_less (T : Tx K mg CC CD CW CG aR aW) : C8.Cal P w K mg base 1 "_law_less" (sp_lless K) [] := by
  refine cal_of T.d_law_less (fun _ _ _ _ _ _ us hl => match us, hl with | [_, _], _ => rfl) sc_law_less (fun vs H Q E h => ?_) (fun f cdv A outer s H vs Q E hr h => ?_)
  · obtain ⟨l, cs, p, ns, rfl, hs, ok, hp, q⟩ := h; rfl
  · obtain ⟨l, cs, p, ns, rfl, hs, ok, hp, q⟩ := h
    refine ⟨_, (pss_one (ps_ret (pe_lc (own := [("_law_k", 2)]) (g := (gName 2)) rfl sc_law_less.nd (pi_range1 (by rfl) T.b_range (pa_cons (pe_callB (call_lenK (K := K) rfl) (by rfl) T.b_len PySem.boot_len (pa_cons (pv 0) pa_nil)) pa_nil)) (blkOk_by (own := [("_law_k", 2)]) (N := ["_law_some", "_law_places", "_law_k"]) (sc := defScope s_law_less) (by decide +kernel)) (fun _ _ _ _ _ => (pg_name (i := 2) sc_law_less.nd rfl (by first | exact Or.inl rfl | exact Or.inr rfl))) (fun _ _ _ _ _ => (pts_one (pt_cmpR (op_ninK (K := K) rfl) (pv 2) (pv 1) (by rfl)))) (fun _ _ _ _ _ => (pe_ix (ix_listK (K := K) rfl) (pv 0) (pv 2) (fun _ _ => rfl)))))), ?_⟩
    have ol := ok.len
    obtain ⟨xs, hl, hx⟩ := hs.ex
    have len := hx.1
    refine ⟨_, rfl, _, _, rfl, .inl ⟨_, hl, rfl⟩, _, rfl, by omega, by omega, fun D hD => lc_it (walk_range (lo := 0) (n := xs.length)) (fun i H' => Sm H H' ∧ ∃ ys, H' D = some (.lst ys) ∧ SomeL K H' ys (lessT cs ns i)) ⟨Sm.new hD, [], upd_same, Each.nil⟩ (fun _ _ _ _ => trivial)
      (fun i v H1 H2 hi ⟨s1, ys, e1, hy1⟩ hy => ?_) (fun H1 ⟨s1, ys, e1, hy1⟩ => ?_)⟩
    · obtain ⟨rfl, rfl⟩ := hy
      have iv : (0 : Int) + (i : Nat) = (i : Int) := Int.zero_add _
      obtain ⟨c, hc⟩ := get_of_lt (l := cs) (i := i) (by omega)
      obtain ⟨v, ev, f, rfl, hf⟩ := hx.at hc
      refine ⟨rfl, _, rfl, _, rfl, rd_ninI (.inr (s1.tup hp)) ⟨_, rfl, ?_⟩⟩
      rw [iv]
      by_cases m : (i : Int) ∈ ns
      · refine ifF (nF m) ⟨s1, ys, e1, ?_⟩
        rw [lessT_in m]; exact hy1
      · refine ifT (nT m) ⟨_, rfl, _, rfl, l, _, _, _, rfl, rfl, s1.seq hl, (by rw [iv]; exact atI_nat ev), ys, e1, sizeLt ?_, s1.wr hD, _, upd_same, ?_⟩
        · have := lessT_len cs ns i
          have := hy1.1
          omega
        · rw [lessT_out m hc]
          exact Each.snoc (hy1.updL e1) ⟨f, rfl, (hf.same s1).updL e1⟩
    · rw [len] at hy1
      exact q D H1 s1 ⟨ys, SqL.of e1, hy1⟩
theorem sc_law_leads : FnScope ["_law_some", "_law_rule", "_law_found", "_law_one", "_law_name", "_law_goals", "_law_goal"] ["_law_some", "_law_rule"] (defScope s_law_leads) := C8.fnScope_by (by decide +kernel)
def sp_lleads (K : PySem.W.Frag) : Sp := fun vs H Q _ => ∃ l cs, ∃ r : Rl, vs = [.ref l, .str r.str] ∧ SomeAt K H l cs ∧ Ok cs ∧ ∀ p xs H', Sm H H' → H' p = some (.lst xs) → WaysL H' xs (wsOf cs r) → Q (.ref p) H'
theorem ok_law_leads (T : Tx K mg CC CD CW CG aR aW) : C8.Cal P w K mg base 4 "_law_leads" (sp_lleads K) [] := by
  refine cal_of T.d_law_leads (fun _ _ _ _ _ _ us hl => match us, hl with | [_, _], _ => rfl) sc_law_leads (fun vs H Q E h => ?_) (fun f cdv A outer s H vs Q E hr h => ?_)
  · obtain ⟨l, cs, r, rfl, hs, ok, q⟩ := h; rfl
  · obtain ⟨l, cs, r, rfl, hs, ok, q⟩ := h
    refine ⟨_, (pss_cons (ps_set (i := 2) sc_law_leads.nd rfl (by first | exact Or.inl rfl | exact Or.inr rfl) (pe_lst pa_nil))
      (pss_cons (ps_for PassesOwn.never rfl (pi_list (pv 0)) (pg_name (i := 3) sc_law_leads.nd rfl (by first | exact Or.inl rfl | exact Or.inr rfl)) (pss_cons (ps_setLc (i := 5) (own := [("_law_name", 4)]) (g := (gName 4)) (tt := tYes) rfl sc_law_leads.nd rfl rfl (sw_true rfl rfl rfl (by decide +kernel)) (pi_tup (pe_ix (ix_tupK (K := K) rfl) (pv 3) pe_int (fun _ _ => rfl))) (blkOk_by (own := [("_law_name", 4)]) (N := ["_law_some", "_law_rule", "_law_found", "_law_one", "_law_name", "_law_goals", "_law_goal"]) (sc := defScope s_law_leads) (by decide +kernel)) (fun _ _ _ _ _ => (pg_name (i := 4) sc_law_leads.nd rfl (by first | exact Or.inl rfl | exact Or.inr rfl))) (fun _ _ _ _ _ => pts_nil) (fun _ _ _ _ _ => (pe_ix (ix_tupK (K := K) rfl) (C8.pe_c (ok_law_landing T) hr (by decide) (by rfl) (pa_cons (pv 0) (pa_cons (pv 1) (pa_cons (pv 4) pa_nil)))) pe_int (fun _ _ => rfl))))
      (pss_one (ps_expr (pe_bm PySem.F.plainAttrs_list PySem.F.slot_list_append PySem.F.type_list_append mt_append (pv 2) (pa_cons (pe_sortI (K := K) rfl rfl (by rfl) T.b_sorted (by rfl) T.b_set (pe_lc (own := [("_law_goal", 6)]) (g := (gName 6)) rfl sc_law_leads.nd (pi_list (pv 5)) (blkOk_by (own := [("_law_goal", 6)]) (N := ["_law_some", "_law_rule", "_law_found", "_law_one", "_law_name", "_law_goals", "_law_goal"]) (sc := defScope s_law_leads) (by decide +kernel)) (fun _ _ _ _ _ => (pg_name (i := 6) sc_law_leads.nd rfl (by first | exact Or.inl rfl | exact Or.inr rfl))) (fun _ _ _ _ _ => (pts_one (pt_cmpR op_notN (pv 6) pe_non (nomark _)))) (fun _ _ _ _ _ => (pv 6)))) pa_nil))))))
      (pss_one (ps_ret (pv 2))))), ?_⟩
    have ol := ok.len
    obtain ⟨xs, hl, hx⟩ := hs.ex
    have len := hx.1
    refine ⟨szl rfl, fun F hF => ⟨_, rfl, l, rfl, ⟨_, (Sm.new hF).seq hl⟩, ?_⟩⟩
    refine for_it (walk_list (xs := xs)) (fun i σ' H' => (∃ o3 o4 o5 o6, σ' = [some (.ref l), some (.str r.str), some (.ref F), o3, o4, o5, o6]) ∧ Sm H H' ∧ ∃ ys, H' F = some (.lst ys) ∧ Each (fun x (l : List Int) => ∃ a, x = V.ref a ∧ a ≠ F ∧ H' a = some (.lst (l.map V.int))) ys ((wsOf cs r).take i))
      ⟨⟨_, _, _, _, rfl⟩, Sm.new hF, [], upd_same, Each.nil⟩ (fun _ _ _ _ h => h.2.1.seq hl) (fun i v σ1 H1 H2 hi ⟨⟨o3, o4, o5, o6, e0⟩, s1, ys, e1, hy1⟩ hy => ?_) (fun σ1 H1 ⟨⟨o3, o4, o5, o6, e0⟩, s1, ys, e1, hy1⟩ => ?_)
    · subst e0
      obtain ⟨rfl, ev⟩ := hy
      obtain ⟨c, hc, f, rfl, b, al, hf, hb, hal⟩ := hx.at' ev
      have hw : (wsOf cs r)[i]? = some (waysOf cs r c) := by unfold wsOf; rw [List.getElem?_map, hc]; rfl
      have al4 := (ok.at hc).alL
      have yl := hy1.1
      rw [List.length_take] at yl
      have hal1 := s1.tup hal
      refine ⟨_, rfl, f, _, _, _, rfl, rfl, s1.tup hf, rfl, al, rfl, ⟨_, hal1⟩, fun D hD => lc_it (walk_tup (xs := c.al.map V.str)) (fun i H' => Sm H2 H' ∧ H' D = some (.lst (((c.al.take i).map (land cs r)).map optV))) ⟨Sm.new hD, upd_same⟩ (fun i H' _ ⟨s2, _⟩ => s2.tup hal1)
        (fun j v H3 H4 hj ⟨s3, e3⟩ hy => ?_) (fun H3 ⟨s3, e3⟩ => ?_)⟩
      · obtain ⟨rfl, ev2⟩ := hy
        rw [List.getElem?_map] at ev2
        obtain ⟨h, eh, rfl⟩ := Option.map_eq_some_iff.mp ev2
        refine ⟨rfl, yes_if ⟨_, rfl, _, rfl, _, rfl, l, cs, h, r, rfl, hs.same (s1.trans s3), ok, fun t H5 s5 e5 => ⟨t, _, _, _, rfl, rfl, SqT.of e5, rfl, _, s5 _ _ e3, sizeLt (by simp; omega), (s3.trans s5).wr hD, ?_⟩⟩⟩
        rw [upd_same, take_snoc eh, List.map_append, List.map_append]; rfl
      · rw [List.length_map, List.take_length] at e3
        refine ⟨_, rfl, .inl ⟨rfl, _, SqL.of (s3 _ _ e1)⟩, _, rfl, D, rfl, ⟨_, SqL.of e3⟩, fun D2 hD2 => lc_it (walk_list (xs := (c.al.map (land cs r)).map optV)) (fun i H' => Sm H3 H' ∧ H' D2 = some (.lst ((((c.al.take i).filterMap (land cs r)).map fun n : Nat => (n : Int)).map V.int))) ⟨Sm.new hD2, upd_same⟩ (fun i H' _ ⟨s2, _⟩ => SqL.of (s2 _ _ e3))
          (fun j v H4 H5 hj ⟨s5, e5⟩ hy => ?_) (fun H4 ⟨s5, e5⟩ => ?_)⟩
        · obtain ⟨rfl, ev2⟩ := hy
          rw [List.getElem?_map, List.getElem?_map, Option.map_map] at ev2
          obtain ⟨h, eh, rfl⟩ := Option.map_eq_some_iff.mp ev2
          have fl : ((c.al.take j).filterMap (land cs r)).length ≤ 4 := Nat.le_trans (List.length_filterMap_le _ _) (by rw [List.length_take]; omega)
          refine ⟨rfl, _, rfl, rfl, _, rfl, ?_⟩
          obtain el | ⟨n, el⟩ : land cs r h = none ∨ ∃ n, land cs r h = some n := by
            cases land cs r h with
            | none => exact .inl rfl
            | some n => exact .inr ⟨n, rfl⟩
          · refine ifF (by show (!decide (optV (land cs r h) = V.non)) = false; rw [el]; rfl) ⟨s5, ?_⟩
            rw [take_snoc eh, fm_snoc, el]
            simpa using e5
          · refine ifT (by show (!decide (optV (land cs r h) = V.non)) = true; rw [el]; rfl) ⟨_, rfl, _, e5, sizeLt (by simp only [List.length_map]; omega), s5.wr hD2, ?_⟩
            rw [upd_same, take_snoc eh, fm_snoc, el, List.map_append, List.map_append]
            exact congrArg (fun o => some (HO.lst (_ ++ [optV o]))) el
        · simp only [List.length_map, List.take_length] at e5
          have fl : (c.al.filterMap (land cs r)).length ≤ 4 := Nat.le_trans (List.length_filterMap_le _ _) al4
          have s04 := s3.trans s5
          refine ⟨D2, _, rfl, .inl (SqL.of e5), by simp only [List.length_map]; omega, land_bd ok, fun p H6 s6 hp e6 => ?_⟩
          have s06 := s04.trans s6
          have eF6 := s06 _ _ e1
          have pF : p ≠ F := (ne_of_none (s04 _ _ e1) hp).symm
          refine ⟨F, _, _, rfl, rfl, eF6, sizeLt (by omega), ⟨_, _, _, _, rfl⟩, (s1.trans s06).wr hF, _, upd_same, ?_⟩
          rw [take_snoc hw]
          exact Each.snoc (hy1.mono fun _ _ ⟨a, e, n, z⟩ => ⟨a, e, n, by rw [upd_ne n]; exact s06 _ _ z⟩) ⟨p, rfl, pF, by rw [upd_ne pF]; exact e6⟩
    · subst e0
      have wl : (wsOf cs r).length = xs.length := by unfold wsOf; rw [List.length_map, len]
      rw [← wl, List.take_length] at hy1
      exact ⟨_, rfl, q F ys H1 s1 e1 (hy1.mono fun _ _ ⟨a, e, n, z⟩ => ⟨a, e, z⟩)⟩
end
end Se
namespace Se
open PySem PySem.Spec PyProof.Rows L2
structure GL (H : Hp) (A Dn Vi M : Addr) (s : GS) : Prop where
  ag : H A = some (.lst (s.ag.map V.str))
  dn : H Dn = some (.lst (s.dn.map V.str))
  vi : H Vi = some (.lst (s.vis.map vN))
  me : ∃ kvs, H M = some (.dK kvs) ∧ kvs.map Prod.fst = s.met.map Sum.inl
  n1 : A ≠ Dn
  n2 : A ≠ Vi
  n3 : Dn ≠ Vi
section
variable {H : Hp} {A Dn Vi M : Addr} {s : GS}
theorem GL.same (g : GL H A Dn Vi M s) {H' : Hp} (z : Sm H H') : GL H' A Dn Vi M s := ⟨z _ _ g.ag, z _ _ g.dn, z _ _ g.vi, let ⟨k, e1, e2⟩ := g.me; ⟨k, z _ _ e1, e2⟩, g.n1, g.n2, g.n3⟩
theorem GL.nM (g : GL H A Dn Vi M s) : Dn ≠ M ∧ Vi ≠ M ∧ A ≠ M := let ⟨_, e, _⟩ := g.me; ⟨ne_of g.dn e (fun z => nomatch z), ne_of g.vi e (fun z => nomatch z), ne_of g.ag e (fun z => nomatch z)⟩
theorem GL.putD (g : GL H A Dn Vi M s) {dn : List Str} : GL (upd H Dn (.lst (dn.map V.str))) A Dn Vi M { s with dn := dn } :=
  ⟨by rw [upd_ne g.n1]; exact g.ag, upd_same, by rw [upd_ne g.n3.symm]; exact g.vi, let ⟨k, e1, e2⟩ := g.me; ⟨k, by rw [upd_ne g.nM.1.symm]; exact e1, e2⟩, g.n1, g.n2, g.n3⟩
theorem GL.putV (g : GL H A Dn Vi M s) {vis : List Nat} : GL (upd H Vi (.lst (vis.map vN))) A Dn Vi M { s with vis := vis } :=
  ⟨by rw [upd_ne g.n2]; exact g.ag, by rw [upd_ne g.n3]; exact g.dn, upd_same, let ⟨k, e1, e2⟩ := g.me; ⟨k, by rw [upd_ne g.nM.2.1.symm]; exact e1, e2⟩, g.n1, g.n2, g.n3⟩
theorem GL.putM (g : GL H A Dn Vi M s) {met : List Int} {kvs : List (L2.Key × V)} (e : kvs.map Prod.fst = met.map Sum.inl) : GL (upd H M (.dK kvs)) A Dn Vi M { s with met := met } :=
  ⟨by rw [upd_ne g.nM.2.2]; exact g.ag, by rw [upd_ne g.nM.1]; exact g.dn, by rw [upd_ne g.nM.2.1]; exact g.vi, ⟨kvs, upd_same, e⟩, g.n1, g.n2, g.n3⟩
/-- another list is the agenda -/
theorem GL.newA (g : GL H A Dn Vi M s) {A' : Addr} {ag : List Str} (e : H A' = some (.lst (ag.map V.str))) (a : A' ≠ Dn) (b : A' ≠ Vi) : GL H A' Dn Vi M { s with ag := ag } := ⟨e, g.dn, g.vi, g.me, a, b, g.n3⟩
end
theorem gstep_dn {cs : List CardD} {r : Rl} {w : Wy} {s : GS} : (gstep cs r w s).dn.length ≤ s.dn.length + 1 := by
  refine gstep_cases (fun s' => s'.dn.length ≤ s.dn.length + 1) (fun _ => Nat.le_succ _) (fun h rest e m => Nat.le_succ _) (fun h rest e m _ => ?_) (fun h rest p c e m l v hc => ?_)
  · simp
  · simp
section
variable {P : Program} {w : World} {K : PySem.W.Frag} {mg : Str → Option Value} {base : Heap} {CC CD CW CG aR aW : Addr}
theorem sc_law_gathered : FnScope ["_law_some", "_law_rule", "_law_way", "_law_heading", "_law_patience", "_law_agenda", "_law_done", "_law_visited", "_law_met", "_law_turn", "_law_place", "_law_book", "_law_hints"] ["_law_some", "_law_rule", "_law_way", "_law_heading", "_law_patience"] (defScope s_law_gathered) := C8.fnScope_by (by decide +kernel)
def sp_lgath (K : PySem.W.Frag) : Sp := fun vs H Q _ => ∃ l cs h, ∃ r : Rl, ∃ w : Wy, ∃ pat : Nat, vs = [.ref l, .str r.str, .str w.str, .str h, .int pat] ∧ SomeAt K H l cs ∧ Ok cs ∧ h ∈ uS ∧
  ∀ p M V' kvs H', Sm H H' → H' p = some (.tup [.ref M, .ref V', .int (gath cs r w h pat).dn.length]) → H' M = some (.dK kvs) → kvs.map Prod.fst = (gath cs r w h pat).met.map Sum.inl → H' V' = some (.lst ((gath cs r w h pat).vis.map vN)) → Q (.ref p) H'
theorem cut_1 {x : V} {xs : List V} : cutV (x :: xs) (some 1) none = xs := by rw [cut_tail]; rfl
theorem ok_law_gathered (T : Tx K mg CC CD CW CG aR aW) : C8.Cal P w K mg base 4 "_law_gathered" (sp_lgath K) [] := by
  refine cal_of T.d_law_gathered (fun _ _ _ _ _ _ us hl => match us, hl with | [_, _, _, _, _], _ => rfl) sc_law_gathered (fun vs H Q E h => ?_) (fun f cdv A outer s H vs Q E hr h => ?_)
  · obtain ⟨l, cs, h0, r, w_, pat, rfl, hs, ok, hu, q⟩ := h; rfl
  · obtain ⟨l, cs, h0, r, w_, pat, rfl, hs, ok, hu, q⟩ := h
    refine ⟨_, (pss_cons (ps_asg (pe_tup (pa_cons (pe_lst (pa_cons (pv 3) pa_nil)) (pa_cons (pe_lst pa_nil) (pa_cons (pe_lst pa_nil) (pa_cons pe_dnewK pa_nil))))) (pg_tup rfl (pgs_cons (pg_name (i := 5) sc_law_gathered.nd rfl (by first | exact Or.inl rfl | exact Or.inr rfl)) (pgs_cons (pg_name (i := 6) sc_law_gathered.nd rfl (by first | exact Or.inl rfl | exact Or.inr rfl)) (pgs_cons (pg_name (i := 7) sc_law_gathered.nd rfl (by first | exact Or.inl rfl | exact Or.inr rfl)) (pgs_cons (pg_name (i := 8) sc_law_gathered.nd rfl (by first | exact Or.inl rfl | exact Or.inr rfl)) pgs_nil))))))
      (pss_cons (ps_for PassesOwn.never rfl (pi_range1 (by rfl) T.b_range (pa_cons pe_int pa_nil)) (pg_name (i := 9) sc_law_gathered.nd rfl (by first | exact Or.inl rfl | exact Or.inr rfl)) (pss_cons (ps_if (PW.pt (pw_or (pt_cmpR (op_eqDK (K := K) rfl hr.units) (pv 5) (pe_lst pa_nil) (nomark _)) (pw_or1 (pt_cmpR op_eq (pe_callB (call_lenK (K := K) rfl) (by rfl) T.b_len PySem.boot_len (pa_cons (pv 6) pa_nil)) (pv 4) (nomark _))))) (pss_one (ps_ret (pe_tup (pa_cons (pv 8) (pa_cons (pv 7) (pa_cons (pe_callB (call_lenK (K := K) rfl) (by rfl) T.b_len PySem.boot_len (pa_cons (pv 6) pa_nil)) pa_nil)))))) pss_nil)
      (pss_cons (ps_par (i := 3) (j := 5) rfl sc_law_gathered.nd rfl rfl (by decide) rfl rfl (pa_cons (pe_ix (ix_listK (K := K) rfl) (pv 5) pe_int (fun _ _ => rfl)) (pa_cons (pe_slice (sl_listK (K := K) rfl) (pv 5) (po_some pe_int) po_none) pa_nil)) (by rfl))
      (pss_one (ps_if (pt_cmpR (op_ninK (K := K) rfl) (pv 3) (pv 6) (by rfl)) (pss_cons (ps_expr (pe_bm PySem.F.plainAttrs_list PySem.F.slot_list_append PySem.F.type_list_append mt_append (pv 6) (pa_cons (pv 3) pa_nil)))
      (pss_cons (ps_set (i := 10) sc_law_gathered.nd rfl (by first | exact Or.inl rfl | exact Or.inr rfl) (pe_ix (ix_tupK (K := K) rfl) (C8.pe_c (ok_law_landing T) hr (by decide) (by rfl) (pa_cons (pv 0) (pa_cons (pv 1) (pa_cons (pv 3) pa_nil)))) pe_int (fun _ _ => rfl)))
      (pss_one (ps_if (PW.pt (pw_and (pt_cmpR op_notN (pv 10) pe_non (nomark _)) (pw_and1 (pt_cmpR (op_ninK (K := K) rfl) (pv 10) (pv 7) (by rfl))))) (pss_cons (ps_expr (pe_bm PySem.F.plainAttrs_list PySem.F.slot_list_append PySem.F.type_list_append mt_append (pv 7) (pa_cons (pv 10) pa_nil)))
      (pss_cons (ps_for PassesOwn.never rfl (pi_tup (pe_ix (ix_tupK (K := K) rfl) (pe_ix (ix_listK (K := K) rfl) (pv 0) (pv 10) (fun _ _ => rfl)) pe_int (fun _ _ => rfl))) (pg_name (i := 11) sc_law_gathered.nd rfl (by first | exact Or.inl rfl | exact Or.inr rfl)) (pss_one (ps_dput (hu_of hr) (pv 8) (pv 11) (pe_dget2 (hu_of hr) (pv 8) (pv 11) (pe_callB (call_lenK (K := K) rfl) (by rfl) T.b_len PySem.boot_len (pa_cons (pv 6) pa_nil)) ⟨rfl, rfl, rfl, rfl⟩) rfl)))
      (pss_cons (ps_set (i := 12) sc_law_gathered.nd rfl (by first | exact Or.inl rfl | exact Or.inr rfl) (pe_callTy (call_listK (K := K) rfl) (by rfl) T.b_list (by decide +kernel) (pa_cons (pe_ix (ix_tupK (K := K) rfl) (pe_ix (ix_listK (K := K) rfl) (pv 0) (pv 10) (fun _ _ => rfl)) pe_int (fun _ _ => rfl)) pa_nil)))
      (pss_one (ps_set (i := 5) sc_law_gathered.nd rfl (by first | exact Or.inl rfl | exact Or.inr rfl) (pe_cut (pe_dget (hu_of hr) (pe_disp (pps_cons pe_str (pe_op op_cat (pv 5) (pv 12)) (pps_cons pe_str (pe_op op_cat (pv 12) (pv 5)) (pps_cons pe_str (pv 12) pps_nil))) (by rfl) (by rfl) (fun z => by cases z) (by decide)) (pv 2) (fun _ _ => rfl)))))))) pss_nil)))) pss_nil)))))
      (pss_one (ps_ret (pe_tup (pa_cons (pv 8) (pa_cons (pv 7) (pa_cons (pe_callB (call_lenK (K := K) rfl) (by rfl) T.b_len PySem.boot_len (pa_cons (pv 6) pa_nil)) pa_nil)))))))), ?_⟩
    have ol := ok.len
    obtain ⟨xs, hl, hx⟩ := hs.ex
    have len := hx.1
    refine ⟨_, rfl, szl rfl, fun A0 hA => ⟨szl rfl, fun D0 hD => ⟨szl rfl, fun V0 hV M0 hM => ⟨szl rfl, fun t ht => ⟨t, _, rfl, SqT.of upd_same, rfl, _, _, rfl, _, _, rfl, _, _, rfl, _, _, rfl, rfl, ?_⟩⟩⟩⟩⟩
    have s4 : Sm H (upd (upd (upd (upd H A0 (.lst [.str h0])) D0 (.lst [])) V0 (.lst [])) M0 (.dK [])) := (((Sm.new hA).new' hD).new' hV).new' hM
    have hD0 : H D0 = none := (Sm.new hA).free hD
    have hV0 : H V0 = none := ((Sm.new hA).new' hD).free hV
    have hM0 : H M0 = none := (((Sm.new hA).new' hD).new' hV).free hM
    have nAD : A0 ≠ D0 := ne_of_none upd_same hD
    have nAV : A0 ≠ V0 := ne_of_none (by rw [upd_ne nAD, upd_same]) hV
    have nDV : D0 ≠ V0 := ne_of_none upd_same hV
    have nAM : A0 ≠ M0 := ne_of_none (by rw [upd_ne nAV, upd_ne nAD, upd_same]) hM
    have nDM : D0 ≠ M0 := ne_of_none (by rw [upd_ne nDV, upd_same]) hM
    have nVM : V0 ≠ M0 := ne_of_none upd_same hM
    have g0 : GL (upd (upd (upd (upd H A0 (.lst [.str h0])) D0 (.lst [])) V0 (.lst [])) M0 (.dK [])) A0 D0 V0 M0 (gs0 h0) :=
      ⟨by rw [upd_ne nAM, upd_ne nAV, upd_ne nAD, upd_same]; rfl, by rw [upd_ne nDM, upd_ne nDV, upd_same]; rfl, by rw [upd_ne nVM, upd_same]; rfl, ⟨[], upd_same, rfl⟩, nAD, nAV, nDV⟩
    have gt := g0.same (Sm.new (o := .tup [.ref A0, .ref D0, .ref V0, .ref M0]) ht)
    have st := s4.new' (o := .tup [.ref A0, .ref D0, .ref V0, .ref M0]) ht
    refine ⟨_, rfl, by decide, by decide, ?_⟩
    refine for_it (walk_range (lo := 0) (n := 400)) (fun i σ' H' => ∃ A h s, (∃ o9 o10 o11 o12, σ' = [some (.ref l), some (.str r.str), some (.str w_.str), some (.str h), some (.int pat), some (.ref A), some (.ref D0), some (.ref V0), some (.ref M0), o9, o10, o11, o12]) ∧ Sm H H' ∧ GL H' A D0 V0 M0 s ∧ GOk cs h0 s ∧ mu s ≤ 65 ∧ s.dn.length ≤ pat ∧ gathF cs r w_ pat (400 - i) s = gath cs r w_ h0 pat)
      ⟨A0, h0, gs0 h0, ⟨_, _, _, _, rfl⟩, st, gt, GOk.start cs hu, mu0 h0, Nat.zero_le _, rfl⟩ (fun _ _ _ _ _ => trivial) (fun i v σ1 H1 H2 hi ⟨A, h, s_, ⟨o9, o10, o11, o12, e0⟩, s1, g, go, ml, pl, ef⟩ hy => ?_) (fun σ1 H1 ⟨A, h, s_, ⟨o9, o10, o11, o12, e0⟩, s1, g, go, ml, pl, ef⟩ => ?_)
    · subst e0
      obtain ⟨rfl, rfl⟩ := hy
      obtain ⟨k, hk⟩ : ∃ k, 400 - i = k + 1 := ⟨399 - i, by omega⟩
      have hk2 : 400 - (i + 1) = k := by omega
      rw [hk] at ef
      have vl := go.visLen ol
      have dl := go.dnLen
      have mel := go.metLen ok
      have agl : s_.ag.length ≤ 65 := by unfold mu at ml; omega
      refine ⟨_, rfl, szl rfl, fun t2 ht2 => eqD_of (eList eStr) (u := s_.ag) (v := []) (by decide) (dp_strsL (SqL.of ((Sm.new ht2) _ _ g.ag))) (dp_nilL eStr upd_same) (fun x hx => uS_ok (go.agU x hx)) (fun _ hx => (nomatch hx)) ⟨_, rfl, ?_⟩⟩
      have g1 := g.same (Sm.new (o := .lst []) ht2)
      have s2 := s1.new' (o := .lst []) ht2
      have ret : (s_.ag = [] ∨ pat ≤ s_.dn.length) → ∀ p, upd H2 t2 (.lst []) p = none → Q (.ref p) (upd (upd H2 t2 (.lst [])) p (.tup [.ref M0, .ref V0, .int (s_.dn.map V.str).length])) := fun c p hp => by
        rw [gathF_end c] at ef
        obtain ⟨kvs, e1, e2⟩ := g1.me
        exact q p M0 V0 kvs _ (s2.new' hp) (by rw [upd_same, List.length_map, ef]) ((Sm.new hp) _ _ e1) (by rw [← ef]; exact e2) (by rw [← ef]; exact (Sm.new hp) _ _ g1.vi)
      by_cases en : s_.ag = []
      · exact ifT (dT en) (ifT rfl ⟨_, rfl, _, rfl, _, rfl, _, _, rfl, .inl ⟨_, SqL.of g1.dn, rfl⟩, szl rfl, ret (.inl en)⟩)
      · refine ifF (dF en) ⟨_, rfl, _, _, rfl, .inl ⟨_, SqL.of g1.dn, rfl⟩, _, rfl, rfl, _, rfl, ?_⟩
        by_cases ep : pat ≤ s_.dn.length
        · exact ifT (dT (by rw [List.length_map, Nat.le_antisymm pl ep])) ⟨_, rfl, _, rfl, _, rfl, _, _, rfl, .inl ⟨_, SqL.of g1.dn, rfl⟩, szl rfl, ret (.inr ep)⟩
        · have nb : ¬ (s_.ag = [] ∨ pat ≤ s_.dn.length) := fun z => z.elim en ep
          rw [gathF_on nb] at ef
          refine ifF (dF (fun z => by have := V.int.inj z; rw [List.length_map] at this; omega)) ?_
          have lt := mu_step (r := r) (w := w_) go ok en
          have gos := go.step (r := r) (w := w_) ok
          have gsd := gstep_dn (cs := cs) (r := r) (w := w_) (s := s_)
          obtain ⟨h1, rest, ea⟩ : ∃ h rest, s_.ag = h :: rest := by
            cases e : s_.ag with
            | nil => exact absurd e en
            | cons h rest => exact ⟨h, rest, rfl⟩
          have eag : (upd H2 t2 (.lst [])) A = some (.lst (.str h1 :: rest.map V.str)) := by rw [g1.ag, ea]; rfl
          refine ⟨_, rfl, A, _, _, _, rfl, rfl, SqL.of eag, atI_nat (j := 0) rfl, _, rfl, 1, rfl, A, _, rfl, SqL.of eag, fun A1 hA1 => ⟨_, _, rfl, ?_⟩⟩
          rw [cut_1]
          have s3 := s2.new' (o := .lst (rest.map V.str)) hA1
          have g2 : GL (upd (upd H2 t2 (.lst [])) A1 (.lst (rest.map V.str))) A1 D0 V0 M0 { s_ with ag := rest } := (g1.same (Sm.new hA1)).newA upd_same (ne_of_none g1.dn hA1).symm (ne_of_none g1.vi hA1).symm
          refine ⟨_, rfl, _, rfl, rd_ninS (.inl (SqL.of g2.dn)) ⟨_, rfl, ?_⟩⟩
          by_cases m : h1 ∈ s_.dn
          · refine ifF (nF m) ⟨A1, h1, _, ⟨_, _, _, _, rfl⟩, s3, g2, ?_, ?_, pl, ?_⟩
            · rw [gstep_done ea m] at gos; exact gos
            · rw [gstep_done ea m] at lt; omega
            · rw [gstep_done ea m] at ef; rw [hk2]; exact ef
          · refine ifT (nT m) ⟨_, rfl, .inl ⟨rfl, _, SqL.of g2.dn⟩, _, rfl, D0, _, _, rfl, rfl, g2.dn, sizeLt (by show (s_.dn.map V.str).length ≤ 1000; rw [List.length_map]; omega), ?_⟩
            rw [show s_.dn.map V.str ++ [V.str h1] = (s_.dn ++ [h1]).map V.str by simp]
            have s5 : Sm H (upd (upd (upd H2 t2 (.lst [])) A1 (.lst (rest.map V.str))) D0 (.lst ((s_.dn ++ [h1]).map V.str))) := s3.wr hD0
            have g3 : GL (upd (upd (upd H2 t2 (.lst [])) A1 (.lst (rest.map V.str))) D0 (.lst ((s_.dn ++ [h1]).map V.str))) A1 D0 V0 M0 { s_ with ag := rest, dn := s_.dn ++ [h1] } := g2.putD
            have pl2 : (s_.dn ++ [h1]).length ≤ pat := by rw [List.length_append]; simp; omega
            refine ⟨_, rfl, _, rfl, _, rfl, l, cs, h1, r, rfl, hs.same s5, ok, fun p H3 s6 ep3 => ⟨p, _, _, _, rfl, rfl, SqT.of ep3, rfl, ?_⟩⟩
            have s7 := s5.trans s6
            have g4 := g3.same s6
            refine ⟨_, rfl, rfl, _, rfl, ?_⟩
            cases el : land cs r h1 with
            | none =>
              rw [gstep_none ea m el] at gos lt ef
              exact ifF rfl (ifF rfl ⟨A1, h1, _, ⟨_, _, _, _, rfl⟩, s7, g4, gos, by omega, pl2, by rw [hk2]; exact ef⟩)
            | some pp =>
              refine ifT rfl ⟨_, rfl, _, rfl, rd_ninN (.inl (SqL.of g4.vi)) ⟨_, rfl, ?_⟩⟩
              by_cases vv : pp ∈ s_.vis
              · rw [gstep_seen ea m el vv] at gos lt ef
                exact ifF (nF vv) ⟨A1, h1, _, ⟨_, _, _, _, rfl⟩, s7, g4, gos, by omega, pl2, by rw [hk2]; exact ef⟩
              · obtain ⟨c, hc⟩ := get_of_lt (land_lt el)
                have cok := ok.at hc
                have bl := cok.bkL
                have al4 := cok.alL
                rw [gstep_new ea m el vv hc] at gos lt ef
                obtain ⟨v, ev, f, rfl, b, al, hf, hb, hal⟩ := hx.at hc
                refine ifT (nT vv) ⟨_, rfl, .inl ⟨rfl, _, SqL.of g4.vi⟩, _, rfl, V0, _, _, rfl, rfl, g4.vi, sizeLt (by show (s_.vis.map vN).length ≤ 1000; rw [List.length_map]; omega), ?_⟩
                rw [show s_.vis.map vN ++ [optV (some pp)] = (s_.vis ++ [pp]).map vN by simp [optV]]
                have s8 : Sm H (upd H3 V0 (.lst ((s_.vis ++ [pp]).map vN))) := s7.wr hV0
                have g5 : GL (upd H3 V0 (.lst ((s_.vis ++ [pp]).map vN))) A1 D0 V0 M0 { s_ with ag := rest, dn := s_.dn ++ [h1], vis := s_.vis ++ [pp] } := g4.putV
                refine ⟨_, rfl, _, rfl, l, _, _, _, rfl, rfl, s8.seq hl, atI_nat ev, f, _, _, _, rfl, rfl, s8.tup hf, rfl, b, rfl, ⟨_, s8.tup hb⟩, ?_⟩
                refine for_it (walk_tup (xs := c.bk.map V.int)) (fun j σ' H' => (∃ o11 o12, σ' = [some (.ref l), some (.str r.str), some (.str w_.str), some (.str h1), some (.int pat), some (.ref A1), some (.ref D0), some (.ref V0), some (.ref M0), some (.int (0 + (i : Nat))), some (.int pp), o11, o12]) ∧ Sm H H' ∧ GL H' A1 D0 V0 M0 ⟨rest, s_.dn ++ [h1], s_.vis ++ [pp], addBs s_.met (c.bk.take j)⟩)
                  ⟨⟨_, _, rfl⟩, s8, g5⟩ (fun _ _ _ _ hh => hh.2.1.tup hb) (fun j v σ1 H4 H5 hj ⟨⟨o11, o12, e0⟩, s9, g6⟩ hyy => ?_) (fun σ1 H4 ⟨⟨o11, o12, e0⟩, s9, g6⟩ => ?_)
                · subst e0
                  obtain ⟨rfl, ev2⟩ := hyy
                  rw [List.getElem?_map] at ev2
                  obtain ⟨bk, ek, rfl⟩ := Option.map_eq_some_iff.mp ev2
                  obtain ⟨kvs, e1, e2⟩ := g6.me
                  have mlen := addBs_len s_.met (c.bk.take j)
                  have kl := congrArg List.length e2
                  simp only [List.length_map, List.length_take] at kl mlen
                  refine ⟨_, rfl, M0, rfl, .inl ⟨kvs, .inl e1⟩, _, rfl, _, rfl, _, _, rfl, .inl ⟨_, SqL.of g6.dn, rfl⟩, _, DGet.k (k := .inl bk) e1, _, rfl, _, rfl, M0, _, rfl, DPut.k (k := .inl bk) e1 (sizeLt (by omega)), ⟨_, _, rfl⟩, s9.wr hM0, ?_⟩
                  rw [take_snoc ek, addBs_snoc]
                  by_cases mm : bk ∈ addBs s_.met (c.bk.take j)
                  · rw [addB_in mm]
                    exact g6.putM (by rw [putK_keys_old (by rw [e2]; exact List.mem_map_of_mem mm), e2])
                  · have m0 : (Sum.inl bk : L2.Key) ∉ kvs.map Prod.fst := fun z => by
                      rw [e2] at z
                      obtain ⟨x, hx, e⟩ := List.mem_map.mp z
                      cases e
                      exact mm hx
                    rw [addB_out mm]
                    exact g6.putM (by rw [putK_keys_new m0, e2, List.map_append]; rfl)
                · subst e0
                  rw [List.length_map, List.take_length] at g6
                  refine ⟨_, rfl, _, rfl, l, _, _, _, rfl, rfl, s9.seq hl, atI_nat ev, f, _, _, _, rfl, rfl, s9.tup hf, rfl, al, _, rfl, .inr (s9.tup hal), fun Hi hHi => ?_⟩
                  have s10 := s9.new' (o := .lst (c.al.map V.str)) hHi
                  have g7 := g6.same (Sm.new (o := .lst (c.al.map V.str)) hHi)
                  have nHD : Hi ≠ D0 := (ne_of_none g6.dn hHi).symm
                  have nHV : Hi ≠ V0 := (ne_of_none g6.vi hHi).symm
                  refine ⟨fun x H6 => ∃ A2, x = .ref A2 ∧ Sm (upd H4 Hi (.lst (c.al.map V.str))) H6 ∧ H6 A2 = some (.lst ((comb w_ rest c.al).map V.str)) ∧ A2 ≠ D0 ∧ A2 ≠ V0, fun Dc hDc => ?_, ?_⟩
                  · have sD : Sm (upd H4 Hi (.lst (c.al.map V.str))) (upd (upd H4 Hi (.lst (c.al.map V.str))) Dc (.dK [])) := Sm.new hDc
                    have eHi : upd H4 Hi (.lst (c.al.map V.str)) Hi = some (.lst (c.al.map V.str)) := upd_same
                    refine ⟨_, rfl, _, rfl, A1, Hi, _, _, rfl, rfl, sD _ _ g7.ag, sD _ _ eHi, sizeOf' (by simp; rw [ea] at agl; simp at agl; omega), fun B1 hB1 => ?_⟩
                    have sB := sD.new' (o := .lst (rest.map V.str ++ c.al.map V.str)) hB1
                    refine ⟨_, rfl, _, rfl, Hi, A1, _, _, rfl, rfl, sB _ _ eHi, sB _ _ g7.ag, sizeOf' (by simp; rw [ea] at agl; simp at agl; omega), fun B2 hB2 => ?_⟩
                    have sC := sB.new' (o := .lst (c.al.map V.str ++ rest.map V.str)) hB2
                    have eB1 : upd (upd (upd (upd H4 Hi (.lst (c.al.map V.str))) Dc (.dK [])) B1 (.lst (rest.map V.str ++ c.al.map V.str))) B2 (.lst (c.al.map V.str ++ rest.map V.str)) B1 = some (.lst (rest.map V.str ++ c.al.map V.str)) := (Sm.new hB2) _ _ upd_same
                    have eDc : upd (upd (upd (upd H4 Hi (.lst (c.al.map V.str))) Dc (.dK [])) B1 (.lst (rest.map V.str ++ c.al.map V.str))) B2 (.lst (c.al.map V.str ++ rest.map V.str)) Dc = some (.dK []) := (Sm.new hB2) _ _ ((Sm.new hB1) _ _ upd_same)
                    have sE : Sm (upd H4 Hi (.lst (c.al.map V.str))) (upd (upd (upd (upd (upd H4 Hi (.lst (c.al.map V.str))) Dc (.dK [])) B1 (.lst (rest.map V.str ++ c.al.map V.str))) B2 (.lst (c.al.map V.str ++ rest.map V.str))) Dc (.dK (mergeK [] [(.inr "broad", .ref B1), (.inr "deep", .ref B2), (.inr "straight", .ref Hi)]))) := sC.wr hDc
                    have vD : ∀ (B : Addr) (ys : List V), upd (upd (upd (upd H4 Hi (.lst (c.al.map V.str))) Dc (.dK [])) B1 (.lst (rest.map V.str ++ c.al.map V.str))) B2 (.lst (c.al.map V.str ++ rest.map V.str)) B = some (.lst ys) → upd (upd (upd (upd (upd H4 Hi (.lst (c.al.map V.str))) Dc (.dK [])) B1 (.lst (rest.map V.str ++ c.al.map V.str))) B2 (.lst (c.al.map V.str ++ rest.map V.str))) Dc (.dK (mergeK [] [(.inr "broad", .ref B1), (.inr "deep", .ref B2), (.inr "straight", .ref Hi)])) B = some (.lst ys) := fun B ys e => by
                      rw [upd_ne (ne_of e eDc fun z => nomatch z)]; exact e
                    refine ⟨_, rfl, eDc, [(.inr "broad", .ref B1), (.inr "deep", .ref B2), (.inr "straight", .ref Hi)], rfl, (by show 3 ≤ 15; decide), _, rfl, Dc, ?_⟩
                    have hk : DGet (upd (upd (upd (upd (upd H4 Hi (.lst (c.al.map V.str))) Dc (.dK [])) B1 (.lst (rest.map V.str ++ c.al.map V.str))) B2 (.lst (c.al.map V.str ++ rest.map V.str))) Dc (.dK (mergeK [] [(.inr "broad", .ref B1), (.inr "deep", .ref B2), (.inr "straight", .ref Hi)]))) Dc (kV (.inr w_.str)) _ := DGet.k upd_same
                    cases w_ with
                    | broad => exact ⟨.ref B1, rfl, hk, B1, rfl, sE, by rw [vD _ _ eB1]; simp [comb], (ne_of_none (sD _ _ g7.dn) hB1).symm, (ne_of_none (sD _ _ g7.vi) hB1).symm⟩
                    | deep => exact ⟨.ref B2, rfl, hk, B2, rfl, sE, by rw [vD _ _ upd_same]; simp [comb], (ne_of_none (sB _ _ g7.dn) hB2).symm, (ne_of_none (sB _ _ g7.vi) hB2).symm⟩
                    | straight => exact ⟨.ref Hi, rfl, hk, Hi, rfl, sE, sE _ _ eHi, nHD, nHV⟩
                  · rintro x H6 ⟨A2, rfl, s11, eA2, a1, a2⟩
                    exact ⟨A2, h1, ⟨comb w_ rest c.al, s_.dn ++ [h1], s_.vis ++ [pp], addBs s_.met c.bk⟩, ⟨_, _, _, _, rfl⟩, s10.trans s11, (g7.same s11).newA eA2 a1 a2, gos, by omega, pl2, by rw [hk2]; exact ef⟩
    · subst e0
      have e400 : 400 - 400 = 0 := rfl
      obtain ⟨kvs, e1, e2⟩ := g.me
      have ef2 : s_ = gath cs r w_ h0 pat := ef
      refine ⟨_, rfl, _, rfl, _, rfl, _, _, rfl, .inl ⟨_, SqL.of g.dn, rfl⟩, szl rfl, fun p hp => ?_⟩
      exact q p M0 V0 kvs _ (s1.new' hp) (by rw [upd_same, List.length_map, ef2]) ((Sm.new hp) _ _ e1) (by rw [← ef2]; exact e2) (by rw [← ef2]; exact (Sm.new hp) _ _ g.vi)
end
end Se
namespace Se
open PySem PySem.Spec PyProof.Rows L2
section
variable {P : Program} {w : World} {K : PySem.W.Frag} {mg : Str → Option Value} {base : Heap} {CC CD CW CG aR aW : Addr}
theorem sc_law_reach : FnScope ["_law_some", "_law_rule", "_law_heading", "_law_met", "_law_level", "_law_place", "_law_one", "_law_later", "_law_other", "_law_tomes"] ["_law_some", "_law_rule", "_law_heading"] (defScope s_law_reach) := C8.fnScope_by (by decide +kernel)
def sp_lreach (K : PySem.W.Frag) : Sp := fun vs H Q _ => ∃ l cs h, ∃ r : Rl, vs = [.ref l, .str r.str, .str h] ∧ SomeAt K H l cs ∧ Ok cs ∧ h ∈ uS ∧ ∀ p H', Sm H H' → H' p = some (.tup ((reach cs r h).map V.int)) → Q (.ref p) H'
theorem ok_law_reach (T : Tx K mg CC CD CW CG aR aW) : C8.Cal P w K mg base 4 "_law_reach" (sp_lreach K) [] := by
  refine cal_of T.d_law_reach (fun _ _ _ _ _ _ us hl => match us, hl with | [_, _, _], _ => rfl) sc_law_reach (fun vs H Q E h => ?_) (fun f cdv A outer s H vs Q E hr h => ?_)
  · obtain ⟨l, cs, h, r, rfl, hs, ok, hu, q⟩ := h; rfl
  · obtain ⟨l, cs, h, r, rfl, hs, ok, hu, q⟩ := h
    refine ⟨_, (pss_cons (ps_asg (pe_tup (pa_cons (pe_lst pa_nil) (pa_cons (pe_lst (pa_cons (pe_ix (ix_tupK (K := K) rfl) (C8.pe_c (ok_law_landing T) hr (by decide) (by rfl) (pa_cons (pv 0) (pa_cons (pv 1) (pa_cons (pv 2) pa_nil)))) pe_int (fun _ _ => rfl)) pa_nil)) pa_nil))) (pg_tup rfl (pgs_cons (pg_name (i := 3) sc_law_reach.nd rfl (by first | exact Or.inl rfl | exact Or.inr rfl)) (pgs_cons (pg_name (i := 4) sc_law_reach.nd rfl (by first | exact Or.inl rfl | exact Or.inr rfl)) pgs_nil))))
      (pss_cons (ps_while PassesOwn.never (pt_cmpR (op_neDK (K := K) rfl hr.units) (pv 4) (pe_lst pa_nil) (nomark _)) (pss_cons (ps_setLc (i := 4) (own := [("_law_place", 5)]) (g := (gName 5)) rfl sc_law_reach.nd rfl rfl (sw_true rfl rfl rfl (by decide +kernel)) (pi_list (pe_sortI (K := K) rfl rfl (by rfl) T.b_sorted (by rfl) T.b_set (pe_lc (own := [("_law_one", 6)]) (g := (gName 6)) rfl sc_law_reach.nd (pi_list (pv 4)) (blkOk_by (own := [("_law_one", 6)]) (N := ["_law_some", "_law_rule", "_law_heading", "_law_met", "_law_level", "_law_place", "_law_one", "_law_later", "_law_other", "_law_tomes"]) (sc := defScope s_law_reach) (by decide +kernel)) (fun _ _ _ _ _ => (pg_name (i := 6) sc_law_reach.nd rfl (by first | exact Or.inl rfl | exact Or.inr rfl))) (fun _ _ _ _ _ => (pts_one (pt_cmpR op_notN (pv 6) pe_non (nomark _)))) (fun _ _ _ _ _ => (pv 6))))) (blkOk_by (own := [("_law_place", 5)]) (N := ["_law_some", "_law_rule", "_law_heading", "_law_met", "_law_level", "_law_place", "_law_one", "_law_later", "_law_other", "_law_tomes"]) (sc := defScope s_law_reach) (by decide +kernel)) (fun _ _ _ _ _ => (pg_name (i := 5) sc_law_reach.nd rfl (by first | exact Or.inl rfl | exact Or.inr rfl))) (fun _ _ _ _ _ => (pts_one (pt_cmpR (op_ninK (K := K) rfl) (pv 5) (pv 3) (by rfl)))) (fun _ _ _ _ _ => (pv 5)))
      (pss_cons (ps_asg (pe_tup (pa_cons (pe_op op_cat (pv 3) (pv 4)) (pa_cons (pe_lst pa_nil) pa_nil))) (pg_tup rfl (pgs_cons (pg_name (i := 3) sc_law_reach.nd rfl (by first | exact Or.inl rfl | exact Or.inr rfl)) (pgs_cons (pg_name (i := 7) sc_law_reach.nd rfl (by first | exact Or.inl rfl | exact Or.inr rfl)) pgs_nil))))
      (pss_cons (ps_for PassesOwn.never rfl (pi_list (pv 4)) (pg_name (i := 5) sc_law_reach.nd rfl (by first | exact Or.inl rfl | exact Or.inr rfl)) (pss_one (ps_set (i := 7) sc_law_reach.nd rfl (by first | exact Or.inl rfl | exact Or.inr rfl) (pe_op op_cat (pv 7) (pe_lc (own := [("_law_other", 8)]) (g := (gName 8)) (tt := tYes) rfl sc_law_reach.nd (pi_tup (pe_ix (ix_tupK (K := K) rfl) (pe_ix (ix_listK (K := K) rfl) (pv 0) (pv 5) (fun _ _ => rfl)) pe_int (fun _ _ => rfl))) (blkOk_by (own := [("_law_other", 8)]) (N := ["_law_some", "_law_rule", "_law_heading", "_law_met", "_law_level", "_law_place", "_law_one", "_law_later", "_law_other", "_law_tomes"]) (sc := defScope s_law_reach) (by decide +kernel)) (fun _ _ _ _ _ => (pg_name (i := 8) sc_law_reach.nd rfl (by first | exact Or.inl rfl | exact Or.inr rfl))) (fun _ _ _ _ _ => pts_nil) (fun _ _ _ _ _ => (pe_ix (ix_tupK (K := K) rfl) (C8.pe_c (ok_law_landing T) hr (by decide) (by rfl) (pa_cons (pv 0) (pa_cons (pv 1) (pa_cons (pv 8) pa_nil)))) pe_int (fun _ _ => rfl))))))))
      (pss_one (ps_set (i := 4) sc_law_reach.nd rfl (by first | exact Or.inl rfl | exact Or.inr rfl) (pv 7)))))))
      (pss_cons (ps_set (i := 9) sc_law_reach.nd rfl (by first | exact Or.inl rfl | exact Or.inr rfl) (pe_lst pa_nil))
      (pss_cons (ps_for PassesOwn.never rfl (pi_list (pv 3)) (pg_name (i := 5) sc_law_reach.nd rfl (by first | exact Or.inl rfl | exact Or.inr rfl)) (pss_one (ps_set (i := 9) sc_law_reach.nd rfl (by first | exact Or.inl rfl | exact Or.inr rfl) (pe_op op_cat (pv 9) (pe_callTy (call_listK (K := K) rfl) (by rfl) T.b_list (by decide +kernel) (pa_cons (pe_ix (ix_tupK (K := K) rfl) (pe_ix (ix_listK (K := K) rfl) (pv 0) (pv 5) (fun _ _ => rfl)) pe_int (fun _ _ => rfl)) pa_nil))))))
      (pss_one (ps_ret (pe_tupleK (K := K) rfl (by rfl) T.b_tuple (pe_sortI (K := K) rfl rfl (by rfl) T.b_sorted (by rfl) T.b_set (pv 9))))))))), ?_⟩
    have ol := ok.len
    obtain ⟨xs, hl, hx⟩ := hs.ex
    have len := hx.1
    refine ⟨szl rfl, fun M0 hM => ⟨_, rfl, _, rfl, _, rfl, l, cs, h, r, rfl, hs.same (Sm.new hM), ok, fun p H1 s1 ep => ⟨p, _, _, _, rfl, rfl, SqT.of ep, rfl, szl rfl, fun L0 hL => ⟨szl rfl, fun t ht => ⟨t, _, rfl, SqT.of upd_same, rfl, _, _, rfl, _, _, rfl, rfl, ?_⟩⟩⟩⟩⟩
    have sM : Sm H (upd H M0 (.lst [])) := Sm.new hM
    have s2 := sM.trans s1
    have s3 := (s2.new' (o := .lst [optV (land cs r h)]) hL).new' (o := .tup [.ref M0, .ref L0]) ht
    have eM0 := s1 _ _ (upd_same : upd H M0 (.lst []) M0 = _)
    have lat_len : ∀ L : List Int, (later cs r L).length ≤ 4 * L.length := fun L => by
      induction L with
      | nil => simp [later]
      | cons k L ih =>
        unfold later at ih ⊢
        rw [List.flatMap_cons, List.length_append, List.length_cons]
        have : (laterF cs r k).length ≤ 4 := by
          unfold laterF
          cases hc : cs[k.toNat]? with
          | none => simp
          | some c => rw [List.length_map]; exact (ok.at hc).alL
        omega
    refine while_m (fun m σ' H' => ∃ M L met level, (∃ o5 o6 o7 o8 o9, σ' = [some (.ref l), some (.str r.str), some (.str h), some (.ref M), some (.ref L), o5, o6, o7, o8, o9]) ∧ Sm H H' ∧ H' M = some (.lst (met.map V.int)) ∧ H' L = some (.lst (level.map optV)) ∧ LInv cs r h met level ∧ level.length ≤ 64 ∧ m = 2 * (16 - met.length) + (if level = [] then 0 else 1))
      _ ⟨M0, L0, [], [land cs r h], ⟨_, _, _, _, _, rfl⟩, s3, (Sm.new ht) _ _ ((Sm.new hL) _ _ eM0), (Sm.new ht) _ _ upd_same, LInv.start cs r h, by simp, rfl⟩ (fun m σ1 H2 ⟨M, L, met, level, ⟨o5, o6, o7, o8, o9, e0⟩, sH, eM, eL, d, ll, em⟩ => ?_) ?_
    · subst e0 em
      have ml := d.len ol
      refine ⟨_, rfl, szl rfl, fun t2 ht2 => neD_of (eList eOpt) (u := level) (v := []) (by decide) (dp_optsL (SqL.of ((Sm.new ht2) _ _ eL))) (dp_nilL eOpt upd_same) (fun _ _ => trivial) (fun _ hx => (nomatch hx)) ⟨_, rfl, ?_⟩⟩
      have sH2 := sH.new' (o := .lst []) ht2
      have eM2 := (Sm.new (o := .lst []) ht2) _ _ eM
      have eL2 := (Sm.new (o := .lst []) ht2) _ _ eL
      by_cases en : level = []
      · subst en
        refine ifF (nF rfl) ⟨szl rfl, fun Z hZ => ⟨_, rfl, M, rfl, ⟨_, SqL.of ((Sm.new hZ) _ _ eM2)⟩, ?_⟩⟩
        have bl : ∀ L : List Int, (L.flatMap (bksF cs)).length ≤ 4 * L.length := fun L => by
          induction L with
          | nil => simp
          | cons k L ih =>
            rw [List.flatMap_cons, List.length_append, List.length_cons]
            have : (bksF cs k).length ≤ 4 := by
              unfold bksF
              cases hc : cs[k.toNat]? with
              | none => simp
              | some c => exact (ok.at hc).bkL
            omega
        refine for_it (walk_list (xs := met.map V.int)) (fun j σ' H' => ∃ Z', (∃ o4 o5 o6 o7 o8, σ' = [some (.ref l), some (.str r.str), some (.str h), some (.ref M), o4, o5, o6, o7, o8, some (.ref Z')]) ∧ Sm H H' ∧ H' M = some (.lst (met.map V.int)) ∧ H' Z' = some (.lst (((met.take j).flatMap (bksF cs)).map V.int)))
          ⟨Z, ⟨_, _, _, _, _, rfl⟩, sH2.new' hZ, (Sm.new hZ) _ _ eM2, upd_same⟩ (fun _ _ _ _ ⟨_, _, _, e, _⟩ => SqL.of e) (fun j v σ1 H3 H4 hj ⟨Z', ⟨o4, o5, o6, o7, o8, e0⟩, s4, e4, ez⟩ hy => ?_) (fun σ1 H3 ⟨Z', ⟨o4, o5, o6, o7, o8, e0⟩, s4, e4, ez⟩ => ?_)
        · subst e0
          obtain ⟨rfl, ev⟩ := hy
          rw [List.getElem?_map] at ev
          obtain ⟨k, ek, rfl⟩ := Option.map_eq_some_iff.mp ev
          obtain ⟨n, rfl, hn⟩ := d.mr k (List.mem_of_getElem? ek)
          obtain ⟨c, hc⟩ := get_of_lt hn.lt
          obtain ⟨v, ev2, f, rfl, b, al, hf, hb, hal⟩ := hx.at hc
          have b1 := bl (met.take j)
          rw [List.length_take] at b1
          have b2 := (ok.at hc).bkL
          refine ⟨_, rfl, _, rfl, _, rfl, l, _, _, _, rfl, rfl, s4.seq hl, atI_nat ev2, f, _, _, _, rfl, rfl, s4.tup hf, rfl, b, c.bk.map V.int, rfl, .inr (s4.tup hb), fun B hB => ⟨Z', B, _, _, rfl, rfl, (Sm.new hB) _ _ ez, upd_same, sizeOf' (by simp only [List.length_map]; omega), fun C hC => ⟨C, ⟨_, _, _, _, _, rfl⟩, (s4.new' hB).new' hC, (Sm.new hC) _ _ ((Sm.new hB) _ _ e4), ?_⟩⟩⟩
          rw [upd_same, take_snoc ek, List.flatMap_append, List.map_append]
          have : bksF cs (n : Int) = c.bk := by unfold bksF; rw [Int.toNat_natCast, hc]
          simp [this]
        · subst e0
          rw [List.length_map, List.take_length] at ez
          have b1 := bl met
          refine ⟨_, rfl, Z', _, rfl, .inl (SqL.of ez), by omega, fun k hk => ?_, fun S H5 s5 _ e5 => .inl ⟨S, _, rfl, SqL.of e5, fun p hp => q p _ ((s4.trans s5).new' hp) ?_⟩⟩
          · obtain ⟨m, hm, hk⟩ := List.mem_flatMap.mp hk
            unfold bksF at hk
            cases hc : cs[m.toNat]? with
            | none => rw [hc] at hk; cases hk
            | some c =>
              rw [hc] at hk
              have := (ok.at hc).bkB k hk
              omega
          · rw [upd_same, reach_levels ok hu d]
      · have d2 := d.step ol
        have ml2 := d2.len ol
        rw [List.length_append] at ml2
        have fl : ∀ i, ((level.take i).filterMap id).length ≤ 64 := fun i => Nat.le_trans (List.length_filterMap_le _ _) (by rw [List.length_take]; omega)
        refine ifT (nT en) ⟨_, rfl, L, rfl, ⟨_, SqL.of eL2⟩, fun D1 hD1 => lc_it (walk_list (xs := level.map optV)) (fun i H' => Sm (upd H2 t2 (.lst [])) H' ∧ H' D1 = some (.lst ((castI ((level.take i).filterMap id)).map V.int))) ⟨Sm.new hD1, upd_same⟩ (fun i H' _ ⟨s4, _⟩ => SqL.of (s4 _ _ eL2))
          (fun i v H3 H4 hi ⟨s4, e4⟩ hy => ?_) (fun H3 ⟨s4, e4⟩ => ?_)⟩
        · obtain ⟨rfl, ev⟩ := hy
          rw [List.getElem?_map] at ev
          obtain ⟨o, eo, rfl⟩ := Option.map_eq_some_iff.mp ev
          have fli := fl i
          refine ⟨rfl, _, rfl, rfl, _, rfl, ?_⟩
          cases o with
          | none =>
            refine ifF rfl ⟨s4, ?_⟩
            rw [take_snoc eo, List.filterMap_append]
            simpa using e4
          | some n =>
            refine ifT rfl ⟨_, rfl, _, e4, sizeLt (by unfold castI; simp only [List.length_map]; omega), s4.wr hD1, ?_⟩
            rw [upd_same, take_snoc eo, List.filterMap_append]
            simp [castI, optV]
        · rw [List.length_map, List.take_length] at e4
          have fll := Nat.le_trans (List.length_filterMap_le id level) ll
          refine ⟨D1, _, rfl, .inl (SqL.of e4), by unfold castI; rw [List.length_map]; omega, fun k hk => ?_, fun S H4 s5 _ e5 => ?_⟩
          · obtain ⟨n, hn, rfl⟩ := List.mem_map.mp hk
            obtain ⟨a, ha, e⟩ := List.mem_filterMap.mp hn
            have : a = some n := e
            subst this
            have := (d.lr n ha).lt
            omega
          have s05 := s4.trans s5
          refine ⟨S, rfl, ⟨_, SqL.of e5⟩, fun D2 hD2 => lc_it (walk_list (xs := (lvlS level).map V.int)) (fun i H' => Sm H4 H' ∧ H' D2 = some (.lst ((((lvlS level).take i).filter fun k => !decide (k ∈ met)).map V.int))) ⟨Sm.new hD2, upd_same⟩ (fun i H' _ ⟨s6, _⟩ => SqL.of (s6 _ _ e5))
            (fun i v H5 H6 hi ⟨s6, e6⟩ hy => ?_) (fun H5 ⟨s6, e6⟩ => ?_)⟩
          · obtain ⟨rfl, ev⟩ := hy
            rw [List.getElem?_map] at ev
            obtain ⟨k, ek, rfl⟩ := Option.map_eq_some_iff.mp ev
            have fl2 : (((lvlS level).take i).filter fun k => !decide (k ∈ met)).length ≤ 31 := Nat.le_trans (List.length_filter_le _ _) (by have := sI_len (castI (level.filterMap id)); unfold lvlS; rw [List.length_take]; omega)
            refine ⟨rfl, _, rfl, _, rfl, rd_ninI (.inl (SqL.of (s6 _ _ (s05 _ _ eM2)))) ⟨_, rfl, ?_⟩⟩
            by_cases mm : k ∈ met
            · refine ifF (nF mm) ⟨s6, ?_⟩
              rw [take_snoc ek, filter_f (f := fun k => !decide (k ∈ met)) (nF mm)]; exact e6
            · refine ifT (nT mm) ⟨_, rfl, _, e6, sizeLt (by rw [List.length_map]; omega), s6.wr hD2, ?_⟩
              rw [upd_same, take_snoc ek, filter_t (f := fun k => !decide (k ∈ met)) (nT mm), List.map_append]; rfl
          · rw [List.length_map, List.take_length] at e6
            have e6 : H5 D2 = some (.lst ((lvl met level).map V.int)) := e6
            have s06 := s05.trans s6
            have sH5 := sH2.trans s06
            refine ⟨_, rfl, _, rfl, M, D2, _, _, rfl, rfl, s06 _ _ eM2, e6, sizeOf' (by simp only [List.length_map]; omega), fun M2 hM2 => ?_⟩
            rw [← List.map_append]
            refine ⟨szl rfl, fun Z hZ => ⟨szl rfl, fun t3 ht3 => ⟨t3, _, rfl, SqT.of upd_same, rfl, _, _, rfl, _, _, rfl, rfl, ?_⟩⟩⟩
            have s7 := ((sH5.new' (o := .lst ((met ++ lvl met level).map V.int)) hM2).new' (o := .lst []) hZ).new' (o := .tup [.ref M2, .ref Z]) ht3
            have eM7 : upd (upd (upd H5 M2 (.lst ((met ++ lvl met level).map V.int))) Z (.lst [])) t3 (.tup [.ref M2, .ref Z]) M2 = some (.lst ((met ++ lvl met level).map V.int)) := (Sm.new ht3) _ _ ((Sm.new hZ) _ _ upd_same)
            have eD7 : upd (upd (upd H5 M2 (.lst ((met ++ lvl met level).map V.int))) Z (.lst [])) t3 (.tup [.ref M2, .ref Z]) D2 = some (.lst ((lvl met level).map V.int)) := (Sm.new ht3) _ _ ((Sm.new hZ) _ _ ((Sm.new hM2) _ _ e6))
            refine ⟨_, rfl, D2, rfl, ⟨_, SqL.of eD7⟩, ?_⟩
            refine for_it (walk_list (xs := (lvl met level).map V.int)) (fun j σ' H' => ∃ Z', (∃ o5 o6 o8 o9, σ' = [some (.ref l), some (.str r.str), some (.str h), some (.ref M2), some (.ref D2), o5, o6, some (.ref Z'), o8, o9]) ∧ Sm H H' ∧ H' M2 = some (.lst ((met ++ lvl met level).map V.int)) ∧ H' D2 = some (.lst ((lvl met level).map V.int)) ∧ H' Z' = some (.lst ((later cs r ((lvl met level).take j)).map optV)))
              ⟨Z, ⟨_, _, _, _, rfl⟩, s7, eM7, eD7, (Sm.new ht3) _ _ upd_same⟩ (fun _ _ _ _ ⟨_, _, _, _, e, _⟩ => SqL.of e) (fun j v σ1 H6 H7 hj ⟨Z', ⟨o5, o6, o8, o9, e0⟩, s8, eM8, eD8, ez⟩ hy => ?_) (fun σ1 H6 ⟨Z', ⟨o5, o6, o8, o9, e0⟩, s8, eM8, eD8, ez⟩ => ?_)
            · subst e0
              obtain ⟨rfl, ev⟩ := hy
              rw [List.getElem?_map] at ev
              obtain ⟨k, ek, rfl⟩ := Option.map_eq_some_iff.mp ev
              obtain ⟨⟨n, rfl, hn⟩, _⟩ := (mem_lvl d ol).1 (List.mem_of_getElem? ek)
              obtain ⟨c, hc⟩ := get_of_lt (d.lr n hn).lt
              obtain ⟨v, ev2, f, rfl, b, al, hf, hb, hal⟩ := hx.at hc
              have al4 := (ok.at hc).alL
              have la := lat_len ((lvl met level).take j)
              rw [List.length_take] at la
              have hal8 := s8.tup hal
              refine ⟨_, rfl, _, rfl, _, rfl, l, _, _, _, rfl, rfl, s8.seq hl, atI_nat ev2, f, _, _, _, rfl, rfl, s8.tup hf, rfl, al, rfl, ⟨_, hal8⟩, fun D hD => lc_it (walk_tup (xs := c.al.map V.str)) (fun i H' => Sm H7 H' ∧ H' D = some (.lst (((c.al.take i).map (land cs r)).map optV))) ⟨Sm.new hD, upd_same⟩ (fun i H' _ ⟨s9, _⟩ => s9.tup hal8)
                (fun i v H8 H9 hi ⟨s9, e9⟩ hy => ?_) (fun H8 ⟨s9, e9⟩ => ?_)⟩
              · obtain ⟨rfl, ev3⟩ := hy
                rw [List.getElem?_map] at ev3
                obtain ⟨h2, eh, rfl⟩ := Option.map_eq_some_iff.mp ev3
                refine ⟨rfl, yes_if ⟨_, rfl, _, rfl, _, rfl, l, cs, h2, r, rfl, hs.same (s8.trans s9), ok, fun p HX sX eX => ⟨p, _, _, _, rfl, rfl, SqT.of eX, rfl, _, sX _ _ e9, sizeLt (by simp; omega), (s9.trans sX).wr hD, ?_⟩⟩⟩
                rw [upd_same, take_snoc eh, List.map_append, List.map_append]; rfl
              · rw [List.length_map, List.take_length] at e9
                refine ⟨Z', D, _, _, rfl, rfl, s9 _ _ ez, e9, sizeOf' (by simp only [List.length_map]; omega), fun C hC => ⟨C, ⟨_, _, _, _, rfl⟩, (s8.trans s9).new' hC, (Sm.new hC) _ _ (s9 _ _ eM8), (Sm.new hC) _ _ (s9 _ _ eD8), ?_⟩⟩
                rw [upd_same, take_snoc ek]
                have : laterF cs r (n : Int) = c.al.map (land cs r) := by unfold laterF; rw [Int.toNat_natCast, hc]
                simp [later, this]
            · subst e0
              rw [List.length_map, List.take_length] at ez
              have la := lat_len (lvl met level)
              refine ⟨_, rfl, _, ?_, M2, Z', met ++ lvl met level, later cs r (lvl met level), ⟨_, _, _, _, _, rfl⟩, s8, eM8, ez, d2, by omega, rfl⟩
              rw [if_neg en, List.length_append]
              by_cases e1 : lvl met level = []
              · have : later cs r (lvl met level) = [] := by rw [e1]; rfl
                rw [if_pos this, e1]
                simp
              · have := List.length_pos_iff.mpr e1
                split <;> omega
    · rintro σ H Q Q' f ⟨v1, h1, z, hp⟩
      refine ⟨v1, h1, z, fun p hn => ?_⟩
      obtain ⟨d1, d2, i1, i2, i3, i4, k, i5, i6⟩ := hp p hn
      exact ⟨d1, d2, i1, i2, i3, i4, k, i5, f _ _ i6⟩
end
end Se
namespace Se
open PySem PySem.Spec PyProof.Rows L2
theorem Each.set' {α β : Type} {R R' : α → β → Prop} {xs : List α} {ys : List β} {k : Nat} {v : α} (h : Each R xs ys) (hk : ∀ y, ys[k]? = some y → R' v y) (ho : ∀ (i : Nat) (x : α) (y : β), i ≠ k → ys[i]? = some y → R x y → R' x y) : Each R' (xs.set k v) ys := by
  refine ⟨by rw [List.length_set]; exact h.1, fun i x y hx hy => ?_⟩
  by_cases e : i = k
  · subst e
    have hi : i < xs.length := by rw [h.1]; exact get_lt hy
    rw [List.getElem?_set_self hi] at hx
    cases hx
    exact hk y hy
  · rw [List.getElem?_set_ne (Ne.symm e)] at hx
    exact ho i x y e hy (h.2 i x y hx hy)
theorem Each.imp {α β : Type} {R R' : α → β → Prop} {xs : List α} {ys : List β} (h : Each R xs ys) (f : ∀ (i : Nat) (x : α) (y : β), ys[i]? = some y → R x y → R' x y) : Each R' xs ys := ⟨h.1, fun i x y hx hy => f i x y hy (h.2 i x y hx hy)⟩
theorem SInv.len {W : List (List Int)} (o : WOk W) {i : Nat} {S : List Int} (s : SInv W i S) (nd : S.Nodup) : S.length ≤ 16 := by
  have := nodup_len S (castI (List.range 16)) nd fun k hk => by
    have := s.bd o k hk
    have := o.len
    refine List.mem_map.mpr ⟨k.toNat, List.mem_range.mpr (by omega), ?_⟩
    show ((k.toNat : Nat) : Int) = k
    omega
  unfold castI at this
  simpa using this
/-- the list of the sets that grow -/
def GrowL (H : Hp) (Ah : Addr) (W : List (List Int)) (t : Nat → Nat) (xs : List V) : Prop := Each (fun x (p : Nat) => ∃ a S, x = V.ref a ∧ a ≠ Ah ∧ H a = some (.lst (S.map V.int)) ∧ TInv W p (t p) S) xs (List.range W.length)
theorem GrowL.same {H H' : Hp} {Ah : Addr} {W : List (List Int)} {t : Nat → Nat} {xs : List V} (h : GrowL H Ah W t xs) (s : Sm H H') : GrowL H' Ah W t xs := h.mono fun _ _ ⟨a, S, e, n, z, y⟩ => ⟨a, S, e, n, s _ _ z, y⟩
theorem GrowL.at_ {H : Hp} {Ah : Addr} {W : List (List Int)} {t : Nat → Nat} {xs : List V} (h : GrowL H Ah W t xs) {i : Nat} (hi : i < W.length) : ∃ a S, xs[i]? = some (.ref a) ∧ a ≠ Ah ∧ H a = some (.lst (S.map V.int)) ∧ TInv W i (t i) S := by
  obtain ⟨x, ex, a, S, rfl, n, e, z⟩ := h.at (i := i) (y := i) (by rw [List.getElem?_range hi])
  exact ⟨a, S, ex, n, e, z⟩
theorem GrowL.len {H : Hp} {Ah : Addr} {W : List (List Int)} {t : Nat → Nat} {xs : List V} (h : GrowL H Ah W t xs) : xs.length = W.length := by have := h.1; rwa [List.length_range] at this
theorem TInv.cast {W : List (List Int)} {i t t' : Nat} {S : List Int} (h : TInv W i t S) (e : t = t') : TInv W i t' S := e ▸ h
section
variable {P : Program} {w : World} {K : PySem.W.Frag} {mg : Str → Option Value} {base : Heap} {CC CD CW CG aR aW : Addr}
theorem sc_law_rings : FnScope ["_law_some", "_law_rule", "_law_ways", "_law_one", "_law_ahead", "_law_turn", "_law_k", "_law_more", "_law_goal", "_law_due", "_law_j", "_law_group"] ["_law_some", "_law_rule"] (defScope s_law_rings) := C8.fnScope_by (by decide +kernel)
def sp_lrings (K : PySem.W.Frag) : Sp := fun vs H Q _ => ∃ l cs, ∃ r : Rl, vs = [.ref l, .str r.str] ∧ SomeAt K H l cs ∧ Ok cs ∧ ∀ p xs H', Sm H H' → H' p = some (.lst xs) → TupsAt K H' xs (rings (wsOf cs r)) → Q (.ref p) H'
theorem ok_law_rings (T : Tx K mg CC CD CW CG aR aW) : C8.Cal P w K mg base 5 "_law_rings" (sp_lrings K) [] := by
  refine cal_of T.d_law_rings (fun _ _ _ _ _ _ us hl => match us, hl with | [_, _], _ => rfl) sc_law_rings (fun vs H Q E h => ?_) (fun f cdv A outer s H vs Q E hr h => ?_)
  · obtain ⟨l, cs, r, rfl, hs, ok, q⟩ := h; rfl
  · obtain ⟨l, cs, r, rfl, hs, ok, q⟩ := h
    refine ⟨_, (pss_cons (ps_set (i := 2) sc_law_rings.nd rfl (by first | exact Or.inl rfl | exact Or.inr rfl) (C8.pe_c (ok_law_leads T) hr (by decide) (by rfl) (pa_cons (pv 0) (pa_cons (pv 1) pa_nil))))
      (pss_cons (ps_set (i := 4) sc_law_rings.nd rfl (by first | exact Or.inl rfl | exact Or.inr rfl) (pe_lc (own := [("_law_one", 3)]) (g := (gName 3)) (tt := tYes) rfl sc_law_rings.nd (pi_list (pv 2)) (blkOk_by (own := [("_law_one", 3)]) (N := ["_law_some", "_law_rule", "_law_ways", "_law_one", "_law_ahead", "_law_turn", "_law_k", "_law_more", "_law_goal", "_law_due", "_law_j", "_law_group"]) (sc := defScope s_law_rings) (by decide +kernel)) (fun _ _ _ _ _ => (pg_name (i := 3) sc_law_rings.nd rfl (by first | exact Or.inl rfl | exact Or.inr rfl))) (fun _ _ _ _ _ => pts_nil) (fun _ _ _ _ _ => (pe_callTy (call_listK (K := K) rfl) (by rfl) T.b_list (by decide +kernel) (pa_cons (pv 3) pa_nil)))))
      (pss_cons (ps_for PassesOwn.never rfl (pi_range1 (by rfl) T.b_range (pa_cons (pe_callB (call_lenK (K := K) rfl) (by rfl) T.b_len PySem.boot_len (pa_cons (pv 0) pa_nil)) pa_nil)) (pg_name (i := 5) sc_law_rings.nd rfl (by first | exact Or.inl rfl | exact Or.inr rfl)) (pss_one (ps_for PassesOwn.never rfl (pi_range1 (by rfl) T.b_range (pa_cons (pe_callB (call_lenK (K := K) rfl) (by rfl) T.b_len PySem.boot_len (pa_cons (pv 0) pa_nil)) pa_nil)) (pg_name (i := 6) sc_law_rings.nd rfl (by first | exact Or.inl rfl | exact Or.inr rfl)) (pss_cons (ps_set (i := 7) sc_law_rings.nd rfl (by first | exact Or.inl rfl | exact Or.inr rfl) (pe_callTy (call_listK (K := K) rfl) (by rfl) T.b_list (by decide +kernel) (pa_cons (pe_ix (ix_listK (K := K) rfl) (pv 4) (pv 6) (fun _ _ => rfl)) pa_nil)))
      (pss_cons (ps_for PassesOwn.never rfl (pi_list (pe_ix (ix_listK (K := K) rfl) (pv 4) (pv 6) (fun _ _ => rfl))) (pg_name (i := 8) sc_law_rings.nd rfl (by first | exact Or.inl rfl | exact Or.inr rfl)) (pss_one (ps_set (i := 7) sc_law_rings.nd rfl (by first | exact Or.inl rfl | exact Or.inr rfl) (pe_op op_cat (pv 7) (pe_ix (ix_listK (K := K) rfl) (pv 2) (pv 8) (fun _ _ => rfl))))))
      (pss_one (ps_asg (pe_sortI (K := K) rfl rfl (by rfl) T.b_sorted (by rfl) T.b_set (pv 7)) (pg_sub (pv 4) (pv 6) set_list))))))))
      (pss_cons (ps_set (i := 9) sc_law_rings.nd rfl (by first | exact Or.inl rfl | exact Or.inr rfl) (pe_lst pa_nil))
      (pss_cons (ps_for PassesOwn.never rfl (pi_range1 (by rfl) T.b_range (pa_cons (pe_callB (call_lenK (K := K) rfl) (by rfl) T.b_len PySem.boot_len (pa_cons (pv 0) pa_nil)) pa_nil)) (pg_name (i := 6) sc_law_rings.nd rfl (by first | exact Or.inl rfl | exact Or.inr rfl)) (pss_cons (ps_set (i := 11) sc_law_rings.nd rfl (by first | exact Or.inl rfl | exact Or.inr rfl) (pe_tupleK (K := K) rfl (by rfl) T.b_tuple (pe_lc (own := [("_law_j", 10)]) (g := (gName 10)) rfl sc_law_rings.nd (pi_range1 (by rfl) T.b_range (pa_cons (pe_callB (call_lenK (K := K) rfl) (by rfl) T.b_len PySem.boot_len (pa_cons (pv 0) pa_nil)) pa_nil)) (blkOk_by (own := [("_law_j", 10)]) (N := ["_law_some", "_law_rule", "_law_ways", "_law_one", "_law_ahead", "_law_turn", "_law_k", "_law_more", "_law_goal", "_law_due", "_law_j", "_law_group"]) (sc := defScope s_law_rings) (by decide +kernel)) (fun _ _ _ _ _ => (pg_name (i := 10) sc_law_rings.nd rfl (by first | exact Or.inl rfl | exact Or.inr rfl))) (fun _ _ _ _ _ => (pts_one (PW.pt (pw_and (pt_cmpR (op_inK (K := K) rfl) (pv 10) (pe_ix (ix_listK (K := K) rfl) (pv 4) (pv 6) (fun _ _ => rfl)) (by rfl)) (pw_and1 (pt_cmpR (op_inK (K := K) rfl) (pv 6) (pe_ix (ix_listK (K := K) rfl) (pv 4) (pv 10) (fun _ _ => rfl)) (by rfl))))))) (fun _ _ _ _ _ => (pv 10)))))
      (pss_one (ps_if (PW.pt (pw_and (pt_cmpR op_gt (pe_callB (call_lenK (K := K) rfl) (by rfl) T.b_len PySem.boot_len (pa_cons (pv 11) pa_nil)) pe_int (nomark _)) (pw_and1 (pt_cmpR op_eq (pe_ix (ix_tupK (K := K) rfl) (pv 11) pe_int (fun _ _ => rfl)) (pv 6) (nomark _))))) (pss_one (ps_expr (pe_bm PySem.F.plainAttrs_list PySem.F.slot_list_append PySem.F.type_list_append mt_append (pv 9) (pa_cons (pv 11) pa_nil)))) pss_nil))))
      (pss_one (ps_ret (pv 9)))))))), ?_⟩
    have ol := ok.len
    have wo := wsOf_ok (r := r) ok
    have wl : (wsOf cs r).length = cs.length := by unfold wsOf; rw [List.length_map]
    obtain ⟨xs, hl, hx⟩ := hs.ex
    have len := hx.1
    refine ⟨_, rfl, _, rfl, l, cs, r, rfl, hs, ok, fun Wa ws H1 s1 e1 hW => ⟨_, rfl, Wa, rfl, ⟨_, SqL.of e1⟩, fun Ah hAh => lc_it (walk_list (xs := ws)) (fun i H' => Sm H1 H' ∧ ∃ ys, H' Ah = some (.lst ys) ∧ Each (fun x (p : Nat) => ∃ a S, x = V.ref a ∧ a ≠ Ah ∧ H' a = some (.lst (S.map V.int)) ∧ TInv (wsOf cs r) p 0 S) ys (List.range i)) ⟨Sm.new hAh, [], upd_same, Each.nil⟩ (fun i H' _ ⟨s2, _⟩ => SqL.of (s2 _ _ e1))
      (fun i v H2 H3 hi ⟨s2, ys, ey, hy1⟩ hy => ?_) (fun H2 ⟨s2, ys, ey, hy1⟩ => ?_)⟩⟩
    · obtain ⟨rfl, ev⟩ := hy
      obtain ⟨S, eS, a, rfl, ea⟩ := hW.at' ev
      have yl := hy1.1
      rw [List.length_range] at yl
      have wl2 : ws.length = cs.length := by rw [hW.1, wl]
      refine ⟨rfl, yes_if ⟨_, rfl, a, _, rfl, .inl (SqL.of (s2 _ _ ea)), fun b hb => ⟨ys, (Sm.new hb) _ _ ey, sizeLt (by omega), (s2.new' hb).wr hAh, _, upd_same, ?_⟩⟩⟩
      have bA : b ≠ Ah := (ne_of_none ey hb).symm
      rw [List.range_succ]
      refine Each.snoc (hy1.mono fun _ _ ⟨a, S, e, n, z, y⟩ => ⟨a, S, e, n, by rw [upd_ne n]; exact (Sm.new hb) _ _ z, y⟩) ⟨b, S, rfl, bA, by rw [upd_ne bA, upd_same], ?_⟩
      refine ⟨⟨fun k hk => .one eS hk, fun l k e hk => by rw [eS] at e; cases e; exact hk⟩, ?_, .inr (Nat.zero_le _)⟩
      have : S ∈ wsOf cs r := List.mem_of_getElem? eS
      obtain ⟨c, _, rfl⟩ := List.mem_map.mp this
      exact sI_nodup _
    · have wl2 : ws.length = (wsOf cs r).length := hW.1
      rw [wl2] at hy1
      have hg0 : GrowL H2 Ah (wsOf cs r) (fun _ => 0) ys := hy1
      refine ⟨_, rfl, _, _, rfl, .inl ⟨_, (s1.trans s2).seq hl, rfl⟩, _, rfl, by omega, by omega, ?_⟩
      refine for_it (walk_range (lo := 0) (n := xs.length)) (fun i σ' H' => (∃ o3 o5 o6 o7 o8 o9 o10 o11, σ' = [some (.ref l), some (.str r.str), some (.ref Wa), o3, some (.ref Ah), o5, o6, o7, o8, o9, o10, o11]) ∧ Sm H1 H' ∧ ∃ ys, H' Ah = some (.lst ys) ∧ GrowL H' Ah (wsOf cs r) (fun _ => i) ys)
        ⟨⟨_, _, _, _, _, _, _, _, rfl⟩, s2, ys, ey, hg0⟩ (fun _ _ _ _ _ => trivial) (fun i v σ1 H3 H4 hi ⟨⟨o3, o5, o6, o7, o8, o9, o10, o11, e0⟩, s3, ys, ey, hg⟩ hy => ?_) (fun σ1 H3 ⟨⟨o3, o5, o6, o7, o8, o9, o10, o11, e0⟩, s3, ys, ey, hg⟩ => ?_)
      · subst e0
        obtain ⟨rfl, rfl⟩ := hy
        refine ⟨_, rfl, _, _, rfl, .inl ⟨_, (s1.trans s3).seq hl, rfl⟩, _, rfl, by omega, by omega, ?_⟩
        refine for_it (walk_range (lo := 0) (n := xs.length)) (fun k σ' H' => (∃ o3 o5 o6 o7 o8 o9 o10 o11, σ' = [some (.ref l), some (.str r.str), some (.ref Wa), o3, some (.ref Ah), o5, o6, o7, o8, o9, o10, o11]) ∧ Sm H1 H' ∧ ∃ ys, H' Ah = some (.lst ys) ∧ GrowL H' Ah (wsOf cs r) (fun p => if p < k then i + 1 else i) ys)
          ⟨⟨_, _, _, _, _, _, _, _, rfl⟩, s3, ys, ey, Each.imp hg fun j x p _ ⟨a, S, e, n, z, y⟩ => ⟨a, S, e, n, z, y.cast (if_neg (Nat.not_lt_zero _)).symm⟩⟩ (fun _ _ _ _ _ => trivial) (fun k v σ1 H5 H6 hk ⟨⟨o3, o5, o6, o7, o8, o9, o10, o11, e0⟩, s4, ys, ey, hg⟩ hy => ?_) (fun σ1 H5 ⟨⟨o3, o5, o6, o7, o8, o9, o10, o11, e0⟩, s4, ys, ey, hg⟩ => ?_)
        · subst e0
          obtain ⟨rfl, rfl⟩ := hy
          have kv : (0 : Int) + (k : Nat) = (k : Int) := Int.zero_add _
          obtain ⟨a, S, exa, nA, ea, ti⟩ := hg.at_ (i := k) (by omega)
          rw [if_neg (Nat.lt_irrefl _)] at ti
          have Sl := ti.s.len wo ti.nd
          refine ⟨_, rfl, _, rfl, Ah, _, _, _, rfl, rfl, SqL.of ey, (by rw [kv]; exact atI_nat exa), a, _, rfl, .inl (SqL.of ea), fun Mo hMo => ?_⟩
          have eA1 := (Sm.new (o := .lst (S.map V.int)) hMo) _ _ ey
          have ea1 := (Sm.new (o := .lst (S.map V.int)) hMo) _ _ ea
          have hg1 := hg.same (Sm.new (o := .lst (S.map V.int)) hMo)
          refine ⟨_, rfl, _, rfl, Ah, _, _, _, rfl, rfl, SqL.of eA1, (by rw [kv]; exact atI_nat exa), a, rfl, ⟨_, SqL.of ea1⟩, ?_⟩
          refine for_it (walk_list (xs := S.map V.int)) (fun j σ' H' => ∃ M', (∃ o3 o5 o8 o9 o10 o11, σ' = [some (.ref l), some (.str r.str), some (.ref Wa), o3, some (.ref Ah), o5, some (.int (0 + (k : Nat))), some (.ref M'), o8, o9, o10, o11]) ∧ Sm H6 H' ∧ H' M' = some (.lst ((S ++ (S.take j).flatMap fun k => ((wsOf cs r)[k.toNat]?).getD []).map V.int)))
            ⟨Mo, ⟨_, _, _, _, _, _, rfl⟩, Sm.new hMo, by rw [upd_same]; simp⟩ (fun _ _ _ _ ⟨_, _, s, _⟩ => SqL.of (s _ _ ea)) (fun j v σ1 H7 H8 hj ⟨M', ⟨o3, o5, o8, o9, o10, o11, e0⟩, s7, eM⟩ hy => ?_) (fun σ1 H7 ⟨M', ⟨o3, o5, o8, o9, o10, o11, e0⟩, s7, eM⟩ => ?_)
          · subst e0
            obtain ⟨rfl, ev⟩ := hy
            rw [List.getElem?_map] at ev
            obtain ⟨g, eg, rfl⟩ := Option.map_eq_some_iff.mp ev
            have gb := ti.s.bd wo g (List.mem_of_getElem? eg)
            obtain ⟨n, rfl⟩ : ∃ n : Nat, g = (n : Int) := ⟨g.toNat, by omega⟩
            obtain ⟨l2, hl2⟩ := get_of_lt (l := wsOf cs r) (i := n) (by omega)
            obtain ⟨v2, ev2, la2, rfl, hla2⟩ := hW.at hl2
            have ll2 := wo.ll l2 (List.mem_of_getElem? hl2)
            have s17 := s4.trans s7
            have fl : ∀ T : List Int, (T.flatMap fun k => ((wsOf cs r)[k.toNat]?).getD []).length ≤ 31 * T.length := fun T => by
              induction T with
              | nil => simp
              | cons k T ih =>
                rw [List.flatMap_cons, List.length_append, List.length_cons]
                have : (((wsOf cs r)[k.toNat]?).getD []).length ≤ 31 := by
                  cases hc : (wsOf cs r)[k.toNat]? with
                  | none => simp
                  | some c => exact wo.ll c (List.mem_of_getElem? hc)
                omega
            have fl1 := fl (S.take j)
            rw [List.length_take] at fl1
            refine ⟨_, rfl, _, rfl, _, rfl, Wa, _, _, _, rfl, rfl, SqL.of (s17 _ _ e1), atI_nat ev2, M', la2, _, _, rfl, rfl, eM, s17 _ _ hla2, sizeOf' (by simp only [List.length_map, List.length_append]; omega), fun C hC => ⟨C, ⟨_, _, _, _, _, _, rfl⟩, s7.new' hC, ?_⟩⟩
            rw [upd_same, take_snoc eg]
            simp [hl2]
          · subst e0
            rw [List.length_map, List.take_length] at eM
            have fl : ∀ T : List Int, (T.flatMap fun k => ((wsOf cs r)[k.toNat]?).getD []).length ≤ 31 * T.length := fun T => by
              induction T with
              | nil => simp
              | cons k T ih =>
                rw [List.flatMap_cons, List.length_append, List.length_cons]
                have : (((wsOf cs r)[k.toNat]?).getD []).length ≤ 31 := by
                  cases hc : (wsOf cs r)[k.toNat]? with
                  | none => simp
                  | some c => exact wo.ll c (List.mem_of_getElem? hc)
                omega
            have fl1 := fl S
            have gb := grow_bd wo (ti.s.bd wo)
            refine ⟨_, rfl, M', _, rfl, .inl (SqL.of eM), by rw [List.length_append]; omega, fun x hx => by have := gb x hx; omega, fun p H9 s9 hp e9 => ?_⟩
            have s79 := s7.trans s9
            have eA9 := s79 _ _ ey
            have pA : p ≠ Ah := (ne_of_none (s7 _ _ ey) hp).symm
            refine ⟨_, rfl, _, rfl, Ah, _, _, k, rfl, (congrArg V.int kv), eA9, ?_, ?_⟩
            · unfold ixN
              rw [if_pos (by omega), if_pos (by rw [hg.len]; omega)]
              simp
            · refine ⟨⟨_, _, _, _, _, _, _, _, rfl⟩, (s4.trans s79).wr hAh, _, upd_same, ?_⟩
              refine Each.set' (hg.same s79) (fun y hy => ?_) (fun j x y hj hy h => ?_)
              · have hyk : y = k := by
                  rw [List.getElem?_range (by omega)] at hy
                  exact (Option.some.inj hy).symm
                subst hyk
                refine ⟨p, grow (wsOf cs r) S, rfl, pA, by rw [upd_ne pA]; exact e9, ?_⟩
                exact (ti.grow wo).cast (if_pos (Nat.lt_succ_self _)).symm
              · obtain ⟨a', S', rfl, n', e', t'⟩ := h
                have hyj : y = j := by
                  have jl := get_lt hy
                  rw [List.length_range] at jl
                  rw [List.getElem?_range jl] at hy
                  exact (Option.some.inj hy).symm
                subst hyj
                refine ⟨a', S', rfl, n', by rw [upd_ne n']; exact e', ?_⟩
                refine t'.cast ?_
                show (if y < k then i + 1 else i) = (if y < k + 1 then i + 1 else i)
                by_cases c1 : y < k
                · rw [if_pos c1, if_pos (by omega)]
                · rw [if_neg c1, if_neg (by omega)]
        · subst e0
          refine ⟨⟨_, _, _, _, _, _, _, _, rfl⟩, s4, ys, ey, Each.imp hg fun j x p hp h => ?_⟩
          have jl := get_lt hp
          rw [List.length_range] at jl
          rw [List.getElem?_range jl] at hp
          have : p = j := (Option.some.inj hp).symm
          subst this
          obtain ⟨a, S, e, n, z, y⟩ := h
          exact ⟨a, S, e, n, z, y.cast (if_pos (by omega))⟩
      · subst e0
        have xl : xs.length = (wsOf cs r).length := by omega
        rw [xl] at hg
        have at2 : ∀ {H' : Hp}, Sm H3 H' → ∀ i, i < (wsOf cs r).length → ∃ (a : Addr) (S : List Int), ys[i]? = some (.ref a) ∧ SqL K H' a (S.map V.int) ∧ ∀ k, k ∈ S ↔ Rc (wsOf cs r) i k := fun {H'} s' i hi => by
          obtain ⟨a, S, ea, _, es, ti⟩ := hg.at_ hi
          exact ⟨a, S, ea, SqL.of (s' _ _ es), ti.fin wo⟩
        refine ⟨szl rfl, fun F hF => ⟨_, rfl, _, _, rfl, .inl ⟨_, ((s1.trans s3).new' hF).seq hl, rfl⟩, _, rfl, by omega, by omega, ?_⟩⟩
        refine for_it (walk_range (lo := 0) (n := xs.length)) (fun i σ' H' => (∃ o3 o5 o6 o7 o8 o10 o11, σ' = [some (.ref l), some (.str r.str), some (.ref Wa), o3, some (.ref Ah), o5, o6, o7, o8, some (.ref F), o10, o11]) ∧ Sm H3 H' ∧ ∃ zs, H' F = some (.lst zs) ∧ TupsAt K H' zs (ringsT (wsOf cs r) i))
          ⟨⟨_, _, _, _, _, _, _, rfl⟩, Sm.new hF, [], upd_same, Each.nil⟩ (fun _ _ _ _ _ => trivial) (fun i v σ1 H5 H6 hi ⟨⟨o3, o5, o6, o7, o8, o10, o11, e0⟩, s5, zs, ez, hz⟩ hy => ?_) (fun σ1 H5 ⟨⟨o3, o5, o6, o7, o8, o10, o11, e0⟩, s5, zs, ez, hz⟩ => ?_)
        · subst e0
          obtain ⟨rfl, rfl⟩ := hy
          have iv : (0 : Int) + (i : Nat) = (i : Int) := Int.zero_add _
          refine ⟨_, rfl, _, _, rfl, .inl ⟨_, ((s1.trans s3).trans s5).seq hl, rfl⟩, _, rfl, by omega, by omega, fun D hD => lc_it (walk_range (lo := 0) (n := xs.length)) (fun j H' => Sm H6 H' ∧ H' D = some (.lst ((grpT (wsOf cs r) i j).map V.int))) ⟨Sm.new hD, upd_same⟩ (fun _ _ _ _ => trivial)
            (fun j v H7 H8 hj ⟨s7, e7⟩ hy => ?_) (fun H7 ⟨s7, e7⟩ => ?_)⟩
          · obtain ⟨rfl, rfl⟩ := hy
            have jv : (0 : Int) + (j : Nat) = (j : Int) := Int.zero_add _
            have s37 := s5.trans s7
            obtain ⟨ai, Si, exi, ei, hki⟩ := at2 s37 i (by omega)
            obtain ⟨aj, Sj, exj, ej, hkj⟩ := at2 s37 j (by omega)
            have gl := grpT_len (wsOf cs r) i j
            have eA := s37 _ _ ey
            refine ⟨rfl, _, rfl, _, rfl, _, rfl, Ah, _, _, _, rfl, rfl, SqL.of eA, (by rw [iv]; exact atI_nat exi), rd_inI (.inl ei) ⟨_, rfl, ?_⟩⟩
            by_cases h1 : Rc (wsOf cs r) i (j : Int)
            · refine ifT (dT ((hki _).2 (by rw [jv]; exact h1))) ⟨_, rfl, _, rfl, _, rfl, Ah, _, _, _, rfl, rfl, SqL.of eA, (by rw [jv]; exact atI_nat exj), rd_inI (.inl ej) ⟨_, rfl, ?_⟩⟩
              by_cases h2 : Rc (wsOf cs r) j (i : Int)
              · refine ifT (dT ((hkj _).2 (by rw [iv]; exact h2))) ⟨_, rfl, _, e7, sizeLt (by rw [List.length_map]; omega), s7.wr hD, ?_⟩
                rw [upd_same, grpT_in (inRing_t.2 ⟨h1, h2⟩), List.map_append]
                exact congrArg (fun z => some (HO.lst (_ ++ [V.int z]))) jv
              · refine ifF (dF fun z => h2 (by have := (hkj _).1 z; rwa [iv] at this)) ⟨s7, ?_⟩
                rw [grpT_out (by have := mt (inRing_t (W := wsOf cs r) (i := i) (j := j)).1 (fun z => h2 z.2); simpa using this)]; exact e7
            · refine ifF (dF fun z => h1 (by have := (hki _).1 z; rwa [jv] at this)) (ifF rfl ⟨s7, ?_⟩)
              rw [grpT_out (by have := mt (inRing_t (W := wsOf cs r) (i := i) (j := j)).1 (fun z => h1 z.1); simpa using this)]; exact e7
          · rw [xl] at e7
            have glen : (grpT (wsOf cs r) i (wsOf cs r).length).length = (grp (wsOf cs r) i).length := rfl
            have rl := ringsT_len (wsOf cs r) i
            have zl := hz.1
            refine .inl ⟨D, _, rfl, SqL.of e7, fun t ht => ?_⟩
            have s8 := s7.new' (o := .tup ((grpT (wsOf cs r) i (wsOf cs r).length).map V.int)) ht
            have ez8 := s8 _ _ ez
            have no : ¬ (1 < (grp (wsOf cs r) i).length ∧ (grp (wsOf cs r) i).head? = some (i : Int)) → Sm H3 (upd H7 t (.tup ((grpT (wsOf cs r) i (wsOf cs r).length).map V.int))) ∧ ∃ zs, upd H7 t (.tup ((grpT (wsOf cs r) i (wsOf cs r).length).map V.int)) F = some (.lst zs) ∧ TupsAt K (upd H7 t (.tup ((grpT (wsOf cs r) i (wsOf cs r).length).map V.int))) zs (ringsT (wsOf cs r) (i + 1)) := fun z =>
              ⟨s5.trans s8, zs, ez8, by rw [ringsT_no z]; exact hz.same s8⟩
            refine ⟨_, rfl, _, _, rfl, .inr ⟨_, SqT.of upd_same, rfl⟩, _, _, rfl, rfl, _, rfl, ?_⟩
            rw [List.length_map]
            by_cases h1 : 1 < (grp (wsOf cs r) i).length
            · obtain ⟨g, hgg⟩ : ∃ g, (grp (wsOf cs r) i).head? = some g := by
                cases e : grp (wsOf cs r) i with
                | nil => rw [e] at h1; simp at h1
                | cons x xs => exact ⟨x, rfl⟩
              refine ifT (dT (by omega)) ⟨_, rfl, t, _, _, _, rfl, rfl, SqT.of upd_same, atI_nat (j := 0) (grp_head hgg), _, rfl, rfl, _, rfl, ?_⟩
              by_cases h2 : g = (i : Int)
              · refine ifT (dT (by rw [h2]; exact congrArg V.int iv.symm)) ⟨_, rfl, .inl ⟨rfl, _, SqL.of ez8⟩, _, rfl, F, _, _, rfl, rfl, ez8, sizeLt (by omega), ⟨_, _, _, _, _, _, _, rfl⟩, (s5.trans s8).wr hF, _, upd_same, ?_⟩
                rw [ringsT_yes ⟨h1, by rw [hgg, h2]⟩]
                exact Each.snoc ((hz.same s8).updL ez8) ⟨t, rfl, SqT.updL (SqT.of upd_same) ez8⟩
              · exact ifF (dF (fun z => h2 ((V.int.inj z).trans iv))) ⟨⟨_, _, _, _, _, _, _, rfl⟩, no fun z => h2 (by rw [hgg] at z; exact Option.some.inj z.2)⟩
            · exact ifF (dF (by omega)) (ifF rfl ⟨⟨_, _, _, _, _, _, _, rfl⟩, no fun z => h1 z.1⟩)
        · subst e0
          rw [xl] at hz
          exact ⟨_, rfl, q F zs H5 ((s1.trans s3).trans s5) ez hz⟩
end
end Se
namespace Se
open PySem PySem.Spec PyProof.Rows L2
/-- the scope of the comprehension that holds another -/
abbrev sc_safeOuter : Scope := { kind := ScopeKind.function, names := [(Str.ofString ".0", NameKind.local), (Str.ofString "_law_book", NameKind.cell), (Str.ofString "_law_each", NameKind.cell)], isGenerator := false, isCoroutine := false }
noncomputable def eachT (cs : List CardD) (r : Rl) (h : Str) (n : Nat) : List (List Int) := (List.range n).map fun k : Nat => reach (less cs [(k : Int)]) r h
theorem eachT_s (cs : List CardD) (r : Rl) (h : Str) (n : Nat) : eachT cs r h (n + 1) = eachT cs r h n ++ [reach (less cs [(n : Int)]) r h] := by
  unfold eachT
  rw [List.range_succ, List.map_append]; rfl
theorem eachT_len (cs : List CardD) (r : Rl) (h : Str) (n : Nat) : (eachT cs r h n).length = n := by unfold eachT; rw [List.length_map, List.length_range]
theorem eachT_at {cs : List CardD} {r : Rl} {h : Str} {n k : Nat} (hk : k < n) : (eachT cs r h n)[k]? = some (reach (less cs [(k : Int)]) r h) := by
  unfold eachT
  rw [List.getElem?_map, List.getElem?_range hk]; rfl
noncomputable def lacks (cs : List CardD) (r : Rl) (h : Str) (b : Int) (L : List (List Int)) : List (List Int) := L.filter fun one => !decide (b ∈ one)
theorem lacks_safe {cs : List CardD} {r : Rl} {h : Str} {b : Int} : lacks cs r h b (eachT cs r h cs.length) = [] ↔ ∀ k, k < cs.length → b ∈ reach (less cs [(k : Int)]) r h := by
  unfold lacks
  rw [List.filter_eq_nil_iff]
  constructor
  · intro z k hk
    have := z _ (List.mem_of_getElem? (eachT_at (cs := cs) (r := r) (h := h) hk))
    simpa using this
  · intro z one ho
    obtain ⟨k, hk, rfl⟩ := List.mem_map.mp ho
    have := z k (List.mem_range.mp hk)
    simpa using this
noncomputable def dueT (cs : List CardD) (r : Rl) (h : Str) (tm : List Int) (i : Nat) : List (List Int) := ((List.range i).filter fun k : Nat => decide (reach (less cs [(k : Int)]) r h = tm)).map fun k : Nat => [(k : Int)]
noncomputable def dueL (cs : List CardD) (r : Rl) (h : Str) (tm : List Int) : List (List Int) := (if reach cs r h = tm then [[]] else []) ++ dueT cs r h tm cs.length
theorem due_eq (cs : List CardD) (r : Rl) (h : Str) (tm : List Int) : lossF cs r h tm (allC cs.length 2) = dueL cs r h tm := by
  show ([[]] ++ (List.range cs.length).map (fun k : Nat => [(k : Int)])).filter _ = _
  rw [List.filter_append, List.filter_map]
  unfold dueL dueT
  congr 1
  rw [List.filter_cons, List.filter_nil, less_nil]
  by_cases e : reach cs r h = tm
  · rw [if_pos (dT e), if_pos e]
  · rw [if_neg (by rw [dF e]; exact Bool.false_ne_true), if_neg e]
theorem dueT_in {cs : List CardD} {r : Rl} {h : Str} {tm : List Int} {i : Nat} (e : reach (less cs [(i : Int)]) r h = tm) : dueT cs r h tm (i + 1) = dueT cs r h tm i ++ [[(i : Int)]] := by
  unfold dueT
  rw [List.range_succ, filter_t (f := fun k : Nat => decide (reach (less cs [(k : Int)]) r h = tm)) (dT e), List.map_append]; rfl
theorem dueT_out {cs : List CardD} {r : Rl} {h : Str} {tm : List Int} {i : Nat} (e : reach (less cs [(i : Int)]) r h ≠ tm) : dueT cs r h tm (i + 1) = dueT cs r h tm i := by
  unfold dueT
  rw [List.range_succ, filter_f (f := fun k : Nat => decide (reach (less cs [(k : Int)]) r h = tm)) (dF e)]
theorem dueT_len (cs : List CardD) (r : Rl) (h : Str) (tm : List Int) (i : Nat) : (dueT cs r h tm i).length ≤ i := by
  unfold dueT
  rw [List.length_map]
  exact Nat.le_trans (List.length_filter_le _ _) (by rw [List.length_range]; exact Nat.le_refl _)
theorem Each.app {α β : Type} {R : α → β → Prop} {xs xs' : List α} {ys ys' : List β} (h : Each R xs ys) (h' : Each R xs' ys') : Each R (xs ++ xs') (ys ++ ys') := by
  refine ⟨by rw [List.length_append, List.length_append, h.1, h'.1], fun i a b ha hb => ?_⟩
  by_cases hi : i < xs.length
  · rw [List.getElem?_append_left hi] at ha
    rw [List.getElem?_append_left (by rw [← h.1]; exact hi)] at hb
    exact h.2 i a b ha hb
  · rw [List.getElem?_append_right (by omega)] at ha
    rw [List.getElem?_append_right (by rw [← h.1]; omega), ← h.1] at hb
    exact h'.2 _ a b ha hb
theorem dp_tups {K : PySem.W.Frag} {H : Hp} {p : Addr} {xs : List V} {L : List (List Int)} (e : SqL K H p xs) (h : TupsAt K H xs L) : Dp K H (.ref p) ((eList (eTup eInt)).d L) :=
  dp_eachL (eTup eInt) e (h.mono fun _ _ ⟨t, ex, z⟩ => ex ▸ dp_intsT z)
section
variable {P : Program} {w : World} {K : PySem.W.Frag} {mg : Str → Option Value} {base : Heap} {CC CD CW CG aR aW : Addr}
theorem sc_law_losses_are : FnScope ["_law_some", "_law_drawer_here", "_law_rule", "_law_name", "_law_whole", "_law_k", "_law_each", "_law_book", "_law_one", "_law_safe", "_law_tomes", "_law_due"] ["_law_some", "_law_drawer_here", "_law_rule", "_law_name"] (defScope s_law_losses_are) := C8.fnScope_by (by decide +kernel)
def sp_lla (K : PySem.W.Frag) (CD CC : Addr) : Sp := fun vs H Q _ => ∃ l d cs h, ∃ r : Rl, vs = [.ref l, .ref d, .str r.str, .str h] ∧ SomeAt K H l cs ∧ DrawAt K CD CC H d cs ∧ Ok cs ∧ 1 ≤ cs.length ∧ h ∈ uS ∧ ∀ H', Sm H H' → Q (.bl true) H'
theorem ok_law_losses_are (T : Tx K mg CC CD CW CG aR aW) : C8.Cal P w K mg base 14 "_law_losses_are" (sp_lla K CD CC) [] := by
  refine cal_of T.d_law_losses_are (fun _ _ _ _ _ _ us hl => match us, hl with | [_, _, _, _], _ => rfl) sc_law_losses_are (fun vs H Q E h => ?_) (fun f cdv A outer s H vs Q E hr h => ?_)
  · obtain ⟨l, d, cs, h, r, rfl, hs, hd, ok, hn, hu, q⟩ := h; rfl
  · obtain ⟨l, d, cs, h, r, rfl, hs, hd, ok, hn, hu, q⟩ := h
    refine ⟨_, (pss_cons (ps_set (i := 4) sc_law_losses_are.nd rfl (by first | exact Or.inl rfl | exact Or.inr rfl) (C8.pe_c (ok_law_reach T) hr (by decide) (by rfl) (pa_cons (pv 0) (pa_cons (pv 2) (pa_cons (pv 3) pa_nil)))))
      (pss_cons (ps_set (i := 6) sc_law_losses_are.nd rfl (by first | exact Or.inl rfl | exact Or.inr rfl) (pe_lc (own := [("_law_k", 5)]) (g := (gName 5)) (tt := tYes) rfl sc_law_losses_are.nd (pi_range1 (by rfl) T.b_range (pa_cons (pe_callB (call_lenK (K := K) rfl) (by rfl) T.b_len PySem.boot_len (pa_cons (pv 0) pa_nil)) pa_nil)) (blkOk_by (own := [("_law_k", 5)]) (N := ["_law_some", "_law_drawer_here", "_law_rule", "_law_name", "_law_whole", "_law_k", "_law_each", "_law_book", "_law_one", "_law_safe", "_law_tomes", "_law_due"]) (sc := defScope s_law_losses_are) (by decide +kernel)) (fun _ _ _ _ _ => (pg_name (i := 5) sc_law_losses_are.nd rfl (by first | exact Or.inl rfl | exact Or.inr rfl))) (fun _ _ _ _ _ => pts_nil) (fun _ _ _ _ _ => (C8.pe_c (ok_law_reach T) hr (by decide) (by rfl) (pa_cons (C8.pe_c (ok_law_less T) hr (by decide) (by rfl) (pa_cons (pv 0) (pa_cons (pe_tup (pa_cons (pv 5) pa_nil)) pa_nil))) (pa_cons (pv 2) (pa_cons (pv 3) pa_nil)))))))
      (pss_cons (ps_setLc (i := 9) (own := [("_law_book", 7)]) (g := (gName 7)) rfl sc_law_losses_are.nd rfl rfl (sw_true rfl rfl rfl (by decide +kernel)) (pi_tup (pv 4)) (blkOk_by (own := [("_law_book", 7)]) (N := ["_law_some", "_law_drawer_here", "_law_rule", "_law_name", "_law_whole", "_law_k", "_law_each", "_law_book", "_law_one", "_law_safe", "_law_tomes", "_law_due"]) (sc := defScope s_law_losses_are) (by decide +kernel)) (fun _ _ _ _ _ => (pg_name (i := 7) sc_law_losses_are.nd rfl (by first | exact Or.inl rfl | exact Or.inr rfl))) (fun _ _ _ _ _ => (pts_one (pt_cmpR (op_eqDK (K := K) rfl hr.units) (pe_lc (own := [("_law_one", 8)]) (g := gName 8) rfl sc_law_losses_are.nd (pi_listK (K := K) rfl (pv 6)) (blkOk_by (own := [("_law_one", 8)]) (N := ["_law_some", "_law_drawer_here", "_law_rule", "_law_name", "_law_whole", "_law_k", "_law_each", "_law_book", "_law_one", "_law_safe", "_law_tomes", "_law_due"]) (sc := sc_safeOuter) (by decide +kernel)) (fun _ _ _ _ _ => (pg_name (i := 8) sc_law_losses_are.nd rfl (by first | exact Or.inl rfl | exact Or.inr rfl))) (fun _ _ _ _ _ => (pts_one (pt_cmpR (op_ninK (K := K) rfl) (pv 7) (pv 8) (by rfl)))) (fun _ _ _ _ _ => (pv 8))) (pe_lst pa_nil) (nomark _)))) (fun _ _ _ _ _ => (pv 7)))
      (pss_cons (ps_if (pt_cmpR (op_neDK (K := K) rfl hr.units) (C8.pe_c (ok_safe_books T) hr (by decide) (by rfl) (pa_cons (pv 1) (pa_cons (pv 2) (pa_cons (pv 3) (pa_cons pe_int pa_nil))))) (pe_tupleK (K := K) rfl (by rfl) T.b_tuple (pv 9)) (nomark _)) (pss_one (ps_ret pe_bl)) pss_nil)
      (pss_cons (ps_for PassesOwn.never rfl (pi_tup (pe_tup (pa_cons (pv 4) (pa_cons (pe_ix (ix_listK (K := K) rfl) (pv 6) (pe_un un_neg pe_int) (fun _ _ => rfl)) pa_nil)))) (pg_name (i := 10) sc_law_losses_are.nd rfl (by first | exact Or.inl rfl | exact Or.inr rfl)) (pss_cons (ps_set (i := 11) sc_law_losses_are.nd rfl (by first | exact Or.inl rfl | exact Or.inr rfl) (pe_op op_cat (pe_op op_rep (pe_lst (pa_cons (pe_tup pa_nil) pa_nil)) (pe_callTy call_int1 (by rfl) T.b_int (by decide +kernel) (pa_cons (pe_cmpR (op_eqDK (K := K) rfl hr.units) (pv 4) (pv 10) (nomark _)) pa_nil))) (pe_lc (own := [("_law_k", 5)]) (g := (gName 5)) rfl sc_law_losses_are.nd (pi_range1 (by rfl) T.b_range (pa_cons (pe_callB (call_lenK (K := K) rfl) (by rfl) T.b_len PySem.boot_len (pa_cons (pv 0) pa_nil)) pa_nil)) (blkOk_by (own := [("_law_k", 5)]) (N := ["_law_some", "_law_drawer_here", "_law_rule", "_law_name", "_law_whole", "_law_k", "_law_each", "_law_book", "_law_one", "_law_safe", "_law_tomes", "_law_due"]) (sc := defScope s_law_losses_are) (by decide +kernel)) (fun _ _ _ _ _ => (pg_name (i := 5) sc_law_losses_are.nd rfl (by first | exact Or.inl rfl | exact Or.inr rfl))) (fun _ _ _ _ _ => (pts_one (pt_cmpR (op_eqDK (K := K) rfl hr.units) (pe_ix (ix_listK (K := K) rfl) (pv 6) (pv 5) (fun _ _ => rfl)) (pv 10) (nomark _)))) (fun _ _ _ _ _ => (pe_tup (pa_cons (pv 5) pa_nil))))))
      (pss_one (ps_if (pt_cmpR (op_neDK (K := K) rfl hr.units) (C8.pe_c (ok_possible_losses T) hr (by decide) (by rfl) (pa_cons (pv 1) (pa_cons (pv 2) (pa_cons (pe_lst (pa_cons (pe_tup (pa_cons (pv 3) (pa_cons (pv 10) pa_nil))) pa_nil)) (pa_cons pe_int pa_nil))))) (pv 11) (nomark _)) (pss_one (ps_ret pe_bl)) pss_nil))))
      (pss_one (ps_ret pe_bl))))))), ?_⟩
    have ol := ok.len
    obtain ⟨xs, hl, hx⟩ := hs.ex
    have len := hx.1
    refine ⟨_, rfl, _, rfl, _, rfl, l, cs, h, r, rfl, hs, ok, hu, fun w H1 s1 ew => ?_⟩
    refine ⟨_, rfl, _, _, rfl, .inl ⟨_, s1.seq hl, rfl⟩, _, rfl, by omega, by omega, fun Ea hE => lc_it (walk_range (lo := 0) (n := xs.length)) (fun i H' => Sm H1 H' ∧ ∃ ys, H' Ea = some (.lst ys) ∧ TupsAt K H' ys (eachT cs r h i)) ⟨Sm.new hE, [], upd_same, Each.nil⟩ (fun _ _ _ _ => trivial)
      (fun i v H2 H3 hi ⟨s2, ys, ey, hy1⟩ hy => ?_) (fun H2 ⟨s2, ys, ey, hy1⟩ => ?_)⟩
    · obtain ⟨rfl, rfl⟩ := hy
      have iv : (0 : Int) + (i : Nat) = (i : Int) := Int.zero_add _
      have yl := hy1.1
      rw [eachT_len] at yl
      refine ⟨rfl, yes_if ⟨_, rfl, _, rfl, szl rfl, fun t ht => ⟨l, cs, t, [(i : Int)], rfl, hs.same ((s1.trans s2).new' ht), ok, SqT.of (by rw [upd_same]; exact congrArg (fun z => some (HO.tup [V.int z])) iv), fun p H4 s4 hp => ?_⟩⟩⟩
      refine ⟨_, rfl, _, rfl, p, less cs [(i : Int)], h, r, rfl, hp, ok.less _, hu, fun z H5 s5 ez => ?_⟩
      have s25 := ((Sm.new (o := .tup [.int (0 + (i : Nat))]) ht).trans s4).trans s5
      have e5 := s25 _ _ ey
      refine ⟨ys, e5, sizeLt (by omega), (s2.trans s25).wr hE, _, upd_same, ?_⟩
      rw [eachT_s]
      exact Each.snoc ((hy1.same s25).updL e5) ⟨z, rfl, SqT.updL (SqT.of ez) e5⟩
    · rw [len] at hy1
      have yl := hy1.1
      rw [eachT_len] at yl
      have s02 := s1.trans s2
      have ew2 := s2 _ _ ew
      have rl := reach_len (cs := cs) (r := r) (h := h)
      refine ⟨_, rfl, w, rfl, ⟨_, SqT.of ew2⟩, fun D hD => lc_it (walk_tup (xs := (reach cs r h).map V.int)) (fun i H' => Sm H2 H' ∧ H' D = some (.lst ((((reach cs r h).take i).filter fun b => decide (∀ k, k < cs.length → b ∈ reach (less cs [(k : Int)]) r h)).map V.int))) ⟨Sm.new hD, upd_same⟩ (fun i H' _ ⟨s3, _⟩ => SqT.of (s3 _ _ ew2))
        (fun i v H3 H4 hi ⟨s3, e3⟩ hy => ?_) (fun H3 ⟨s3, e3⟩ => ?_)⟩
      · obtain ⟨rfl, ev⟩ := hy
        rw [List.getElem?_map] at ev
        obtain ⟨b, eb, rfl⟩ := Option.map_eq_some_iff.mp ev
        have hy4 := hy1.same s3
        have fl : (((reach cs r h).take i).filter fun b => decide (∀ k, k < cs.length → b ∈ reach (less cs [(k : Int)]) r h)).length ≤ 31 := Nat.le_trans (List.length_filter_le _ _) (by rw [List.length_take]; omega)
        refine ⟨rfl, _, rfl, Ea, rfl, ⟨_, SqL.of (s3 _ _ ey)⟩, fun D2 hD2 => lc_it (walk_list (xs := ys)) (fun j H' => Sm H4 H' ∧ ∃ zs, H' D2 = some (.lst zs) ∧ TupsAt K H' zs (lacks cs r h b ((eachT cs r h cs.length).take j))) ⟨Sm.new hD2, [], upd_same, Each.nil⟩ (fun j H' _ ⟨s5, _⟩ => SqL.of (s5 _ _ (s3 _ _ ey)))
          (fun j v H5 H6 hj ⟨s5, zs, ez, hz⟩ hy => ?_) (fun H5 ⟨s5, zs, ez, hz⟩ => ?_)⟩
        · obtain ⟨rfl, ev2⟩ := hy
          obtain ⟨one, eone, t, rfl, ht⟩ := hy4.at' ev2
          have ht6 := s5.tup ht
          have zl := hz.1
          have ll : (lacks cs r h b ((eachT cs r h cs.length).take j)).length ≤ 16 := Nat.le_trans (List.length_filter_le _ _) (by rw [List.length_take, eachT_len]; omega)
          refine ⟨rfl, _, rfl, _, rfl, rd_ninI (.inr ht6) ⟨_, rfl, ?_⟩⟩
          by_cases m : b ∈ one
          · refine ifF (nF m) ⟨s5, zs, ez, ?_⟩
            unfold lacks at hz ⊢
            rw [take_snoc eone, filter_f (f := fun one => !decide (b ∈ one)) (nF m)]; exact hz
          · refine ifT (nT m) ⟨_, rfl, zs, ez, sizeLt (by omega), s5.wr hD2, _, upd_same, ?_⟩
            unfold lacks at hz ⊢
            rw [take_snoc eone, filter_t (f := fun one => !decide (b ∈ one)) (nT m)]
            exact Each.snoc (hz.updL ez) ⟨t, rfl, SqT.updL ht6 ez⟩
        · have yl2 : ys.length = (eachT cs r h cs.length).length := hy1.1
          rw [yl2, List.take_length] at hz
          have s35 := s3.trans s5
          refine ⟨szl rfl, fun z hz2 => eqD_of (eList (eTup eInt)) (u := lacks cs r h b (eachT cs r h cs.length)) (v := []) (by decide) (dp_tups (SqL.of ((Sm.new hz2) _ _ ez)) (hz.same (Sm.new hz2))) (dp_nilL (eTup eInt) upd_same) (fun _ _ _ _ => trivial) (fun _ hx => (nomatch hx)) ⟨_, rfl, ?_⟩⟩
          have s6 := s35.new' (o := .lst []) hz2
          have e6 := (Sm.new (o := .lst []) hz2) _ _ (s5 _ _ e3)
          by_cases m : ∀ k, k < cs.length → b ∈ reach (less cs [(k : Int)]) r h
          · refine ifT (dT (lacks_safe.2 m)) ⟨_, rfl, _, e6, sizeLt (by rw [List.length_map]; omega), s6.wr hD, ?_⟩
            rw [upd_same, take_snoc eb, filter_t (f := fun b => decide (∀ k, k < cs.length → b ∈ reach (less cs [(k : Int)]) r h)) (dT m), List.map_append]; rfl
          · refine ifF (dF fun z => m (lacks_safe.1 z)) ⟨s6, ?_⟩
            rw [take_snoc eb, filter_f (f := fun b => decide (∀ k, k < cs.length → b ∈ reach (less cs [(k : Int)]) r h)) (dF m)]; exact e6
      · rw [List.length_map, List.take_length] at e3
        have e3 : H3 D = some (.lst ((safe cs r h).map V.int)) := e3
        have s03 := s02.trans s3
        refine ⟨_, rfl, _, rfl, _, rfl, d, cs, h, r, rfl, hd.same s03, ok, hn, hu, fun sb H4 s4 e4 => ⟨_, rfl, .inl ⟨D, _, rfl, SqL.of (s4 _ _ e3), fun t ht => neD_of (eTup eInt) (u := safe cs r h) (v := safe cs r h) (by decide) (dp_intsT (SqT.of ((Sm.new ht) _ _ e4))) (dp_intsT (SqT.of upd_same)) (fun _ _ => trivial) (fun _ _ => trivial) ⟨_, rfl, ifF (nF rfl) ?_⟩⟩⟩⟩
        have s5 := (s03.trans s4).new' (o := .tup ((safe cs r h).map V.int)) ht
        have s25 := (s3.trans s4).new' (o := .tup ((safe cs r h).map V.int)) ht
        obtain ⟨y0, yv, rfl⟩ : ∃ y0 yv, ys = y0 ++ [yv] := by
          cases ey' : ys with
          | nil => rw [ey'] at yl; simp at yl; omega
          | cons a b => exact ⟨(a :: b).dropLast, (a :: b).getLast (by simp), (List.dropLast_concat_getLast (by simp)).symm⟩
        obtain ⟨nsL, eL, tL, rfl, htL⟩ := hy1.at' (i := y0.length) (x := yv) (by simp)
        refine ⟨_, rfl, _, rfl, 1, rfl, Ea, _, _, _, rfl, rfl, SqL.of (s25 _ _ ey), atI_last _ _, szl rfl, fun tt htt => ⟨tt, rfl, ⟨_, SqT.of upd_same⟩, ?_⟩⟩
        have s6 := s5.new' (o := .tup [.ref w, .ref tL]) htt
        have s26 := s25.new' (o := .tup [.ref w, .ref tL]) htt
        have items : ∀ x, x ∈ [V.ref w, V.ref tL] → ∃ t tm, x = V.ref t ∧ ∀ H', Sm H2 H' → SqT K H' t ((tm : List Int).map V.int) := fun x hx => by
          rcases List.mem_cons.mp hx with rfl | hx
          · exact ⟨w, _, rfl, fun H' s' => SqT.of (s' _ _ ew2)⟩
          · rw [List.mem_singleton.mp hx]
            exact ⟨tL, nsL, rfl, fun H' s' => s'.tup htL⟩
        refine for_it (walk_tup (xs := [V.ref w, V.ref tL])) (fun i σ' H' => (∃ o5 o7 o8 o9 o10 o11, σ' = [some (.ref l), some (.ref d), some (.str r.str), some (.str h), some (.ref w), o5, some (.ref Ea), o7, o8, o9, o10, o11]) ∧ Sm H2 H' ∧ H' tt = some (.tup [.ref w, .ref tL]))
          ⟨⟨_, _, _, _, _, _, rfl⟩, s26, upd_same⟩ (fun _ _ _ _ hh => SqT.of hh.2.2) (fun i v σ1 H5 H6 hi ⟨⟨o5, o7, o8, o9, o10, o11, e0⟩, s7, ett⟩ hy => ?_) (fun σ1 H5 ⟨⟨o5, o7, o8, o9, o10, o11, e0⟩, s7, ett⟩ => q H5 (s02.trans s7))
        subst e0
        obtain ⟨rfl, ev⟩ := hy
        obtain ⟨tq, tm, rfl, htm⟩ := items v (List.mem_of_getElem? ev)
        refine ⟨szl rfl, fun u hu' => ⟨szl rfl, fun A hA => ⟨_, rfl, _, rfl, ?_⟩⟩⟩
        have s8 := ((s7.new' (o := .tup []) hu').new' (o := .lst [.ref u]) hA)
        refine eqD_of (eTup eInt) (u := reach cs r h) (v := tm) (by decide) (dp_intsT (SqT.of (s8 _ _ ew2))) (dp_intsT (htm _ s8)) (fun _ _ => trivial) (fun _ _ => trivial) (.inr ⟨_, rfl, ?_⟩)
        refine ⟨A, _, [.ref u], rfl, rfl, upd_same, by split <;> decide, by split <;> decide, by split <;> exact szl rfl, fun B hB => ?_⟩
        obtain ⟨bs, hbs⟩ : ∃ bs, bs = (List.replicate (if decide (reach cs r h = tm) = true then (1 : Int) else 0).toNat [V.ref u]).flatten := ⟨_, rfl⟩
        rw [← hbs]
        have sB : Sm H2 (upd (upd (upd H6 u (.tup [])) A (.lst [.ref u])) B (.lst bs)) := s8.new' hB
        have eu : upd (upd (upd H6 u (.tup [])) A (.lst [.ref u])) B (.lst bs) u = some (.tup []) := (Sm.new hB) _ _ ((Sm.new hA) _ _ upd_same)
        have hB1 : TupsAt K (upd (upd (upd H6 u (.tup [])) A (.lst [.ref u])) B (.lst bs)) bs (if reach cs r h = tm then [[]] else []) := by
          by_cases e : reach cs r h = tm
          · have e2 : bs = [.ref u] := by rw [hbs, if_pos (dT e)]; rfl
            rw [if_pos e]
            exact Eq.mp (congrArg (fun z => TupsAt K (upd (upd (upd H6 u (.tup [])) A (.lst [.ref u])) B (.lst bs)) z [[]]) e2.symm) (Each.snoc Each.nil ⟨u, rfl, SqT.of eu⟩)
          · have e2 : bs = [] := by rw [hbs, if_neg (by rw [dF e]; exact Bool.false_ne_true)]; rfl
            rw [if_neg e]
            exact Eq.mp (congrArg (fun z => TupsAt K (upd (upd (upd H6 u (.tup [])) A (.lst [.ref u])) B (.lst bs)) z []) e2.symm) Each.nil
        have bl : bs.length ≤ 1 := by
          rw [hbs]
          by_cases e : reach cs r h = tm
          · rw [if_pos (dT e)]; exact Nat.le_refl _
          · rw [if_neg (by rw [dF e]; exact Bool.false_ne_true)]; exact Nat.zero_le _
        refine ⟨_, rfl, _, _, rfl, .inl ⟨_, (s02.trans sB).seq hl, rfl⟩, _, rfl, by omega, by omega, fun D5 hD5 => lc_it (walk_range (lo := 0) (n := xs.length)) (fun i H' => Sm (upd (upd (upd H6 u (.tup [])) A (.lst [.ref u])) B (.lst bs)) H' ∧ ∃ zs, H' D5 = some (.lst zs) ∧ TupsAt K H' zs (dueT cs r h tm i)) ⟨Sm.new hD5, [], upd_same, Each.nil⟩ (fun _ _ _ _ => trivial)
          (fun i v H7 H8 hi ⟨s9, zs, ez, hz⟩ hy => ?_) (fun H7 ⟨s9, zs, ez, hz⟩ => ?_)⟩
        · obtain ⟨rfl, rfl⟩ := hy
          have iv : (0 : Int) + (i : Nat) = (i : Int) := Int.zero_add _
          have s29 := sB.trans s9
          obtain ⟨v2, ev2, t2, rfl, ht2⟩ := hy1.at (eachT_at (cs := cs) (r := r) (h := h) (n := cs.length) (k := i) (by omega))
          have dl := dueT_len cs r h tm i
          have zl := hz.1
          refine ⟨rfl, _, rfl, _, rfl, Ea, _, _, _, rfl, rfl, SqL.of (s29 _ _ ey), (by rw [iv]; exact atI_nat ev2), _, rfl, eqD_of (eTup eInt) (u := reach (less cs [(i : Int)]) r h) (v := tm) (by decide) (dp_intsT (s29.tup ht2)) (dp_intsT (htm _ s29)) (fun _ _ => trivial) (fun _ _ => trivial) ⟨_, rfl, ?_⟩⟩
          by_cases e : reach (less cs [(i : Int)]) r h = tm
          · refine ifT (dT e) ⟨_, rfl, szl rfl, fun p hp => ⟨zs, (Sm.new hp) _ _ ez, sizeLt (by omega), (s9.new' hp).wr hD5, _, upd_same, ?_⟩⟩
            rw [dueT_in e]
            exact Each.snoc ((hz.same (Sm.new hp)).updL ((Sm.new hp) _ _ ez)) ⟨p, rfl, SqT.updL (SqT.of (by rw [upd_same]; exact congrArg (fun z => some (HO.tup [V.int z])) iv)) ((Sm.new hp) _ _ ez)⟩
          · refine ifF (dF e) ⟨s9, zs, ez, ?_⟩
            rw [dueT_out e]; exact hz
        · rw [len] at hz
          have dl := dueT_len cs r h tm cs.length
          have zl := hz.1
          have eB : H7 B = some (.lst bs) := s9 _ _ upd_same
          refine ⟨B, D5, _, _, rfl, rfl, eB, ez, sizeOf' (by omega), fun C hC => ?_⟩
          have s10 := (sB.trans s9).new' (o := .lst (bs ++ zs)) hC
          have hC1 : TupsAt K (upd H7 C (.lst (bs ++ zs))) (bs ++ zs) (dueL cs r h tm) := by
            have h1 := (hB1.same s9).same (Sm.new (o := .lst (bs ++ zs)) hC)
            have h2 := hz.same (Sm.new (o := .lst (bs ++ zs)) hC)
            exact Each.app h1 h2
          refine ⟨_, rfl, _, rfl, _, rfl, _, rfl, szl rfl, fun p hp => ⟨szl rfl, fun L hL => ?_⟩⟩
          have s11 := (s10.new' (o := .tup [.str h, .ref tq]) hp).new' (o := .lst [.ref p]) hL
          have sCL := (Sm.new (o := .tup [.str h, .ref tq]) hp).trans (Sm.new (o := .lst [.ref p]) hL)
          refine ⟨d, cs, h, L, p, tq, tm, r, rfl, hd.same (s02.trans s11), ok, hu, SqL.of upd_same, SqT.of ((Sm.new hL) _ _ upd_same), htm _ s11, fun z us H9 s12 ez9 hx9 => ⟨_, rfl, ?_⟩⟩
          rw [due_eq] at hx9
          refine neD_of (eList (eTup eInt)) (u := dueL cs r h tm) (v := dueL cs r h tm) (by decide) (dp_tups (SqL.of ez9) hx9) (dp_tups (SqL.of (s12 _ _ (sCL _ _ upd_same))) (hC1.same (sCL.trans s12))) (fun _ _ _ _ => trivial) (fun _ _ _ _ => trivial) ⟨_, rfl, ifF (nF rfl) ?_⟩
          have sHC : Sm H6 (upd H7 C (.lst (bs ++ zs))) := ((((Sm.new hu').new' hA).new' hB).trans s9).new' hC
          exact ⟨⟨_, _, _, _, _, _, rfl⟩, s11.trans s12, s12 _ _ (sCL _ _ (sHC _ _ ett))⟩
end
end Se
namespace Se
open PySem PySem.Spec PyProof.Rows L2
/-! cards as data, against the empty list -/
def dC (c : CardD) : PyData := .tuple [.str c.h, (eTup eInt).d c.bk, .str c.see, (eTup eStr).d c.al]
theorem dC_lay {c : CardD} (h1 : eStr.ok c.h) (h2 : eStr.ok c.see) (h3 : (eTup eStr).ok c.al) : PyData.canLay0 (dC c) = true := by
  unfold dC
  rw [PyData.canLay0, PyData.canLayAll0, PyData.canLayAll0, PyData.canLayAll0, PyData.canLayAll0, PyData.canLayAll0, (eTup eInt).lay _ (fun _ _ => trivial), (eTup eStr).lay _ h3, show (PyData.str c.h).canLay0 = true from eStr.lay _ h1, show (PyData.str c.see).canLay0 = true from eStr.lay _ h2]
  rfl
theorem dC_depth (c : CardD) : (dC c).depth ≤ 5 := by
  have h1 := (eTup eInt).dp c.bk
  have h2 := (eTup eStr).dp c.al
  have h3 := eStr.dp c.h
  have h4 := eStr.dp c.see
  unfold dC
  simp only [PyData.depth, PyData.depthAll] at *
  simp only [eStr] at h3 h4
  omega
theorem dCs_lay : ∀ cs : List CardD, (∀ c ∈ cs, CardOk c) → PyData.canLayAll0 (cs.map dC) = true
  | [], _ => rfl
  | c :: cs, h => by
    have o := h c List.mem_cons_self
    rw [List.map_cons, PyData.canLayAll0, dCs_lay cs fun d hd => h d (List.mem_cons_of_mem _ hd), dC_lay (uS_ok o.hd) (o.seeW.elim uS_ok fun z => by rw [z]; exact strOk_empty) (fun x hx => uS_ok (o.alU x hx).1)]
    rfl
theorem dCs_depth : ∀ cs : List CardD, PyData.depthAll (cs.map dC) ≤ 5
  | [] => Nat.zero_le _
  | c :: cs => by
    rw [List.map_cons, PyData.depthAll]
    exact Nat.max_le.mpr ⟨dC_depth c, dCs_depth cs⟩
theorem dp_card {K : PySem.W.Frag} {H : Hp} {f : Addr} {c : CardD} (h : TupF K H f c) : Dp K H (.ref f) (dC c) := by
  obtain ⟨b, l, h1, h2, h3⟩ := h.ex
  exact .tup h1 (.cons (.str _) (.cons (dp_intsT h2) (.cons (.str _) (.cons (dp_strsT h3) .nil))))
theorem dp_cards {K : PySem.W.Frag} {H : Hp} : ∀ (xs : List V) (cs : List CardD), SomeL K H xs cs → DpAll K H xs (cs.map dC)
  | [], [], _ => .nil
  | [], _ :: _, h => by have := h.1; simp at this
  | _ :: _, [], h => by have := h.1; simp at this
  | x :: xs, c :: cs, h => .cons (by obtain ⟨f, e, z⟩ := h.2 0 x c rfl rfl; rw [e]; exact dp_card z) (dp_cards xs cs ⟨by have := h.1; simpa using this, fun i a b ha hb => h.2 (i + 1) a b (by simpa using ha) (by simpa using hb)⟩)
theorem neNil {K : PySem.W.Frag} {H : Hp} {x y : Addr} {xs : List V} {cs : List CardD} {Q : VK} (hx : SqL K H x xs) (h : SomeL K H xs cs) (ok : ∀ c ∈ cs, CardOk c) (hy : H y = some (.lst [])) (q : Q (.bl (!decide (cs = []))) H) : rNeD K (.ref x) (.ref y) H Q := by
  refine ⟨.list (cs.map dC), .list [], .lst hx (dp_cards xs cs h), .lst (SqL.of hy) .nil, ?_, by decide +kernel, ?_⟩
  · rw [SeqAt.shaped, PyData.canLay0, dCs_lay cs ok, decide_eq_true]
    · rfl
    · have := dCs_depth cs
      rw [PyData.depth]; omega
  · cases cs with
    | nil => exact q
    | cons c cs => exact q
theorem cut_take {xs : List V} {k : Nat} : cutV xs none (some (k : Int)) = xs.take k := by
  unfold cutV
  rw [show HT.sIx xs.length xs.length (some (k : Int)) = min k xs.length from HT.sIx_nat _ _ k, HT.sIx_none, Nat.sub_zero, List.drop_zero]
  by_cases h : k ≤ xs.length
  · rw [Nat.min_eq_left h]
  · rw [Nat.min_eq_right (by omega), List.take_of_length_le (Nat.le_refl _), List.take_of_length_le (by omega)]
def uN : List Str := ["ant", "bee", "cat", "dog", "elk", "fox", "gnu", "hen", "ibis"]
theorem uN_u : ∀ x ∈ uN, x ∈ uS := by decide +kernel
theorem uN_yz : (uN ++ (["yak", "zebu"] : List Str)).Nodup := by decide +kernel
theorem yz_u : ∀ x ∈ uN ++ (["yak", "zebu"] : List Str), x ∈ uS := by decide +kernel
def othersOf (nm : List Str) (h : Str) : List Str := (nm ++ (["yak", "zebu"] : List Str)).filter fun x => !decide (x = h)
structure NmOk (nm : List Str) : Prop where
  sub : ∀ x ∈ nm, x ∈ uN
  nd : (nm ++ (["yak", "zebu"] : List Str)).Nodup
  len : nm.length ≤ 9
  ne : nm ≠ []
theorem nm_ok (k : Nat) : NmOk (uN.take (3 + k)) := by
  refine ⟨fun x h => List.mem_of_mem_take h, ?_, by rw [List.length_take]; exact Nat.min_le_right _ _, ?_⟩
  · have := uN_yz
    rw [List.nodup_append] at this ⊢
    exact ⟨this.1.sublist (List.take_sublist _ _), this.2.1, fun a ha b hb => this.2.2 a (List.mem_of_mem_take ha) b hb⟩
  · rw [show 3 + k = (2 + k) + 1 by omega]
    exact fun z => by cases z
structure OtOk (ot : List Str) (h : Str) : Prop where
  u : ∀ x ∈ ot, x ∈ uS ∧ x ≠ h
  nd : ot.Nodup
  len : ot.length ≤ 11
  ne : ot ≠ []
theorem ot_ok {nm : List Str} (o : NmOk nm) {h : Str} (hh : h ∈ nm) : OtOk (othersOf nm h) h := by
  unfold othersOf
  refine ⟨fun x hx => ?_, o.nd.filter _, (by have h1 := List.length_filter_le (fun x => !decide (x = h)) (nm ++ (["yak", "zebu"] : List Str)); have := o.len; rw [List.length_append] at h1; simp only [List.length_cons, List.length_nil] at h1; omega), fun z => ?_⟩
  · obtain ⟨h1, h2⟩ := List.mem_filter.mp hx
    refine ⟨yz_u x ?_, by simpa using h2⟩
    rcases List.mem_append.mp h1 with h1 | h1
    · exact List.mem_append_left _ (o.sub x h1)
    · exact List.mem_append_right _ h1
  · have hy : (Str.ofString "yak") ∈ (nm ++ (["yak", "zebu"] : List Str)).filter (fun x => !decide (x = h)) := by
      refine List.mem_filter.mpr ⟨List.mem_append_right _ List.mem_cons_self, ?_⟩
      have : ¬ (Str.ofString "yak") = h := fun e => by
        have := o.sub h hh
        rw [← e] at this
        revert this
        decide +kernel
      exact nT this
    rw [z] at hy
    cases hy
theorem RowS.wr {K : PySem.W.Frag} {H H' : Hp} {R S X : Addr} {zs : List Int} {o : HO} (r : RowS K H' R S zs) (n : X ≠ R) (sc : SqN K H S R (zs.map V.int)) (b : But [R] H (L2.upd H' X o)) : RowS K (L2.upd H' X o) R S zs := by
  obtain ⟨k, b1, c, e, h2⟩ := r.ex
  exact ⟨⟨k, b1, c, by rw [upd_ne n.symm]; exact e, h2⟩, sc.but b⟩
theorem sI_len' (l : List Int) : (sI l).length ≤ l.length := nodup_len _ _ (sI_nodup l) fun k hk => of_decide_eq_true (List.mem_filter.mp hk).2
section
variable {P : Program} {w : World} {K : PySem.W.Frag} {mg : Str → Option Value} {base : Heap} {CC CD CW CG aR aW : Addr}
theorem sc_law_wide : FnScope ["_law_row", "_law_least", "_law_most", "_law_names", "_law_found", "_law_k", "_law_heading", "_law_name", "_law_others", "_law_turn", "_law_tomes"] ["_law_row", "_law_least", "_law_most"] (defScope s_law_wide) := C8.fnScope_by (by decide +kernel)
def sp_wide (K : PySem.W.Frag) : Sp := fun vs H Q _ => ∃ R S zs, vs = [.ref R, .int 10, .int 16] ∧ RowS K H R S zs ∧ ∀ p cs H', But [R] H H' → RowS K H' R S zs → H p = none → SomeAt K H' p cs → Ok cs → 10 ≤ cs.length → Q (.ref p) H'
theorem ok_law_wide (T : Tx K mg CC CD CW CG aR aW) : C8.Cal P w K mg base 3 "_law_wide" (sp_wide K) [] := by
  refine cal_of T.d_law_wide (fun _ _ _ _ _ _ us hl => match us, hl with | [_, _, _], _ => rfl) sc_law_wide (fun vs H Q E h => ?_) (fun f cdv A outer s H vs Q E hr h => ?_)
  · obtain ⟨R, S, zs, rfl, rw_, q⟩ := h; rfl
  · obtain ⟨R, S, zs, rfl, rw_, q⟩ := h
    refine ⟨_, (pss_cons (ps_set (i := 3) sc_law_wide.nd rfl (by first | exact Or.inl rfl | exact Or.inr rfl) (pe_slice (sl_listK (K := K) rfl) (pe_lst (pa_cons pe_str (pa_cons pe_str (pa_cons pe_str (pa_cons pe_str (pa_cons pe_str (pa_cons pe_str (pa_cons pe_str (pa_cons pe_str (pa_cons pe_str pa_nil)))))))))) po_none (po_some (pe_op op_add pe_int (C8.pe_c (ok_law_taken T) hr (by decide) (by rfl) (pa_cons (pv 0) (pa_cons pe_int pa_nil)))))))
      (pss_cons (ps_set (i := 4) sc_law_wide.nd rfl (by first | exact Or.inl rfl | exact Or.inr rfl) (pe_lst pa_nil))
      (pss_cons (ps_for PassesOwn.never rfl (pi_range1 (by rfl) T.b_range (pa_cons (pe_op op_add (pv 1) (C8.pe_c (ok_law_taken T) hr (by decide) (by rfl) (pa_cons (pv 0) (pa_cons (pe_op op_add (pe_op op_sub (pv 2) (pv 1)) pe_int) pa_nil)))) pa_nil)) (pg_name (i := 5) sc_law_wide.nd rfl (by first | exact Or.inl rfl | exact Or.inr rfl)) (pss_cons (ps_set (i := 6) sc_law_wide.nd rfl (by first | exact Or.inl rfl | exact Or.inr rfl) (C8.pe_c (ok_law_pick T) hr (by decide) (by rfl) (pa_cons (pv 0) (pa_cons (pv 3) pa_nil))))
      (pss_cons (ps_setLc (i := 8) (own := [("_law_name", 7)]) (g := (gName 7)) rfl sc_law_wide.nd rfl rfl (sw_true rfl rfl rfl (by decide +kernel)) (pi_list (pe_op op_cat (pv 3) (pe_lst (pa_cons pe_str (pa_cons pe_str pa_nil))))) (blkOk_by (own := [("_law_name", 7)]) (N := ["_law_row", "_law_least", "_law_most", "_law_names", "_law_found", "_law_k", "_law_heading", "_law_name", "_law_others", "_law_turn", "_law_tomes"]) (sc := defScope s_law_wide) (by decide +kernel)) (fun _ _ _ _ _ => (pg_name (i := 7) sc_law_wide.nd rfl (by first | exact Or.inl rfl | exact Or.inr rfl))) (fun _ _ _ _ _ => (pts_one (pt_cmpR op_ne (pv 7) (pv 6) (nomark _)))) (fun _ _ _ _ _ => (pv 7)))
      (pss_one (ps_if (pt_cmpR op_eq (C8.pe_c (ok_law_taken T) hr (by decide) (by rfl) (pa_cons (pv 0) (pa_cons pe_int pa_nil))) pe_int (nomark _)) (pss_one (ps_expr (pe_bm PySem.F.plainAttrs_list PySem.F.slot_list_append PySem.F.type_list_append mt_append (pv 4) (pa_cons (pe_tup (pa_cons (pv 6) (pa_cons (pe_tup pa_nil) (pa_cons (C8.pe_c (ok_law_pick T) hr (by decide) (by rfl) (pa_cons (pv 0) (pa_cons (pv 8) pa_nil))) (pa_cons (pe_tup pa_nil) pa_nil))))) pa_nil)))) (pss_one (ps_if (pt_cut (PW.pt (pw_and (pt_cmpR (op_neDK (K := K) rfl hr.units) (pv 4) (pe_lst pa_nil) (nomark _)) (pw_and1 (pt_cmpR op_eq (C8.pe_c (ok_law_taken T) hr (by decide) (by rfl) (pa_cons (pv 0) (pa_cons pe_int pa_nil))) pe_int (nomark _)))))) (pss_one (ps_expr (pe_bm PySem.F.plainAttrs_list PySem.F.slot_list_append PySem.F.type_list_append mt_append (pv 4) (pa_cons (pe_ix (ix_listK (K := K) rfl) (pv 4) (pe_un un_neg pe_int) (fun _ _ => rfl)) pa_nil)))) (pss_cons (ps_set (i := 10) sc_law_wide.nd rfl (by first | exact Or.inl rfl | exact Or.inr rfl) (pe_tupleK (K := K) rfl (by rfl) T.b_tuple (pe_sortI (K := K) rfl rfl (by rfl) T.b_sorted (by rfl) T.b_set (pe_lc (own := [("_law_turn", 9)]) (g := (gName 9)) (tt := tYes) rfl sc_law_wide.nd (pi_range1 (by rfl) T.b_range (pa_cons (C8.pe_c (ok_law_taken T) hr (by decide) (by rfl) (pa_cons (pv 0) (pa_cons pe_int pa_nil))) pa_nil)) (blkOk_by (own := [("_law_turn", 9)]) (N := ["_law_row", "_law_least", "_law_most", "_law_names", "_law_found", "_law_k", "_law_heading", "_law_name", "_law_others", "_law_turn", "_law_tomes"]) (sc := defScope s_law_wide) (by decide +kernel)) (fun _ _ _ _ _ => (pg_name (i := 9) sc_law_wide.nd rfl (by first | exact Or.inl rfl | exact Or.inr rfl))) (fun _ _ _ _ _ => pts_nil) (fun _ _ _ _ _ => (pe_op op_add pe_int (C8.pe_c (ok_law_taken T) hr (by decide) (by rfl) (pa_cons (pv 0) (pa_cons pe_int pa_nil)))))))))
      (pss_one (ps_expr (pe_bm PySem.F.plainAttrs_list PySem.F.slot_list_append PySem.F.type_list_append mt_append (pv 4) (pa_cons (pe_tup (pa_cons (pv 6) (pa_cons (pv 10) (pa_cons pe_str (pa_cons (pe_tupleK (K := K) rfl (by rfl) T.b_tuple (pe_slice (sl_listK (K := K) rfl) (C8.pe_c (ok_law_mixed T) hr (by decide) (by rfl) (pa_cons (pv 0) (pa_cons (pv 8) pa_nil))) po_none (po_some (C8.pe_c (ok_law_taken T) hr (by decide) (by rfl) (pa_cons (pv 0) (pa_cons pe_int pa_nil)))))) pa_nil))))) pa_nil))))))))))))
      (pss_one (ps_ret (pe_slice (sl_listK (K := K) rfl) (pv 4) po_none (po_some (pv 2)))))))), ?_⟩
    obtain ⟨rx, eR⟩ := rw_.lst
    have volR : ∀ {H' : Hp}, RowS K H' R S zs → ∀ b ∈ [R], ∃ o, H' b = some o ∧ Vol o := fun {H'} r b hb => by
      obtain ⟨_, e⟩ := r.lst
      rw [List.mem_singleton.mp hb]; exact ⟨_, e, .lst _⟩
    have nin : ∀ {X : Addr}, X ≠ R → X ∉ [R] := fun n m => n (List.mem_singleton.mp m)
    refine ⟨szl rfl, fun N0 hN0 => ⟨_, rfl, R, S, zs, 7, rfl, rw_.same (Sm.new hN0), by decide, by decide, fun v0 H1 b1 r1 hv0 => ⟨_, _, rfl, rfl, ((3 + v0 : Nat) : Int), congrArg V.int (by omega), N0, uN.map V.str, rfl, SqL.of (b1 _ _ upd_same (nin (ne_of_none eR hN0).symm)), fun Nm hNm => ?_⟩⟩⟩
    rw [cut_take]
    have hnm := nm_ok v0
    rw [← List.map_take]
    generalize uN.take (3 + v0) = nm at hnm ⊢
    have b01 : But [R] H H1 := (But.of (Sm.new hN0)).trans b1
    have eRk : ∀ {H' : Hp}, RowS K H' R S zs → ∀ X, H' X = none → X ≠ R := fun r X hX => by
      obtain ⟨_, e⟩ := r.lst
      exact (ne_of_none e hX).symm
    have nNm := eRk r1 Nm hNm
    have hNm0 : H Nm = none := by
      cases e : H Nm with
      | none => rfl
      | some o => rw [b01 _ _ e (nin nNm)] at hNm; cases hNm
    have b2 := b01.new (o := .lst (nm.map V.str)) hNm
    have r2 := r1.same (Sm.new (o := .lst (nm.map V.str)) hNm)
    have nl := hnm.len
    refine ⟨szl rfl, fun F hF => ?_⟩
    have nF' := eRk r2 F hF
    have nNF : Nm ≠ F := ne_of_none upd_same hF
    have b3 := b2.new (o := .lst []) hF
    have r3 := r2.same (Sm.new (o := .lst []) hF)
    have eNm3 := (Sm.new (o := .lst []) hF) _ _ (upd_same : upd H1 Nm (.lst (nm.map V.str)) Nm = _)
    have hF0 : H F = none := by
      cases e : H F with
      | none => rfl
      | some o => rw [b2 _ _ e (nin nF')] at hF; cases hF
    refine ⟨_, rfl, _, rfl, _, rfl, _, rfl, _, _, rfl, rfl, _, _, rfl, rfl, R, S, zs, 7, rfl, r3, by decide, by decide, fun v1 H2 b4 r4 hv1 => ⟨_, _, rfl, rfl, _, rfl, by omega, by omega, ?_⟩⟩
    have b5 := b3.trans b4
    have eNm4 := b4 _ _ eNm3 (nin nNm)
    have eF4 := b4 _ _ (upd_same : upd (upd H1 Nm (.lst (nm.map V.str))) F (.lst []) F = _) (nin nF')
    have tn : ((10 : Int) + (v1 : Nat)).toNat = 10 + v1 := by omega
    have wk : Walk (Itr 0 ((10 : Int) + (v1 : Nat)).toNat) (10 + v1) (fun _ => True) (YFn fun i => .int (0 + i)) := by rw [tn]; exact walk_range
    refine for_it wk (fun i σ' H' => ∃ cs ys, (∃ o5 o6 o7 o8 o9 o10, σ' = [some (.ref R), some (.int 10), some (.int 16), some (.ref Nm), some (.ref F), o5, o6, o7, o8, o9, o10]) ∧ But [R] H H' ∧ RowS K H' R S zs ∧ H' Nm = some (.lst (nm.map V.str)) ∧ H' F = some (.lst ys) ∧ SomeL K H' ys cs ∧ (∀ c ∈ cs, CardOk c) ∧ cs.length = i)
      ⟨[], [], ⟨_, _, _, _, _, _, rfl⟩, b5, r4, eNm4, eF4, Each.nil, fun _ h => (nomatch h), rfl⟩ (fun _ _ _ _ _ => trivial) (fun i v σ1 H3 H4 hi ⟨cs, ys, ⟨o5, o6, o7, o8, o9, o10, e0⟩, b6, r6, eNm, eF, hys, cok, cl⟩ hy => ?_) (fun σ1 H3 ⟨cs, ys, ⟨o5, o6, o7, o8, o9, o10, e0⟩, b6, r6, eNm, eF, hys, cok, cl⟩ => ?_)
    · subst e0
      obtain ⟨rfl, rfl⟩ := hy
      have yl : ys.length = cs.length := hys.1
      refine ⟨_, rfl, _, rfl, R, S, zs, Nm, nm, rfl, r6, SqL.of eNm, nNm, hnm.ne, by omega, fun h H5 b7 r7 hh => ?_⟩
      have eNm5 := b7 _ _ eNm (nin nNm)
      have eF5 := b7 _ _ eF (nin nF')
      have hys5 := hys.sd (SmD.but b7 (volR r6))
      have b17 := b6.trans b7
      have ho := ot_ok hnm hh
      refine ⟨_, rfl, szl rfl, fun yz hyz => ⟨Nm, yz, _, _, rfl, rfl, (Sm.new hyz) _ _ eNm5, upd_same, sizeOf' (by simp; omega), fun cat hcat => ?_⟩⟩
      rw [show nm.map V.str ++ [V.str "yak", V.str "zebu"] = (nm ++ (["yak", "zebu"] : List Str)).map V.str by rw [List.map_append]; rfl]
      have sC := (Sm.new (o := .lst [.str "yak", .str "zebu"]) hyz).new' (o := .lst ((nm ++ (["yak", "zebu"] : List Str)).map V.str)) hcat
      refine ⟨cat, rfl, ⟨_, SqL.of upd_same⟩, fun D hD => lc_it (walk_list (xs := (nm ++ (["yak", "zebu"] : List Str)).map V.str)) (fun j H' => Sm (upd (upd H5 yz (.lst [.str "yak", .str "zebu"])) cat (.lst ((nm ++ (["yak", "zebu"] : List Str)).map V.str))) H' ∧ H' D = some (.lst ((((nm ++ (["yak", "zebu"] : List Str)).take j).filter fun x => !decide (x = h)).map V.str))) ⟨Sm.new hD, upd_same⟩ (fun j H' _ ⟨s8, _⟩ => SqL.of (s8 _ _ upd_same))
        (fun j v H7 H8 hj ⟨s8, e8⟩ hy => ?_) (fun H7 ⟨s8, e8⟩ => ?_)⟩
      · obtain ⟨rfl, ev⟩ := hy
        rw [List.getElem?_map] at ev
        obtain ⟨x, ex, rfl⟩ := Option.map_eq_some_iff.mp ev
        have fl : (((nm ++ (["yak", "zebu"] : List Str)).take j).filter fun x => !decide (x = h)).length ≤ 100 := Nat.le_trans (List.length_filter_le _ _) (by rw [List.length_take, List.length_append]; simp; omega)
        refine ⟨rfl, _, rfl, _, rfl, rfl, _, rfl, ?_⟩
        by_cases m : x = h
        · refine ifF (neF (congrArg V.str m)) ⟨s8, ?_⟩
          rw [take_snoc ex, filter_f (f := fun x => !decide (x = h)) (nF m)]; exact e8
        · refine ifT (neT (str_ne m)) ⟨_, rfl, _, e8, sizeLt (by rw [List.length_map]; omega), s8.wr hD, ?_⟩
          rw [upd_same, take_snoc ex, filter_t (f := fun x => !decide (x = h)) (nT m), List.map_append]; rfl
      · rw [List.length_map, List.take_length] at e8
        have e8 : H7 D = some (.lst ((othersOf nm h).map V.str)) := e8
        generalize othersOf nm h = ot at ho e8
        have s57 := sC.trans s8
        have b27 := b17.trans (But.of s57)
        have r8 := r7.same s57
        have nD : D ≠ R := by
          have := eRk (r7.same sC) D hD
          exact this
        have eNm7 := s57 _ _ eNm5
        have eF7 := s57 _ _ eF5
        have hys7 := hys5.same s57
        have ol := ho.len
        -- what remains to be said of a new card
        have fin : ∀ (H' : Hp) (f : Addr) (c : CardD) (o5 o6 o7 o8 o9 o10 : Option V), But [R] H H' → RowS K H' R S zs → H' Nm = some (.lst (nm.map V.str)) → H' F = some (.lst ys) → SomeL K H' ys cs → CardOk c → TupF K H' f c →
            ∃ cs2 ys2, (∃ p5 p6 p7 p8 p9 p10, ([some (.ref R), some (.int 10), some (.int 16), some (.ref Nm), some (.ref F), o5, o6, o7, o8, o9, o10] : L2.St) = [some (.ref R), some (.int 10), some (.int 16), some (.ref Nm), some (.ref F), p5, p6, p7, p8, p9, p10]) ∧ But [R] H (upd H' F (.lst (ys ++ [.ref f]))) ∧ RowS K (upd H' F (.lst (ys ++ [.ref f]))) R S zs ∧ upd H' F (.lst (ys ++ [.ref f])) Nm = some (.lst (nm.map V.str)) ∧ upd H' F (.lst (ys ++ [.ref f])) F = some (.lst ys2) ∧ SomeL K (upd H' F (.lst (ys ++ [.ref f]))) ys2 cs2 ∧ (∀ c ∈ cs2, CardOk c) ∧ cs2.length = i + 1 := fun H' f c o5 o6 o7 o8 o9 o10 bb rr en ef hs hc ht => by
          refine ⟨cs ++ [c], ys ++ [.ref f], ⟨_, _, _, _, _, _, rfl⟩, upd_but bb hF0, ?_, by rw [upd_ne nNF]; exact en, upd_same, Each.snoc (hs.updL ef) ⟨f, rfl, ht.updL ef⟩, fun c' hc' => ?_, by rw [List.length_append, cl]; rfl⟩
          · obtain ⟨k, bb2, cc, e, h2⟩ := rr.ex
            exact ⟨⟨k, bb2, cc, by rw [upd_ne nF'.symm]; exact e, h2⟩, rw_.sc.but (upd_but bb hF0)⟩
          · rcases List.mem_append.mp hc' with z | z
            · exact cok c' z
            · rw [List.mem_singleton.mp z]; exact hc
        refine ⟨_, rfl, R, S, zs, 5, rfl, r8, by decide, by decide, fun v2 H9 b9 r9 hv2 => ?_⟩
        have b39 := b27.trans b9
        have eNm9 := b9 _ _ eNm7 (nin nNm)
        have eF9 := b9 _ _ eF7 (nin nF')
        have eD9 := b9 _ _ e8 (nin nD)
        have hys9 := hys7.sd (SmD.but b9 (volR r8))
        refine ⟨rfl, _, rfl, ite2 (fun z => ?_) (fun z => ?_)⟩
        · -- a card that leads on
          refine ⟨_, rfl, .inl ⟨rfl, _, SqL.of eF9⟩, _, rfl, szl rfl, fun t1 ht1 => ⟨_, rfl, _, rfl, R, S, zs, D, ot, rfl, r9.same (Sm.new ht1), SqL.of ((Sm.new ht1) _ _ eD9), nD, ho.ne, by omega, fun x HA bA rA hx => ⟨szl rfl, fun t2 ht2 => ⟨szl rfl, fun t hT => ?_⟩⟩⟩⟩
          have sT1 := Sm.new (H := H9) (o := .tup []) ht1
          have nt1 : t1 ≠ R := eRk r9 t1 ht1
          have et1 := bA _ _ (upd_same : upd H9 t1 (.tup []) t1 = _) (nin nt1)
          have s2t := (Sm.new (H := HA) (o := .tup []) ht2).new' (o := .tup [.str h, .ref t1, .str x, .ref t2]) hT
          have eF11 := s2t _ _ (bA _ _ (sT1 _ _ eF9) (nin nF'))
          refine ⟨F, _, _, rfl, rfl, eF11, sizeLt (by omega), fin _ t ⟨h, [], x, []⟩ _ _ _ _ _ _ (((b39.trans (But.of sT1)).trans bA).trans (But.of s2t)) (rA.same s2t) (s2t _ _ (bA _ _ (sT1 _ _ eNm9) (nin nNm))) eF11 (((hys9.same sT1).sd (SmD.but bA (volR (r9.same sT1)))).same s2t) ?_ ⟨t1, t2, SqT.of upd_same, SqT.of (s2t _ _ et1), SqT.of ((Sm.new hT) _ _ upd_same)⟩⟩
          have hxo := ho.u x hx
          exact ⟨uN_u h (hnm.sub h hh), List.Pairwise.nil, (fun _ z => nomatch z), Nat.zero_le _, .inr ⟨hxo.1, hxo.2, rfl, rfl⟩, Nat.zero_le _, List.nodup_nil, (fun _ z => nomatch z)⟩
        · refine ⟨fun b HB => But [R] H HB ∧ RowS K HB R S zs ∧ HB Nm = some (.lst (nm.map V.str)) ∧ HB F = some (.lst ys) ∧ SomeL K HB ys cs ∧ HB D = some (.lst (ot.map V.str)) ∧ (b = true → cs ≠ []), ?_, ?_⟩
          · refine ⟨_, rfl, szl rfl, fun e0 he0 => neNil (SqL.of ((Sm.new he0) _ _ eF9)) (hys9.same (Sm.new he0)) cok upd_same ⟨_, rfl, ?_⟩⟩
            have sE := Sm.new (H := H9) (o := .lst []) he0
            by_cases en : cs = []
            · exact ifF (nF en) ⟨b39.trans (But.of sE), r9.same sE, sE _ _ eNm9, sE _ _ eF9, hys9.same sE, sE _ _ eD9, fun z => nomatch z⟩
            · refine ifT (nT en) ⟨_, rfl, R, S, zs, 5, rfl, r9.same sE, by decide, by decide, fun v3 HB bB rB hv3 => ⟨rfl, _, rfl, (b39.trans (But.of sE)).trans bB, rB, bB _ _ (sE _ _ eNm9) (nin nNm), bB _ _ (sE _ _ eF9) (nin nF'), (hys9.same sE).sd (SmD.but bB (volR (r9.same sE))), bB _ _ (sE _ _ eD9) (nin nD), fun _ => en⟩⟩
          · rintro b HB ⟨bB, rB, eNmB, eFB, hysB, eDB, hne⟩
            refine ite2 (fun hb => ?_) (fun hb => ?_)
            · -- the last card again
              have en := hne hb
              have yl0 : 0 < ys.length := by rw [yl]; exact List.length_pos_iff.mpr en
              obtain ⟨y0, yv, rfl⟩ : ∃ y0 yv, ys = y0 ++ [yv] := by
                cases e : ys with
                | nil => rw [e] at yl0; cases yl0
                | cons a b => exact ⟨(a :: b).dropLast, (a :: b).getLast (by simp), (List.dropLast_concat_getLast (by simp)).symm⟩
              obtain ⟨c, ec, f, rfl, hf⟩ := hysB.at' (i := y0.length) (x := yv) (by simp)
              exact ⟨_, rfl, .inl ⟨rfl, _, SqL.of eFB⟩, _, rfl, 1, rfl, F, _, _, _, rfl, rfl, SqL.of eFB, atI_last _ _, F, _, _, rfl, rfl, eFB, sizeLt (by omega), fin HB f c _ _ _ _ _ _ bB rB eNmB eFB hysB (cok c (List.mem_of_getElem? ec)) hf⟩
            · -- a card of its own
              refine ⟨_, rfl, R, S, zs, 5, rfl, rB, by decide, by decide, fun v3 HC bC rC hv3 => ⟨_, rfl, by omega, by omega, fun D3 hD3 => ?_⟩⟩
              have nD3 : D3 ≠ R := eRk rC D3 hD3
              have bHC := bB.trans bC
              have hD30 : H D3 = none := by
                cases e : H D3 with
                | none => rfl
                | some o => rw [bHC _ _ e (nin nD3)] at hD3; cases hD3
              have wk3 : Walk (Itr 0 ((v3 : Nat) : Int).toNat) v3 (fun _ => True) (YFn fun i => .int (0 + i)) := by rw [Int.toNat_natCast]; exact walk_range
              refine lc_it wk3 (fun j H' => But [R] HC H' ∧ RowS K H' R S zs ∧ ∃ ls : List Int, H' D3 = some (.lst (ls.map V.int)) ∧ ls.length = j ∧ ∀ k ∈ ls, 1 ≤ k ∧ k ≤ 30) ⟨But.of (Sm.new hD3), rC.same (Sm.new hD3), [], upd_same, rfl, fun _ z => nomatch z⟩ (fun _ _ _ _ => trivial)
                (fun j v HE HE' hj ⟨bE, rE, ls, eL, ll, lb⟩ hy => ?_) (fun HE ⟨bE, rE, ls, eL, ll, lb⟩ => ?_)
              · obtain ⟨rfl, rfl⟩ := hy
                refine ⟨rfl, yes_if ⟨_, rfl, R, S, zs, 30, rfl, rE, by decide, by decide, fun v4 HG bG rG hv4 => ⟨_, _, rfl, rfl, ?_⟩⟩⟩
                have bCG := bE.trans bG
                have bu : But [R] HC (upd HG D3 (.lst (ls.map V.int ++ [.int (1 + (v4 : Nat))]))) := upd_but bCG hD3
                refine ⟨_, bG _ _ eL (nin nD3), sizeLt (by rw [List.length_map]; omega), bu, rG.wr nD3 rC.sc bu, ls ++ [1 + (v4 : Int)], by rw [upd_same, List.map_append]; rfl, by rw [List.length_append, ll]; rfl, fun k hk => ?_⟩
                rcases List.mem_append.mp hk with z | z
                · exact lb k z
                · rw [List.mem_singleton.mp z]; omega
              · refine ⟨D3, ls, rfl, .inl (SqL.of eL), by omega, fun k hk => by have := lb k hk; omega, fun S3 HS sS hS3 eS => .inl ⟨S3, _, rfl, SqL.of eS, fun tt htt => ?_⟩⟩
                have sT := sS.new' (o := .tup ((sI ls).map V.int)) htt
                have bT := (bHC.trans bE).trans (But.of sT)
                have rT := rE.same sT
                have eNmT := sT _ _ (bE _ _ (bC _ _ eNmB (nin nNm)) (nin nNm))
                have eFT := sT _ _ (bE _ _ (bC _ _ eFB (nin nF')) (nin nF'))
                have eDT := sT _ _ (bE _ _ (bC _ _ eDB (nin nD)) (nin nD))
                have hysT := ((hysB.sd (SmD.but bC (volR rB))).sd (SmD.but bE (volR rC))).same sT
                refine ⟨_, rfl, .inl ⟨rfl, _, SqL.of eFT⟩, _, rfl, _, rfl, _, rfl, _, rfl, R, S, zs, D, ot, rfl, rT, SqL.of eDT, by omega, fun x hx => (ho.u x hx).1, fun ms p HM bM rM pm hp ep => ⟨_, rfl, R, S, zs, 5, rfl, rM, by decide, by decide, fun v5 HV bV rV hv5 => ⟨(v5 : Int), rfl, p, ms.map V.str, rfl, SqL.of (bV _ _ ep (nin (eRk rT p hp))), fun sl hsl => .inl ⟨sl, _, rfl, SqL.of upd_same, fun tu htu => ⟨szl rfl, fun tf htf => ?_⟩⟩⟩⟩⟩
                have s3 := ((Sm.new (H := HV) (o := .lst (cutV (ms.map V.str) none (some (v5 : Int)))) hsl).new' (o := .tup (cutV (ms.map V.str) none (some (v5 : Int)))) htu).new' (o := .tup [.str h, .ref tt, .str Str.empty, .ref tu]) htf
                have bMV := bM.trans bV
                have eF3 := s3 _ _ (bMV _ _ eFT (nin nF'))
                have ntt : tt ≠ R := eRk (rE.same sS) tt htt
                refine ⟨F, _, _, rfl, rfl, eF3, sizeLt (by omega), fin _ tf ⟨h, sI ls, Str.empty, ms.take v5⟩ _ _ _ _ _ _ ((bT.trans bMV).trans (But.of s3)) (rV.same s3) (s3 _ _ (bMV _ _ eNmT (nin nNm))) eF3 (((hysT.sd (SmD.but bM (volR rT))).sd (SmD.but bV (volR rM))).same s3) ?_ ⟨tt, tu, SqT.of upd_same, SqT.of (s3 _ _ (bMV _ _ upd_same (nin ntt))), SqT.of ?_⟩⟩
                · have lsl := sI_len' ls
                  refine ⟨uN_u h (hnm.sub h hh), sI_rise ls, fun k hk => ?_, by show (sI ls).length ≤ 4; omega, .inl rfl, by show (ms.take v5).length ≤ 4; rw [List.length_take]; omega, (pm.nodup_iff.mpr ho.nd).sublist (List.take_sublist _ _), fun x hx => ho.u x (pm.mem_iff.mp (List.mem_of_mem_take hx))⟩
                  exact lb k (of_decide_eq_true (List.mem_filter.mp hk).2)
                · rw [upd_ne (ne_of_none upd_same htf), upd_same, cut_take, ← List.map_take]
    · subst e0
      refine ⟨_, rfl, _, rfl, _, rfl, F, _, rfl, SqL.of eF, fun p hp => ?_⟩
      have yl : ys.length = cs.length := hys.1
      have np := eRk r6 p hp
      have hp0 : H p = none := by
        cases e : H p with
        | none => rfl
        | some o => rw [b6 _ _ e (nin np)] at hp; cases hp
      have ec : cutV ys none (some 16) = ys := by
        rw [show (16 : Int) = ((16 : Nat) : Int) from rfl, cut_take, List.take_of_length_le (by omega)]
      rw [ec]
      exact q p cs _ (b6.new hp) (r6.same (Sm.new hp)) hp0 ⟨ys, SqL.of upd_same, hys.same (Sm.new hp)⟩ ⟨cok, by omega⟩ (by omega)
end
end Se
/-! sorted(xs, key=lambda x: x[0]) of tuples whose first is a text: a permutation -/
namespace Se
open PySem PySem.Spec PyProof.Rows L2 PySem.W
/-- the lambda called on a tuple -/
theorem lam_key {prog : Program} {w : World} {A : Around} {s : Shared} {f c' t : Addr} {x qual : Str} {params : Arguments} {scope : Scope} {cl : List (Str × Addr)} {pm ctv : Value} {p1 p2 p3 : Pos} {n : Nat} {its : Array Value} {h : Str} {tk : Tok}
    (hd : A.depth < recursionLimit) (hf : s.heap.get? f = some (kla_obj "<lambda>" qual params (.Subscript (.Name x p1) (.Constant (.int 0) n p2) p3) scope cl pm c' ctv)) (hco : scope.isCoroutine = false) (hgen : scope.isGenerator = false) (hk : scope.kind = .function)
    (hloc : scope.names.lookup x = some .local) (hcell : ∀ y ∈ scope.names, y.2 ≠ .cell) (lim : s.heap.NoLimit) (hc : ∃ (oc : Obj) (vs : Array Value) (tt : Tok), s.heap.get? c' = some oc ∧ oc.data = .fields vs ∧ vs[1]? = some (.str qual tt))
    (hb : bindArgs (kla_fn "<lambda>" qual params (.Subscript (.Name x p1) (.Constant (.int 0) n p2) p3) scope cl pm (.ref c') ctv) ⟨[.ref t], []⟩ = pure [(x, .ref t)]) (hdb : (x == ("__debug__" : Str)) = false) (ht : IsTup s.heap t its) (h0 : its[0]? = some (.str h tk)) :
    wpAny (model prog w) A (call (.ref f) [.ref t]) (KeyPure (.str h) s) (fun _ _ => False) s := by
  obtain ⟨oc, vs, tt, hoc, hdc, hvc⟩ := hc
  refine wpAny_call (kla_callFunE hd hf rfl hco hgen rfl ⟨c', oc, vs, tt, rfl, hoc, hdc, hvc⟩ ?_)
  rw [hb]
  refine wpAny_pure (wpAny_newFunctionEnv hcell (fun y hy => ?_) (fun h₁ hns hsb => ⟨lim.fresh _ hsb, ?_⟩) hk)
  · have : y = (x, Value.ref t) := List.mem_singleton.mp hy
    rw [this]; exact hloc
  have kp : ∀ b o, s.heap.get? b = some o → h₁.get? b = some o := fun b o e => hsb.extBut b o (Nat.ne_of_lt (Heap.lt_size e)) (Heap.get?_push_of_some _ e)
  have ht1 : IsTup h₁ t its := by
    obtain ⟨o, ho, hc, m, hdd⟩ := ht
    exact ⟨o, kp _ _ ho, hc, m, hdd⟩
  refine kla_codeExpr ?_
  refine Subscript_ ?_
  refine wpAny_Name (wpAny_loadName_local hk hloc hns (v := .ref t) ?_ ?_) hdb
  · simp
  refine wpAny_Constant_int ?_
  have hz : 0 < its.size := (Array.getElem?_eq_some_iff.mp h0).1
  refine subscriptTail_builtinR (x := .str h tk) ht1.typeIs slot_tuple_getitem.lookup (PyProof.Rows.getItem_tuple (j := 0) ht1 (by decide) (by decide) (ixN_seq (j := 0) (by unfold ixN; rw [if_pos (by decide), if_pos (by omega)]; rfl)).1 h0 ⟨rfl, ?_⟩)
  exact ⟨h₁, _, rfl, kp, .str _ _⟩
theorem seq_extN {K : Frag} {H H' : Hp} {a : Addr} {xs : List V} (e : LamX.ExtN H H') (h : SqL K H a xs) : SqL K H' a xs := by
  rcases h with (h | ⟨o, h⟩) | h
  · exact .inl (.inl (e _ _ h fun ps z => nomatch z))
  · exact .inl (.inr ⟨o, e _ _ h fun ps z => nomatch z⟩)
  · exact .inr h
theorem tup_extN {K : Frag} {H H' : Hp} {a : Addr} {xs : List V} (e : LamX.ExtN H H') (h : SqT K H a xs) : SqT K H' a xs := by
  rcases h with (h | ⟨o, h⟩) | h
  · exact .inl (.inl (e _ _ h fun ps z => nomatch z))
  · exact .inl (.inr ⟨o, e _ _ h fun ps z => nomatch z⟩)
  · exact .inr h
theorem TupF.extN {K : Frag} {H H' : Hp} {f : Addr} {c : CardD} (h : TupF K H f c) (e : LamX.ExtN H H') : TupF K H' f c := by
  obtain ⟨b, l, h1, h2, h3⟩ := h.ex
  exact ⟨b, l, tup_extN e h1, tup_extN e h2, tup_extN e h3⟩
theorem each_of {α β : Type} {R : α → β → Prop} : ∀ {xs : List α} {ys : List β}, xs.length = ys.length → (∀ (i : Nat) x y, xs[i]? = some x → ys[i]? = some y → R x y) → EachIs R xs ys
  | [], [], _, _ => .nil
  | [], _ :: _, h, _ => by simp at h
  | _ :: _, [], h, _ => by simp at h
  | x :: xs, y :: ys, h, f => .cons (f 0 x y rfl rfl) (each_of (by simpa using h) fun i a b ha hb => f (i + 1) a b (by simpa using ha) (by simpa using hb))
theorem each_vals {R : Value → V × CardD → Prop} (hr : ∀ v b, R v b → RelV b.1 v) {vs : List Value} {bs : List (V × CardD)} (h : EachIs R vs bs) : Vals (bs.map Prod.fst) vs := by
  induction h with
  | nil => exact .nil
  | cons h _ ih => exact .cons (hr _ _ h) ih
/-- sorted(e, key=lambda x: x[0]) -/
def tSortL (K : Frag) (T : List (Addr × Str)) (te : TE) : TE := fun σ H Q => te σ H fun x H1 => ∃ a ys cs, x = .ref a ∧ SqL K H1 a ys ∧ SomeL K H1 ys cs ∧ LamX.Tabs T H1 ∧
  ∀ (bs' : List (V × CardD)) (p : Addr) (H2 : Hp), bs'.Perm (ys.zip cs) → LamX.ExtN H1 H2 → H2 p = none → Q (.ref p) (upd H2 p (.lst (bs'.map Prod.fst)))
theorem pe_sortLam {X : Cx} {K : Frag} {T : List (Addr × Str)} {c P : Addr} {e : Expr} {te : TE} {params : Arguments} {scope : Scope} {x' : Str} {p p1 p2 p3 lpos kpos pos : Pos} {n j : Nat} (hK : X.K = K) (TB : LamX.TabB X.base X.mg c P) (hcode : X.env.code = .ref c)
    (hm : (P, X.env.qual ++ "<lambda>") ∈ T) (hu : ∀ p ∈ T, p.1 = P → p.2 = X.env.qual ++ "<lambda>") (hr : Room j X.A) (hj : 2 ≤ j) (hg : Gl X "sorted") (hmg : X.mg "sorted" = none) (he : PE X e te)
    (hco : scope.isCoroutine = false) (hgen : scope.isGenerator = false) (hk : scope.kind = .function) (hloc : scope.names.lookup x' = some .local) (hcell : ∀ y ∈ scope.names, y.2 ≠ .cell ∧ y.2 ≠ .free)
    (hdef : defaultsOf params X.env = ([], [])) (hb : ∀ (pm cdv ctv : Value) (cl : List (Str × Addr)) (v : Value), bindArgs (kla_fn "<lambda>" (X.env.qual ++ "<lambda>") params (.Subscript (.Name x' p1) (.Constant (.int 0) n p2) p3) scope cl pm cdv ctv) ⟨[v], []⟩ = pure [(x', v)])
    (hdb : (x' == ("__debug__" : Str)) = false)
    (hs1 : starEach [e] X.env = (false, eval e X.env) :: starEach [] X.env := by rfl)
    (hst : backTo pos (starEach [e] X.env) = (false, eval e X.env) :: backTo pos (starEach [] X.env) := by rfl) (hpl : (backTo pos (starEach [e] X.env)).any (·.1) = false := by rfl)
    (hall : (backToKw pos (keywordEach [⟨some "key", .Lambda params (.Subscript (.Name x' p1) (.Constant (.int 0) n p2) p3) scope lpos, kpos⟩] X.env)).all (·.1.isSome) = true := by rfl)
    (hnone : (backToKw pos (keywordEach [⟨some "key", .Lambda params (.Subscript (.Name x' p1) (.Constant (.int 0) n p2) p3) scope lpos, kpos⟩] X.env)).any (·.1.isNone) = false := by rfl)
    (hks : (backToKw pos (keywordEach [⟨some "key", .Lambda params (.Subscript (.Name x' p1) (.Constant (.int 0) n p2) p3) scope lpos, kpos⟩] X.env)).filterMap (·.1) = [("key" : Str)] := by rfl) :
    PE X (.Call (.Name "sorted" p) [e] [⟨some "key", .Lambda params (.Subscript (.Name x' p1) (.Constant (.int 0) n p2) p3) scope lpos, kpos⟩] pos) (tSortL K T te) := by
  subst hK
  refine ⟨fun pins s σ H Q I h => ?_⟩
  refine wpAny_Call_Name_kw (ld_blt (u := .builtin "sorted") I hg hmg (by decide +kernel) ?_)
  refine PyProof.Rows.callWith_kw (thn ((pa_cons (pe_cut he) pa_nil hs1).run pos pins s σ H (fun vs H1 => ∃ x, vs = [x] ∧ ∃ a ys cs, x = .ref a ∧ SqL X.K H1 a ys ∧ SomeL X.K H1 ys cs ∧ LamX.Tabs T H1 ∧
    ∀ (bs' : List (V × CardD)) (p : Addr) (H2 : Hp), bs'.Perm (ys.zip cs) → LamX.ExtN H1 H2 → H2 p = none → Q (.ref p) (upd H2 p (.lst (bs'.map Prod.fst)))) I ⟨_, h, fun x H1 q => ⟨x, rfl, q⟩⟩) fun us s1 ⟨vs, H1, I1, r1, x, ex, a, ys, cs, ea, hL, hS, hT, q⟩ => ?_) hst hpl hall hnone
  subst ex ea
  have eu := Vals.ref1 r1
  subst eu
  rw [hks]
  show wpAny _ _ (evalAll ((do let v ← eval (.Lambda params (.Subscript (.Name x' p1) (.Constant (.int 0) n p2) p3) scope lpos) X.env; standAt pos; pure v) :: (backToKw pos (keywordEach [] X.env)).map (·.2))) _ _ s1
  refine wpAny_evalAll_cons (wpAny_bind (LamX.lam_make2 I1 TB hcode hm hu hT hdef (fun y hy e => absurd e (hcell y hy).2) fun f c' pm ctv H2 s2 I2 hE hT2 hf hfn hfr hc => wpAny_bind (wpAny_standAt (wpAny_pure ?_))))
  refine wpAny_evalAll_nil ?_
  have hL2 := seq_extN hE hL
  obtain ⟨its, rv, hl, hz⟩ := I2.list hL2
  have ylen : ys.length = cs.length := hS.1
  have rlen := rv.length
  have zlen : (ys.zip cs).length = ys.length := by rw [List.length_zip]; omega
  obtain ⟨⟨oc, vs', tt, hoc, hdc, hvc⟩, _, _⟩ := I2.hok c' _ hc
  have lim := I2.nolimit
  have eE : EachIs (fun (v : Value) (b : V × CardD) => ∃ t u tk, v = .ref t ∧ b.1 = .ref t ∧ IsTup s2.heap t u ∧ u[0]? = some (.str b.2.h tk)) its (ys.zip cs) := by
    refine each_of (by rw [zlen]; exact rlen.symm) fun i v b hv hb => ?_
    rw [List.getElem?_zip_eq_some] at hb
    obtain ⟨t, e1, hc1⟩ := hS.2 i b.1 b.2 hb.1 hb.2
    obtain ⟨w1, ew, rw1⟩ := rv.get hb.1
    rw [hv] at ew
    cases ew
    rw [e1] at rw1
    cases (show v = Value.ref t from rw1)
    obtain ⟨bk, al, h1, _, _⟩ := (hc1.extN hE).ex
    obtain ⟨u, ru, hu', _⟩ := I2.tuple h1
    obtain ⟨w2, ew2, rw2⟩ := ru.get (i := 0) rfl
    obtain ⟨tk, rfl⟩ := (show ∃ tk, w2 = Value.str b.2.h tk from rw2)
    exact ⟨t, u.toArray, tk, rfl, e1, hu', by simpa using ew2⟩
  refine sorted_key_data (b := false) (kw := [("key", .ref f)]) (fun b : V × CardD => .str b.2.h) hl.isList eE (AllAlike.of fun _ _ => by simp [alike]) (Sortable.others fun b => ⟨fun z => (nomatch z), fun xs z => (nomatch z)⟩) (by rw [zlen]; exact hz) (fun b _ => ?_) (ksk_s1 _ _) (fun z => ksk_l1 _ _) (fun z => ksk_t1 _ _) (fun v b hR hb' h tk kp => ?_) (fun out c h' tk kp fr hD hlen hEo => ?_)
  · have := hr.units
    simp only [PyData.depth]
    omega
  · obtain ⟨t, u, tk2, rfl, e1, ht, h0⟩ := hR
    obtain ⟨o, ho, hcl, m, hdd⟩ := ht
    have hr2 : Room 0 X.A.in1.in1 := ((hr.mono hj).in1).in1
    exact lam_key (s := { s2 with heap := h, toks := tk }) hr2.depth (kp _ _ hf) hco hgen hk hloc (fun y hy => (hcell y hy).1) (lim.keeps kp) ⟨oc, vs', tt, kp _ _ hoc, hdc, hvc⟩ (hb _ _ _ _ _) hdb ⟨o, kp _ _ ho, hcl, m, hdd⟩ h0
  · have I3 : Inv X pins σ H2 { s2 with heap := h', toks := tk } → True := fun _ => trivial
    have pm : ((ys.zip cs).mergeSort (dataLe false fun b : V × CardD => .str b.2.h)).Perm (ys.zip cs) := List.mergeSort_perm _ _
    have vv := each_vals (fun v b ⟨t, u, tk, e1, e2, _⟩ => by rw [e2, e1]; rfl) hEo
    have ln : (((ys.zip cs).mergeSort (dataLe false fun b : V × CardD => .str b.2.h)).map Prod.fst).length ≤ sizeLine := by rw [List.length_map, pm.length_eq, zlen]; exact hz
    exact ⟨.ref (s2.heap.objs.size + 1), _, I2.laid (t' := tk) kp (Nat.le_succ _) (o := .lst (((ys.zip cs).mergeSort (dataLe false fun b : V × CardD => .str b.2.h)).map Prod.fst)) ⟨ln, _, c, vv, hD⟩, rfl, q _ _ _ pm hE (I2.hok.fresh (Nat.le_succ _))⟩
end Se
namespace Se
open PySem PySem.Spec PyProof.Rows L2
/-! equal data -/
theorem neD_same {K : PySem.W.Frag} {H : Hp} {x y : V} {d : PyData} {Q : VK} (h1 : Dp K H x d) (h2 : Dp K H y d) (hs : SeqAt.shaped d = true) (q : Q (.bl false) H) : rNeD K x y H Q := by
  refine ⟨d, d, h1, h2, hs, hs, ?_⟩
  have : PyData.eqv d d = true := by
    refine SeqAt.eqv_refl d ?_
    unfold SeqAt.shaped at hs
    exact (Bool.and_eq_true_iff.mp hs).1
  rw [this]; exact q
theorem map_vN (l : List Nat) : l.map vN = (castI l).map V.int := by unfold castI; rw [List.map_map]; rfl
theorem dp_natsT {K : PySem.W.Frag} {H : Hp} {a : Addr} {ns : List Nat} (h : SqT K H a (ns.map vN)) : Dp K H (.ref a) ((eTup eInt).d (castI ns)) := by rw [map_vN] at h; exact dp_intsT h
def gD (g : GS) : PyData := .tuple [(eTup eInt).d (sI g.met), (eTup eInt).d (castI g.vis), .int g.dn.length]
theorem gD_ok (g : GS) : SeqAt.shaped (gD g) = true := by
  have h1 := (eTup eInt).dp (sI g.met)
  have h2 := (eTup eInt).dp (castI g.vis)
  have l1 := (eTup eInt).lay (sI g.met) fun _ _ => trivial
  have l2 := (eTup eInt).lay (castI g.vis) fun _ _ => trivial
  have l3 : (gD g).canLay0 = true := by
    unfold gD
    rw [PyData.canLay0, PyData.canLayAll0, PyData.canLayAll0, PyData.canLayAll0, PyData.canLayAll0, l1, l2]
    rfl
  have l4 : (gD g).depth ≤ 64 := by
    unfold gD
    simp only [PyData.depth, PyData.depthAll]
    omega
  rw [SeqAt.shaped, l3, decide_eq_true l4]; rfl
def notIn (cs : List CardD) (r : Rl) (L : List Str) (b : Int) : Bool := L.all fun n => !decide (b ∈ reach cs r n)
theorem notIn_iff {cs : List CardD} {r : Rl} {L : List Str} {b : Int} : notIn cs r L b = true ↔ ∀ n ∈ L, b ∉ reach cs r n := by
  unfold notIn
  rw [List.all_eq_true]
  exact ⟨fun h n hn => by have := h n hn; simpa using this, fun h n hn => nT (h n hn)⟩
/-- what is not reached -/
theorem hid_eq (cs : List CardD) (r : Rl) (ns : List Str) (ok : Ok cs) : hid cs r ns = sI ((allB cs).filter fun b => notIn cs r (ns) b) := by
  refine sI_eq (fun k hk => allB_bd ok k (List.mem_filter.mp hk).1) ((sI_rise _).filter _) fun k => ?_
  unfold hid
  rw [List.mem_filter, List.mem_filter, mem_sI (allB_bd ok)]
  refine and_congr Iff.rfl ?_
  rw [Bool.not_eq_true', decide_eq_false_iff_not, notIn_iff, mem_sI fun k h => reachL_bd k h]
  unfold reachL
  rw [List.mem_flatMap]
  exact ⟨fun h n hn hk => h ⟨n, hn, hk⟩, fun h ⟨n, hn, hk⟩ => h n hn hk⟩
def rulesS : List Str := ["all", "half", "leaf"]
theorem rules_in {x : Str} (h : x ∈ rulesS) : ∃ r : Rl, x = r.str := by
  unfold rulesS at h
  simp only [List.mem_cons, List.not_mem_nil, or_false] at h
  rcases h with rfl | rfl | rfl
  · exact ⟨.all, rfl⟩
  · exact ⟨.half, rfl⟩
  · exact ⟨.leaf, rfl⟩
theorem SomeAt.but {K : PySem.W.Frag} {H H' : Hp} {R l : Addr} {cs : List CardD} (h : SomeAt K H l cs) (n : l ≠ R) (b : But [R] H H') (v : ∃ o, H R = some o ∧ Vol o) : SomeAt K H' l cs := by
  obtain ⟨xs, h1, h2⟩ := h.ex
  exact ⟨xs, seq_but b (fun m => n (List.mem_singleton.mp m)) h1, h2.sd (SmD.but b fun a ha => by rw [List.mem_singleton.mp ha]; exact v)⟩
theorem SomeAt.extN {K : PySem.W.Frag} {H H' : Hp} {l : Addr} {cs : List CardD} (h : SomeAt K H l cs) (e : LamX.ExtN H H') : SomeAt K H' l cs := by
  obtain ⟨xs, h1, h2⟩ := h.ex
  exact ⟨xs, seq_extN e h1, h2.mono fun _ _ ⟨f, q, z⟩ => ⟨f, q, z.extN e⟩⟩
theorem found_iff {cs : List CardD} {r : Rl} : found cs r = true ↔ (sS (cs.map (·.h))).filter (fun h => !(look cs r h).isSome) = [] := by
  unfold found
  rw [List.all_eq_true, List.filter_eq_nil_iff]
  exact ⟨fun h x hx => by rw [h x hx]; decide, fun h x hx => by
    have := h x hx
    cases e : look cs r x with
    | none => rw [e] at this; exact absurd rfl this
    | some _ => rfl⟩
theorem known_ne {cs : List CardD} (ok : Ok cs) (h : 10 ≤ cs.length) : known cs ≠ [] := by
  obtain ⟨c, hc⟩ := get_of_lt (l := cs) (i := 0) (by omega)
  intro z
  have : c.h ∈ known cs := (mem_sS (knU ok)).2 (List.mem_flatMap.mpr ⟨c, List.mem_of_getElem? hc, List.mem_cons_self⟩)
  rw [z] at this
  cases this
theorem Each.drop {α β : Type} {R : α → β → Prop} {xs : List α} {ys : List β} (h : Each R xs ys) (k : Nat) : Each R (xs.drop k) (ys.drop k) := by
  refine ⟨by rw [List.length_drop, List.length_drop, h.1], fun i a b ha hb => ?_⟩
  rw [List.getElem?_drop] at ha hb
  exact h.2 _ a b ha hb
theorem Each.take {α β : Type} {R : α → β → Prop} {xs : List α} {ys : List β} (h : Each R xs ys) (k : Nat) : Each R (xs.take k) (ys.take k) := by
  refine ⟨by rw [List.length_take, List.length_take, h.1], fun i a b ha hb => ?_⟩
  have hi : i < k := by
    have := get_lt ha
    rw [List.length_take] at this
    omega
  rw [List.getElem?_take, if_pos hi] at ha hb
  exact h.2 _ a b ha hb
/-- a slice of the cards -/
theorem some_cut {K : PySem.W.Frag} {H : Hp} {ys : List V} {cs : List CardD} (h : SomeL K H ys cs) (lo hi : Option Int) : ∃ cs', SomeL K H (cutV ys lo hi) cs' ∧ ∀ c ∈ cs', c ∈ cs := by
  unfold cutV
  exact ⟨_, Each.take (Each.drop h _) _, fun c hc => List.mem_of_mem_drop (List.mem_of_mem_take hc)⟩
theorem sIx_neg {n d k : Nat} (hk : 0 < k) (hn : k ≤ n) : HT.sIx n d (some (-(k : Int))) = n - k := by
  show (if (-(k : Int)) < 0 then (-(k : Int) + (n : Int)).toNat else _) = _
  rw [if_pos (by omega)]
  omega
theorem cut_len1 {xs : List V} {k : Nat} (hk : 0 < k) (hn : k ≤ xs.length) : (cutV xs none (some (-(k : Int)))).length ≤ xs.length - k := by
  unfold cutV
  rw [sIx_neg hk hn, HT.sIx_none, List.length_take]
  omega
theorem cut_len2 {xs : List V} {k : Nat} (hk : 0 < k) (hn : k ≤ xs.length) : (cutV xs (some (-(k : Int))) none).length ≤ k := by
  unfold cutV
  rw [sIx_neg hk hn, HT.sIx_none, List.length_take]
  omega
theorem cut_len3 {xs : List V} {j k : Nat} (hj : 0 < j) (hk : j ≤ k) (hn : k ≤ xs.length) : (cutV xs (some (-(k : Int))) (some (-(j : Int)))).length ≤ k - j := by
  unfold cutV
  rw [sIx_neg (by omega) hn, sIx_neg hj (by omega), List.length_take]
  omega
/-- the cards by a permutation of pairs -/
theorem some_perm {K : PySem.W.Frag} {H : Hp} {ys : List V} {cs : List CardD} (h : SomeL K H ys cs) {bs : List (V × CardD)} (pm : bs.Perm (ys.zip cs)) : SomeL K H (bs.map Prod.fst) (bs.map Prod.snd) ∧ ∀ c ∈ bs.map Prod.snd, c ∈ cs := by
  have key : ∀ b ∈ bs, (∃ f, b.1 = V.ref f ∧ TupF K H f b.2) ∧ b.2 ∈ cs := fun b hb => by
    have hz := pm.mem_iff.mp hb
    obtain ⟨i, hi⟩ := List.mem_iff_getElem?.mp hz
    rw [List.getElem?_zip_eq_some] at hi
    exact ⟨h.2 i _ _ hi.1 hi.2, List.mem_of_getElem? hi.2⟩
  refine ⟨⟨by rw [List.length_map, List.length_map], fun i a b ha hb => ?_⟩, fun c hc => ?_⟩
  · rw [List.getElem?_map] at ha hb
    obtain ⟨p, hp, rfl⟩ := Option.map_eq_some_iff.mp ha
    rw [hp] at hb
    cases hb
    exact (key p (List.mem_of_getElem? hp)).1
  · obtain ⟨p, hp, rfl⟩ := List.mem_map.mp hc
    exact (key p hp).2
theorem hid_step (cs : List CardD) (r : Rl) (n3 : List Str) {i : Nat} {h : Str} (eh : n3[i]? = some h) : (allB cs).filter (fun b : Int => notIn cs r (n3.take (i + 1)) b) = ((allB cs).filter fun b : Int => notIn cs r (n3.take i) b).filter fun b : Int => !decide (b ∈ reach cs r h) := by
  rw [List.filter_filter]
  apply List.filter_congr
  intro b _
  rw [Bool.eq_iff_iff, Bool.and_eq_true_iff, notIn_iff, notIn_iff, Bool.not_eq_true', decide_eq_false_iff_not, take_snoc eh]
  constructor
  · exact fun z => ⟨z h (by simp), fun n hn => z n (List.mem_append_left _ hn)⟩
  · rintro ⟨z1, z2⟩ n hn
    rcases List.mem_append.mp hn with hn | hn
    · exact z2 n hn
    · rw [List.mem_singleton.mp hn]; exact z1
section
variable {P : Program} {w : World} {K : PySem.W.Frag} {mg : Str → Option Value} {base : Heap} {CC CD CW CG aR aW : Addr}
theorem sc_law : FnScope ["_law_script", "_law_row", "_law_some", "_law_rule", "_law_drawer_here", "_law_names", "_law_name", "_law_kind", "_law_patience", "_law_met", "_law_visited", "_law_count", "_law_three", "_law_tomes", "_law_one", "_law_book", "_law_line", "_law_cards", "_law_missed"] ["_law_script"] (defScope s_law) := C8.fnScope_by (by decide +kernel)
def sp_lawE (K : PySem.W.Frag) (Tb : Addr) : Sp := fun vs H Q _ => ∃ S zs, vs = [.ref S] ∧ SqL K H S ((zs : List Int).map V.int) ∧ H Tb = some (.tbl #[]) ∧ ∀ H', Q (.bl true) H'
theorem body_law (T : Tx K mg CC CD CW CG aR aW) {cc Tb : Addr} (TB : LamX.TabB base mg cc Tb) : ∀ (f : Addr) (A : Around) (outer : List Env) (s : Shared) (H : Hp) (vs : List V) (Q : VK) (E : XK), Room 14 (A.deeper (envOfC "law" (defScope s_law) s.heap.objs.size f (.ref cc))) → sp_lawE K Tb vs H Q E →
    ∃ t, PSs (cxOf CX0 P w K mg base ["_law_script", "_law_row", "_law_some", "_law_rule", "_law_drawer_here", "_law_names", "_law_name", "_law_kind", "_law_patience", "_law_met", "_law_visited", "_law_count", "_law_three", "_law_tomes", "_law_one", "_law_book", "_law_line", "_law_cards", "_law_missed"] "law" (defScope s_law) f (.ref cc) A outer s H E).nox (defBody s_law) t ∧ t { nx := fun _ H' => Q .non H', rt := Q } (start ["_law_script", "_law_row", "_law_some", "_law_rule", "_law_drawer_here", "_law_names", "_law_name", "_law_kind", "_law_patience", "_law_met", "_law_visited", "_law_count", "_law_three", "_law_tomes", "_law_one", "_law_book", "_law_line", "_law_cards", "_law_missed"] vs) H := by
  refine fun f A outer s H vs Q E hr h => ?_
  · obtain ⟨S, zs, rfl, hS, hTb, q⟩ := h
    refine ⟨_, (pss_cons (ps_set (i := 1) sc_law.nd rfl (by first | exact Or.inl rfl | exact Or.inr rfl) (pe_lst (pa_cons (pv 0) (pa_cons pe_int (pa_cons pe_int (pa_cons pe_int pa_nil))))))
      (pss_cons (ps_asg (pe_tup (pa_cons (C8.pe_c (ok_law_wide T) hr (by decide) (by rfl) (pa_cons (pv 1) (pa_cons pe_int (pa_cons pe_int pa_nil)))) (pa_cons (C8.pe_c (ok_law_pick T) hr (by decide) (by rfl) (pa_cons (pv 1) (pa_cons (pe_lst (pa_cons pe_str (pa_cons pe_str (pa_cons pe_str pa_nil)))) pa_nil))) pa_nil))) (pg_tup rfl (pgs_cons (pg_name (i := 2) sc_law.nd rfl (by first | exact Or.inl rfl | exact Or.inr rfl)) (pgs_cons (pg_name (i := 3) sc_law.nd rfl (by first | exact Or.inl rfl | exact Or.inr rfl)) pgs_nil))))
      (pss_cons (ps_par (i := 4) (j := 5) rfl sc_law.nd rfl rfl (by decide) rfl rfl (pa_cons (C8.pe_c (ok_law_drawer T) hr (by decide) (by rfl) (pa_cons (pv 2) pa_nil)) (pa_cons (C8.pe_c (ok_law_known T) hr (by decide) (by rfl) (pa_cons (pv 2) pa_nil)) pa_nil)) (by rfl))
      (pss_cons (ps_if (pt_cmpR (op_neDK (K := K) rfl hr.units) (pe_callTy (call_listD rfl) (by rfl) T.b_list (by decide +kernel) (pa_cons (C8.pe_c (ok_landings T) hr (by decide) (by rfl) (pa_cons (pv 4) (pa_cons (pv 3) pa_nil))) pa_nil)) (pv 5) (nomark _)) (pss_one (ps_ret pe_bl)) pss_nil)
      (pss_cons (ps_if (pt_cmpR (op_neDK (K := K) rfl hr.units) (C8.pe_c (ok_also_rings T) hr (by decide) (by rfl) (pa_cons (pv 4) (pa_cons (pv 3) pa_nil))) (C8.pe_c (ok_law_rings T) hr (by decide) (by rfl) (pa_cons (pv 2) (pa_cons (pv 3) pa_nil))) (nomark _)) (pss_one (ps_ret pe_bl)) pss_nil)
      (pss_cons (ps_for PassesOwn.never rfl (pi_list (pe_slice (sl_listK (K := K) rfl) (C8.pe_c (ok_law_mixed T) hr (by decide) (by rfl) (pa_cons (pv 1) (pa_cons (pv 5) pa_nil))) po_none (po_some pe_int))) (pg_name (i := 6) sc_law.nd rfl (by first | exact Or.inl rfl | exact Or.inr rfl)) (pss_one (ps_for PassesOwn.never rfl (pi_tup (pe_tup (pa_cons pe_str (pa_cons pe_str (pa_cons pe_str pa_nil))))) (pg_name (i := 7) sc_law.nd rfl (by first | exact Or.inl rfl | exact Or.inr rfl)) (pss_one (ps_for PassesOwn.never rfl (pi_tup (pe_tup (pa_cons pe_int (pa_cons (pe_op op_add pe_int (C8.pe_c (ok_law_taken T) hr (by decide) (by rfl) (pa_cons (pv 1) (pa_cons pe_int pa_nil)))) pa_nil)))) (pg_name (i := 8) sc_law.nd rfl (by first | exact Or.inl rfl | exact Or.inr rfl)) (pss_cons (ps_asg (C8.pe_c (ok_law_gathered T) hr (by decide) (by rfl) (pa_cons (pv 2) (pa_cons (pv 3) (pa_cons (pv 7) (pa_cons (pv 6) (pa_cons (pv 8) pa_nil)))))) (pg_tup rfl (pgs_cons (pg_name (i := 9) sc_law.nd rfl (by first | exact Or.inl rfl | exact Or.inr rfl)) (pgs_cons (pg_name (i := 10) sc_law.nd rfl (by first | exact Or.inl rfl | exact Or.inr rfl)) (pgs_cons (pg_name (i := 11) sc_law.nd rfl (by first | exact Or.inl rfl | exact Or.inr rfl)) pgs_nil)))))
      (pss_one (ps_if (pt_cmpR (op_neDK (K := K) rfl hr.units) (C8.pe_c (ok_gather T) hr (by decide) (by rfl) (pa_cons (pv 4) (pa_cons (pv 3) (pa_cons (pv 7) (pa_cons (pv 6) (pa_cons (pv 8) pa_nil)))))) (pe_tup (pa_cons (pe_tupleK (K := K) rfl (by rfl) T.b_tuple (pe_callB (call_sortedDI rfl) (by rfl) T.b_sorted (by decide +kernel) (pa_cons (pv 9) pa_nil))) (pa_cons (pe_tupleK (K := K) rfl (by rfl) T.b_tuple (pv 10)) (pa_cons (pv 11) pa_nil)))) (nomark _)) (pss_one (ps_ret pe_bl)) pss_nil))))))))
      (pss_cons (ps_par (i := 12) (j := 13) rfl sc_law.nd rfl rfl (by decide) rfl rfl (pa_cons (pe_tupleK (K := K) rfl (by rfl) T.b_tuple (pe_slice (sl_listK (K := K) rfl) (C8.pe_c (ok_law_mixed T) hr (by decide) (by rfl) (pa_cons (pv 1) (pa_cons (pv 5) pa_nil))) po_none (po_some pe_int))) (pa_cons (pe_lst pa_nil) pa_nil)) (by rfl))
      (pss_cons (ps_for PassesOwn.never rfl (pi_list (pv 2)) (pg_name (i := 14) sc_law.nd rfl (by first | exact Or.inl rfl | exact Or.inr rfl)) (pss_one (ps_set (i := 13) sc_law.nd rfl (by first | exact Or.inl rfl | exact Or.inr rfl) (pe_op op_cat (pv 13) (pe_callTy (call_listK (K := K) rfl) (by rfl) T.b_list (by decide +kernel) (pa_cons (pe_ix (ix_tupK (K := K) rfl) (pv 14) pe_int (fun _ _ => rfl)) pa_nil))))))
      (pss_cons (ps_for PassesOwn.never rfl (pi_tup (pv 12)) (pg_name (i := 6) sc_law.nd rfl (by first | exact Or.inl rfl | exact Or.inr rfl)) (pss_cons (ps_set (i := 9) sc_law.nd rfl (by first | exact Or.inl rfl | exact Or.inr rfl) (C8.pe_c (ok_law_reach T) hr (by decide) (by rfl) (pa_cons (pv 2) (pa_cons (pv 3) (pa_cons (pv 6) pa_nil)))))
      (pss_one (ps_setLc (i := 13) (own := [("_law_book", 15)]) (g := (gName 15)) rfl sc_law.nd rfl rfl (sw_true rfl rfl rfl (by decide +kernel)) (pi_list (pv 13)) (blkOk_by (own := [("_law_book", 15)]) (N := ["_law_script", "_law_row", "_law_some", "_law_rule", "_law_drawer_here", "_law_names", "_law_name", "_law_kind", "_law_patience", "_law_met", "_law_visited", "_law_count", "_law_three", "_law_tomes", "_law_one", "_law_book", "_law_line", "_law_cards", "_law_missed"]) (sc := defScope s_law) (by decide +kernel)) (fun _ _ _ _ _ => (pg_name (i := 15) sc_law.nd rfl (by first | exact Or.inl rfl | exact Or.inr rfl))) (fun _ _ _ _ _ => (pts_one (pt_cmpR (op_ninK (K := K) rfl) (pv 15) (pv 9) (by rfl)))) (fun _ _ _ _ _ => (pv 15))))))
      (pss_cons (ps_if (pt_cmpR (op_neDK (K := K) rfl hr.units) (C8.pe_c (ok_hidden T) hr (by decide) (by rfl) (pa_cons (pv 4) (pa_cons (pv 3) (pa_cons (pv 12) pa_nil)))) (pe_sortI (K := K) rfl rfl (by rfl) T.b_sorted (by rfl) T.b_set (pv 13)) (nomark _)) (pss_one (ps_ret pe_bl)) pss_nil)
      (pss_cons (ps_if (pt_not (pt_c (ok_law_losses_are T) hr (by decide) (by rfl) (pa_cons (pv 2) (pa_cons (pv 4) (pa_cons (pv 3) (pa_cons (pe_ix (ix_tupK (K := K) rfl) (pv 12) pe_int (fun _ _ => rfl)) pa_nil)))))) (pss_one (ps_ret pe_bl)) pss_nil)
      (pss_cons (ps_set (i := 16) sc_law.nd rfl (by first | exact Or.inl rfl | exact Or.inr rfl) (pe_sortLam (K := K) (T := [(Tb, "law.<locals>." ++ "<lambda>")]) rfl TB rfl (List.mem_singleton.mpr rfl) (fun p hp _ => by rw [List.mem_singleton.mp hp]; rfl) hr (by decide) (by rfl) T.b_sorted (pv 2) rfl rfl rfl rfl (by decide +kernel) rfl (fun _ _ _ _ _ => rfl) (by decide)))
      (pss_cons (ps_for PassesOwn.never rfl (pi_tup (pe_tup (pa_cons (pv 2) (pa_cons (pe_op op_cat (pe_op op_cat (pe_slice (sl_listK (K := K) rfl) (pv 16) po_none (po_some (pe_un un_neg pe_int))) (pe_slice (sl_listK (K := K) rfl) (pv 16) (po_some (pe_un un_neg pe_int)) po_none)) (pe_slice (sl_listK (K := K) rfl) (pv 16) (po_some (pe_un un_neg pe_int)) (po_some (pe_un un_neg pe_int)))) (pa_cons (pe_op op_cat (pe_op op_cat (pe_slice (sl_listK (K := K) rfl) (pv 16) po_none (po_some (pe_un un_neg pe_int))) (pe_slice (sl_listK (K := K) rfl) (pv 16) (po_some (pe_un un_neg pe_int)) po_none)) (pe_slice (sl_listK (K := K) rfl) (pv 16) (po_some (pe_un un_neg pe_int)) (po_some (pe_un un_neg pe_int)))) pa_nil))))) (pg_name (i := 17) sc_law.nd rfl (by first | exact Or.inl rfl | exact Or.inr rfl)) (pss_cons (ps_setLc (i := 18) (own := [("_law_name", 6)]) (g := (gName 6)) rfl sc_law.nd rfl rfl (sw_true rfl rfl rfl (by decide +kernel)) (pi_list (C8.pe_c (ok_law_headings T) hr (by decide) (by rfl) (pa_cons (pv 17) pa_nil))) (blkOk_by (own := [("_law_name", 6)]) (N := ["_law_script", "_law_row", "_law_some", "_law_rule", "_law_drawer_here", "_law_names", "_law_name", "_law_kind", "_law_patience", "_law_met", "_law_visited", "_law_count", "_law_three", "_law_tomes", "_law_one", "_law_book", "_law_line", "_law_cards", "_law_missed"]) (sc := defScope s_law) (by decide +kernel)) (fun _ _ _ _ _ => (pg_name (i := 6) sc_law.nd rfl (by first | exact Or.inl rfl | exact Or.inr rfl))) (fun _ _ _ _ _ => (pts_one (pt_cmpR op_isN (pe_ix (ix_tupK (K := K) rfl) (C8.pe_c (ok_law_looked T) hr (by decide) (by rfl) (pa_cons (pv 17) (pa_cons (pv 3) (pa_cons (pv 6) pa_nil)))) pe_int (fun _ _ => rfl)) pe_non (nomark _)))) (fun _ _ _ _ _ => (pv 6)))
      (pss_one (ps_if (pt_cmpR (op_neDK (K := K) rfl hr.units) (C8.pe_c (ok_fewest_moves T) hr (by decide) (by rfl) (pa_cons (C8.pe_c (ok_law_drawer T) hr (by decide) (by rfl) (pa_cons (pv 17) pa_nil)) (pa_cons (pv 3) (pa_cons pe_int pa_nil)))) (pe_ifExp (pt_cmpR (op_eqDK (K := K) rfl hr.units) (pv 18) (pe_lst pa_nil) (nomark _)) (pe_lst pa_nil) pe_non) (nomark _)) (pss_one (ps_ret pe_bl)) pss_nil))))
      (pss_one (ps_ret pe_bl))))))))))))))), ?_⟩
    -- the row
    refine ⟨_, rfl, szl rfl, fun R hR => ?_⟩
    have rw0 : RowS K (upd H R (.lst [.ref S, .int 0, .int 0, .int 0])) R S zs := by
      refine ⟨⟨0, 0, 0, upd_same, by decide, by decide⟩, ?_⟩
      rcases hS with (hS | ⟨o, hS⟩) | hS
      · exact .inl ⟨ne_of_none hS hR, .inl (.inl ((Sm.new hR) _ _ hS))⟩
      · exact .inl ⟨ne_of_none hS hR, .inl (.inr ⟨o, (Sm.new hR) _ _ hS⟩)⟩
      · exact .inr fun H' => .inr hS
    have eTb := (Sm.new (o := .lst [.ref S, .int 0, .int 0, .int 0]) hR) _ _ hTb
    have volR : ∀ {H' : Hp}, RowS K H' R S zs → ∃ o, H' R = some o ∧ Vol o := fun r => let ⟨_, e⟩ := r.lst; ⟨_, e, .lst _⟩
    have nin : ∀ {X : Addr}, X ≠ R → X ∉ [R] := fun n m => n (List.mem_singleton.mp m)
    have nR : ∀ {H' : Hp}, RowS K H' R S zs → ∀ X, H' X = none → X ≠ R := fun r X hX => by
      obtain ⟨_, e⟩ := r.lst
      exact (ne_of_none e hX).symm
    have nTb : Tb ≠ R := nR rw0 Tb |> fun _ => ne_of_none hTb hR
    -- the cards, the rule
    refine ⟨_, rfl, R, S, zs, rfl, rw0, fun l cs H2 b2 r2 hl hs ok c10 => ?_⟩
    have nlR : l ≠ R := nR rw0 l hl
    have eTb2 := b2 _ _ eTb (nin nTb)
    refine ⟨_, rfl, szl rfl, fun N0 hN0 => ⟨R, S, zs, N0, rulesS, rfl, r2.same (Sm.new hN0), SqL.of upd_same, nR r2 N0 hN0, by decide, by decide, fun x H3 b3 r3 hx => ?_⟩⟩
    obtain ⟨r, rfl⟩ := rules_in hx
    have r2' := r2.same (Sm.new (o := .lst (rulesS.map V.str)) hN0)
    have hs3 := (hs.same (Sm.new (o := .lst (rulesS.map V.str)) hN0)).but nlR b3 (volR r2')
    have eTb3 := b3 _ _ ((Sm.new (o := .lst (rulesS.map V.str)) hN0) _ _ eTb2) (nin nTb)
    refine ⟨szl rfl, fun t1 ht1 => ⟨t1, _, rfl, SqT.of upd_same, rfl, _, _, rfl, _, _, rfl, rfl, ?_⟩⟩
    have sA := Sm.new (H := H3) (o := .tup [.ref l, .str r.str]) ht1
    -- the drawer, the names
    refine ⟨_, rfl, l, cs, rfl, hs3.same sA, ok, fun d H4 s4 hd => ⟨_, rfl, l, cs, rfl, (hs3.same sA).same s4, ok, fun nm H5 s5 hnm0 enm => ⟨_, _, rfl, ?_⟩⟩⟩
    have s35 := (sA.trans s4).trans s5
    have hs5 := hs3.same s35
    have hd5 := hd.same s5
    have r5 := r3.same s35
    have eTb5 := s35 _ _ eTb3
    have nnm : nm ≠ R := nR (r3.same (sA.trans s4)) nm hnm0
    have ol := ok.len
    have kne := known_ne ok c10
    have kl : (known cs).length ≤ 11 := sS_len _
    -- landings
    refine ⟨_, rfl, _, rfl, d, cs, r, rfl, hd5, ok, fun pl kvs H6 s6 e6 ek => ⟨pl, kvs, rfl, .inl e6, fun ll hll => ⟨_, rfl, ?_⟩⟩⟩
    have ekv : (kvs.map fun kv => kV kv.1) = (known cs).map V.str := by
      have : (kvs.map fun kv => kV kv.1) = (kvs.map Prod.fst).map kV := by rw [List.map_map]; rfl
      rw [this, ek, List.map_map]; rfl
    rw [ekv]
    have s7 := s6.new' (o := .lst ((known cs).map V.str)) hll
    refine neD_of (eList eStr) (u := known cs) (v := known cs) (by decide) (dp_strsL (SqL.of upd_same)) (dp_strsL (SqL.of (s7 _ _ enm))) (fun x hx => uS_ok (known_u x hx)) (fun x hx => uS_ok (known_u x hx)) ⟨_, rfl, ifF (nF rfl) ?_⟩
    -- rings
    refine ⟨_, rfl, _, rfl, d, cs, r, rfl, hd5.same s7, ok, fun p8 xs8 H8 s8 e8 hx8 => ⟨_, rfl, _, rfl, l, cs, r, rfl, hs5.same (s7.trans s8), ok, fun p9 xs9 H9 s9 e9 hx9 => ?_⟩⟩
    refine neD_of (eList (eTup eInt)) (u := rings (wsOf cs r)) (v := rings (wsOf cs r)) (by decide) (dp_tups (SqL.of (s9 _ _ e8)) (hx8.same s9)) (dp_tups (SqL.of e9) hx9) (fun _ _ _ _ => trivial) (fun _ _ _ _ => trivial) ⟨_, rfl, ifF (nF rfl) ?_⟩
    have s59 := (s7.trans s8).trans s9
    have hs9 := hs5.same s59
    have hd9 := hd5.same s59
    have r9 := r5.same s59
    have enm9 := s59 _ _ enm
    have eTb9 := s59 _ _ eTb5
    -- gatherings
    refine ⟨_, rfl, _, rfl, R, S, zs, nm, known cs, rfl, r9, SqL.of enm9, by omega, known_u, fun ms p H10 b10 r10 pm hp ep => ⟨3, rfl, p, ms.map V.str, rfl, SqL.of ep, fun qs hqs => ?_⟩⟩
    rw [show (3 : Int) = ((3 : Nat) : Int) from rfl, cut_take, ← List.map_take]
    have msu : ∀ x ∈ ms.take 3, x ∈ uS := fun x hx => known_u x (pm.mem_iff.mp (List.mem_of_mem_take hx))
    generalize ms.take 3 = q3 at msu ⊢
    have bQ := b10.new (o := .lst (q3.map V.str)) hqs
    have rQ := r10.same (Sm.new (o := .lst (q3.map V.str)) hqs)
    have nqs : qs ≠ R := nR r10 qs hqs
    refine ⟨qs, rfl, ⟨_, SqL.of upd_same⟩, ?_⟩
    have hsQ := (hs9.but nlR b10 (volR r9)).same (Sm.new (o := .lst (q3.map V.str)) hqs)
    have hdQ := (hd9.sd (SmD.but b10 fun a ha => by rw [List.mem_singleton.mp ha]; exact volR r9)).same (Sm.new (o := .lst (q3.map V.str)) hqs)
    have enmQ := (Sm.new (o := .lst (q3.map V.str)) hqs) _ _ (b10 _ _ enm9 (nin nnm))
    have eTbQ := (Sm.new (o := .lst (q3.map V.str)) hqs) _ _ (b10 _ _ eTb9 (nin nTb))
    have eqsQ : upd H10 qs (.lst (q3.map V.str)) qs = some (.lst (q3.map V.str)) := upd_same
    generalize upd H10 qs (.lst (q3.map V.str)) = HQ at bQ rQ hsQ hdQ enmQ eTbQ eqsQ ⊢
    have keep : ∀ {H' : Hp}, But [R] HQ H' → SomeAt K H' l cs ∧ DrawAt K CD CC H' d cs ∧ H' nm = some (.lst ((known cs).map V.str)) ∧ H' Tb = some (.tbl #[]) ∧ H' qs = some (.lst (q3.map V.str)) := fun b =>
      ⟨hsQ.but nlR b (volR rQ), hdQ.sd (SmD.but b fun a ha => by rw [List.mem_singleton.mp ha]; exact volR rQ), b _ _ enmQ (nin nnm), b _ _ eTbQ (nin nTb), b _ _ eqsQ (nin nqs)⟩
    refine for_it (walk_list (xs := q3.map V.str)) (fun i σ' H' => (∃ o6 o7 o8 o9 o10 o11 o12 o13 o14 o15 o16 o17 o18, σ' = [some (.ref S), some (.ref R), some (.ref l), some (.str r.str), some (.ref d), some (.ref nm), o6, o7, o8, o9, o10, o11, o12, o13, o14, o15, o16, o17, o18]) ∧ But [R] HQ H' ∧ RowS K H' R S zs)
      ⟨⟨_, _, _, _, _, _, _, _, _, _, _, _, _, rfl⟩, But.of (Sm.refl _), rQ⟩ (fun _ _ _ _ hh => SqL.of (keep hh.2.1).2.2.2.2) (fun i v σ1 H11 H12 hi ⟨⟨o6, o7, o8, o9, o10, o11, o12, o13, o14, o15, o16, o17, o18, e0⟩, b11, r11⟩ hy => ?_) (fun σ1 H11 ⟨⟨o6, o7, o8, o9, o10, o11, o12, o13, o14, o15, o16, o17, o18, e0⟩, b11, r11⟩ => ?_)
    · subst e0
      obtain ⟨rfl, ev⟩ := hy
      rw [List.getElem?_map] at ev
      obtain ⟨h, eh, rfl⟩ := Option.map_eq_some_iff.mp ev
      have hu := msu h (List.mem_of_getElem? eh)
      refine ⟨szl rfl, fun tk htk => ⟨tk, rfl, ⟨_, SqT.of upd_same⟩, ?_⟩⟩
      have ntk := nR r11 tk htk
      have b12 := b11.new (o := .tup [.str "broad", .str "deep", .str "straight"]) htk
      have r12 := r11.same (Sm.new (o := .tup [.str "broad", .str "deep", .str "straight"]) htk)
      have etk : upd H12 tk (.tup [.str "broad", .str "deep", .str "straight"]) tk = some (.tup [.str "broad", .str "deep", .str "straight"]) := upd_same
      refine for_it (walk_tup (xs := [.str "broad", .str "deep", .str "straight"])) (fun i σ' H' => (∃ o7 o8 o9 o10 o11 o12 o13 o14 o15 o16 o17 o18, σ' = [some (.ref S), some (.ref R), some (.ref l), some (.str r.str), some (.ref d), some (.ref nm), some (.str h), o7, o8, o9, o10, o11, o12, o13, o14, o15, o16, o17, o18]) ∧ But [R] HQ H' ∧ RowS K H' R S zs ∧ H' tk = some (.tup [.str "broad", .str "deep", .str "straight"]))
        ⟨⟨_, _, _, _, _, _, _, _, _, _, _, _, rfl⟩, b12, r12, etk⟩ (fun _ _ _ _ hh => SqT.of hh.2.2.2) (fun j v σ1 H13 H14 hj ⟨⟨o7, o8, o9, o10, o11, o12, o13, o14, o15, o16, o17, o18, e0⟩, b13, r13, e13⟩ hy => ?_) (fun σ1 H13 ⟨⟨o7, o8, o9, o10, o11, o12, o13, o14, o15, o16, o17, o18, e0⟩, b13, r13, e13⟩ => by subst e0; exact ⟨⟨_, _, _, _, _, _, _, _, _, _, _, _, _, rfl⟩, b13, r13⟩)
      subst e0
      obtain ⟨rfl, ev2⟩ := hy
      obtain ⟨wy, rfl⟩ : ∃ wy : Wy, v = .str wy.str := by
        have hm := List.mem_of_getElem? ev2
        simp only [List.mem_cons, List.not_mem_nil, or_false] at hm
        rcases hm with rfl | rfl | rfl
        · exact ⟨.broad, rfl⟩
        · exact ⟨.deep, rfl⟩
        · exact ⟨.straight, rfl⟩
      refine ⟨_, rfl, R, S, zs, 15, rfl, r13, by decide, by decide, fun v0 H15 b15 r15 hv0 => ⟨_, _, rfl, rfl, szl rfl, fun tp htp => ⟨tp, rfl, ⟨_, SqT.of upd_same⟩, ?_⟩⟩⟩
      have b16 := (b13.trans b15).new (o := .tup [.int 99, .int (1 + (v0 : Nat))]) htp
      have r16 := r15.same (Sm.new (o := .tup [.int 99, .int (1 + (v0 : Nat))]) htp)
      have ntp := nR r15 tp htp
      have etp : upd H15 tp (.tup [.int 99, .int (1 + (v0 : Nat))]) tp = some (.tup [.int 99, .int (1 + (v0 : Nat))]) := upd_same
      have etk16 := (Sm.new (o := .tup [.int 99, .int (1 + (v0 : Nat))]) htp) _ _ (b15 _ _ e13 (nin ntk))
      refine for_it (walk_tup (xs := [.int 99, .int (1 + (v0 : Nat))])) (fun i σ' H' => (∃ o8 o9 o10 o11 o12 o13 o14 o15 o16 o17 o18, σ' = [some (.ref S), some (.ref R), some (.ref l), some (.str r.str), some (.ref d), some (.ref nm), some (.str h), some (.str wy.str), o8, o9, o10, o11, o12, o13, o14, o15, o16, o17, o18]) ∧ But [R] HQ H' ∧ RowS K H' R S zs ∧ H' tk = some (.tup [.str "broad", .str "deep", .str "straight"]) ∧ H' tp = some (.tup [.int 99, .int (1 + (v0 : Nat))]))
        ⟨⟨_, _, _, _, _, _, _, _, _, _, _, rfl⟩, b16, r16, etk16, etp⟩ (fun _ _ _ _ hh => SqT.of hh.2.2.2.2) (fun j v σ1 H17 H18 hj ⟨⟨o8, o9, o10, o11, o12, o13, o14, o15, o16, o17, o18, e0⟩, b17, r17, e17, e17'⟩ hy => ?_) (fun σ1 H17 ⟨⟨o8, o9, o10, o11, o12, o13, o14, o15, o16, o17, o18, e0⟩, b17, r17, e17, e17'⟩ => by subst e0; exact ⟨⟨_, _, _, _, _, _, _, _, _, _, _, _, rfl⟩, b17, r17, e17⟩)
      subst e0
      obtain ⟨rfl, ev3⟩ := hy
      obtain ⟨pat, rfl, hp1, hp2⟩ : ∃ pat : Nat, v = .int pat ∧ 1 ≤ pat ∧ pat ≤ 99 := by
        have hm := List.mem_of_getElem? ev3
        simp only [List.mem_cons, List.not_mem_nil, or_false] at hm
        rcases hm with rfl | rfl
        · exact ⟨99, rfl, by decide, by decide⟩
        · exact ⟨1 + v0, congrArg V.int (by omega), by omega, by omega⟩
      obtain ⟨hs18, hd18, _, _, _⟩ := keep b17
      refine ⟨_, rfl, _, rfl, _, rfl, _, rfl, _, rfl, l, cs, h, r, wy, pat, rfl, hs18, ok, hu, fun pg M Vi kvs H19 s19 epg eM ekk eV => ⟨pg, _, rfl, SqT.of epg, rfl, _, _, rfl, _, _, rfl, _, _, rfl, rfl, ?_⟩⟩
      refine ⟨_, rfl, _, rfl, _, rfl, _, rfl, _, rfl, d, cs, h, r, wy, pat, rfl, hd18.same s19, ok, hu, ⟨hp1, hp2⟩, fun pp tt vv H20 s20 epp ett evv => ?_⟩
      obtain ⟨go, _⟩ := gath_ok (r := r) (w := wy) (pat := pat) ok hu
      have mel := go.metLen ok
      refine ⟨_, rfl, M, kvs, _, rfl, .inl (s20 _ _ eM), ekk, by omega, fun ys ps pm so hps => ?_⟩
      rw [sorted_sI pm so go.metN fun k hk => by have := go.metIn ok k hk; omega]
      refine .inl ⟨ps, _, rfl, SqL.of upd_same, fun ts hts => ⟨_, rfl, .inl ⟨Vi, _, rfl, SqL.of ((Sm.new hts) _ _ ((Sm.new hps) _ _ (s20 _ _ eV))), fun tv htv => ⟨_, rfl, szl rfl, fun tr htr => ?_⟩⟩⟩⟩
      have sF := (((Sm.new (H := H20) (o := .lst ((sI (gath cs r wy h pat).met).map V.int)) hps).new' (o := .tup ((sI (gath cs r wy h pat).met).map V.int)) hts).new' (o := .tup ((gath cs r wy h pat).vis.map vN)) htv).new' (o := .tup [.ref ts, .ref tv, .int (gath cs r wy h pat).dn.length]) htr
      have ets := (Sm.new (o := .tup [.ref ts, .ref tv, .int (gath cs r wy h pat).dn.length]) htr) _ _ ((Sm.new (o := .tup ((gath cs r wy h pat).vis.map vN)) htv) _ _ (upd_same : upd (upd H20 ps (.lst ((sI (gath cs r wy h pat).met).map V.int))) ts (.tup ((sI (gath cs r wy h pat).met).map V.int)) ts = _))
      have etv := (Sm.new (o := .tup [.ref ts, .ref tv, .int (gath cs r wy h pat).dn.length]) htr) _ _ (upd_same : upd (upd (upd H20 ps (.lst ((sI (gath cs r wy h pat).met).map V.int))) ts (.tup ((sI (gath cs r wy h pat).met).map V.int))) tv (.tup ((gath cs r wy h pat).vis.map vN)) tv = _)
      have evv2 := sF _ _ evv
      refine neD_same (d := gD (gath cs r wy h pat)) (.tup (SqT.of (sF _ _ epp)) (.cons (dp_intsT (SqT.of (sF _ _ ett))) (.cons (dp_natsT (SqT.of evv2)) (.cons (.int _) .nil)))) (.tup (SqT.of upd_same) (.cons (dp_intsT (SqT.of ets)) (.cons (dp_natsT (SqT.of etv)) (.cons (.int _) .nil)))) (gD_ok _) ⟨_, rfl, ifF rfl ?_⟩
      have sAll := (s19.trans s20).trans sF
      exact ⟨⟨_, _, _, _, _, _, _, _, _, _, _, rfl⟩, b17.trans (But.of sAll), r17.same sAll, sAll _ _ e17, sAll _ _ e17'⟩
    · subst e0
      obtain ⟨hs11, hd11, enm11, eTb11, _⟩ := keep b11
      -- hidden
      refine ⟨_, rfl, _, rfl, R, S, zs, nm, known cs, rfl, r11, SqL.of enm11, by omega, known_u, fun ms p H12 b12 r12 pm hp ep => ⟨3, rfl, p, ms.map V.str, rfl, SqL.of ep, fun qs2 hqs2 => ?_⟩⟩
      rw [show (3 : Int) = ((3 : Nat) : Int) from rfl, cut_take, ← List.map_take]
      have msl : ms.length = (known cs).length := pm.length_eq
      obtain ⟨n0, nrest, en3⟩ : ∃ n0 nrest, ms.take 3 = n0 :: nrest := by
        cases e : ms with
        | nil => rw [e] at msl; exact absurd (List.length_eq_zero_iff.mp msl.symm) kne
        | cons a b => exact ⟨a, b.take 2, rfl⟩
      have msu : ∀ x ∈ ms.take 3, x ∈ uS := fun x hx => known_u x (pm.mem_iff.mp (List.mem_of_mem_take hx))
      have ms3 : (ms.take 3).length ≤ 3 := by rw [List.length_take]; omega
      generalize ms.take 3 = n3 at msu ms3 en3 ⊢
      refine .inl ⟨qs2, n3.map V.str, rfl, SqL.of upd_same, fun th hth => ⟨szl rfl, fun T0 hT0 => ⟨_, _, rfl, ?_⟩⟩⟩
      obtain ⟨hs12, hd12, _, eTb12, _⟩ := keep (b11.trans b12)
      have s13 := ((Sm.new (H := H12) (o := .lst (n3.map V.str)) hqs2).new' (o := .tup (n3.map V.str)) hth).new' (o := .lst []) hT0
      have eth13 := (Sm.new (o := .lst []) hT0) _ _ (upd_same : upd (upd H12 qs2 (.lst (n3.map V.str))) th (.tup (n3.map V.str)) th = _)
      have hs13 := hs12.same s13
      have hd13 := hd12.same s13
      have eTb13 := s13 _ _ eTb12
      have eT013 : upd (upd (upd H12 qs2 (.lst (n3.map V.str))) th (.tup (n3.map V.str))) T0 (.lst []) T0 = some (.lst []) := upd_same
      clear s13
      generalize upd (upd (upd H12 qs2 (.lst (n3.map V.str))) th (.tup (n3.map V.str))) T0 (.lst []) = H13 at eth13 hs13 hd13 eTb13 eT013 ⊢
      obtain ⟨xs13, hl13, hx13⟩ := hs13.ex
      refine ⟨_, rfl, l, rfl, ⟨_, hl13⟩, ?_⟩
      refine for_it (walk_list (xs := xs13)) (fun i σ' H' => ∃ T1, (∃ o6 o7 o8 o9 o10 o11 o14 o15 o16 o17 o18, σ' = [some (.ref S), some (.ref R), some (.ref l), some (.str r.str), some (.ref d), some (.ref nm), o6, o7, o8, o9, o10, o11, some (.ref th), some (.ref T1), o14, o15, o16, o17, o18]) ∧ Sm H13 H' ∧ H' T1 = some (.lst ((allB (cs.take i)).map V.int)))
        ⟨T0, ⟨_, _, _, _, _, _, _, _, _, _, _, rfl⟩, Sm.refl _, eT013⟩ (fun _ _ _ _ ⟨_, _, s, _⟩ => s.seq hl13) (fun i v σ1 H14 H15 hi ⟨T1, ⟨o6, o7, o8, o9, o10, o11, o14, o15, o16, o17, o18, e0⟩, s14, e14⟩ hy => ?_) (fun σ1 H14 ⟨T1, ⟨o6, o7, o8, o9, o10, o11, o14, o15, o16, o17, o18, e0⟩, s14, e14⟩ => ?_)
      · subst e0
        obtain ⟨rfl, ev⟩ := hy
        obtain ⟨c, hc, f', rfl, b, al, hf, hb, hal⟩ := hx13.at' ev
        have al1 := allB_len (ok.take i)
        have bl := (ok.at hc).bkL
        refine ⟨_, rfl, _, rfl, f', _, _, _, rfl, rfl, s14.tup hf, rfl, b, c.bk.map V.int, rfl, .inr (s14.tup hb), fun B hB => ⟨T1, B, _, _, rfl, rfl, (Sm.new hB) _ _ e14, upd_same, sizeOf' (by simp only [List.length_map]; omega), fun C hC => ⟨C, ⟨_, _, _, _, _, _, _, _, _, _, _, rfl⟩, (s14.new' hB).new' hC, ?_⟩⟩⟩
        rw [upd_same, take_snoc hc, allB_snoc, List.map_append]
      · subst e0
        have xl : xs13.length = cs.length := hx13.1
        rw [xl, List.take_length] at e14
        have hs14 := hs13.same s14
        have hd14 := hd13.same s14
        have eth14 := s14 _ _ eth13
        have al64 := allB_len ok
        refine ⟨_, rfl, th, rfl, ⟨_, SqT.of eth14⟩, ?_⟩
        refine for_it (walk_tup (xs := n3.map V.str)) (fun i σ' H' => ∃ T1, (∃ o6 o7 o8 o9 o10 o11 o14 o15 o16 o17 o18, σ' = [some (.ref S), some (.ref R), some (.ref l), some (.str r.str), some (.ref d), some (.ref nm), o6, o7, o8, o9, o10, o11, some (.ref th), some (.ref T1), o14, o15, o16, o17, o18]) ∧ Sm H14 H' ∧ H' T1 = some (.lst (((allB cs).filter fun b => notIn cs r (n3.take i) b).map V.int)))
          ⟨T1, ⟨_, _, _, _, _, _, _, _, _, _, _, rfl⟩, Sm.refl _, ?_⟩ (fun _ _ _ _ ⟨_, _, s, _⟩ => SqT.of (s _ _ eth14)) (fun i v σ1 H15 H16 hi ⟨T2, ⟨o6, o7, o8, o9, o10, o11, o14, o15, o16, o17, o18, e0⟩, s15, e15⟩ hy => ?_) (fun σ1 H15 ⟨T2, ⟨o6, o7, o8, o9, o10, o11, o14, o15, o16, o17, o18, e0⟩, s15, e15⟩ => ?_)
        · rw [e14, List.filter_eq_self.mpr]
          intro a _
          rfl
        · subst e0
          obtain ⟨rfl, ev⟩ := hy
          rw [List.getElem?_map] at ev
          obtain ⟨h, eh, rfl⟩ := Option.map_eq_some_iff.mp ev
          have hu := msu h (List.mem_of_getElem? eh)
          have step := hid_step cs r n3 eh
          have fl : ((allB cs).filter fun b => notIn cs r (n3.take i) b).length ≤ 64 := Nat.le_trans (List.length_filter_le _ _) al64
          rw [step]
          generalize (allB cs).filter (fun b => notIn cs r (n3.take i) b) = L1 at e15 fl ⊢
          refine ⟨_, rfl, _, rfl, _, rfl, l, cs, h, r, rfl, hs14.same s15, ok, hu, fun m H17 s17 em => ?_⟩
          have e17 := s17 _ _ e15
          refine ⟨_, rfl, T2, rfl, ⟨_, SqL.of e17⟩, fun D hD => lc_it (walk_list (xs := L1.map V.int)) (fun j H' => Sm H17 H' ∧ H' D = some (.lst (((L1.take j).filter fun b => !decide (b ∈ reach cs r h)).map V.int))) ⟨Sm.new hD, upd_same⟩ (fun j H' _ ⟨s18, _⟩ => SqL.of (s18 _ _ e17))
            (fun j v H18 H19 hj ⟨s18, e18⟩ hy => ?_) (fun H18 ⟨s18, e18⟩ => ?_)⟩
          · obtain ⟨rfl, ev⟩ := hy
            rw [List.getElem?_map] at ev
            obtain ⟨k, ek, rfl⟩ := Option.map_eq_some_iff.mp ev
            have fl2 : ((L1.take j).filter fun b => !decide (b ∈ reach cs r h)).length ≤ 64 := Nat.le_trans (List.length_filter_le _ _) (by rw [List.length_take]; omega)
            refine ⟨rfl, _, rfl, _, rfl, rd_ninI (.inr (SqT.of (s18 _ _ em))) ⟨_, rfl, ?_⟩⟩
            by_cases mm : k ∈ reach cs r h
            · refine ifF (nF mm) ⟨s18, ?_⟩
              rw [take_snoc ek, filter_f (f := fun b => !decide (b ∈ reach cs r h)) (nF mm)]; exact e18
            · refine ifT (nT mm) ⟨_, rfl, _, e18, sizeLt (by rw [List.length_map]; omega), s18.wr hD, ?_⟩
              rw [upd_same, take_snoc ek, filter_t (f := fun b => !decide (b ∈ reach cs r h)) (nT mm), List.map_append]; rfl
          · rw [List.length_map, List.take_length] at e18
            exact ⟨D, ⟨_, _, _, _, _, _, _, _, _, _, _, rfl⟩, (s15.trans s17).trans s18, e18⟩
        · subst e0
          rw [List.length_map, List.take_length] at e15
          have fl : ((allB cs).filter fun b => notIn cs r (n3) b).length ≤ 64 := Nat.le_trans (List.length_filter_le _ _) al64
          have hs15 := hs14.same s15
          have hd15 := hd14.same s15
          have eth15 := s15 _ _ eth14
          refine ⟨_, rfl, _, rfl, _, rfl, d, cs, th, n3, r, rfl, hd15, ok, SqT.of eth15, ms3, msu, fun hp H16 s16 ehp => ⟨_, rfl, T2, _, rfl, .inl (SqL.of (s16 _ _ e15)), by omega, fun k hk => allB_bd ok k (List.mem_filter.mp hk).1, fun sp H17 s17 _ esp => ?_⟩⟩
          rw [← hid_eq cs r n3 ok] at esp
          refine neD_of (eList eInt) (u := hid cs r n3) (v := hid cs r n3) (by decide) (dp_intsL (SqL.of (s17 _ _ ehp))) (dp_intsL (SqL.of esp)) (fun _ _ => trivial) (fun _ _ => trivial) ⟨_, rfl, ifF (nF rfl) ?_⟩
          have s57 := s16.trans s17
          have hs17 := hs15.same s57
          have hd17 := hd15.same s57
          have eth17 := s57 _ _ eth15
          have eTb17 := s57 _ _ (s15 _ _ (s14 _ _ eTb13))
          -- losses
          refine ⟨_, rfl, _, rfl, _, rfl, _, rfl, th, _, _, _, rfl, rfl, SqT.of eth17, atI_nat (j := 0) (v := .str n0) (by rw [en3]; rfl), l, d, cs, n0, r, rfl, hs17, hd17, ok, by omega, msu n0 (by rw [en3]; exact List.mem_cons_self), fun H18 s18 => ⟨_, rfl, ifF rfl ?_⟩⟩
          -- sorted by the heading
          obtain ⟨xs18, hl18, hx18⟩ := (hs17.same s18).ex
          refine ⟨_, rfl, l, xs18, cs, rfl, hl18, hx18, fun p hp => ?_, fun bs Ln H19 pm2 hE hLn => ?_⟩
          · rw [List.mem_singleton.mp hp]
            exact LamX.TabS.nil (s18 _ _ eTb17)
          have hx19 : SomeL K H19 xs18 cs := hx18.mono fun _ _ ⟨f, q, z⟩ => ⟨f, q, z.extN hE⟩
          obtain ⟨hpL, hpm⟩ := some_perm hx19 pm2
          have x18l : xs18.length = cs.length := hx18.1
          have bsl : bs.length = cs.length := by rw [pm2.length_eq, List.length_zip]; omega
          have y2l : (bs.map Prod.fst).length = cs.length := by rw [List.length_map]; exact bsl
          have hs20 : SomeAt K (upd H19 Ln (.lst (bs.map Prod.fst))) l cs := SomeAt.same ⟨xs18, seq_extN hE hl18, hx19⟩ (Sm.new hLn)
          have hp20 := hpL.same (Sm.new (o := .lst (bs.map Prod.fst)) hLn)
          have eL20 : upd H19 Ln (.lst (bs.map Prod.fst)) Ln = some (.lst (bs.map Prod.fst)) := upd_same
          generalize upd H19 Ln (.lst (bs.map Prod.fst)) = H20 at hs20 hp20 eL20 ⊢
          generalize bs.map Prod.fst = ys2 at y2l hp20 eL20 ⊢
          generalize bs.map Prod.snd = cs2 at hpm hp20
          have okOf : ∀ cs' : List CardD, (∀ c ∈ cs', c ∈ cs) → cs'.length ≤ 16 → Ok cs' := fun cs' h1 h2 => ⟨fun c hc => ok.all c (h1 c hc), h2⟩
          obtain ⟨ca1, ha1, hb1⟩ := some_cut hp20 none (some (-2))
          obtain ⟨ca2, ha2, hb2⟩ := some_cut hp20 (some (-1)) none
          obtain ⟨ca3, ha3, hb3⟩ := some_cut hp20 (some (-2)) (some (-1))
          obtain ⟨ca4, ha4, hb4⟩ := some_cut hp20 none (some (-3))
          obtain ⟨ca5, ha5, hb5⟩ := some_cut hp20 (some (-3)) (some (-1))
          have l1 : (cutV ys2 none (some (-2))).length ≤ ys2.length - 2 := cut_len1 (xs := ys2) (k := 2) (by decide) (by omega)
          have l2 : (cutV ys2 (some (-1)) none).length ≤ 1 := cut_len2 (xs := ys2) (k := 1) (by decide) (by omega)
          have l3 : (cutV ys2 (some (-2)) (some (-1))).length ≤ 1 := cut_len3 (xs := ys2) (j := 1) (k := 2) (by decide) (by decide) (by omega)
          have l4 : (cutV ys2 none (some (-3))).length ≤ ys2.length - 3 := cut_len1 (xs := ys2) (k := 3) (by decide) (by omega)
          have l5 : (cutV ys2 (some (-3)) (some (-1))).length ≤ 2 := cut_len3 (xs := ys2) (j := 1) (k := 3) (by decide) (by decide) (by omega)
          refine ⟨_, rfl, _, rfl, 2, rfl, -2, rfl, Ln, _, rfl, SqL.of eL20, fun p1 hp1 => ?_⟩
          have s1 := Sm.new (H := H20) (o := .lst (cutV ys2 none (some (-2)))) hp1
          refine ⟨_, rfl, 1, rfl, -1, rfl, Ln, _, rfl, SqL.of (s1 _ _ eL20), fun p2 hp2 => ?_⟩
          have s2 := s1.new' (o := .lst (cutV ys2 (some (-1)) none)) hp2
          refine ⟨p1, p2, _, _, rfl, rfl, (Sm.new hp2) _ _ upd_same, upd_same, sizeOf' (by omega), fun p3 hp3 => ?_⟩
          have s3 := s2.new' (o := .lst (cutV ys2 none (some (-2)) ++ cutV ys2 (some (-1)) none)) hp3
          refine ⟨_, rfl, 2, rfl, -2, rfl, 1, rfl, -1, rfl, Ln, _, rfl, SqL.of (s3 _ _ eL20), fun p4 hp4 => ?_⟩
          have s4 := s3.new' (o := .lst (cutV ys2 (some (-2)) (some (-1)))) hp4
          refine ⟨p3, p4, _, _, rfl, rfl, (Sm.new hp4) _ _ upd_same, upd_same, sizeOf' (by rw [List.length_append]; omega), fun pA hpA => ?_⟩
          have s5 := s4.new' (o := .lst (cutV ys2 none (some (-2)) ++ cutV ys2 (some (-1)) none ++ cutV ys2 (some (-2)) (some (-1)))) hpA
          have eA := (upd_same : upd (upd (upd (upd (upd H20 p1 (.lst (cutV ys2 none (some (-2))))) p2 (.lst (cutV ys2 (some (-1)) none))) p3 (.lst (cutV ys2 none (some (-2)) ++ cutV ys2 (some (-1)) none))) p4 (.lst (cutV ys2 (some (-2)) (some (-1))))) pA (.lst (cutV ys2 none (some (-2)) ++ cutV ys2 (some (-1)) none ++ cutV ys2 (some (-2)) (some (-1)))) pA = _)
          generalize upd (upd (upd (upd (upd H20 p1 (.lst (cutV ys2 none (some (-2))))) p2 (.lst (cutV ys2 (some (-1)) none))) p3 (.lst (cutV ys2 none (some (-2)) ++ cutV ys2 (some (-1)) none))) p4 (.lst (cutV ys2 (some (-2)) (some (-1))))) pA (.lst (cutV ys2 none (some (-2)) ++ cutV ys2 (some (-1)) none ++ cutV ys2 (some (-2)) (some (-1)))) = H21 at s5 eA ⊢
          refine ⟨_, rfl, 3, rfl, -3, rfl, Ln, _, rfl, SqL.of (s5 _ _ eL20), fun q1 hq1 => ?_⟩
          have t1 := Sm.new (H := H21) (o := .lst (cutV ys2 none (some (-3)))) hq1
          refine ⟨_, rfl, 1, rfl, -1, rfl, Ln, _, rfl, SqL.of (t1 _ _ (s5 _ _ eL20)), fun q2 hq2 => ?_⟩
          have t2 := t1.new' (o := .lst (cutV ys2 (some (-1)) none)) hq2
          refine ⟨q1, q2, _, _, rfl, rfl, (Sm.new hq2) _ _ upd_same, upd_same, sizeOf' (by omega), fun q3' hq3 => ?_⟩
          have t3 := t2.new' (o := .lst (cutV ys2 none (some (-3)) ++ cutV ys2 (some (-1)) none)) hq3
          refine ⟨_, rfl, 3, rfl, -3, rfl, 1, rfl, -1, rfl, Ln, _, rfl, SqL.of (t3 _ _ (s5 _ _ eL20)), fun q4 hq4 => ?_⟩
          have t4 := t3.new' (o := .lst (cutV ys2 (some (-3)) (some (-1)))) hq4
          refine ⟨q3', q4, _, _, rfl, rfl, (Sm.new hq4) _ _ upd_same, upd_same, sizeOf' (by rw [List.length_append]; omega), fun pB hpB => ?_⟩
          have t5 := t4.new' (o := .lst (cutV ys2 none (some (-3)) ++ cutV ys2 (some (-1)) none ++ cutV ys2 (some (-3)) (some (-1)))) hpB
          have eB := (upd_same : upd (upd (upd (upd (upd H21 q1 (.lst (cutV ys2 none (some (-3))))) q2 (.lst (cutV ys2 (some (-1)) none))) q3' (.lst (cutV ys2 none (some (-3)) ++ cutV ys2 (some (-1)) none))) q4 (.lst (cutV ys2 (some (-3)) (some (-1))))) pB (.lst (cutV ys2 none (some (-3)) ++ cutV ys2 (some (-1)) none ++ cutV ys2 (some (-3)) (some (-1)))) pB = _)
          generalize upd (upd (upd (upd (upd H21 q1 (.lst (cutV ys2 none (some (-3))))) q2 (.lst (cutV ys2 (some (-1)) none))) q3' (.lst (cutV ys2 none (some (-3)) ++ cutV ys2 (some (-1)) none))) q4 (.lst (cutV ys2 (some (-3)) (some (-1))))) pB (.lst (cutV ys2 none (some (-3)) ++ cutV ys2 (some (-1)) none ++ cutV ys2 (some (-3)) (some (-1)))) = H22 at t5 eB ⊢
          have s25 := s5.trans t5
          have items : ∀ x ∈ [V.ref l, V.ref pA, V.ref pB], ∃ a cs', x = V.ref a ∧ SomeAt K H22 a cs' ∧ Ok cs' := fun x hx => by
            simp only [List.mem_cons, List.not_mem_nil, or_false] at hx
            rcases hx with rfl | rfl | rfl
            · exact ⟨l, cs, rfl, hs20.same s25, ok⟩
            · have h1 := Each.app (Each.app ha1 ha2) ha3
              refine ⟨pA, (ca1 ++ ca2) ++ ca3, rfl, ⟨_, SqL.of (t5 _ _ eA), (show SomeL K H20 _ _ from h1).same s25⟩, okOf _ (fun c hc => ?_) ?_⟩
              · rcases List.mem_append.mp hc with hc | hc
                · rcases List.mem_append.mp hc with hc | hc
                  · exact hpm c (hb1 c hc)
                  · exact hpm c (hb2 c hc)
                · exact hpm c (hb3 c hc)
              · have := h1.1
                rw [List.length_append, List.length_append] at this
                omega
            · have h1 := Each.app (Each.app ha4 ha2) ha5
              refine ⟨pB, (ca4 ++ ca2) ++ ca5, rfl, ⟨_, SqL.of eB, (show SomeL K H20 _ _ from h1).same s25⟩, okOf _ (fun c hc => ?_) ?_⟩
              · rcases List.mem_append.mp hc with hc | hc
                · rcases List.mem_append.mp hc with hc | hc
                  · exact hpm c (hb4 c hc)
                  · exact hpm c (hb2 c hc)
                · exact hpm c (hb5 c hc)
              · have := h1.1
                rw [List.length_append, List.length_append] at this
                omega
          refine ⟨szl rfl, fun tc htc => ⟨tc, rfl, ⟨_, SqT.of upd_same⟩, ?_⟩⟩
          have sC := Sm.new (H := H22) (o := .tup [.ref l, .ref pA, .ref pB]) htc
          have etc : upd H22 tc (.tup [.ref l, .ref pA, .ref pB]) tc = some (.tup [.ref l, .ref pA, .ref pB]) := upd_same
          refine for_it (walk_tup (xs := [.ref l, .ref pA, .ref pB])) (fun i σ' H' => (∃ o6 o7 o8 o9 o10 o11 o12 o13 o14 o15 o16 o17 o18, σ' = [some (.ref S), some (.ref R), some (.ref l), some (.str r.str), some (.ref d), some (.ref nm), o6, o7, o8, o9, o10, o11, o12, o13, o14, o15, o16, o17, o18]) ∧ Sm H22 H' ∧ H' tc = some (.tup [.ref l, .ref pA, .ref pB]))
            ⟨⟨_, _, _, _, _, _, _, _, _, _, _, _, _, rfl⟩, sC, etc⟩ (fun _ _ _ _ hh => SqT.of hh.2.2) (fun i v σ1 H23 H24 hi ⟨⟨o6, o7, o8, o9, o10, o11, o12, o13, o14, o15, o16, o17, o18, e0⟩, s23, e23⟩ hy => ?_) (fun σ1 H23 _ => q H23)
          subst e0
          obtain ⟨rfl, ev⟩ := hy
          obtain ⟨a, cs', rfl, hsa, oka⟩ := items v (List.mem_of_getElem? ev)
          have hsa24 := hsa.same s23
          refine ⟨_, rfl, a, cs', rfl, hsa24, oka, fun ph H25 s25 eph => ⟨ph, rfl, ⟨_, SqL.of eph⟩, fun D hD => lc_it (walk_list (xs := (sS (cs'.map (·.h))).map V.str)) (fun j H' => Sm H25 H' ∧ H' D = some (.lst ((((sS (cs'.map (·.h))).take j).filter fun h => !(look cs' r h).isSome).map V.str))) ⟨Sm.new hD, upd_same⟩ (fun j H' _ ⟨s26, _⟩ => SqL.of (s26 _ _ eph))
            (fun j v H26 H27 hj ⟨s26, e26⟩ hy => ?_) (fun H26 ⟨s26, e26⟩ => ?_)⟩⟩
          · obtain ⟨rfl, ev2⟩ := hy
            rw [List.getElem?_map] at ev2
            obtain ⟨h, eh, rfl⟩ := Option.map_eq_some_iff.mp ev2
            have fl : (((sS (cs'.map (·.h))).take j).filter fun h => !(look cs' r h).isSome).length ≤ 11 := Nat.le_trans (List.length_filter_le _ _) (by have := sS_len (cs'.map (·.h)); rw [List.length_take]; omega)
            refine ⟨rfl, _, rfl, _, rfl, _, rfl, a, cs', h, r, rfl, hsa24.same (s25.trans s26), oka, fun pp lk ls H28 s28 epp _ _ => ⟨pp, _, _, _, rfl, rfl, epp, rfl, rfl, _, rfl, ?_⟩⟩
            have en : decide (optV (look cs' r h) = V.non) = !(look cs' r h).isSome := by
              rw [← isN_opt]; simp
            have e28 := s28 _ _ e26
            by_cases lk' : (look cs' r h).isSome = true
            · refine ifF (by rw [en, lk']; rfl) ⟨s26.trans s28, ?_⟩
              rw [take_snoc eh, filter_f (f := fun h => !(look cs' r h).isSome) (by rw [lk']; rfl)]; exact e28
            · have lk2 : (look cs' r h).isSome = false := by simpa using lk'
              refine ifT (by rw [en, lk2]; rfl) ⟨_, rfl, _, e28, sizeLt (by rw [List.length_map]; omega), (s26.trans s28).wr hD, ?_⟩
              rw [upd_same, take_snoc eh, filter_t (f := fun h => !(look cs' r h).isSome) (by rw [lk2]; rfl), List.map_append]; rfl
          · rw [List.length_map, List.take_length] at e26
            have hu' : ∀ x ∈ (sS (cs'.map (·.h))).filter (fun h => !(look cs' r h).isSome), x ∈ uS := fun x hx => (sS_in (List.mem_filter.mp hx).1).1
            have fi := found_iff (cs := cs') (r := r)
            generalize (sS (cs'.map (·.h))).filter (fun h => !(look cs' r h).isSome) = ms2 at e26 hu' fi
            have s246 := s25.trans s26
            refine ⟨_, rfl, a, cs', rfl, hsa24.same s246, oka, fun d' H27 s27 hd' => ?_⟩
            refine ⟨_, rfl, d', cs', r, rfl, hd', oka, fun hf pe H28 s28 epe => ?_, fun hf H28 s28 => ?_⟩
            · have e28 := s28 _ _ (s27 _ _ e26)
              refine ⟨_, rfl, szl rfl, fun z hz => eqD_of (eList eStr) (u := ms2) (v := []) (by decide) (dp_strsL (SqL.of ((Sm.new hz) _ _ e28))) (dp_nilL eStr upd_same) (fun x hx => uS_ok (hu' x hx)) (fun _ hx => (nomatch hx)) ⟨_, rfl, ifT (dT (fi.1 hf)) ⟨szl rfl, fun z2 hz2 => ?_⟩⟩⟩
              have sZ := (Sm.new (H := H28) (o := .lst []) hz).new' (o := .lst []) hz2
              have sZ2 := ((s246.trans s27).trans s28).trans sZ
              exact neD_same (d := .list []) (.lst (SqL.of (sZ _ _ epe)) .nil) (.lst (SqL.of upd_same) .nil) (by decide +kernel) ⟨_, rfl, ifF rfl ⟨⟨_, _, _, _, _, _, _, _, _, _, _, _, _, rfl⟩, s23.trans sZ2, sZ2 _ _ e23⟩⟩
            · have e28 := s28 _ _ (s27 _ _ e26)
              have nf : ¬ ms2 = [] := fun z => by have := fi.2 z; rw [hf] at this; cases this
              refine ⟨_, rfl, szl rfl, fun z hz => eqD_of (eList eStr) (u := ms2) (v := []) (by decide) (dp_strsL (SqL.of ((Sm.new hz) _ _ e28))) (dp_nilL eStr upd_same) (fun x hx => uS_ok (hu' x hx)) (fun _ hx => (nomatch hx)) ⟨_, rfl, ifF (dF nf) ?_⟩⟩
              have sZ2 := ((s246.trans s27).trans s28).trans (Sm.new (H := H28) (o := .lst []) hz)
              unfold tC
              refine neD_same (d := .none) .non .non (by decide +kernel) ?_
              exact ⟨_, rfl, ifF rfl ⟨⟨_, _, _, _, _, _, _, _, _, _, _, _, _, rfl⟩, s23.trans sZ2, sZ2 _ _ e23⟩⟩
end
end Se
namespace SeHd
open PySem PySem.Spec PyProof.Rows L2 Se
theorem pr_at {K : PySem.W.Frag} (c : (prs.map fun p => fnWA K (getr K p)) = prs.map PrD.val) (h : exP ex prs K = true) (i : Nat) {p : PrD} (hp : prs[i]? = some p) : ∃ fd, FunD K p.name p.qual p.params p.body p.scope [] [] (getr K p) fd ∧ PySem.W.findIn K (.ref (He.ga K p.cls)) p.name = some (some (.ref (pad K p))) ∧
    PySem.W.specialIn K (.ref (pad K p)) "__get__" = some (some (.builtin "property.__get__")) ∧ PySem.W.takesIn K (.ref (pad K p)) = some true ∧ ∃ rest, PySem.W.recIn K (pad K p) "property" = some (.ref (getr K p) :: rest) := by
  have h2 := (He.ba h).2
  have e := congrArg (fun l => l[i]?) c
  simp only [List.getElem?_map, hp, Option.map_some] at e
  exact prD_ok (Option.some.inj e) (List.all_eq_true.mp h2 p (List.mem_of_getElem? hp))
theorem tx_of {K : PySem.W.Frag} {h : Heap} {mg : Str → Option Value} (X : K.In h) (G : h.Ns mainGlobals mg) (D : He.SaysD fa fn K) (hx : exP ex prs K = true) (c2 : (prs.map fun p => fnWA K (getr K p)) = prs.map PrD.val) :
    Tx K mg (He.ga K "Card") (He.ga K "Drawer") (He.ga K "Walk") (He.ga K "Gathering") (He.ga K "RULES") (He.ga K "WAYS") := by
  have e1 := (He.ba hx).1
  obtain ⟨x1, e2⟩ := He.ba e1
  obtain ⟨x2, e3⟩ := He.ba e2
  obtain ⟨x3, e4⟩ := He.ba e3
  obtain ⟨x4, e5⟩ := He.ba e4
  obtain ⟨x5, x6⟩ := He.ba e5
  have glo : ∀ {x : Str}, (He.Fa.glo x).ok K = true → mg x = some (.ref (He.ga K x)) := fun c => He.glo_ok X G c
  have dfn : ∀ {x : Str} {d : He.DefD} {st : Stmt}, (∃ fd, FunD K d.name d.qual d.params d.body d.scope (d.dvs K) (d.kws K) (He.fAd K d.at_) fd) → d = ⟨(x, none), x, x, defArgs st, defBody st, defScope st, [], []⟩ → (He.Fa.glo x).ok K = true → Dfn K mg x st := fun {x d st} ⟨fd, F⟩ e c => by
    subst e
    exact ⟨_, fd, F, glo c⟩
  have mfn : ∀ {C m q : Str} {d : He.DefD} {st : Stmt}, (∃ fd, FunD K d.name d.qual d.params d.body d.scope (d.dvs K) (d.kws K) (He.fAd K d.at_) fd) → d = ⟨(C, some m), m, q, defArgs st, defBody st, defScope st, [], []⟩ → (He.Fa.meth C m).ok K = true → Mfn K (He.ga K C) m q st := fun {C m q d st} ⟨fd, F⟩ e c => by
    subst e
    exact ⟨_, fd, F, He.meth_ok c⟩
  have ifn : ∀ {C q : Str} {d : He.DefD} {st : Stmt}, (∃ fd, FunD K d.name d.qual d.params d.body d.scope (d.dvs K) (d.kws K) (He.fAd K d.at_) fd) → d = ⟨(C, some "__init__"), "__init__", q, defArgs st, defBody st, defScope st, [], []⟩ → (He.Fa.mkr C).ok K = true → (He.Fa.glo C).ok K = true → Ifn K mg C q (He.ga K C) st := fun {C q d st} ⟨fd, F⟩ e c cg => by
    subst e
    exact ⟨_, fd, F, He.mkr_ok c, glo cg⟩
  have pfn : ∀ {C m q : Str} {p : PrD} {st : Stmt} (i : Nat), prs[i]? = some p → p = ⟨C, m, q, defArgs st, defBody st, defScope st⟩ → Pfn K (He.ga K C) m q st := fun {C m q p st} i hp e => by
    subst e
    obtain ⟨fd, F, a1, a2, a3, a4⟩ := pr_at c2 hx i hp
    exact ⟨_, _, fd, F, a1, a2, a3, a4⟩
  have cint : ∀ {x : Str} {i : Int}, (He.Fa.int x i).ok K = true → Cst mg x (.int i) := fun c => let ⟨t, e⟩ := He.int_ok X G c; ⟨_, e, t, rfl⟩
  have cstr : ∀ {x z : Str}, (He.Fa.str x z).ok K = true → Cst mg x (.str z) := fun c => let ⟨t, e⟩ := He.str_ok X G c; ⟨_, e, t, rfl⟩
  exact {
    b_isinstance := He.free_ok X G (D.fact 52 (f := .free "isinstance") rfl)
    b_int := He.free_ok X G (D.fact 53 (f := .free "int") rfl)
    b_bool := He.free_ok X G (D.fact 54 (f := .free "bool") rfl)
    b_str := He.free_ok X G (D.fact 55 (f := .free "str") rfl)
    b_len := He.free_ok X G (D.fact 56 (f := .free "len") rfl)
    b_all := He.free_ok X G (D.fact 57 (f := .free "all") rfl)
    b_zip := He.free_ok X G (D.fact 58 (f := .free "zip") rfl)
    b_set := He.free_ok X G (D.fact 59 (f := .free "set") rfl)
    b_sorted := He.free_ok X G (D.fact 60 (f := .free "sorted") rfl)
    b_tuple := He.free_ok X G (D.fact 61 (f := .free "tuple") rfl)
    b_list := He.free_ok X G (D.fact 62 (f := .free "list") rfl)
    b_enumerate := He.free_ok X G (D.fact 63 (f := .free "enumerate") rfl)
    b_range := He.free_ok X G (D.fact 64 (f := .free "range") rfl)
    b_min := He.free_ok X G (D.fact 65 (f := .free "min") rfl)
    c_LETTERS := cstr (D.fact 75 (f := .str "LETTERS" "abcdefghijklmnopqrstuvwxyz") rfl)
    c_MAX_LETTERS := cint (D.fact 66 (f := .int "MAX_LETTERS" 8) rfl)
    c_MAX_BOOKS := cint (D.fact 67 (f := .int "MAX_BOOKS" 6) rfl)
    c_MAX_BOOK := cint (D.fact 68 (f := .int "MAX_BOOK" 999) rfl)
    c_MAX_ALSO := cint (D.fact 69 (f := .int "MAX_ALSO" 4) rfl)
    c_MAX_CARDS := cint (D.fact 70 (f := .int "MAX_CARDS" 16) rfl)
    c_ALL := cstr (D.fact 76 (f := .str "ALL" "all") rfl)
    c_HALF := cstr (D.fact 77 (f := .str "HALF" "half") rfl)
    c_LEAF := cstr (D.fact 78 (f := .str "LEAF" "leaf") rfl)
    c_RULES := ⟨_, glo (D.fact 50 (f := .glo "RULES") rfl), rfl⟩
    c_MAX_MOVES := cint (D.fact 71 (f := .int "MAX_MOVES" 2) rfl)
    c_ENTRY := cstr (D.fact 79 (f := .str "ENTRY" "entry") rfl)
    c_LOST := cstr (D.fact 80 (f := .str "LOST" "lost") rfl)
    c_RING := cstr (D.fact 81 (f := .str "RING" "ring") rfl)
    c_BROAD := cstr (D.fact 82 (f := .str "BROAD" "broad") rfl)
    c_DEEP := cstr (D.fact 83 (f := .str "DEEP" "deep") rfl)
    c_STRAIGHT := cstr (D.fact 84 (f := .str "STRAIGHT" "straight") rfl)
    c_WAYS := ⟨_, glo (D.fact 51 (f := .glo "WAYS") rfl), rfl⟩
    c_MAX_PATIENCE := cint (D.fact 72 (f := .int "MAX_PATIENCE" 99) rfl)
    c_MAX_LOST_losing := cint (D.fact 73 (f := .int "MAX_LOST_losing" 2) rfl)
    c_MAX_LOST_traces := cint (D.fact 74 (f := .int "MAX_LOST_traces" 3) rfl)
    tR := fun H => He.tupB_ok x5 H
    tW := fun H => He.tupB_ok x6 H
    kC := sclsB_ok x1
    kD := sclsB_ok x2
    kW := He.cls_ok (D.fact 85 (f := .cls "Walk") rfl)
    kG := He.cls_ok (D.fact 86 (f := .cls "Gathering") rfl)
    fC := ⟨_, slotB_ok x3⟩
    fD := ⟨_, slotB_ok x4⟩
    nW_word := He.noat_ok (D.fact 87 (f := .noat "Walk" "word") rfl)
    nW_steps := He.noat_ok (D.fact 88 (f := .noat "Walk" "steps") rfl)
    nW_sought := He.noat_ok (D.fact 89 (f := .noat "Walk" "sought") rfl)
    nW_effort := He.noat_ok (D.fact 90 (f := .noat "Walk" "effort") rfl)
    nG_drawer := He.noat_ok (D.fact 91 (f := .noat "Gathering" "drawer") rfl)
    nG_rule := He.noat_ok (D.fact 92 (f := .noat "Gathering" "rule") rfl)
    nG_way := He.noat_ok (D.fact 93 (f := .noat "Gathering" "way") rfl)
    nG_agenda := He.noat_ok (D.fact 94 (f := .noat "Gathering" "agenda") rfl)
    nG_walked := He.noat_ok (D.fact 95 (f := .noat "Gathering" "walked") rfl)
    nG_visited := He.noat_ok (D.fact 96 (f := .noat "Gathering" "visited") rfl)
    nG_gathered := He.noat_ok (D.fact 97 (f := .noat "Gathering" "gathered") rfl)
    d_is_number := dfn (D.def_ 0 (d := fd_is_number) rfl) rfl (D.fact 0 (f := .glo "is_number") rfl)
    d_is_word := dfn (D.def_ 1 (d := fd_is_word) rfl) rfl (D.fact 1 (f := .glo "is_word") rfl)
    d_check_heading := dfn (D.def_ 2 (d := fd_check_heading) rfl) rfl (D.fact 2 (f := .glo "check_heading") rfl)
    d_check_number := dfn (D.def_ 3 (d := fd_check_number) rfl) rfl (D.fact 3 (f := .glo "check_number") rfl)
    d_are_books := dfn (D.def_ 4 (d := fd_are_books) rfl) rfl (D.fact 4 (f := .glo "are_books") rfl)
    d_are_others := dfn (D.def_ 5 (d := fd_are_others) rfl) rfl (D.fact 5 (f := .glo "are_others") rfl)
    d_all_books := dfn (D.def_ 6 (d := fd_all_books) rfl) rfl (D.fact 6 (f := .glo "all_books") rfl)
    d_known_headings := dfn (D.def_ 7 (d := fd_known_headings) rfl) rfl (D.fact 7 (f := .glo "known_headings") rfl)
    d_check_rule := dfn (D.def_ 8 (d := fd_check_rule) rfl) rfl (D.fact 8 (f := .glo "check_rule") rfl)
    d_by_halves := dfn (D.def_ 9 (d := fd_by_halves) rfl) rfl (D.fact 9 (f := .glo "by_halves") rfl)
    d_one_by_one := dfn (D.def_ 10 (d := fd_one_by_one) rfl) rfl (D.fact 10 (f := .glo "one_by_one") rfl)
    d_looked_up := dfn (D.def_ 11 (d := fd_looked_up) rfl) rfl (D.fact 11 (f := .glo "looked_up") rfl)
    d_choices := dfn (D.def_ 12 (d := fd_choices) rfl) rfl (D.fact 12 (f := .glo "choices") rfl)
    d_is_all_found := dfn (D.def_ 13 (d := fd_is_all_found) rfl) rfl (D.fact 13 (f := .glo "is_all_found") rfl)
    d_fewest_moves := dfn (D.def_ 14 (d := fd_fewest_moves) rfl) rfl (D.fact 14 (f := .glo "fewest_moves") rfl)
    d_landings := dfn (D.def_ 15 (d := fd_landings) rfl) rfl (D.fact 15 (f := .glo "landings") rfl)
    d_check_way := dfn (D.def_ 16 (d := fd_check_way) rfl) rfl (D.fact 16 (f := .glo "check_way") rfl)
    d_gather := dfn (D.def_ 17 (d := fd_gather) rfl) rfl (D.fact 17 (f := .glo "gather") rfl)
    d_reached := dfn (D.def_ 18 (d := fd_reached) rfl) rfl (D.fact 18 (f := .glo "reached") rfl)
    d_reached_together := dfn (D.def_ 19 (d := fd_reached_together) rfl) rfl (D.fact 19 (f := .glo "reached_together") rfl)
    d_hidden := dfn (D.def_ 20 (d := fd_hidden) rfl) rfl (D.fact 20 (f := .glo "hidden") rfl)
    d_led_to := dfn (D.def_ 21 (d := fd_led_to) rfl) rfl (D.fact 21 (f := .glo "led_to") rfl)
    d_all_ahead := dfn (D.def_ 22 (d := fd_all_ahead) rfl) rfl (D.fact 22 (f := .glo "all_ahead") rfl)
    d_also_rings := dfn (D.def_ 23 (d := fd_also_rings) rfl) rfl (D.fact 23 (f := .glo "also_rings") rfl)
    d_safe_books := dfn (D.def_ 24 (d := fd_safe_books) rfl) rfl (D.fact 24 (f := .glo "safe_books") rfl)
    d_check_log := dfn (D.def_ 25 (d := fd_check_log) rfl) rfl (D.fact 25 (f := .glo "check_log") rfl)
    d_check_all := dfn (D.def_ 26 (d := fd_check_all) rfl) rfl (D.fact 26 (f := .glo "check_all") rfl)
    d_losses := dfn (D.def_ 27 (d := fd_losses) rfl) rfl (D.fact 27 (f := .glo "losses") rfl)
    d_possible_losses := dfn (D.def_ 28 (d := fd_possible_losses) rfl) rfl (D.fact 28 (f := .glo "possible_losses") rfl)
    d_law_taken := dfn (D.def_ 29 (d := fd_law_taken) rfl) rfl (D.fact 29 (f := .glo "_law_taken") rfl)
    d_law_pick := dfn (D.def_ 30 (d := fd_law_pick) rfl) rfl (D.fact 30 (f := .glo "_law_pick") rfl)
    d_law_mixed := dfn (D.def_ 31 (d := fd_law_mixed) rfl) rfl (D.fact 31 (f := .glo "_law_mixed") rfl)
    d_law_drawer := dfn (D.def_ 32 (d := fd_law_drawer) rfl) rfl (D.fact 32 (f := .glo "_law_drawer") rfl)
    d_law_looked := dfn (D.def_ 33 (d := fd_law_looked) rfl) rfl (D.fact 33 (f := .glo "_law_looked") rfl)
    d_law_walked := dfn (D.def_ 34 (d := fd_law_walked) rfl) rfl (D.fact 34 (f := .glo "_law_walked") rfl)
    d_law_landing := dfn (D.def_ 35 (d := fd_law_landing) rfl) rfl (D.fact 35 (f := .glo "_law_landing") rfl)
    d_law_known := dfn (D.def_ 36 (d := fd_law_known) rfl) rfl (D.fact 36 (f := .glo "_law_known") rfl)
    d_law_headings := dfn (D.def_ 37 (d := fd_law_headings) rfl) rfl (D.fact 37 (f := .glo "_law_headings") rfl)
    d_law_gathered := dfn (D.def_ 38 (d := fd_law_gathered) rfl) rfl (D.fact 38 (f := .glo "_law_gathered") rfl)
    d_law_reach := dfn (D.def_ 39 (d := fd_law_reach) rfl) rfl (D.fact 39 (f := .glo "_law_reach") rfl)
    d_law_less := dfn (D.def_ 40 (d := fd_law_less) rfl) rfl (D.fact 40 (f := .glo "_law_less") rfl)
    d_law_wide := dfn (D.def_ 41 (d := fd_law_wide) rfl) rfl (D.fact 41 (f := .glo "_law_wide") rfl)
    d_law_leads := dfn (D.def_ 42 (d := fd_law_leads) rfl) rfl (D.fact 42 (f := .glo "_law_leads") rfl)
    d_law_rings := dfn (D.def_ 43 (d := fd_law_rings) rfl) rfl (D.fact 43 (f := .glo "_law_rings") rfl)
    d_law_losses_are := dfn (D.def_ 44 (d := fd_law_losses_are) rfl) rfl (D.fact 44 (f := .glo "_law_losses_are") rfl)
    p_Card_heading := pfn (p := pr_Card_heading) 0 rfl rfl
    p_Card_books := pfn (p := pr_Card_books) 1 rfl rfl
    p_Card_see := pfn (p := pr_Card_see) 2 rfl rfl
    p_Card_also := pfn (p := pr_Card_also) 3 rfl rfl
    p_Card_leads := pfn (p := pr_Card_leads) 4 rfl rfl
    p_Drawer_cards := pfn (p := pr_Drawer_cards) 5 rfl rfl
    p_Drawer_headings := pfn (p := pr_Drawer_headings) 6 rfl rfl
    m_Drawer_check_place := mfn (D.def_ 46 (d := fd_Drawer_check_place) rfl) rfl (D.fact 98 (f := .meth "Drawer" "check_place") rfl)
    m_Drawer_without := mfn (D.def_ 47 (d := fd_Drawer_without) rfl) rfl (D.fact 99 (f := .meth "Drawer" "without") rfl)
    m_Walk_go_on := mfn (D.def_ 48 (d := fd_Walk_go_on) rfl) rfl (D.fact 100 (f := .meth "Walk" "go_on") rfl)
    m_Walk_landing := mfn (D.def_ 49 (d := fd_Walk_landing) rfl) rfl (D.fact 101 (f := .meth "Walk" "landing") rfl)
    m_Gathering_go_on := mfn (D.def_ 50 (d := fd_Gathering_go_on) rfl) rfl (D.fact 102 (f := .meth "Gathering" "go_on") rfl)
    m_Gathering_visit := mfn (D.def_ 51 (d := fd_Gathering_visit) rfl) rfl (D.fact 103 (f := .meth "Gathering" "visit") rfl)
    i_Drawer := ifn (D.def_ 52 (d := fd_Drawer_init) rfl) rfl (D.fact 105 (f := .mkr "Drawer") rfl) (D.fact 47 (f := .glo "Drawer") rfl)
    i_Walk := ifn (D.def_ 53 (d := fd_Walk_init) rfl) rfl (D.fact 106 (f := .mkr "Walk") rfl) (D.fact 48 (f := .glo "Walk") rfl)
    i_Gathering := ifn (D.def_ 54 (d := fd_Gathering_init) rfl) rfl (D.fact 107 (f := .mkr "Gathering") rfl) (D.fact 49 (f := .glo "Gathering") rfl)
    i_Card := let ⟨fd, F⟩ := D.def_ 55 (d := fd_Card_init) rfl; ⟨_, fd, _, _, F, He.mkr_ok (D.fact 104 (f := .mkr "Card") rfl), glo (D.fact 46 (f := .glo "Card") rfl)⟩ }
theorem at_law (w : World) (mg : Str → Option Value) (fa' : Addr) (h : Heap) (Y : hk.says w h) (G : h.Ns mainGlobals mg) (hm : mg ("law" : Str) = some (.ref fa')) :
    ∃ K : PySem.W.Frag, K.In h ∧ LamX.LawAtS PySem.Challenge.rw_seerings_k75_whole_wide_drawers w K CX0 15 63 "_law_script" mg fa' h := by
  obtain ⟨K, X, c, c2⟩ := Y
  have D : He.SaysD fa fn K := c.t.d
  have T := tx_of X G D c.more c2
  have e := hm.symm.trans (He.glo_ok X G (D.fact 45 (f := .glo "law") rfl))
  cases e
  obtain ⟨fd, F⟩ := D.def_ 45 (d := fd_law_top) rfl
  have bA := FunD.bindsA (ps := ["_law_script"]) F fun _ _ _ _ _ _ us hl => match us, hl with | [_], _ => rfl
  have cd0 := F.ex
  obtain ⟨oc, od, dV, kV, doc, pm, an, cdv, ct, osl, rfl, lk, hcd, _, _⟩ := cd0
  obtain ⟨cc, rfl⟩ := He.codeIn_ref hcd
  have ec : He.codeOf K ("law", none) = cc := He.codeOf_eq (p := ("law", none)) lk rfl
  have m0 : (("law", none) : He.Defn) ∈ tf := List.mem_singleton.mpr rfl
  have one : ∀ p, p ∈ [He.cT K ("law", none)] → p = He.cT K ("law", none) := fun p hp => List.mem_singleton.mp hp
  refine ⟨K, X, _, [He.cT K ("law", none)], sp_lawE K (He.cT K ("law", none)).2, fun p hp => ?_, fun p hp => ?_, fun p hp => ?_, fun s u => bA s [u] rfl, fun H a ns hl _ hT hS => ?_, fun base hb hg hTB => ?_⟩
  · rw [one p hp]; exact c.empty _ m0
  · rw [one p hp]; exact c.out _ m0
  · rw [one p hp]; exact PySem.W.codeHd_of_K X (c.hd _ m0)
  · exact ⟨a, ns, rfl, hS, hT _ (List.mem_singleton.mpr rfl), fun _ => rfl⟩
  · have TB := hTB _ (List.mem_singleton.mpr rfl)
    have e1 : (He.cT K ("law", none)).1 = cc := ec
    rw [e1] at TB
    refine fn_of lk hcd sc_law (fun vs H Q E h => ?_) fun A outer s H vs Q E hr hsp => ?_
    · obtain ⟨S, zs, rfl, _⟩ := h; rfl
    · obtain ⟨t, h1, h2⟩ := body_law T TB _ A outer s H vs Q E hr hsp
      exact ⟨t, h1.nox, h2⟩
end SeHd
open PySem PySem.W PySem.Calls PyProof.Rows
theorem PySem.Challenge.cw_seerings_k75_whole_wide_drawers_holds : PySem.Challenge.rw_seerings_k75_whole_wide_drawers.Holds := by
  w_on; o_law
  refine HandSHeadRun.head_any (r := OpenLaw.row PySem.Challenge.rw_seerings_k75_whole_wide_drawers) (q := view (OpenLaw.row PySem.Challenge.rw_seerings_k75_whole_wide_drawers).prog [89]) (H := SeHd.hk) (ob := SeHd.ob) (M := 20000) (loose := SeHd.names) (d := HandSHeadRun.topDef (OpenLaw.row PySem.Challenge.rw_seerings_k75_whole_wide_drawers).prog 89) (kwd := []) SeHd.ob_eq
    (by kernel_rfl) (fun s => by kernel_rfl) SeHd.run (by kernel_rfl) (by kernel_rfl) (by kernel_rfl) (by rfl) (by first | assumption | decide +kernel) (by decide +kernel) ⟨rfl, rfl, rfl, rfl, rfl, by decide +kernel⟩ ?hw ?hc
  case hw => w_witness2
  case hc =>
    refine LamX.walk_ofTsE (l := PySem.Challenge.rw_seerings_k75_whole_wide_drawers) (n := 63) (k := 15) (x := "_law_script") (CX := fun _ => L2.CX0) rfl (by decide) (by kernel_rfl) ⟨rfl, by decide, by decide⟩ ?F (fun _ _ _ _ _ z => z)
    intro w mg fa h Y G hmg0
    have hmg : mg ("law" : PySem.Str) = some (.ref fa) := by
      have e : (HandSHeadRun.topDef (OpenLaw.row PySem.Challenge.rw_seerings_k75_whole_wide_drawers).prog 89).name = ("law" : PySem.Str) := by kernel_rfl
      rw [← e]
      exact hmg0
    exact SeHd.at_law w mg fa h Y G hmg
