import PyProof.Rows.All
import Wide.All
import OpenK.AllK
import Wide.FinOn
import KE.SortData
import HandS.Base
import HandS.Call
import HandS.List
import HandS.Ends
import HandS.Words
import HandS.WordsList
import HandS.TupAny
import HandS.Deep
import HandS.Comp
import HandS.Dict
import HandS.Iter
import HandS.Walk
import HandS.More
import HandS.Conv
import PySem.Challenge.RW_sixtellings_k23_whole_words_turned_about
set_option Elab.async false
set_option linter.all false
set_option maxRecDepth 100000
set_option maxHeartbeats 4000000
/-! The plain law: no program in sight. Words of letters (Int), rules, steps, chains; the same turned about. -/
namespace Six
set_option autoImplicit false
abbrev Wd := List Int
abbrev Rl := Wd × Wd
abbrev Stp := Nat × Nat
abbrev Chn := List Stp
def rl (R : List Rl) (i : Nat) : Rl := R.getD i ([], [])
def stands (l w : Wd) (p : Nat) : Bool := decide ((w.drop p).take l.length = l)
def rowS (R : List Rl) (w : Wd) (i : Nat) : List Stp := ((List.range w.length).filter (stands (rl R i).1 w)).map fun p => (i, p)
def stepsF (R : List Rl) (w : Wd) : List Stp := (List.range R.length).flatMap (rowS R w)
def putF (R : List Rl) (w : Wd) (s : Stp) : Wd := w.take s.2 ++ (rl R s.1).2 ++ w.drop (s.2 + (rl R s.1).1.length)
def atEnd (E : List Int) (w : Wd) : Bool := w.all fun l => E.any fun e => e == l
def chainsF (R : List Rl) (E : List Int) : Nat → Wd → List Chn
  | 0, w => if atEnd E w = true then [[]] else []
  | n + 1, w => (stepsF R w).flatMap fun s => (chainsF R E n (putF R w s)).map fun c => s :: c
def wordsF (R : List Rl) : Wd → Chn → List Wd
  | w, [] => [w]
  | w, s :: c => w :: wordsF R (putF R w s) c
def Valid (R : List Rl) : Wd → Chn → Prop
  | _, [] => True
  | w, s :: c => s ∈ stepsF R w ∧ Valid R (putF R w s) c
/-! ### the orders -/
def slt (s t : Stp) : Prop := s.1 < t.1 ∨ (s.1 = t.1 ∧ s.2 < t.2)
def clt : Chn → Chn → Prop
  | [], [] => False
  | [], _ :: _ => True
  | _ :: _, [] => False
  | s :: c, t :: d => slt s t ∨ (s = t ∧ clt c d)
theorem slt_irrefl (s : Stp) : ¬ slt s s := by unfold slt; omega
theorem slt_trans {a b c : Stp} (h : slt a b) (k : slt b c) : slt a c := by unfold slt at *; omega
theorem slt_tri (s t : Stp) : slt s t ∨ s = t ∨ slt t s := by
  obtain ⟨a, b⟩ := s
  obtain ⟨c, d⟩ := t
  unfold slt
  by_cases h : a = c
  · subst h
    by_cases k : b = d
    · subst k; exact .inr (.inl rfl)
    · rcases Nat.lt_or_gt_of_ne k with k | k
      · exact .inl (.inr ⟨rfl, k⟩)
      · exact .inr (.inr (.inr ⟨rfl, k⟩))
  · rcases Nat.lt_or_gt_of_ne h with k | k
    · exact .inl (.inl k)
    · exact .inr (.inr (.inl k))
theorem clt_irrefl : ∀ c : Chn, ¬ clt c c
  | [] => fun h => h
  | s :: c => fun h => h.elim (slt_irrefl s) fun q => clt_irrefl c q.2
theorem clt_trans : ∀ {a b c : Chn}, clt a b → clt b c → clt a c
  | [], [], _, h, _ => h.elim
  | [], _ :: _, [], _, k => k.elim
  | [], _ :: _, _ :: _, _, _ => trivial
  | _ :: _, [], _, h, _ => h.elim
  | _ :: _, _ :: _, [], _, k => k.elim
  | x :: a, y :: b, z :: c, h, k => by
    rcases h with h | ⟨rfl, h⟩
    · rcases k with k | ⟨rfl, k⟩
      · exact .inl (slt_trans h k)
      · exact .inl h
    · rcases k with k | ⟨rfl, k⟩
      · exact .inl k
      · exact .inr ⟨rfl, clt_trans h k⟩
theorem clt_tri : ∀ c d : Chn, clt c d ∨ c = d ∨ clt d c
  | [], [] => .inr (.inl rfl)
  | [], _ :: _ => .inl trivial
  | _ :: _, [] => .inr (.inr trivial)
  | s :: c, t :: d => by
    rcases slt_tri s t with h | rfl | h
    · exact .inl (.inl h)
    · rcases clt_tri c d with h | rfl | h
      · exact .inl (.inr ⟨rfl, h⟩)
      · exact .inr (.inl rfl)
      · exact .inr (.inr (.inr ⟨rfl, h⟩))
    · exact .inr (.inr (.inl h))
/-! ### steps -/
theorem mem_rowS {R : List Rl} {w : Wd} {i : Nat} {s : Stp} : s ∈ rowS R w i ↔ s.1 = i ∧ s.2 < w.length ∧ stands (rl R i).1 w s.2 = true := by
  unfold rowS
  rw [List.mem_map]
  constructor
  · rintro ⟨p, h, rfl⟩
    have := List.mem_filter.mp h
    exact ⟨rfl, List.mem_range.mp this.1, this.2⟩
  · rintro ⟨h1, h2, h3⟩
    refine ⟨s.2, List.mem_filter.mpr ⟨List.mem_range.mpr h2, h3⟩, ?_⟩
    obtain ⟨a, b⟩ := s
    simp only at h1
    rw [h1]
theorem mem_steps {R : List Rl} {w : Wd} {s : Stp} : s ∈ stepsF R w ↔ s.1 < R.length ∧ s.2 < w.length ∧ stands (rl R s.1).1 w s.2 = true := by
  unfold stepsF
  rw [List.mem_flatMap]
  constructor
  · rintro ⟨i, h, k⟩
    obtain ⟨rfl, h2, h3⟩ := mem_rowS.mp k
    exact ⟨List.mem_range.mp h, h2, h3⟩
  · rintro ⟨h1, h2, h3⟩
    exact ⟨s.1, List.mem_range.mpr h1, mem_rowS.mpr ⟨rfl, h2, h3⟩⟩
theorem rowS_sorted (R : List Rl) (w : Wd) (i : Nat) : (rowS R w i).Pairwise slt := by
  unfold rowS
  rw [List.pairwise_map]
  refine (List.Pairwise.filter _ List.pairwise_lt_range).imp fun {a b} h => ?_
  exact .inr ⟨rfl, h⟩
theorem steps_sorted (R : List Rl) (w : Wd) : (stepsF R w).Pairwise slt := by
  unfold stepsF
  rw [List.pairwise_flatMap]
  refine ⟨fun i _ => rowS_sorted R w i, List.pairwise_lt_range.imp fun {i j} h x hx y hy => ?_⟩
  have h1 := (mem_rowS.mp hx).1
  have h2 := (mem_rowS.mp hy).1
  exact .inl (by omega)
theorem steps_nodup (R : List Rl) (w : Wd) : (stepsF R w).Nodup := by
  unfold List.Nodup
  refine (steps_sorted R w).imp fun {a b} h => ?_
  intro e
  rw [← e] at h
  exact slt_irrefl a h
theorem stands_iff {l w : Wd} {p : Nat} (hl : 0 < l.length) : stands l w p = true ↔ ∃ a b, w = a ++ l ++ b ∧ a.length = p := by
  unfold stands
  rw [decide_eq_true_iff]
  constructor
  · intro h
    refine ⟨w.take p, (w.drop p).drop l.length, ?_, ?_⟩
    · have e := List.take_append_drop l.length (w.drop p)
      rw [h] at e
      rw [List.append_assoc, e, List.take_append_drop]
    · have := congrArg List.length h
      rw [List.length_take, List.length_drop] at this
      rw [List.length_take]
      omega
  · rintro ⟨a, b, rfl, rfl⟩
    rw [List.append_assoc, List.drop_left, List.take_left]
theorem put_of {R : List Rl} {i : Nat} {a b : Wd} : putF R (a ++ (rl R i).1 ++ b) (i, a.length) = a ++ (rl R i).2 ++ b := by
  unfold putF
  simp only
  have e : a.length + (rl R i).1.length = (a ++ (rl R i).1).length := (List.length_append).symm
  rw [e, List.drop_left, List.append_assoc, List.append_assoc, List.take_left, List.append_assoc]
theorem put_length {R : List Rl} {w : Wd} {s : Stp} (hR : ∀ r ∈ R, r.1.length = r.2.length ∧ 0 < r.1.length) (h : s ∈ stepsF R w) : (putF R w s).length = w.length := by
  obtain ⟨h1, h2, h3⟩ := mem_steps.mp h
  obtain ⟨i, p⟩ := s
  have hm : rl R i ∈ R := by
    unfold rl
    rw [List.getD_eq_getElem?_getD, List.getElem?_eq_getElem h1]
    exact List.getElem_mem h1
  obtain ⟨q1, q2⟩ := hR _ hm
  obtain ⟨a, b, rfl, rfl⟩ := (stands_iff q2).mp h3
  rw [put_of]
  simp only [List.length_append]
  omega
/-! ### chains -/
theorem chains_sorted (R : List Rl) (E : List Int) : ∀ (n : Nat) (w : Wd), (chainsF R E n w).Pairwise clt
  | 0, w => by
    unfold chainsF
    split
    · exact List.pairwise_singleton _ _
    · exact List.Pairwise.nil
  | n + 1, w => by
    unfold chainsF
    rw [List.pairwise_flatMap]
    refine ⟨fun s _ => ?_, (steps_sorted R w).imp fun {s t} h x hx y hy => ?_⟩
    · rw [List.pairwise_map]
      exact (chains_sorted R E n _).imp fun {c d} h => .inr ⟨rfl, h⟩
    · obtain ⟨c, _, rfl⟩ := List.mem_map.mp hx
      obtain ⟨d, _, rfl⟩ := List.mem_map.mp hy
      exact .inl h
theorem chains_valid (R : List Rl) (E : List Int) : ∀ (n : Nat) (w : Wd) (c : Chn), c ∈ chainsF R E n w → Valid R w c ∧ c.length = n
  | 0, w, c, h => by
    unfold chainsF at h
    split at h
    · rw [List.mem_singleton.mp h]
      exact ⟨trivial, rfl⟩
    · cases h
  | n + 1, w, c, h => by
    unfold chainsF at h
    obtain ⟨s, hs, hc⟩ := List.mem_flatMap.mp h
    obtain ⟨d, hd, rfl⟩ := List.mem_map.mp hc
    obtain ⟨k1, k2⟩ := chains_valid R E n _ d hd
    exact ⟨⟨hs, k1⟩, by rw [List.length_cons, k2]⟩
theorem words_length (R : List Rl) : ∀ (c : Chn) (w : Wd), (wordsF R w c).length = c.length + 1
  | [], _ => rfl
  | s :: c, w => by
    show (wordsF R (putF R w s) c).length + 1 = c.length + 1 + 1
    rw [words_length R c]
/-! ### turned about -/
def fn (names : List Int) (l : Int) : Int := names.getD l.toNat 0
def tw (names : List Int) (w : Wd) : Wd := (w.reverse).map (fn names)
def tR (names : List Int) (R : List Rl) (order : List Nat) : List Rl := order.map fun i => (tw names (rl R i).1, tw names (rl R i).2)
def tS (R : List Rl) (order : List Nat) (len : Nat) (s : Stp) : Stp := (order.idxOf s.1, len - s.2 - (rl R s.1).1.length)
def tC (R : List Rl) (order : List Nat) (len : Nat) (c : Chn) : Chn := c.map (tS R order len)
def Lets (L : Nat) (w : Wd) : Prop := ∀ l ∈ w, 0 ≤ l ∧ l < (L : Int)
def RulesOk (L : Nat) (R : List Rl) : Prop := ∀ r ∈ R, r.1.length = r.2.length ∧ 0 < r.1.length ∧ Lets L r.1 ∧ Lets L r.2
def upto (n : Nat) : List Int := (List.range n).map fun (i : Nat) => ((i : Nat) : Int)
/-- what the law builds -/
structure Built (L : Nat) (R : List Rl) (E E' : List Int) (names : List Int) (order : List Nat) : Prop where
  rules : RulesOk L R
  ends : Lets L E
  nm : names.Perm (upto L)
  od : order.Perm (List.range R.length)
  es : E'.Perm (E.map (fn names))
section
variable {L : Nat} {R : List Rl} {E E' : List Int} {names : List Int} {order : List Nat}
theorem rl_mem {i : Nat} (h : i < R.length) : rl R i ∈ R := by
  unfold rl
  rw [List.getD_eq_getElem?_getD, List.getElem?_eq_getElem h]
  exact List.getElem_mem h
theorem upto_nodup (n : Nat) : (upto n).Nodup := by
  unfold upto List.Nodup
  rw [List.pairwise_map]
  exact List.pairwise_lt_range.imp fun {a b} h e => by omega
theorem names_len (nm : names.Perm (upto L)) : names.length = L := by
  rw [nm.length_eq]
  unfold upto
  rw [List.length_map, List.length_range]
theorem fn_inj (nm : names.Perm (upto L)) {a b : Int} (ha : 0 ≤ a ∧ a < (L : Int)) (hb : 0 ≤ b ∧ b < (L : Int)) (h : fn names a = fn names b) : a = b := by
  have hl := names_len nm
  have hn : names.Nodup := nm.nodup_iff.mpr (upto_nodup L)
  unfold fn at h
  have h1 : a.toNat < names.length := by omega
  have h2 : b.toNat < names.length := by omega
  rw [List.getD_eq_getElem?_getD, List.getD_eq_getElem?_getD, List.getElem?_eq_getElem h1, List.getElem?_eq_getElem h2] at h
  have := (List.getElem_inj hn).mp (show names[a.toNat] = names[b.toNat] from h)
  omega
theorem fn_lets (nm : names.Perm (upto L)) {a : Int} (ha : 0 ≤ a ∧ a < (L : Int)) : 0 ≤ fn names a ∧ fn names a < (L : Int) := by
  have hl := names_len nm
  have h1 : a.toNat < names.length := by omega
  have : fn names a ∈ names := by
    unfold fn
    rw [List.getD_eq_getElem?_getD, List.getElem?_eq_getElem h1]
    exact List.getElem_mem h1
  have := nm.mem_iff.mp this
  unfold upto at this
  obtain ⟨i, hi, e⟩ := List.mem_map.mp this
  have := List.mem_range.mp hi
  omega
theorem map_inj (nm : names.Perm (upto L)) : ∀ {a b : Wd}, Lets L a → Lets L b → a.map (fn names) = b.map (fn names) → a = b
  | [], [], _, _, _ => rfl
  | [], _ :: _, _, _, h => by cases h
  | _ :: _, [], _, _, h => by cases h
  | x :: a, y :: b, ha, hb, h => by
    rw [List.map_cons, List.map_cons] at h
    obtain ⟨h1, h2⟩ := List.cons.inj h
    rw [fn_inj nm (ha x List.mem_cons_self) (hb y List.mem_cons_self) h1, map_inj nm (fun l hl => ha l (List.mem_cons_of_mem _ hl)) (fun l hl => hb l (List.mem_cons_of_mem _ hl)) h2]
theorem tw_append (a b : Wd) : tw names (a ++ b) = tw names b ++ tw names a := by
  unfold tw
  rw [List.reverse_append, List.map_append]
theorem tw_length (a : Wd) : (tw names a).length = a.length := by
  unfold tw
  rw [List.length_map, List.length_reverse]
theorem tR_length : (tR names R order).length = order.length := by
  unfold tR
  rw [List.length_map]
theorem tR_at {j : Nat} (h : j < order.length) : rl (tR names R order) j = (tw names (rl R order[j]).1, tw names (rl R order[j]).2) := by
  unfold tR
  rw [rl, List.getD_eq_getElem?_getD, List.getElem?_map, List.getElem?_eq_getElem h]
  rfl
theorem order_nodup (od : order.Perm (List.range R.length)) : order.Nodup := od.nodup_iff.mpr List.nodup_range
theorem order_len (od : order.Perm (List.range R.length)) : order.length = R.length := by rw [od.length_eq, List.length_range]
theorem order_mem (od : order.Perm (List.range R.length)) {i : Nat} (h : i < R.length) : i ∈ order := od.mem_iff.mpr (List.mem_range.mpr h)
theorem order_lt (od : order.Perm (List.range R.length)) {j : Nat} (h : j < order.length) : order[j] < R.length := List.mem_range.mp (od.mem_iff.mp (List.getElem_mem h))
theorem idx_lt (od : order.Perm (List.range R.length)) {i : Nat} (h : i < R.length) : order.idxOf i < order.length := List.idxOf_lt_length_of_mem (order_mem od h)
theorem tR_idx (od : order.Perm (List.range R.length)) {i : Nat} (h : i < R.length) : rl (tR names R order) (order.idxOf i) = (tw names (rl R i).1, tw names (rl R i).2) := by
  have hl := idx_lt od h
  rw [tR_at hl, List.getElem_idxOf hl]
/-- a step and its turned one -/
theorem step_parts (hR : RulesOk L R) {w : Wd} {s : Stp} (h : s ∈ stepsF R w) : ∃ a b, w = a ++ (rl R s.1).1 ++ b ∧ a.length = s.2 ∧ s.1 < R.length ∧ w.length = s.2 + (rl R s.1).1.length + b.length := by
  obtain ⟨h1, h2, h3⟩ := mem_steps.mp h
  obtain ⟨a, b, e, k⟩ := (stands_iff (hR _ (rl_mem h1)).2.1).mp h3
  refine ⟨a, b, e, k, h1, ?_⟩
  rw [e, List.length_append, List.length_append]
  omega
theorem step_turned (od : order.Perm (List.range R.length)) (hR : RulesOk L R) {w : Wd} {s : Stp} (h : s ∈ stepsF R w) :
    tS R order w.length s ∈ stepsF (tR names R order) (tw names w) ∧ putF (tR names R order) (tw names w) (tS R order w.length s) = tw names (putF R w s) := by
  obtain ⟨a, b, e, k, h1, hl⟩ := step_parts hR h
  obtain ⟨i, p⟩ := s
  simp only at e k h1 hl
  have hpos := (hR _ (rl_mem h1)).2.1
  have eb : w.length - p - (rl R i).1.length = b.length := by omega
  have et : tS R order w.length (i, p) = (order.idxOf i, (tw names b).length) := by
    unfold tS
    simp only
    rw [eb, tw_length]
  have ew : tw names w = tw names b ++ (rl (tR names R order) (order.idxOf i)).1 ++ tw names a := by
    rw [tR_idx od h1, e, tw_append, tw_append, List.append_assoc]
  constructor
  · rw [et]
    refine mem_steps.mpr ⟨?_, ?_, ?_⟩
    · rw [tR_length]
      exact idx_lt od h1
    · rw [tw_length, tw_length]
      omega
    · refine (stands_iff ?_).mpr ⟨tw names b, tw names a, ew, rfl⟩
      rw [tR_idx od h1, tw_length]
      exact hpos
  · rw [et, ew, put_of, tR_idx od h1]
    subst k
    rw [e, put_of, tw_append, tw_append, List.append_assoc]
theorem tw_split (nm : names.Perm (upto L)) {w l a b : Wd} (hw : Lets L w) (hl : Lets L l) (h : tw names w = a ++ tw names l ++ b) : ∃ c d, w = c ++ l ++ d ∧ d.length = a.length := by
  have e : w.map (fn names) = b.reverse ++ l.map (fn names) ++ a.reverse := by
    have := congrArg List.reverse h
    unfold tw at this
    rw [List.reverse_append, List.reverse_append, ← List.map_reverse, List.reverse_reverse, ← List.map_reverse, List.reverse_reverse] at this
    rw [this, List.append_assoc]
  obtain ⟨x, d, ew, ex, ed⟩ := List.map_eq_append_iff.mp e
  obtain ⟨c, m, ex2, ec, em⟩ := List.map_eq_append_iff.mp ex
  have hm : m = l := by
    refine map_inj nm (fun z hz => hw z ?_) hl em
    rw [ew, ex2]
    exact List.mem_append_left _ (List.mem_append_right _ hz)
  refine ⟨c, d, ?_, ?_⟩
  · rw [ew, ex2, hm]
  · have := congrArg List.length ed
    rw [List.length_map, List.length_reverse] at this
    exact this
theorem step_back (nm : names.Perm (upto L)) (od : order.Perm (List.range R.length)) (hR : RulesOk L R) {w : Wd} (hw : Lets L w) {t : Stp} (h : t ∈ stepsF (tR names R order) (tw names w)) :
    ∃ s, s ∈ stepsF R w ∧ tS R order w.length s = t := by
  obtain ⟨h1, h2, h3⟩ := mem_steps.mp h
  obtain ⟨j, q⟩ := t
  simp only at h1 h2 h3
  rw [tR_length] at h1
  have hi := order_lt od h1
  have hr := hR _ (rl_mem hi)
  rw [tR_at h1] at h3
  obtain ⟨a, b, e, k⟩ := (stands_iff (by show 0 < (tw names (rl R order[j]).1).length; rw [tw_length]; exact hr.2.1)).mp h3
  obtain ⟨c, d, ew, ed⟩ := tw_split nm hw hr.2.2.1 e
  have hlen : w.length = c.length + (rl R order[j]).1.length + d.length := by rw [ew, List.length_append, List.length_append]
  have hpos := hr.2.1
  refine ⟨(order[j], c.length), mem_steps.mpr ⟨hi, by simp only; omega, (stands_iff hpos).mpr ⟨c, d, ew, rfl⟩⟩, ?_⟩
  unfold tS
  simp only
  rw [(order_nodup od).idxOf_getElem j h1]
  refine Prod.ext rfl ?_
  simp only
  omega
theorem tS_inj (od : order.Perm (List.range R.length)) (hR : RulesOk L R) {w : Wd} {s t : Stp} (hs : s ∈ stepsF R w) (ht : t ∈ stepsF R w) (h : tS R order w.length s = tS R order w.length t) : s = t := by
  obtain ⟨_, _, _, _, h1, hl⟩ := step_parts hR hs
  obtain ⟨_, _, _, _, k1, kl⟩ := step_parts hR ht
  obtain ⟨i, p⟩ := s
  obtain ⟨j, q⟩ := t
  unfold tS at h
  simp only at h h1 hl k1 kl
  obtain ⟨e1, e2⟩ := Prod.mk.inj h
  have hi := idx_lt od h1
  have hj := idx_lt od k1
  have e : i = j := by
    have q1 := List.getElem_idxOf hi
    have q2 := List.getElem_idxOf hj
    rw [← q1, ← q2]
    congr 1
  subst e
  refine Prod.ext rfl ?_
  simp only
  omega
theorem map_nodup {α β : Type} {f : α → β} : ∀ {l : List α}, l.Nodup → (∀ a ∈ l, ∀ b ∈ l, f a = f b → a = b) → (l.map f).Nodup
  | [], _, _ => List.Pairwise.nil
  | x :: l, h, k => by
    obtain ⟨h1, h2⟩ := List.pairwise_cons.mp h
    rw [List.map_cons]
    refine List.pairwise_cons.mpr ⟨fun y hy e => ?_, map_nodup h2 fun a ha b hb => k a (List.mem_cons_of_mem _ ha) b (List.mem_cons_of_mem _ hb)⟩
    obtain ⟨z, hz, rfl⟩ := List.mem_map.mp hy
    exact h1 z hz (k x List.mem_cons_self z (List.mem_cons_of_mem _ hz) e)
theorem steps_perm (nm : names.Perm (upto L)) (od : order.Perm (List.range R.length)) (hR : RulesOk L R) {w : Wd} (hw : Lets L w) :
    ((stepsF R w).map (tS R order w.length)).Perm (stepsF (tR names R order) (tw names w)) := by
  refine (List.perm_ext_iff_of_nodup (map_nodup (steps_nodup R w) fun a ha b hb => tS_inj od hR ha hb) (steps_nodup _ _)).mpr fun t => ?_
  rw [List.mem_map]
  constructor
  · rintro ⟨s, hs, rfl⟩
    exact (step_turned od hR hs).1
  · intro h
    exact step_back nm od hR hw h
theorem put_lets (hR : RulesOk L R) {w : Wd} (hw : Lets L w) {s : Stp} (h : s ∈ stepsF R w) : Lets L (putF R w s) := by
  obtain ⟨a, b, e, k, h1, _⟩ := step_parts hR h
  have hr := hR _ (rl_mem h1)
  obtain ⟨i, p⟩ := s
  simp only at e k h1
  subst k
  intro l hl
  rw [e] at hl hw
  rw [put_of] at hl
  rcases List.mem_append.mp hl with q | q
  · rcases List.mem_append.mp q with q | q
    · exact hw l (List.mem_append_left _ (List.mem_append_left _ q))
    · exact hr.2.2.2 l q
  · exact hw l (List.mem_append_right _ q)
theorem put_len (hR : RulesOk L R) {w : Wd} {s : Stp} (h : s ∈ stepsF R w) : (putF R w s).length = w.length :=
  put_length (fun r hr => ⟨(hR r hr).1, (hR r hr).2.1⟩) h
theorem atEnd_iff {E : List Int} {w : Wd} : atEnd E w = true ↔ ∀ l ∈ w, l ∈ E := by
  unfold atEnd
  rw [List.all_eq_true]
  refine ⟨fun h l hl => ?_, fun h l hl => ?_⟩
  · obtain ⟨e, he, k⟩ := List.any_eq_true.mp (h l hl)
    rw [← (beq_iff_eq.mp k)]
    exact he
  · exact List.any_eq_true.mpr ⟨l, h l hl, beq_self_eq_true l⟩
theorem atEnd_turned (nm : names.Perm (upto L)) (hE : Lets L E) (es : E'.Perm (E.map (fn names))) {w : Wd} (hw : Lets L w) : atEnd E' (tw names w) = atEnd E w := by
  apply Bool.eq_iff_iff.mpr
  rw [atEnd_iff, atEnd_iff]
  constructor
  · intro h l hl
    have h1 : fn names l ∈ tw names w := by
      unfold tw
      exact List.mem_map.mpr ⟨l, List.mem_reverse.mpr hl, rfl⟩
    obtain ⟨e, he, k⟩ := List.mem_map.mp (es.mem_iff.mp (h _ h1))
    rw [← fn_inj nm (hE e he) (hw l hl) k]
    exact he
  · intro h l hl
    unfold tw at hl
    obtain ⟨m, hm, rfl⟩ := List.mem_map.mp hl
    exact es.mem_iff.mpr (List.mem_map.mpr ⟨m, h m (List.mem_reverse.mp hm), rfl⟩)
theorem flatMap_perm {α β : Type} {f g : α → List β} : ∀ {l : List α}, (∀ a ∈ l, (f a).Perm (g a)) → (l.flatMap f).Perm (l.flatMap g)
  | [], _ => List.Perm.refl _
  | x :: l, h => by
    rw [List.flatMap_cons, List.flatMap_cons]
    exact (h x List.mem_cons_self).append (flatMap_perm fun a ha => h a (List.mem_cons_of_mem _ ha))
theorem chains_perm (B : Built L R E E' names order) : ∀ (n : Nat) (w : Wd), Lets L w →
    ((chainsF R E n w).map (tC R order w.length)).Perm (chainsF (tR names R order) E' n (tw names w))
  | 0, w, hw => by
    unfold chainsF
    rw [atEnd_turned B.nm B.ends B.es hw]
    split
    · exact List.Perm.refl _
    · exact List.Perm.refl _
  | n + 1, w, hw => by
    unfold chainsF
    rw [List.map_flatMap]
    refine List.Perm.trans ?_ ((steps_perm B.nm B.od B.rules hw).flatMap_right _)
    rw [List.flatMap_map]
    refine flatMap_perm fun s hs => ?_
    rw [List.map_map, (step_turned B.od B.rules hs).2]
    have ih := chains_perm B n (putF R w s) (put_lets B.rules hw hs)
    rw [put_len B.rules hs] at ih
    have := ih.map fun c => tS R order w.length s :: c
    rw [List.map_map] at this
    exact this
/-- THE LAW'S FIRST HALF: the turned ones' chains are the chains turned, sorted -/
theorem turned_sorted (B : Built L R E E' names order) {le : Chn → Chn → Bool} (hle : ∀ c d, le c d = true ↔ ¬ clt d c) (n : Nat) {w : Wd} (hw : Lets L w) :
    ((chainsF R E n w).map (tC R order w.length)).mergeSort le = chainsF (tR names R order) E' n (tw names w) := by
  refine List.Perm.eq_of_pairwise (le := fun a b => le a b = true) (fun a b _ _ h k => ?_) ?_ ?_ ((List.mergeSort_perm _ _).trans (chains_perm B n w hw))
  · rcases clt_tri a b with q | q | q
    · exact absurd q ((hle b a).mp k)
    · exact q
    · exact absurd q ((hle a b).mp h)
  · refine List.pairwise_mergeSort (fun a b c h k => ?_) (fun a b => ?_) _
    · rw [hle] at h k ⊢
      intro q
      rcases clt_tri a b with z | z | z
      · exact k (clt_trans q z)
      · exact k (z ▸ q)
      · exact h z
    · rw [Bool.or_eq_true, hle, hle]
      rcases clt_tri a b with z | z | z
      · exact .inl fun y => clt_irrefl _ (clt_trans z y)
      · exact .inl (z ▸ clt_irrefl _)
      · exact .inr fun y => clt_irrefl _ (clt_trans z y)
  · exact (chains_sorted _ _ n _).imp fun {a b} h => (hle a b).mpr fun k => clt_irrefl _ (clt_trans h k)
/-- THE LAW'S SECOND HALF: each chain's words, turned, are those of its turned one -/
theorem turned_words (B : Built L R E E' names order) : ∀ (c : Chn) {w : Wd}, Lets L w → Valid R w c →
    Valid (tR names R order) (tw names w) (tC R order w.length c) ∧ wordsF (tR names R order) (tw names w) (tC R order w.length c) = (wordsF R w c).map (tw names)
  | [], w, _, _ => ⟨trivial, rfl⟩
  | s :: c, w, hw, hv => by
    obtain ⟨hs, hc⟩ := hv
    obtain ⟨k1, k2⟩ := step_turned (names := names) B.od B.rules hs
    have ih := turned_words B c (put_lets B.rules hw hs) hc
    rw [put_len B.rules hs] at ih
    refine ⟨⟨k1, ?_⟩, ?_⟩
    · rw [k2]
      exact ih.1
    · show tw names w :: wordsF (tR names R order) (putF (tR names R order) (tw names w) (tS R order w.length s)) (tC R order w.length c) = tw names w :: (wordsF R (putF R w s) c).map (tw names)
      rw [k2, ih.2]
end
/-! ### how many there are -/
theorem steps_count (R : List Rl) (w : Wd) : (stepsF R w).length ≤ R.length * w.length := by
  unfold stepsF
  have h : ∀ l : List Nat, (l.flatMap (rowS R w)).length ≤ l.length * w.length := by
    intro l
    induction l with
    | nil => simp
    | cons i l ih =>
      have h1 : (rowS R w i).length ≤ w.length := by
        unfold rowS
        rw [List.length_map]
        exact Nat.le_trans (List.length_filter_le _ _) (by rw [List.length_range]; exact Nat.le_refl _)
      rw [List.flatMap_cons, List.length_append, List.length_cons, Nat.succ_mul]
      omega
  have := h (List.range R.length)
  rw [List.length_range] at this
  exact this
theorem flatMap_count {α β : Type} {f : α → List β} {k : Nat} : ∀ {l : List α}, (∀ a ∈ l, (f a).length ≤ k) → (l.flatMap f).length ≤ l.length * k
  | [], _ => by simp
  | x :: l, h => by
    have h1 := h x List.mem_cons_self
    have h2 := flatMap_count (l := l) fun a ha => h a (List.mem_cons_of_mem _ ha)
    rw [List.flatMap_cons, List.length_append, List.length_cons, Nat.succ_mul]
    omega
end Six
/-! Three rules that the layer lacks: t[::-1] of a tuple; list + list whatever the lists are; sorted of data of any depth. -/
namespace SixR
open PySem PySem.Spec PySem.W PyProof.Rows L2
/-! ### t[::-1] -/
section
variable {P : Program} {wd : World} {B : Around} {Er : Value → Shared → Prop} {st : Shared}
theorem back_ends (n : Nat) : Builtin.Slice.sliceAdjust none none (-1) (n : Int) = ((n : Int) - 1, (-1 : Int)) := by
  have neg : ((-1 : Int) < 0) := by omega
  simp only [Builtin.Slice.sliceAdjust, neg, if_true]
theorem back_many (n : Nat) : Builtin.Slice.slicePlaces ((n : Int) - 1) (-1) (-1) = n := by
  have pos : ¬ ((-1 : Int) > 0) := by omega
  have one : -(-1 : Int) = 1 := rfl
  simp only [Builtin.Slice.slicePlaces, pos, if_false, one, Int.ediv_one]
  split <;> omega
theorem back_pick (its : Array Value) : ((List.range its.size).filterMap fun (m : Nat) => its[(((its.size : Int) - 1) + (m : Int) * (-1)).toNat]?).toArray = its.toList.reverse.toArray := by
  congr 1
  have each : ∀ ms : List Nat, (∀ m ∈ ms, m < its.size) → (ms.filterMap fun (m : Nat) => its[(((its.size : Int) - 1) + (m : Int) * (-1)).toNat]?) = ms.map fun (m : Nat) => its.getD (its.size - 1 - m) Value.none := by
    intro ms
    induction ms with
    | nil => intro _; rfl
    | cons m ms ih =>
      intro below
      have hm := below m List.mem_cons_self
      have place : (((its.size : Int) - 1) + (m : Int) * (-1)).toNat = its.size - 1 - m := by omega
      have inside : its.size - 1 - m < its.size := by omega
      rw [List.map_cons, ← ih fun k hk => below k (List.mem_cons_of_mem _ hk), List.filterMap_cons, place]
      simp [inside]
  rw [each _ fun m hm => List.mem_range.mp hm]
  apply List.ext_getElem
  · simp
  · intro i h1 h2
    have hi : i < its.size := by simpa using h1
    have inside : its.size - 1 - i < its.size := by omega
    simp [inside]
theorem back_applied {c : Addr} {z : Value} {n : Nat} {R : Int × Int × Nat → Shared → Prop} (hc : st.heap.IsSliceOf c .none .none z) (pz : IsPart z (some (-1)))
    (fin : R ((n : Int) - 1, -1, n) st) : wpAny (model P wd) B (Builtin.Slice.sliceApplied (.ref c) (pure (n : Int))) R Er st := by
  obtain ⟨o, at_, _, dt⟩ := hc
  simp only [Builtin.Slice.sliceApplied, Builtin.Slice.sliceFields]
  refine wpAny_bind (wpAny_bind (wpAny_field at_ dt (x := .none) rfl (wpAny_bind (wpAny_field at_ dt (x := .none) rfl (wpAny_bind (wpAny_field at_ dt (x := z) rfl (wpAny_pure ?_)))))))
  refine wpAny_bind (HT.slicePart_ pz ?_)
  show wpAny _ _ (if ((-1 : Int) == 0) = true then _ else _) _ _ st
  rw [if_neg (by decide)]
  refine wpAny_bind (slicePart_none (wpAny_bind (slicePart_none (wpAny_bind (wpAny_pure ?_)))))
  show wpAny _ _ (match Builtin.Slice.sliceAdjust none none (-1) (n : Int) with | (lo, hi) => pure (lo, (-1 : Int), Builtin.Slice.slicePlaces lo hi (-1))) _ _ st
  rw [back_ends n]
  show wpAny _ _ (pure ((n : Int) - 1, (-1 : Int), Builtin.Slice.slicePlaces ((n : Int) - 1) (-1) (-1))) _ _ st
  rw [back_many]
  exact wpAny_pure fin
theorem back_item {t c : Addr} {its : Array Value} {z : Value} {R : Value → Shared → Prop} (tt : IsTup st.heap t its) (hc : st.heap.IsSliceOf c .none .none z) (pz : IsPart z (some (-1))) (small : its.size ≤ sizeLine)
    (fin : R (.ref st.heap.objs.size) { st with heap := st.heap.push { cls := .type "tuple", data := .seq its.toList.reverse.toArray } }) : wpAny (model P wd) B (getItem (.ref t) (.ref c)) R Er st := by
  have fits : sizeOk (.seq its.toList.reverse.toArray) := by
    show its.toList.reverse.toArray.size ≤ sizeLine
    rw [List.size_toArray, List.length_reverse, Array.length_toList]
    exact small
  have isSlice : st.TypeIs (.ref c) "slice" := by
    obtain ⟨o, at_, cl, _⟩ := hc
    exact ⟨o, at_, cl⟩
  have other : ¬ ((((its.size : Int) - 1) == 0 && (-1 : Int) == 1 && its.size == its.size) = true) := by
    intro q
    simp at q
  unfold getItem
  refine wpAny_holding (wpAny_bind (wpAny_sequenceKey tt.typeIs (by decide) (wpAny_bind (wpAny_callSpecial?_slot (name := Str.ofString "__getitem__") tt.typeIs slot_tuple_getitem (wpAny_call_entry slot_tuple_getitem tt.typeIs entry_tuple_getitem ?_ (args_tuple_getitem _ _))))))
  show wpAny _ _ (Builtin.Tuple.tupleItemsOf (.ref t) >>= _) _ _ st
  refine wpAny_bind (tupleItemsOf_ tt (wpAny_bind (wpAny_typeOf isSlice ?_)))
  rw [if_pos (by decide)]
  refine wpAny_bind (back_applied (n := its.size) hc pz ?_)
  show wpAny _ _ (if (((its.size : Int) - 1) == 0 && (-1 : Int) == 1 && its.size == its.size) = true then _ else _) _ _ st
  rw [if_neg other, back_pick]
  exact wpAny_bind (m := Builtin.Tuple.tupleExact _) (wpAny_newObj_type (wpAny_pure ⟨_, rfl, wpAny_pure fin⟩) fits)
end
def tRevT (K : PySem.W.Frag) (te : TE) : TE := fun σ H Q => te σ H fun x G => ∃ a xs, x = .ref a ∧ SqT K G a xs ∧ ∀ p, G p = none → Q (.ref p) (upd G p (.tup xs.reverse))
section
variable {X : Cx}
theorem vals_back : ∀ {xs : List V} {us : List Value}, Vals xs us → Vals xs.reverse us.reverse
  | _, _, .nil => .nil
  | x :: xs, u :: us, .cons r t => by
    have both := (vals_back t).append (Paired.cons r Paired.nil)
    simpa using both
theorem pe_revT {e : Expr} {te : TE} {k : Nat} {p1 p2 p3 pos : Pos} (he : PE X e te) : PE X (.Subscript e (.Slice none none (some (.UnaryOp .USub (.Constant (.int 1) k p1) p2)) p3) pos) (tRevT X.K te) := by
  have minus : PO X (some (.UnaryOp .USub (.Constant (.int 1) k p1) p2)) (tPart (tUn (rU fun i => .int (-i)) (tC (.int 1)))) :=
    po_some (pe_un un_neg pe_int)
  constructor
  intro pins s σ H Q I h
  refine Subscript_ (thn (he.run pins s σ H _ I h) fun v sA ⟨x, HA, IA, rA, a, xs, ex, hx, q⟩ => ?_)
  subst ex
  cases rA
  refine wpAny_Slice (thn (po_none.run pins sA σ HA (fun o G => o = none ∧ G = HA) IA ⟨rfl, rfl⟩) fun vl sB ⟨l, HB, IB, pl, el, eB⟩ => ?_)
  subst el eB
  refine thn (po_none.run pins sB σ HB (fun o G => o = none ∧ G = HB) IB ⟨rfl, rfl⟩) fun vu sC ⟨u, HC, IC, pu, eu, eC⟩ => ?_
  subst eu eC
  refine thn (minus.run pins sC σ HC (fun o G => o = some (-1) ∧ G = HC) IC ⟨1, rfl, -1, rfl, rfl, rfl⟩) fun z sD ⟨o, HD, ID, pz, eo, eD⟩ => ?_
  subst eo eD
  cases pl
  cases pu
  have IE : Inv X pins σ HD { sD with heap := sD.heap.push { cls := .type "slice", data := .fields #[.none, .none, z] } } := ID.kept (t' := sD.toks) fun _ _ old => Heap.get?_push_of_some _ old
  obtain ⟨its, r, tt, small⟩ := IE.tuple hx
  have same := r.length
  show wpAny (model X.prog X.w) X.A (subscriptTail e (.Slice none none (some (.UnaryOp .USub (.Constant (.int 1) k p1) p2)) p3) (.ref a) (.ref sD.heap.objs.size)) (EP X pins σ Q) X.xe { sD with heap := sD.heap.push { cls := .type "slice", data := .fields #[.none, .none, z] } }
  refine tail_any (ops := [.ref a, .ref sD.heap.objs.size]) tt.typeIs slot_tuple_getitem.lookup ?_ (by with_unfolding_all rfl)
  refine back_item tt (Heap.IsSliceOf.new _ .none .none z) pz (by rw [List.size_toArray]; omega) ?_
  have new := IE.laid (t' := sD.toks) (o := .tup xs.reverse) (fun _ _ old => Heap.get?_push_of_some _ old) (Nat.le_refl _) ⟨by rw [List.length_reverse]; exact small, its.reverse, vals_back r, IsTup.new _ _⟩
  exact ⟨.ref _, _, new, rfl, q _ (IE.hok.fresh (Nat.le_refl _))⟩
/-! ### list + list, whatever the lists are -/
theorem add_any {P : Program} {wd : World} {B : Around} {Er : Value → Shared → Prop} {st : Shared} {l b : Addr} {us ws : List Value} {R : Value → Shared → Prop} (hl : st.heap.IsList l us.toArray) (hb : st.heap.IsList b ws.toArray) (small : us.length + ws.length ≤ sizeLine)
    (fin : R (.ref st.heap.objs.size) { st with heap := st.heap.push { cls := .type "list", data := .seq (us ++ ws).toArray } }) : wpAny (model P wd) B (binaryOp .Add (.ref l) (.ref b)) R Er st := by
  obtain ⟨⟨c1, d1, t1, s1⟩, o1, k1, n1, e1⟩ := hl
  obtain ⟨⟨c2, d2, t2, s2⟩, o2, k2, n2, e2⟩ := hb
  cases k1
  cases k2
  cases e1
  cases e2
  refine concat_meets ⟨_, o1, rfl⟩ ⟨_, o2, rfl⟩ noFill_list_add seq_list_add PySem.F.slot_list_add PySem.F.entry_list_add
    (PySem.F.args_list_add_2 _ _) (list_addW l b us.toArray ws.toArray n1 n2 d1 d2 s1 s2 (by simpa using small)) ⟨o1, o2, ?_⟩
  rw [List.append_toArray]
  exact fin
def rCatL (K : PySem.W.Frag) : R2 := fun x y H Q => ∃ l b xs ys, x = .ref l ∧ y = .ref b ∧ SqL K H l xs ∧ SqL K H b ys ∧ xs.length + ys.length ≤ sizeLine ∧ ∀ p, H p = none → Q (.ref p) (upd H p (.lst (xs ++ ys)))
theorem op_catL : OpR X (binaryOp .Add) (rCatL X.K) := by
  rintro pins s σ H _ _ v u Q I rx ry ⟨l, b, xs, ys, rfl, rfl, hx, hy, small, q⟩
  cases rx
  cases ry
  obtain ⟨us, r1, p1, _⟩ := I.list hx
  obtain ⟨ws, r2, p2, _⟩ := I.list hy
  have e1 := r1.length
  have e2 := r2.length
  have new := I.lnew (t' := s.toks) (r1.append r2) (by rw [List.length_append]; omega)
  exact add_any p1.isList p2.isList (by omega) ⟨.ref _, _, new, rfl, q _ I.fresh⟩
/-! ### sorted of data -/
theorem each_of {β : Type} {enc : β → PyData} {K : PySem.W.Frag} {H : Hp} : ∀ {bs : List β} {xs : List V} {us : List Value}, DpAll K H xs (bs.map enc) → Vals xs us → EachIs (fun v b => ∃ x, RelV x v ∧ Dp K H x (enc b)) us bs
  | [], _, _, h, r => by
    cases h
    cases r
    exact .nil
  | b :: bs, _, _, h, r => by
    have h' : DpAll K H _ (enc b :: bs.map enc) := h
    cases h' with
    | cons h1 h2 =>
      cases r with
      | cons r1 r2 => exact .cons ⟨_, r1, h1⟩ (each_of h2 r2)
theorem of_each {β : Type} {enc : β → PyData} {K : PySem.W.Frag} {H : Hp} : ∀ {bs : List β} {us : List Value}, EachIs (fun v b => ∃ x, RelV x v ∧ Dp K H x (enc b)) us bs → ∃ xs, Vals xs us ∧ DpAll K H xs (bs.map enc)
  | _, _, .nil => ⟨[], .nil, .nil⟩
  | _, _, .cons ⟨x, r, h⟩ t => by
    obtain ⟨xs, r', h'⟩ := of_each t
    exact ⟨x :: xs, .cons r r', .cons h h'⟩
/-- sorted(xs), xs a list of data that are alike: a new list of the same data, sorted -/
def rSortedD {β : Type} (enc : β → PyData) (K : PySem.W.Frag) : List V → Hp → VK → Prop := fun vs H Q => ∃ (a : Addr) (xs : List V) (bs : List β), vs = [V.ref a] ∧ SqL K H a xs ∧ DpAll K H xs (bs.map enc) ∧ AllAlike (bs.map enc) ∧ Sortable (bs.map enc) ∧ (∀ b, b ∈ bs → (enc b).depth ≤ 60) ∧
  ∀ (ys : List V) (p : Addr), DpAll K H ys ((bs.mergeSort (dataLe false enc)).map enc) → H p = none → Q (.ref p) (upd H p (.lst ys))
theorem cr_sortedD {β : Type} (enc : β → PyData) (hu : X.A.units + 64 < cLine) : CallR X (.builtin "sorted") (rSortedD enc X.K) := by
  rintro pins s σ H _ us Q I r ⟨a, xs, bs, rfl, hx, hd, hal, hk, deep, q⟩
  obtain ⟨its, rx, plain, small⟩ := I.list hx
  rw [Vals.ref1 r]
  have e := each_of hd rx
  have reads : EachIs (fun v b => ∃ as, Reads s.heap v (enc b) as) its bs := e.mono fun v b ⟨x, rv, dx⟩ => Dp.reads I _ _ _ dx rv
  have e1 : its.length = bs.length := e.length
  have e2 := rx.length
  refine sorted_data plain.isList e reads hal hk (by omega) (fun b hb => by have := deep b hb; omega) fun out eo each => ?_
  obtain ⟨ys, ry, hy⟩ := of_each each
  have e3 := ry.length
  obtain ⟨n, stands⟩ := sortedAll_at s.heap its out.toArray
  have new := I.laid (a := s.heap.objs.size + 1) (o := .lst ys) (t' := s.toks) (fun _ _ => sortedAll_old) (Nat.le_succ _) ⟨by omega, out, n, ry, stands⟩
  exact ⟨.ref _, _, new, rfl, q ys _ hy (I.hok.fresh (Nat.le_succ _))⟩
end
end SixR
namespace SixW
open PySem PySem.Spec PyProof.Rows L2 Six
/-! ### the text by places -/
def top (i : Nat) : Stmt := PySem.Challenge.pw_sixtellings_k23_whole_words_turned_about.main.body.getD i (.Pass ⟨0, 0, 0, 0⟩)
abbrev sStands : Stmt := top 4
abbrev sSteps : Stmt := top 5
abbrev sPut : Stmt := top 6
abbrev sGone : Stmt := top 7
abbrev sAtEnd : Stmt := top 8
abbrev sChainW : Stmt := top 9
abbrev sChains : Stmt := top 10
abbrev sCell : Stmt := top 12
abbrev sTake : Stmt := top 13
abbrev sWords : Stmt := top 14
abbrev sWord : Stmt := top 15
abbrev sMixed : Stmt := top 19
abbrev sTurnW : Stmt := top 20
abbrev sTurned : Stmt := top 21
abbrev sTurnC : Stmt := top 22
abbrev sLonger : Stmt := top 23
abbrev sLaw : Stmt := top 24
/-! ### data -/
def eW (w : Wd) : PyData := .tuple (w.map PyData.int)
def eR (r : Rl) : PyData := .tuple [eW r.1, eW r.2]
def eWs (L : Int) (R : List Rl) (E : List Int) : PyData := .tuple [.int L, .list (R.map eR), .list (E.map PyData.int)]
def eS (s : Stp) : PyData := .tuple [.int ((s.1 : Nat) : Int), .int ((s.2 : Nat) : Int)]
def eC (c : Chn) : PyData := .list (c.map eS)
/-! ### heaps -/
/-- all but f -/
def hide (f : Addr) (H : Hp) : Hp := fun b => if b = f then none else H b
/-- of the lists those alone that are new since H0 -/
def lim (H0 H : Hp) : Hp := fun b => match H b with
  | some (.lst xs) => if (H0 b).isNone = true then some (.lst xs) else none
  | o => o
theorem hide_some {f b : Addr} {H : Hp} {o : HO} : hide f H b = some o ↔ b ≠ f ∧ H b = some o := by
  unfold hide
  by_cases h : b = f
  · rw [if_pos h]
    exact ⟨fun q => (nomatch q), fun q => absurd h q.1⟩
  · rw [if_neg h]
    exact ⟨fun q => ⟨h, q⟩, fun q => q.2⟩
theorem hide_upd {f : Addr} {H : Hp} {o : HO} : hide f (upd H f o) = hide f H := by
  funext b
  unfold hide
  by_cases h : b = f
  · rw [if_pos h, if_pos h]
  · rw [if_neg h, if_neg h, upd_ne h]
theorem hide_same {f : Addr} {H H' : Hp} (h : Same H H') : Same (hide f H) (hide f H') := fun b o e => by
  obtain ⟨h1, h2⟩ := hide_some.mp e
  exact hide_some.mpr ⟨h1, h b o h2⟩
theorem hide_le {f : Addr} {H : Hp} : Same (hide f H) H := fun b o e => (hide_some.mp e).2
theorem hide_of {f : Addr} {H0 H : Hp} (hf : H0 f = none) (h : Same H0 H) : Same H0 (hide f H) := fun b o e =>
  hide_some.mpr ⟨ne_of_none e hf, h b o e⟩
theorem same_new {H : Hp} {p : Addr} (h : H p = none) (o : HO) : Same H (upd H p o) := fun b u q => by rw [upd_ne (ne_of_none q h)]; exact q
theorem hide_new {f p : Addr} {H : Hp} (h : H p = none) (o : HO) : Same (hide f H) (hide f (upd H p o)) := hide_same (same_new h o)
theorem lim_le {H0 H : Hp} : Same (lim H0 H) H := fun b o e => by
  unfold lim at e
  split at e
  · split at e
    · rename_i h1 _
      rw [h1]
      exact e
    · cases e
  · exact e
theorem lim_lst {H0 H : Hp} {b : Addr} {xs : List V} (h : H b = some (.lst xs)) (h0 : H0 b = none) : lim H0 H b = some (.lst xs) := by
  unfold lim
  rw [h]
  simp only [h0, Option.isNone_none, if_true]
theorem lim_other {H0 H : Hp} {b : Addr} {o : HO} (h : H b = some o) (hn : ∀ xs, o ≠ .lst xs) : lim H0 H b = some o := by
  unfold lim
  rw [h]
  split
  · rename_i xs e
    cases e
    exact absurd rfl (hn xs)
  · rfl
theorem lim_new {H0 H : Hp} {b : Addr} {xs : List V} (h : lim H0 H b = some (.lst xs)) : H0 b = none := by
  unfold lim at h
  split at h
  · split at h
    · rename_i q
      exact Option.isNone_iff_eq_none.mp q
    · cases h
  · rename_i q
    exact absurd h (q xs)
theorem lim_same {H0 H H' : Hp} (h : Same H H') : Same (lim H0 H) (lim H0 H') := fun b o e => by
  have e' := h b o (lim_le b o e)
  cases o with
  | lst xs => exact lim_lst e' (lim_new e)
  | _ => exact lim_other e' (fun _ q => nomatch q)
/-- what is new since H is new since H0, and it is not f -/
theorem lim_sub {H0 H H' : Hp} {f : Addr} {o : HO} (h : Same H0 H) (hf : H f = some o) (h' : Same H H') (hl : ∃ xs, o = .lst xs) : Same (lim H H') (lim H0 (hide f H')) := fun b u e => by
  have e' := lim_le b u e
  have hne : b ≠ f := by
    rintro rfl
    obtain ⟨xs, rfl⟩ := hl
    rw [h' _ _ hf] at e'
    cases e'
    have := lim_new e
    rw [hf] at this
    cases this
  have e2 : hide f H' b = some u := hide_some.mpr ⟨hne, e'⟩
  cases u with
  | lst xs => exact lim_lst e2 (h.free (lim_new e))
  | _ => exact lim_other e2 (fun _ q => nomatch q)
theorem lim_sub0 {H0 H H' : Hp} (h : Same H0 H) (h' : Same H H') : Same (lim H H') (lim H0 H') := fun b u e => by
  have e2 := lim_le b u e
  cases u with
  | lst xs => exact lim_lst e2 (h.free (lim_new e))
  | _ => exact lim_other e2 (fun _ q => nomatch q)
theorem Same.seqT {K : PySem.W.Frag} {H H' : Hp} {a : Addr} {xs : List V} (e : Same H H') (h : SqT K H a xs) : SqT K H' a xs := by
  rcases h with (own | ⟨o, held⟩) | written
  · exact .inl (.inl (e _ _ own))
  · exact .inl (.inr ⟨o, e _ _ held⟩)
  · exact .inr written
/-! ### data in heaps -/
section
variable {K : PySem.W.Frag} {H H' : Hp}
mutual
theorem dp_same (h : Same H H') : ∀ (d : PyData) (v : V), Dp K H v d → Dp K H' v d
  | .none, _, q => by cases q; exact .non
  | .bool _, _, q => by cases q; exact .bl _
  | .int _, _, q => by cases q; exact .int _
  | .str _, _, q => by cases q; exact .str _
  | .list ds, _, q => by
    cases q with
    | lst hs ha => exact .lst (h.seq hs) (all_same h ds _ ha)
  | .tuple ds, _, q => by
    cases q with
    | tup hs ha => exact .tup (SixW.Same.seqT h hs) (all_same h ds _ ha)
  | .dict _, _, q => by cases q
theorem all_same (h : Same H H') : ∀ (ds : List PyData) (vs : List V), DpAll K H vs ds → DpAll K H' vs ds
  | [], _, q => by cases q; exact .nil
  | d :: ds, _, q => by
    cases q with
    | cons h1 h2 => exact .cons (dp_same h d _ h1) (all_same h ds _ h2)
end
/-- no list within -/
def noL : PyData → Bool
  | .list _ => false
  | .dict _ => false
  | .tuple ds => go ds
  | _ => true
where go : List PyData → Bool
  | [] => true
  | d :: ds => noL d && go ds
/-- all but lists stands as it stood -/
def NL (H H' : Hp) : Prop := ∀ b o, H b = some o → (∀ xs, o ≠ .lst xs) → H' b = some o
theorem NL.trans {H1 H2 H3 : Hp} (h : NL H1 H2) (k : NL H2 H3) : NL H1 H3 := fun b o e n => k b o (h b o e n) n
theorem nl_same (h : Same H H') : NL H H' := fun b o e _ => h b o e
theorem nl_lim {H0 : Hp} : NL H (lim H0 H) := fun b o e n => lim_other e n
theorem nl_hide {f : Addr} {xs : List V} (hf : H f = some (.lst xs)) : NL H (hide f H) := fun b o e n => hide_some.mpr ⟨by rintro rfl; rw [hf] at e; cases e; exact n _ rfl, e⟩
theorem nl_upd {f : Addr} {xs : List V} {o : HO} (hf : H f = some (.lst xs)) : NL H (upd H f o) := fun b u e n => by
  have : b ≠ f := by rintro rfl; rw [hf] at e; cases e; exact n _ rfl
  rw [upd_ne this]
  exact e
theorem seqT_nl (h : NL H H') {a : Addr} {xs : List V} (q : SqT K H a xs) : SqT K H' a xs := by
  rcases q with (q | ⟨o, q⟩) | q
  · exact .inl (.inl (h _ _ q fun _ z => nomatch z))
  · exact .inl (.inr ⟨o, h _ _ q fun _ z => nomatch z⟩)
  · exact .inr q
mutual
theorem dp_nl (h : NL H H') : ∀ (d : PyData) (v : V), noL d = true → Dp K H v d → Dp K H' v d
  | .none, _, _, q => by cases q; exact .non
  | .bool _, _, _, q => by cases q; exact .bl _
  | .int _, _, _, q => by cases q; exact .int _
  | .str _, _, _, q => by cases q; exact .str _
  | .list ds, _, n, q => by cases n
  | .tuple ds, _, n, q => by
    cases q with
    | tup hs ha => exact .tup (seqT_nl h hs) (all_nl h ds _ n ha)
  | .dict _, _, n, q => by cases n
theorem all_nl (h : NL H H') : ∀ (ds : List PyData) (vs : List V), noL.go ds = true → DpAll K H vs ds → DpAll K H' vs ds
  | [], _, _, q => by cases q; exact .nil
  | d :: ds, _, n, q => by
    have n' : (noL d && noL.go ds) = true := n
    rw [Bool.and_eq_true] at n'
    cases q with
    | cons h1 h2 => exact .cons (dp_nl h d _ n'.1 h1) (all_nl h ds _ n'.2 h2)
end
theorem noL_ints : ∀ w : List Int, noL.go (w.map PyData.int) = true
  | [] => rfl
  | _ :: w => noL_ints w
theorem noL_eW (w : Wd) : noL (eW w) = true := noL_ints w
theorem noL_eR (r : Rl) : noL (eR r) = true := by
  show (noL (eW r.1) && (noL (eW r.2) && true)) = true
  rw [noL_eW, noL_eW]
  rfl
theorem noL_eS (s : Stp) : noL (eS s) = true := rfl
theorem noL_map {β : Type} {e : β → PyData} (h : ∀ b, noL (e b) = true) : ∀ bs : List β, noL.go (bs.map e) = true
  | [] => rfl
  | b :: bs => by
    show (noL (e b) && noL.go (bs.map e)) = true
    rw [h b, noL_map h bs]
    rfl
/-! inversions -/
theorem dp_int {v : V} {i : Int} (h : Dp K H v (.int i)) : v = .int i := by cases h; rfl
theorem dp_tup {v : V} {ds : List PyData} (h : Dp K H v (.tuple ds)) : ∃ a xs, v = .ref a ∧ SqT K H a xs ∧ DpAll K H xs ds := by
  cases h with
  | tup hs ha => exact ⟨_, _, rfl, hs, ha⟩
theorem dp_lst {v : V} {ds : List PyData} (h : Dp K H v (.list ds)) : ∃ a xs, v = .ref a ∧ SqL K H a xs ∧ DpAll K H xs ds := by
  cases h with
  | lst hs ha => exact ⟨_, _, rfl, hs, ha⟩
theorem all_len : ∀ {ds : List PyData} {xs : List V}, DpAll K H xs ds → xs.length = ds.length
  | _, _, .nil => rfl
  | _, _, .cons _ t => congrArg (· + 1) (all_len t)
theorem all_get : ∀ {ds : List PyData} {xs : List V} {i : Nat} {d : PyData}, DpAll K H xs ds → ds[i]? = some d → ∃ x, xs[i]? = some x ∧ Dp K H x d
  | [], _, _, _, .nil, no => by simp at no
  | _ :: _, _, 0, _, .cons first t, here => by simp at here; subst here; exact ⟨_, rfl, first⟩
  | _ :: _, _, i + 1, _, .cons first t, there => by
    obtain ⟨x, at_, told⟩ := all_get (i := i) t (by simpa using there)
    exact ⟨x, by simpa using at_, told⟩
theorem all_at : ∀ {ds : List PyData} {xs : List V} {i : Nat} {x : V}, DpAll K H xs ds → xs[i]? = some x → ∃ d, ds[i]? = some d ∧ Dp K H x d
  | [], _, _, _, .nil, no => by simp at no
  | _ :: _, _, 0, _, .cons first t, here => by simp at here; subst here; exact ⟨_, rfl, first⟩
  | _ :: _, _, i + 1, _, .cons first t, there => by
    obtain ⟨d, at_, told⟩ := all_at (i := i) t (by simpa using there)
    exact ⟨d, by simpa using at_, told⟩
theorem all_append : ∀ {ds es : List PyData} {xs ys : List V}, DpAll K H xs ds → DpAll K H ys es → DpAll K H (xs ++ ys) (ds ++ es)
  | _, _, _, _, .nil, s => s
  | _, _, _, _, .cons r t, s => .cons r (all_append t s)
theorem all_take : ∀ {ds : List PyData} {xs : List V} (n : Nat), DpAll K H xs ds → DpAll K H (xs.take n) (ds.take n)
  | _, _, 0, _ => .nil
  | _, _, _ + 1, .nil => .nil
  | _, _, n + 1, .cons r t => .cons r (all_take n t)
theorem all_ints : ∀ {ns : List Int} {xs : List V}, DpAll K H xs (ns.map PyData.int) → xs = ns.map V.int
  | [], _, h => by cases h; rfl
  | n :: ns, _, h => by
    have h' : DpAll K H _ (.int n :: ns.map PyData.int) := h
    cases h' with
    | cons h1 h2 => rw [dp_int h1, all_ints h2]; rfl
theorem ints_all : ∀ (ns : List Int), DpAll K H (ns.map V.int) (ns.map PyData.int)
  | [] => .nil
  | n :: ns => .cons (.int n) (ints_all ns)
theorem all_map_get {β : Type} {e : β → PyData} {bs : List β} {xs : List V} {i : Nat} {b : β} (h : DpAll K H xs (bs.map e)) (hb : bs[i]? = some b) : ∃ x, xs[i]? = some x ∧ Dp K H x (e b) :=
  all_get h (by rw [List.getElem?_map, hb]; rfl)
theorem all_map_at {β : Type} {e : β → PyData} {bs : List β} {xs : List V} {i : Nat} {x : V} (h : DpAll K H xs (bs.map e)) (hx : xs[i]? = some x) : ∃ b, bs[i]? = some b ∧ Dp K H x (e b) := by
  obtain ⟨d, h1, h2⟩ := all_at h hx
  rw [List.getElem?_map] at h1
  cases hb : bs[i]? with
  | none => rw [hb] at h1; cases h1
  | some b =>
    rw [hb] at h1
    have : e b = d := Option.some.inj h1
    rw [← this] at h2
    exact ⟨b, rfl, h2⟩
theorem dp_word {v : V} {w : Wd} (h : Dp K H v (eW w)) : ∃ a, v = .ref a ∧ SqT K H a (w.map V.int) := by
  obtain ⟨a, xs, e, hs, ha⟩ := dp_tup h
  rw [all_ints ha] at hs
  exact ⟨a, e, hs⟩
theorem word_dp {a : Addr} {w : Wd} (h : SqT K H a (w.map V.int)) : Dp K H (.ref a) (eW w) := .tup h (ints_all w)
theorem dp_step {v : V} {s : Stp} (h : Dp K H v (eS s)) : ∃ a, v = .ref a ∧ SqT K H a [.int ((s.1 : Nat) : Int), .int ((s.2 : Nat) : Int)] := by
  obtain ⟨a, xs, e, hs, ha⟩ := dp_tup h
  have : xs = [.int ((s.1 : Nat) : Int), .int ((s.2 : Nat) : Int)] := all_ints (ns := [((s.1 : Nat) : Int), ((s.2 : Nat) : Int)]) ha
  rw [this] at hs
  exact ⟨a, e, hs⟩
theorem step_dp {a : Addr} {s : Stp} (h : SqT K H a [.int ((s.1 : Nat) : Int), .int ((s.2 : Nat) : Int)]) : Dp K H (.ref a) (eS s) := .tup h (ints_all [((s.1 : Nat) : Int), ((s.2 : Nat) : Int)])
theorem dp_pair {v : V} {d e : PyData} (h : Dp K H v (.tuple [d, e])) : ∃ a x y, v = .ref a ∧ SqT K H a [x, y] ∧ Dp K H x d ∧ Dp K H y e := by
  obtain ⟨a, xs, ev, hs, ha⟩ := dp_tup h
  cases ha with
  | cons h1 t =>
    cases t with
    | cons h2 t =>
      cases t
      exact ⟨a, _, _, ev, hs, h1, h2⟩
theorem dp_three {v : V} {d e f : PyData} (h : Dp K H v (.tuple [d, e, f])) : ∃ a x y z, v = .ref a ∧ SqT K H a [x, y, z] ∧ Dp K H x d ∧ Dp K H y e ∧ Dp K H z f := by
  obtain ⟨a, xs, ev, hs, ha⟩ := dp_tup h
  cases ha with
  | cons h1 t =>
    cases t with
    | cons h2 t =>
      cases t with
      | cons h3 t =>
        cases t
        exact ⟨a, _, _, _, ev, hs, h1, h2, h3⟩
/-- the words tuple, opened -/
theorem dp_words {v : V} {L : Int} {R : List Rl} {E : List Int} (h : Dp K H v (eWs L R E)) : ∃ a r e xs, v = .ref a ∧ SqT K H a [.int L, .ref r, .ref e] ∧ SqL K H r xs ∧ DpAll K H xs (R.map eR) ∧ SqL K H e (E.map V.int) := by
  obtain ⟨a, x, y, z, ev, hs, h1, h2, h3⟩ := dp_three h
  obtain ⟨r, xs, rfl, hr, hra⟩ := dp_lst h2
  obtain ⟨e, zs, rfl, he, hea⟩ := dp_lst h3
  rw [dp_int h1] at hs
  rw [all_ints hea] at he
  exact ⟨a, r, e, xs, ev, hs, hr, hra, he⟩
theorem words_dp {a r e : Addr} {L : Int} {R : List Rl} {E : List Int} {xs : List V} (hs : SqT K H a [.int L, .ref r, .ref e]) (hr : SqL K H r xs) (ha : DpAll K H xs (R.map eR)) (he : SqL K H e (E.map V.int)) : Dp K H (.ref a) (eWs L R E) :=
  .tup hs (.cons (.int L) (.cons (.lst hr ha) (.cons (.lst he (ints_all E)) .nil)))
/-- the i-th rule -/
theorem rule_at {R : List Rl} {xs : List V} {i : Nat} (h : DpAll K H xs (R.map eR)) (hi : i < R.length) : ∃ x, xs[i]? = some x ∧ Dp K H x (eR (rl R i)) := by
  refine all_map_get h ?_
  unfold rl
  rw [List.getD_eq_getElem?_getD, List.getElem?_eq_getElem hi]
  rfl
end
/-! ### slices -/
theorem cut_mid (xs : List V) (p n : Nat) : cutV xs (some (p : Int)) (some ((p : Int) + (n : Int))) = (xs.drop p).take n := by
  unfold cutV HT.sIx
  have h1 : ¬ ((p : Int) < 0) := by omega
  have h2 : ¬ ((p : Int) + (n : Int) < 0) := by omega
  have e1 : ((p : Int)).toNat = p := by omega
  have e2 : ((p : Int) + (n : Int)).toNat = p + n := by omega
  simp only [h1, h2, if_false, e1, e2]
  by_cases h : p ≤ xs.length
  · rw [Nat.min_eq_left h]
    by_cases k : p + n ≤ xs.length
    · rw [Nat.min_eq_left k, Nat.add_sub_cancel_left]
    · rw [Nat.min_eq_right (by omega), List.take_of_length_le (by rw [List.length_drop]; omega), List.take_of_length_le (by rw [List.length_drop]; omega)]
  · rw [Nat.min_eq_right (by omega), Nat.min_eq_right (by omega), List.drop_eq_nil_of_le (Nat.le_refl _), List.drop_eq_nil_of_le (by omega)]
    simp
theorem cut_to (xs : List V) (p : Nat) : cutV xs none (some (p : Int)) = xs.take p := by
  unfold cutV HT.sIx
  have h1 : ¬ ((p : Int) < 0) := by omega
  have e1 : ((p : Int)).toNat = p := by omega
  simp only [h1, if_false, e1, List.drop_zero, Nat.sub_zero]
  by_cases h : p ≤ xs.length
  · rw [Nat.min_eq_left h]
  · rw [Nat.min_eq_right (by omega), List.take_of_length_le (Nat.le_refl _), List.take_of_length_le (by omega)]
theorem cut_from (xs : List V) (p : Nat) : cutV xs (some (p : Int)) none = xs.drop p := by
  unfold cutV HT.sIx
  have h1 : ¬ ((p : Int) < 0) := by omega
  have e1 : ((p : Int)).toNat = p := by omega
  simp only [h1, if_false, e1]
  by_cases h : p ≤ xs.length
  · rw [Nat.min_eq_left h, List.take_of_length_le (by rw [List.length_drop]; omega)]
  · rw [Nat.min_eq_right (by omega), List.drop_eq_nil_of_le (Nat.le_refl _), List.drop_eq_nil_of_le (by omega)]
    simp
/-! ### equal data -/
section
variable {β : Type} {e : β → PyData} [DecidableEq β]
theorem eqvAll_map (h : ∀ a b, PyData.eqv (e a) (e b) = decide (a = b)) : ∀ xs ys : List β, PyData.eqvAll (xs.map e) (ys.map e) = decide (xs = ys)
  | [], [] => by simp [PyData.eqvAll]
  | [], _ :: _ => by simp [PyData.eqvAll]
  | _ :: _, [] => by simp [PyData.eqvAll]
  | x :: xs, y :: ys => by
    show PyData.eqvAll (e x :: xs.map e) (e y :: ys.map e) = _
    rw [PyData.eqvAll, h, eqvAll_map h xs ys]
    by_cases h1 : x = y
    · subst h1
      by_cases h2 : xs = ys
      · subst h2
        simp
      · simp [h2]
    · simp [h1]
theorem eqv_list (h : ∀ a b, PyData.eqv (e a) (e b) = decide (a = b)) (xs ys : List β) : PyData.eqv (.list (xs.map e)) (.list (ys.map e)) = decide (xs = ys) := by
  rw [PyData.eqv, eqvAll_map h]
theorem eqv_tuple (h : ∀ a b, PyData.eqv (e a) (e b) = decide (a = b)) (xs ys : List β) : PyData.eqv (.tuple (xs.map e)) (.tuple (ys.map e)) = decide (xs = ys) := by
  rw [PyData.eqv, eqvAll_map h]
end
theorem eqv_int (a b : Int) : PyData.eqv (.int a) (.int b) = decide (a = b) := by
  rw [PyData.eqv]
  by_cases h : a = b
  · subst h; simp
  · simp [h]
theorem eqv_eW (a b : Wd) : PyData.eqv (eW a) (eW b) = decide (a = b) := eqv_tuple eqv_int a b
theorem eqv_eS (a b : Stp) : PyData.eqv (eS a) (eS b) = decide (a = b) := by
  have h := eqv_tuple (e := PyData.int) eqv_int [((a.1 : Nat) : Int), ((a.2 : Nat) : Int)] [((b.1 : Nat) : Int), ((b.2 : Nat) : Int)]
  refine (show PyData.eqv (eS a) (eS b) = _ from h).trans ?_
  obtain ⟨a1, a2⟩ := a
  obtain ⟨b1, b2⟩ := b
  by_cases q : (a1, a2) = (b1, b2)
  · cases q
    simp
  · rw [decide_eq_false q, decide_eq_false]
    intro z
    simp only [List.cons.injEq, and_true] at z
    exact q (by rw [show a1 = b1 by omega, show a2 = b2 by omega])
theorem eqv_eC (a b : Chn) : PyData.eqv (eC a) (eC b) = decide (a = b) := eqv_list eqv_eS a b
theorem eqv_eR (a b : Rl) : PyData.eqv (eR a) (eR b) = decide (a = b) := by
  have h : PyData.eqv (eR a) (eR b) = PyData.eqvAll ([a.1, a.2].map eW) ([b.1, b.2].map eW) := by
    unfold eR
    rw [PyData.eqv]
    rfl
  rw [h, eqvAll_map eqv_eW]
  obtain ⟨a1, a2⟩ := a
  obtain ⟨b1, b2⟩ := b
  simp [Prod.mk.injEq]
/-! shapes -/
theorem lay_map {β : Type} {e : β → PyData} (h : ∀ b, (e b).canLay0 = true) : ∀ bs : List β, PyData.canLayAll0 (bs.map e) = true
  | [] => by simp [PyData.canLayAll0]
  | b :: bs => by
    show PyData.canLayAll0 (e b :: bs.map e) = true
    rw [PyData.canLayAll0, h b, lay_map h bs]
    rfl
theorem depth_map {β : Type} {e : β → PyData} {n : Nat} (h : ∀ b, (e b).depth ≤ n) : ∀ bs : List β, PyData.depthAll (bs.map e) ≤ n
  | [] => by simp [PyData.depthAll]
  | b :: bs => by
    show PyData.depthAll (e b :: bs.map e) ≤ n
    have h1 := h b
    have h2 := depth_map h bs
    rw [PyData.depthAll]
    omega
end SixW
namespace SixW
open PySem PySem.Spec PyProof.Rows L2 Six
theorem iteP {c A B : Prop} [Decidable c] (hc : c) (h : A) : if decide c = true then A else B := by
  rw [decide_eq_true hc]
  exact iteT h
theorem iteN {c A B : Prop} [Decidable c] (hc : ¬ c) (h : B) : if decide c = true then A else B := by
  rw [decide_eq_false hc]
  exact iteF h
theorem shaped_eW (w : Wd) : SeqAt.shaped (eW w) = true := by
  have h : PyData.depth (eW w) ≤ 64 := by
    unfold eW
    rw [PyData.depth]
    have := depth_map (e := PyData.int) (n := 0) (fun _ => by rw [PyData.depth]; exact Nat.le_refl _) w
    omega
  unfold SeqAt.shaped
  rw [decide_eq_true h, Bool.and_true]
  unfold eW
  rw [PyData.canLay0]
  exact lay_map (fun _ => by rw [PyData.canLay0]) w
/-- stands_at(left, word, place): whether; all else as it was -/
def spStands (K : PySem.W.Frag) : Sp := fun vs H Q _ => ∃ (x y : V) (l w : Wd) (p : Nat), vs = [x, y, .int (p : Int)] ∧ Dp K H x (eW l) ∧ Dp K H y (eW w) ∧ ∀ H', Same H H' → Q (.bl (stands l w p)) H'
section
variable {P : Program} {w : World} {K : PySem.W.Frag} {mg : Str → Option Value} {base : Heap} {f g : Addr} {fd gd : FuncData}
theorem scStands : FnScope ["left", "word", "place"] ["left", "word", "place"] (defScope sStands) := ⟨rfl, rfl, rfl, by decide +kernel, rfl, by decide +kernel, by decide +kernel⟩
theorem ok_stands (F : Fun K "stands_at" "stands_at" sStands f fd) (ml : mg "len" = none) : FnOk P w K mg base CX0 1 f fd ["left", "word", "place"] (spStands K) := by
  refine F.ok scStands (fun vs H Q E h => ?_) (fun cdv A outer s H vs Q E hr h => ?_)
  · obtain ⟨x, y, l, w, p, rfl, _⟩ := h
    rfl
  obtain ⟨x, y, l, w, p, rfl, hx, hy, q⟩ := h
  refine ⟨_, pss_one (ps_ret (pe_and (pe_cmpR op_le pe_int (pv 2) (nomark _)) (pe_one (pe_cmpR (op_eqD hr.units) (pe_slice sl_tupA (pv 1) (po_some (pv 2)) (po_some (pe_op op_add (pv 2) (pe_callB call_len_seq rfl ml PySem.boot_len (pa_cons (pv 0) pa_nil))))) (pv 0) (nomark _))))), ?_⟩
  obtain ⟨a, rfl, ha⟩ := dp_word hx
  obtain ⟨b, rfl, hb⟩ := dp_word hy
  refine ⟨_, rfl, _, _, rfl, rfl, _, rfl, ?_⟩
  refine iteP (by omega) ?_
  refine ⟨_, rfl, _, rfl, _, rfl, _, rfl, _, rfl, a, _, rfl, .inr ha, _, _, rfl, rfl, _, rfl, ?_⟩
  have hl : (l.map V.int).length = l.length := List.length_map _
  have ec : cutV (w.map V.int) (some (p : Int)) (some ((p : Int) + ((l.map V.int).length : Nat))) = ((w.drop p).take l.length).map V.int := by
    rw [hl, cut_mid, List.map_take, List.map_drop]
  have fin : ∀ {b' : Addr} {H' : Hp}, Same H H' → SqT K H' b' (((w.drop p).take l.length).map V.int) → tOp (rEqD K) (fun σ H Q => Q (.ref b') H) (tVar 0) (start ["left", "word", "place"] [.ref a, .ref b, .int (p : Int)]) H' Q := fun {b' H'} hs hq => by
    refine ⟨_, rfl, eW ((w.drop p).take l.length), eW l, word_dp hq, dp_same hs _ _ hx, shaped_eW _, shaped_eW _, ?_⟩
    rw [eqv_eW]
    exact q H' hs
  refine ⟨b, _, rfl, hb, fun hw => ?_, fun hw p' hp' => ?_⟩
  · refine fin (Same.refl H) ?_
    rw [← ec]
    unfold cutV
    rw [hw.1, hw.2, List.drop_zero, Nat.sub_zero, List.take_length]
    exact hb
  · refine fin (same_new hp' _) (SqT.of ?_)
    rw [ec, upd_same]
end
end SixW
namespace SixW
open PySem PySem.Spec PyProof.Rows L2 Six
/-! ### slices and sums of tuples, whether new or not -/
section
variable {K : PySem.W.Frag} {H : Hp} {Q : VK}
theorem slA_of {b : Addr} {ws : List V} {lo hi : Option Int} (h : SqT K H b ws) (q : ∀ b' H', Same H H' → SqT K H' b' (cutV ws lo hi) → Q (.ref b') H') : rSlA K (.ref b) lo hi H Q := by
  refine ⟨b, ws, rfl, h, fun hw => ?_, fun hw p hp => q p _ (same_new hp _) (SqT.of upd_same)⟩
  refine q b H (Same.refl H) ?_
  unfold cutV
  rw [hw.1, hw.2, List.drop_zero, Nat.sub_zero, List.take_length]
  exact h
theorem catA_of {a b : Addr} {xs ys : List V} (h : SqT K H a xs) (k : SqT K H b ys) (hz : xs.length + ys.length ≤ sizeLine) (q : ∀ c H', Same H H' → SqT K H' c (xs ++ ys) → Q (.ref c) H') : rCatA K (.ref a) (.ref b) H Q := by
  refine ⟨a, b, xs, ys, rfl, rfl, h, k, hz, fun e => ?_, fun _ e => ?_, fun _ _ p hp => q p _ (same_new hp _) (SqT.of upd_same)⟩
  · subst e
    exact q b H (Same.refl H) k
  · subst e
    refine q a H (Same.refl H) ?_
    rw [List.append_nil]
    exact h
end
theorem smallL {n : Nat} (h : n ≤ 1000000) : n ≤ sizeLine := Nat.le_trans h (by decide)
/-- put(words, word, step): a word; all else as it was -/
def spPut (K : PySem.W.Frag) : Sp := fun vs H Q _ => ∃ (x y z : V) (L : Int) (R : List Rl) (E : List Int) (w : Wd) (s : Stp), vs = [x, y, z] ∧ Dp K H x (eWs L R E) ∧ Dp K H y (eW w) ∧ Dp K H z (eS s) ∧ s.1 < R.length ∧ w.length ≤ 1000 ∧ (rl R s.1).2.length ≤ 1000 ∧
  ∀ r H', Same H H' → Dp K H' r (eW (Six.putF R w s)) → Q r H'
section
variable {P : Program} {w : World} {K : PySem.W.Frag} {mg : Str → Option Value} {base : Heap} {f g : Addr} {fd gd : FuncData}
theorem scPut : FnScope ["words", "word", "step", "number", "place", "left", "right"] ["words", "word", "step"] (defScope sPut) := ⟨rfl, rfl, rfl, by decide +kernel, rfl, by decide +kernel, by decide +kernel⟩
theorem ok_put (F : Fun K "put" "put" sPut f fd) (ml : mg "len" = none) : FnOk P w K mg base CX0 1 f fd ["words", "word", "step"] (spPut K) := by
  refine F.ok scPut (fun vs H Q E h => ?_) (fun cdv A outer s H vs Q E hr h => ?_)
  · obtain ⟨x, y, z, _, _, _, _, _, rfl, _⟩ := h
    rfl
  obtain ⟨x, y, z, L, R, E, w, s, rfl, hx, hy, hz, hs, hw, hv, q⟩ := h
  refine ⟨_, pss_cons (ps_asg (pv 2) (pg_tup (by rfl) (pgs_cons (pg_name (i := 3) scPut.nd rfl (Or.inl rfl)) (pgs_cons (pg_name (i := 4) scPut.nd rfl (Or.inl rfl)) pgs_nil))))
    (pss_cons (ps_asg (pe_ix ix_list (pe_ix ix_tup (pv 0) pe_int (fun _ _ => rfl)) (pv 3) (fun _ _ => rfl)) (pg_tup (by rfl) (pgs_cons (pg_name (i := 5) scPut.nd rfl (Or.inl rfl)) (pgs_cons (pg_name (i := 6) scPut.nd rfl (Or.inl rfl)) pgs_nil))))
    (pss_one (ps_ret (pe_op op_catA (pe_op op_catA (pe_slice sl_tupA (pv 1) po_none (po_some (pv 4))) (pv 6))
      (pe_slice sl_tupA (pv 1) (po_some (pe_op op_add (pv 4) (pe_callB call_len_seq rfl ml PySem.boot_len (pa_cons (pv 5) pa_nil)))) po_none))))), ?_⟩
  obtain ⟨c, r, e, xs, rfl, hc, hr1, hra, he⟩ := dp_words hx
  obtain ⟨b, rfl, hb⟩ := dp_word hy
  obtain ⟨t, rfl, ht⟩ := dp_step hz
  obtain ⟨x1, hx1, hd1⟩ := rule_at hra hs
  obtain ⟨ra, lv, rv, rfl, hrt, hlv, hrv⟩ := dp_pair hd1
  obtain ⟨la, rfl, hla⟩ := dp_word hlv
  obtain ⟨rb, rfl, hrb⟩ := dp_word hrv
  refine ⟨_, rfl, t, _, rfl, ht, rfl, _, _, rfl, _, _, rfl, rfl, ?_⟩
  refine ⟨_, rfl, c, _, 1, _, rfl, rfl, hc, atI_nat (j := 1) rfl, _, rfl, r, xs, _, _, rfl, rfl, hr1, atI_nat hx1, ra, _, rfl, hrt, rfl, _, _, rfl, _, _, rfl, rfl, ?_⟩
  refine ⟨_, rfl, _, rfl, _, rfl, slA_of hb fun b1 H1 g1 h1 => ?_⟩
  refine ⟨_, rfl, ?_⟩
  refine catA_of h1 (SixW.Same.seqT g1 hrb) ?_ fun b2 H2 g2 h2 => ?_
  · rw [cut_to, List.length_take, List.length_map, List.length_map]
    exact smallL (by omega)
  refine ⟨_, rfl, _, rfl, _, rfl, la, _, rfl, .inr (SixW.Same.seqT (g1.trans g2) hla), _, _, rfl, rfl, _, rfl, ?_⟩
  unfold tNoPart
  refine slA_of (SixW.Same.seqT (g1.trans g2) hb) fun b3 H3 g3 h3 => ?_
  refine catA_of (SixW.Same.seqT g3 h2) h3 ?_ fun b4 H4 g4 h4 => ?_
  · rw [List.length_append, cut_to, List.length_take, List.length_map, List.length_map]
    have := cutV_length (w.map V.int) (some (((s.2 : Nat) : Int) + ((((rl R s.1).1.map V.int).length : Nat) : Int))) none
    have h0 : (w.map V.int).length = w.length := List.length_map _
    exact smallL (by omega)
  refine q _ H4 (g1.trans (g2.trans (g3.trans g4))) (word_dp ?_)
  have e1 : (((s.2 : Nat) : Int) + ((((rl R s.1).1.map V.int).length : Nat) : Int)) = (((s.2 + (rl R s.1).1.length : Nat) : Nat) : Int) := by rw [List.length_map]; omega
  rw [e1, cut_to, cut_from] at h4
  unfold Six.putF
  rw [List.map_append, List.map_append, List.map_take, List.map_drop]
  exact h4
end
end SixW
namespace SixW
open PySem PySem.Spec PyProof.Rows L2 Six
/-- steps(words, word): a new list of them; all else as it was -/
def spSteps (K : PySem.W.Frag) : Sp := fun vs H Q _ => ∃ (x y : V) (L : Int) (R : List Rl) (E : List Int) (w : Wd), vs = [x, y] ∧ Dp K H x (eWs L R E) ∧ Dp K H y (eW w) ∧ R.length ≤ 100 ∧ w.length ≤ 100 ∧
  ∀ r H', Same H H' → Dp K (lim H H') r (.list ((stepsF R w).map eS)) → Q r H'
theorem rowS_part (R : List Rl) (w : Wd) (i j : Nat) : (((List.range (j + 1)).filter (stands (rl R i).1 w)).map fun p => ((i, p) : Stp)) =
    (((List.range j).filter (stands (rl R i).1 w)).map fun p => ((i, p) : Stp)) ++ (if stands (rl R i).1 w j = true then [(i, j)] else []) := by
  rw [List.range_succ, List.filter_append, List.map_append]
  congr 1
  by_cases h : stands (rl R i).1 w j = true
  · rw [if_pos h, List.filter_cons_of_pos h]
    rfl
  · rw [if_neg h, List.filter_cons_of_neg h]
    rfl
section
variable {P : Program} {w : World} {K : PySem.W.Frag} {mg : Str → Option Value} {base : Heap} {f g : Addr} {fd gd : FuncData}
theorem scSteps : FnScope ["words", "word", "found", "number", "rule", "place"] ["words", "word"] (defScope sSteps) := ⟨rfl, rfl, rfl, by decide +kernel, rfl, by decide +kernel, by decide +kernel⟩
theorem ok_steps (F : Fun K "steps" "steps" sSteps f fd) (G : FnOk P w K mg base CX0 1 g gd ["left", "word", "place"] (spStands K)) (bG : Binds K gd ["left", "word", "place"] []) (kG : PySem.W.keepIn K (.ref g) = true) (mG : mg "stands_at" = some (.ref g))
    (ml : mg "len" = none) (me : mg "enumerate" = none) (mr : mg "range" = none) : FnOk P w K mg base CX0 2 f fd ["words", "word"] (spSteps K) := by
  refine F.ok scSteps (fun vs H Q E h => ?_) (fun cdv A outer s H vs Q E hr h => ?_)
  · obtain ⟨x, y, _, _, _, _, rfl, _⟩ := h
    rfl
  obtain ⟨x, y, L, R, E, w, rfl, hx, hy, hR, hw, q⟩ := h
  refine ⟨_, pss_cons (ps_set (i := 2) scSteps.nd rfl (Or.inl rfl) (pe_lst pa_nil))
    (pss_cons (ps_for PassesOwn.never rfl (pi_enum (by rfl) me (pa_cons (pe_ix ix_tup (pv 0) pe_int (fun _ _ => rfl)) pa_nil)) (pg_tup rfl (pgs_cons (pg_name (i := 3) scSteps.nd rfl (Or.inl rfl)) (pgs_cons (pg_name (i := 4) scSteps.nd rfl (Or.inl rfl)) pgs_nil)))
      (pss_one (ps_for PassesOwn.never rfl (pi_range1 rfl mr (pa_cons (pe_callB call_len_seq rfl ml PySem.boot_len (pa_cons (pv 1) pa_nil)) pa_nil)) (pg_name (i := 5) scSteps.nd rfl (Or.inl rfl))
        (pss_one (ps_if (pt_val (pe_call G hr rfl mG kG bG .nil pass0 (pa_cons (pe_ix ix_tup (pv 4) pe_int (fun _ _ => rfl)) (pa_cons (pv 1) (pa_cons (pv 5) pa_nil)))))
          (pss_one (ps_expr (pe_bm PySem.F.plainAttrs_list PySem.F.slot_list_append PySem.F.type_list_append mt_append (pv 2) (pa_cons (pe_tup (pa_cons (pv 3) (pa_cons (pv 5) pa_nil))) pa_nil)))) pss_nil)))))
    (pss_one (ps_ret (pv 2)))), ?_⟩
  obtain ⟨c, r, e, rs, rfl, hc, hr1, hra, he⟩ := dp_words hx
  obtain ⟨b, rfl, hb⟩ := dp_word hy
  refine ⟨(by show 0 ≤ sizeLine; decide), fun fa hf => ?_⟩
  have s0 : Same H (upd H fa (.lst [])) := same_new hf _
  refine ⟨_, rfl, c, _, 1, _, rfl, rfl, SixW.Same.seqT s0 hc, atI_nat (j := 1) rfl, r, rs, rfl, s0.seq hr1, ?_⟩
  have hrl : rs.length = R.length := by rw [all_len hra, List.length_map]
  refine for_it (walk_enum (K := K) (a := r) (xs := rs)) (fun i σ H1 => ∃ (xs : List V) (v3 v4 v5 : Option V), σ = [some (.ref c), some (.ref b), some (.ref fa), v3, v4, v5] ∧ H1 fa = some (.lst xs) ∧ Same H (hide fa H1) ∧ DpAll K (hide fa H1) xs (((List.range i).flatMap (rowS R w)).map eS))
    ⟨[], none, none, none, rfl, upd_same, hide_of hf s0, .nil⟩ (fun i σ H1 _ ⟨_, _, _, _, _, _, g1, _⟩ => (g1.trans hide_le).seq hr1) ?_ ?_
  · rintro i x0 σ H1 H2 hi ⟨xs, v3, v4, v5, rfl, k1, g1, d1⟩ ⟨T, n0, x1, rfl, hT, rfl, e0, hx1⟩
    cases e0
    obtain ⟨rr, hrr, hd⟩ := all_map_at hra hx1
    have hiR : i < R.length := by omega
    have err : rr = rl R i := by
      unfold rl
      rw [List.getD_eq_getElem?_getD, hrr]
      rfl
    subst err
    have g2 : Same H (upd H1 T (.tup [.int (i : Nat), x1])) := (g1.trans hide_le).trans (same_new hT _)
    have fT : fa ≠ T := ne_of_none k1 hT
    refine ⟨T, _, rfl, SqT.of upd_same, rfl, _, _, rfl, _, _, rfl, rfl, ?_⟩
    refine ⟨_, rfl, b, _, rfl, .inr (SixW.Same.seqT g2 hb), (w.length : Int), by rw [List.length_map], by omega, by omega, ?_⟩
    refine for_range (lo := 0) (n := w.length) (fun j σ H3 => ∃ (xs : List V) (v5 : Option V), σ = [some (.ref c), some (.ref b), some (.ref fa), some (.int (i : Nat)), some x1, v5] ∧ H3 fa = some (.lst xs) ∧ Same H (hide fa H3) ∧
        DpAll K (hide fa H3) xs (((List.range i).flatMap (rowS R w) ++ (((List.range j).filter (stands (rl R i).1 w)).map fun p => ((i, p) : Stp))).map eS))
      ⟨xs, v5, rfl, by rw [upd_ne fT]; exact k1, hide_of hf g2, ?_⟩ ?_ ?_
    · show DpAll K _ xs (((List.range i).flatMap (rowS R w) ++ []).map eS)
      rw [List.append_nil]
      exact all_same (hide_new hT _) _ _ d1
    · rintro j σ H3 hj ⟨ys, w5, rfl, k3, g3, d3⟩
      have hd3 := dp_same (g3.trans hide_le) _ _ hd
      obtain ⟨ra, lv, rv, rfl, hrt, hlv, hrv⟩ := dp_pair hd3
      refine ⟨_, rfl, ra, _, 0, lv, rfl, rfl, hrt, atI_nat (j := 0) rfl, _, rfl, _, rfl, lv, .ref b, (rl R i).1, w, j, ?_, hlv, dp_same (g3.trans hide_le) _ _ hy, fun H4 g4 => ?_⟩
      · show [lv, V.ref b, V.int (0 + (j : Int))] = [lv, V.ref b, V.int (j : Int)]
        rw [Int.zero_add]
      · refine ⟨_, rfl, ?_⟩
        have k4 := g4 _ _ k3
        have gg : Same H (hide fa H4) := g3.trans (hide_same g4)
        have d4 := all_same (hide_same g4) _ _ d3
        refine ite2 (fun hst => ?_) (fun hst => ?_)
        · refine ⟨_, rfl, .inl ⟨rfl, _, SqL.of k4⟩, _, rfl, _, rfl, (by show 2 ≤ sizeLine; decide), fun t ht => ?_⟩
          have ft : fa ≠ t := ne_of_none k4 ht
          have k5 : upd H4 t (.tup [.int (i : Nat), .int (0 + (j : Int))]) fa = some (.lst ys) := by rw [upd_ne ft]; exact k4
          have hys : ys.length ≤ 100 * 100 + 100 := by
            rw [all_len d4, List.length_map, List.length_append]
            have h1 : ((List.range i).flatMap (rowS R w)).length ≤ (List.range i).length * 100 := flatMap_count fun a _ => by
              unfold rowS
              rw [List.length_map]
              exact Nat.le_trans (List.length_filter_le _ _) (by rw [List.length_range]; exact hw)
            have h2 : (((List.range j).filter (stands (rl R i).1 w)).map fun p => ((i, p) : Stp)).length ≤ j := by
              rw [List.length_map]
              exact Nat.le_trans (List.length_filter_le _ _) (by rw [List.length_range]; exact Nat.le_refl _)
            rw [List.length_range] at h1
            omega
          refine ⟨fa, ys, _, rfl, rfl, k5, Nat.lt_of_le_of_lt hys (by decide), ?_⟩
          refine ⟨ys ++ [.ref t], _, rfl, upd_same, ?_, ?_⟩
          · rw [hide_upd]
            exact gg.trans (hide_new ht _)
          · rw [hide_upd, rowS_part, if_pos hst, ← List.append_assoc, List.map_append]
            refine all_append (all_same (hide_new ht _) _ _ d4) (.cons (step_dp (SqT.of ?_)) .nil)
            refine hide_some.mpr ⟨Ne.symm ft, ?_⟩
            rw [upd_same, Int.zero_add]
        · refine ⟨ys, _, rfl, k4, gg, ?_⟩
          rw [rowS_part, if_neg hst, List.append_nil]
          exact d4
    · rintro σ H3 ⟨ys, w5, rfl, k3, g3, d3⟩
      refine ⟨ys, _, _, _, rfl, k3, g3, ?_⟩
      rw [List.range_succ, List.flatMap_append]
      show DpAll K _ ys (((List.range i).flatMap (rowS R w) ++ (rowS R w i ++ [])).map eS)
      rw [List.append_nil]
      exact d3
  · rintro σ H3 ⟨ys, _, _, _, rfl, k3, g3, d3⟩
    refine ⟨_, rfl, q _ _ (g3.trans hide_le) ?_⟩
    rw [hrl] at d3
    refine .lst (SqL.of (lim_lst k3 hf)) ?_
    exact all_nl ((nl_same hide_le).trans nl_lim) _ _ (noL_map noL_eS _) d3
end
end SixW
namespace SixW
open PySem PySem.Spec PyProof.Rows L2 Six
theorem hu65 {k : Nat} {A : Around} (hr : Room k A) : A.units + 65 < cLine := by
  have := hr.un
  omega
/-! ### shapes -/
theorem shaped_of {d : PyData} (h1 : d.canLay0 = true) (h2 : d.depth ≤ 60) : SeqAt.shaped d = true := by
  have h : d.depth ≤ 64 := by omega
  unfold SeqAt.shaped
  rw [decide_eq_true h, Bool.and_true]
  exact h1
theorem lay_int (i : Int) : (PyData.int i).canLay0 = true := by rw [PyData.canLay0]
theorem dep_int (i : Int) : (PyData.int i).depth ≤ 0 := by rw [PyData.depth]; exact Nat.le_refl _
theorem lay_list {β : Type} {e : β → PyData} (h : ∀ b, (e b).canLay0 = true) (bs : List β) : (PyData.list (bs.map e)).canLay0 = true := by
  rw [PyData.canLay0]
  exact lay_map h bs
theorem lay_tuple {β : Type} {e : β → PyData} (h : ∀ b, (e b).canLay0 = true) (bs : List β) : (PyData.tuple (bs.map e)).canLay0 = true := by
  rw [PyData.canLay0]
  exact lay_map h bs
theorem dep_list {β : Type} {e : β → PyData} {n : Nat} (h : ∀ b, (e b).depth ≤ n) (bs : List β) : (PyData.list (bs.map e)).depth ≤ n + 1 := by
  rw [PyData.depth]
  exact Nat.succ_le_succ (depth_map h bs)
theorem dep_tuple {β : Type} {e : β → PyData} {n : Nat} (h : ∀ b, (e b).depth ≤ n) (bs : List β) : (PyData.tuple (bs.map e)).depth ≤ n + 1 := by
  rw [PyData.depth]
  exact Nat.succ_le_succ (depth_map h bs)
theorem lay_eW (w : Wd) : (eW w).canLay0 = true := lay_tuple lay_int w
theorem dep_eW (w : Wd) : (eW w).depth ≤ 1 := dep_tuple dep_int w
theorem lay_eS (s : Stp) : (eS s).canLay0 = true := lay_tuple lay_int [((s.1 : Nat) : Int), ((s.2 : Nat) : Int)]
theorem dep_eS (s : Stp) : (eS s).depth ≤ 1 := dep_tuple dep_int [((s.1 : Nat) : Int), ((s.2 : Nat) : Int)]
theorem lay_eC (c : Chn) : (eC c).canLay0 = true := lay_list lay_eS c
theorem dep_eC (c : Chn) : (eC c).depth ≤ 2 := dep_list dep_eS c
theorem eR_eq (r : Rl) : eR r = .tuple ([r.1, r.2].map eW) := rfl
theorem lay_eR (r : Rl) : (eR r).canLay0 = true := by rw [eR_eq]; exact lay_tuple lay_eW _
theorem dep_eR (r : Rl) : (eR r).depth ≤ 2 := by rw [eR_eq]; exact dep_tuple dep_eW _
theorem any_eS {ss : List Stp} {s : Stp} : ((ss.map eS).any fun z => PyData.eqv z (eS s)) = decide (s ∈ ss) := by
  induction ss with
  | nil => rfl
  | cons t ss ih =>
    rw [List.map_cons, List.any_cons, ih, eqv_eS]
    by_cases h : t = s
    · subst h; simp
    · by_cases k : s ∈ ss <;> simp [h, k, Ne.symm h, eq_comm]
section
variable {K : PySem.W.Frag} {H : Hp}
theorem all_snoc : ∀ {ds : List PyData} {d : PyData} {xs : List V}, DpAll K H xs (ds ++ [d]) → ∃ ys y, xs = ys ++ [y] ∧ DpAll K H ys ds ∧ Dp K H y d
  | [], d, xs, h => by
    have h' : DpAll K H xs [d] := h
    cases h' with
    | cons h1 t =>
      cases t
      exact ⟨[], _, rfl, .nil, h1⟩
  | e :: ds, d, xs, h => by
    have h' : DpAll K H xs (e :: (ds ++ [d])) := h
    cases h' with
    | cons h1 t =>
      obtain ⟨ys, y, rfl, k1, k2⟩ := all_snoc t
      exact ⟨_ :: ys, y, rfl, .cons h1 k1, k2⟩
end
theorem rl_len {Ln : Nat} {R : List Rl} {w : Wd} {s : Stp} (hR : RulesOk Ln R) (hs : s ∈ stepsF R w) : s.1 < R.length ∧ (rl R s.1).2.length ≤ w.length := by
  obtain ⟨a, b, _, _, h1, hl⟩ := step_parts hR hs
  have := (hR _ (rl_mem h1)).1
  exact ⟨h1, by omega⟩
/-- gone_along(words, word, chain) of a chain that goes: its words, a new list -/
def spGone (K : PySem.W.Frag) : Sp := fun vs H Q _ => ∃ (x y z : V) (L : Int) (Ln : Nat) (R : List Rl) (E : List Int) (w : Wd) (c : Chn), vs = [x, y, z] ∧ Dp K H x (eWs L R E) ∧ Dp K H y (eW w) ∧ Dp K H z (eC c) ∧ RulesOk Ln R ∧ R.length ≤ 100 ∧ w.length ≤ 100 ∧ c.length ≤ 100 ∧ Valid R w c ∧
  ∀ r H', Same H H' → Dp K (lim H H') r (.list ((wordsF R w c).map eW)) → Q r H'
section
variable {P : Program} {w : World} {K : PySem.W.Frag} {mg : Str → Option Value} {base : Heap} {f g g2 : Addr} {fd gd gd2 : FuncData}
theorem scGone : FnScope ["words", "word", "chain", "found", "step"] ["words", "word", "chain"] (defScope sGone) := ⟨rfl, rfl, rfl, by decide +kernel, rfl, by decide +kernel, by decide +kernel⟩
theorem ok_gone (F : Fun K "gone_along" "gone_along" sGone f fd) (G : FnOk P w K mg base CX0 2 g gd ["words", "word"] (spSteps K)) (bG : Binds K gd ["words", "word"] []) (kG : PySem.W.keepIn K (.ref g) = true) (mG : mg "steps" = some (.ref g))
    (G2 : FnOk P w K mg base CX0 1 g2 gd2 ["words", "word", "step"] (spPut K)) (bG2 : Binds K gd2 ["words", "word", "step"] []) (kG2 : PySem.W.keepIn K (.ref g2) = true) (mG2 : mg "put" = some (.ref g2)) : FnOk P w K mg base CX0 3 f fd ["words", "word", "chain"] (spGone K) := by
  refine F.ok scGone (fun vs H Q E h => ?_) (fun cdv A outer s H vs Q E hr h => ?_)
  · obtain ⟨x, y, z, _, _, _, _, _, _, rfl, _⟩ := h
    rfl
  obtain ⟨x, y, z, L, Ln, R, E, w, c, rfl, hx, hy, hz, hok, hR, hw, hc, hv, q⟩ := h
  refine ⟨_, pss_cons (ps_set (i := 3) scGone.nd rfl (Or.inl rfl) (pe_lst (pa_cons (pv 1) pa_nil)))
    (pss_cons (ps_for PassesOwn.never rfl (pi_list (pv 2)) (pg_name (i := 4) scGone.nd rfl (Or.inl rfl))
      (pss_cons (ps_if (pt_cmpR (op_notInD (hu65 hr)) (pv 4) (pe_call G hr rfl mG kG bG .nil pass0 (pa_cons (pv 0) (pa_cons (pe_ix ix_list (pv 3) (pe_un un_neg pe_int) (fun _ _ => rfl)) pa_nil))) (by rfl)) (pss_one ps_break) pss_nil)
      (pss_one (ps_expr (pe_bm PySem.F.plainAttrs_list PySem.F.slot_list_append PySem.F.type_list_append mt_append (pv 3)
        (pa_cons (pe_call G2 (hr.mono (by decide)) rfl mG2 kG2 bG2 .nil pass0 (pa_cons (pv 0) (pa_cons (pe_ix ix_list (pv 3) (pe_un un_neg pe_int) (fun _ _ => rfl)) (pa_cons (pv 4) pa_nil)))) pa_nil))))))
    (pss_one (ps_ret (pv 3)))), ?_⟩
  obtain ⟨ca, cs, rfl, hcl, hca⟩ := dp_lst hz
  refine ⟨_, rfl, (by show 1 ≤ sizeLine; decide), fun fa hf => ?_⟩
  have s0 : Same H (upd H fa (.lst [y])) := same_new hf _
  refine ⟨_, rfl, ca, rfl, ⟨_, s0.seq hcl⟩, ?_⟩
  have hcs : cs.length = c.length := by rw [all_len hca, List.length_map]
  refine for_list (xs := cs) (fun i σ H1 => ∃ (xs : List V) (ws : List Wd) (wi : Wd) (v4 : Option V), σ = [some x, some y, some (.ref ca), some (.ref fa), v4] ∧ H1 fa = some (.lst xs) ∧ Same H (hide fa H1) ∧ DpAll K (hide fa H1) xs ((ws ++ [wi]).map eW) ∧
      ws.length = i ∧ wi.length = w.length ∧ Valid R wi (c.drop i) ∧ ws ++ wordsF R wi (c.drop i) = wordsF R w c)
    ⟨[y], [], w, none, rfl, upd_same, hide_of hf s0, .cons (dp_same (hide_of hf s0) _ _ hy) .nil, rfl, rfl, hv, rfl⟩ (fun i σ H1 _ ⟨_, _, _, _, _, _, g1, _⟩ => (g1.trans hide_le).seq hcl) ?_ ?_
  · rintro i x0 σ H1 hx0 ⟨xs, ws, wi, v4, rfl, k1, g1, d1, e1, e2, hvi, e3⟩
    obtain ⟨st, hst, hd⟩ := all_map_at hca hx0
    have hdrop : c.drop i = st :: c.drop (i + 1) := by
      obtain ⟨hi, e⟩ := List.getElem?_eq_some_iff.mp hst
      rw [List.drop_eq_getElem_cons hi, e]
    rw [hdrop] at hvi e3
    obtain ⟨hmem, hvn⟩ := hvi
    obtain ⟨ys, yl, rfl, dys, dyl⟩ : ∃ ys y, xs = ys ++ [y] ∧ DpAll K (hide fa H1) ys (ws.map eW) ∧ Dp K (hide fa H1) y (eW wi) := all_snoc (by rw [List.map_append] at d1; exact d1)
    refine ⟨_, rfl, _, rfl, _, rfl, 1, rfl, fa, _, -1, _, rfl, rfl, SqL.of k1, atI_last ys yl, ?_⟩
    refine ⟨x, yl, L, R, E, wi, rfl, dp_same (g1.trans hide_le) _ _ hx, dp_same hide_le _ _ dyl, hR, by omega, fun r2 H2 g2 h2 => ?_⟩
    have gg2 : Same H (hide fa H2) := g1.trans (hide_same g2)
    refine ⟨eS st, (stepsF R wi).map eS, dp_same (gg2.trans hide_le) _ _ hd, dp_same lim_le _ _ h2, shaped_of (lay_eS st) (Nat.le_trans (dep_eS st) (by decide)), shaped_of (lay_list lay_eS _) (Nat.le_trans (dep_list dep_eS _) (by decide)), _, rfl, ?_⟩
    rw [any_eS, decide_eq_true hmem]
    refine iteF ?_
    have k2 := g2 _ _ k1
    refine ⟨_, rfl, .inl ⟨rfl, _, SqL.of k2⟩, _, rfl, _, rfl, 1, rfl, fa, _, -1, _, rfl, rfl, SqL.of k2, atI_last ys yl, _, rfl, ?_⟩
    obtain ⟨l1, l2⟩ := rl_len hok hmem
    refine ⟨x, yl, x0, L, R, E, wi, st, rfl, dp_same (gg2.trans hide_le) _ _ hx, dp_same (hide_le.trans g2) _ _ dyl, dp_same (gg2.trans hide_le) _ _ hd, l1, by omega, by omega, fun r3 H3 g3 h3 => ?_⟩
    have k3 := g3 _ _ k2
    have hlen : (ys ++ [yl]).length ≤ 101 := by
      rw [List.length_append, all_len dys, List.length_map, e1]
      have := (List.getElem?_eq_some_iff.mp hst).1
      show i + 1 ≤ 101
      omega
    refine ⟨fa, _, r3, rfl, rfl, k3, Nat.lt_of_le_of_lt hlen (by decide), ?_⟩
    refine ⟨ys ++ [yl] ++ [r3], ws ++ [wi], Six.putF R wi st, _, rfl, upd_same, ?_, ?_, ?_, ?_, hvn, ?_⟩
    · rw [hide_upd]
      exact gg2.trans (hide_same g3)
    · rw [hide_upd, List.map_append]
      refine all_append (all_same (hide_same (g2.trans g3)) _ _ d1) (.cons (dp_nl (nl_hide k3) _ _ (noL_eW _) h3) .nil)
    · rw [List.length_append, e1] <;> rfl
    · rw [put_len hok hmem, e2]
    · rw [← e3, List.append_assoc] <;> rfl
  · rintro σ H3 ⟨xs, ws, wi, v4, rfl, k3, g3, d3, e1, e2, hvi, e3⟩
    refine ⟨_, rfl, q _ _ (g3.trans hide_le) ?_⟩
    rw [hcs, List.drop_length] at e3
    rw [← e3]
    refine .lst (SqL.of (lim_lst k3 hf)) ?_
    exact all_nl ((nl_same hide_le).trans nl_lim) _ _ (noL_map noL_eW _) d3
end
end SixW
namespace SixW
open PySem PySem.Spec PyProof.Rows L2 Six
/-- is_at_end(words, word): whether; all else as it was -/
def spAtEnd (K : PySem.W.Frag) : Sp := fun vs H Q _ => ∃ (x y : V) (L : Int) (R : List Rl) (E : List Int) (w : Wd), vs = [x, y] ∧ Dp K H x (eWs L R E) ∧ Dp K H y (eW w) ∧ w.length ≤ 1000 ∧ ∀ H', Same H H' → Q (.bl (atEnd E w)) H'
/-- chain_words(words, word, chain) of a chain that goes -/
def spChainW (K : PySem.W.Frag) : Sp := fun vs H Q _ => ∃ (x y z : V) (L : Int) (Ln : Nat) (R : List Rl) (E : List Int) (w : Wd) (c : Chn), vs = [x, y, z] ∧ Dp K H x (eWs L R E) ∧ Dp K H y (eW w) ∧ Dp K H z (eC c) ∧ RulesOk Ln R ∧ R.length ≤ 100 ∧ w.length ≤ 100 ∧ c.length ≤ 100 ∧ Valid R w c ∧
  ∀ r H', Same H H' → Dp K (lim H H') r (.list ((wordsF R w c).map eW)) → Q r H'
section
variable {P : Program} {w : World} {K : PySem.W.Frag} {mg : Str → Option Value} {base : Heap} {f g g2 : Addr} {fd gd gd2 : FuncData}
theorem scAtEnd : FnScope ["words", "word", "letter"] ["words", "word"] (defScope sAtEnd) := ⟨rfl, rfl, rfl, by decide +kernel, rfl, by decide +kernel, by decide +kernel⟩
theorem inV_ints (l : Int) : ∀ E : List Int, inV (.int l) (E.map V.int) = E.any fun e => e == l
  | [] => rfl
  | e :: E => by
    have ih := inV_ints l E
    unfold inV at ih ⊢
    rw [List.map_cons, List.any_cons, List.any_cons, ih]
    rfl
theorem flat_ints : ∀ E : List Int, (E.map V.int).all flatV = true
  | [] => rfl
  | e :: E => flat_ints E
theorem ok_atEnd (F : Fun K "is_at_end" "is_at_end" sAtEnd f fd) (ma : mg "all" = none) : FnOk P w K mg base CX0 1 f fd ["words", "word"] (spAtEnd K) := by
  refine F.ok scAtEnd (fun vs H Q E h => ?_) (fun cdv A outer s H vs Q E hr h => ?_)
  · obtain ⟨x, y, _, _, _, _, rfl, _⟩ := h
    rfl
  obtain ⟨x, y, L, R, E, w, rfl, hx, hy, hw, q⟩ := h
  refine ⟨_, pss_one (ps_ret (pe_callB (cr_all rfl) (by rfl) ma (by decide +kernel) (pa_cons (pe_lc (own := [("letter", 2)]) (g := gName 2) (tt := tYes) rfl scAtEnd.nd (pi_tup (pv 1)) (blkOk_by (N := ["words", "word", "letter"]) (sc := defScope sAtEnd) (by decide +kernel))
    (fun _ _ _ _ _ => pg_name (i := 2) scAtEnd.nd rfl (Or.inl rfl)) (fun _ _ _ _ _ => pts_nil) (fun _ _ _ _ _ => pe_cmpR (r := rIn K false) op_in_seq (pv 2) (pe_ix (r := rIxT K) ix_tup (pv 0) pe_int (fun _ _ => rfl)) (by rfl))) pa_nil))), ?_⟩
  obtain ⟨c, r, e, rs, rfl, hc, hr1, hra, he⟩ := dp_words hx
  obtain ⟨b, rfl, hb⟩ := dp_word hy
  refine ⟨_, rfl, b, rfl, ⟨_, hb⟩, fun D hD => ?_⟩
  have s0 : Same H (upd H D (.lst [])) := same_new hD _
  refine lc_tup (K := K) (xs := w.map V.int) (fun i H1 => Same H (hide D H1) ∧ H1 D = some (.lst (((w.take i).map fun l => E.any fun e => e == l).map V.bl))) ⟨hide_of hD s0, upd_same⟩ (fun i H1 _ p => SixW.Same.seqT (p.1.trans hide_le) hb) ?_ ?_
  · rintro i x0 H1 hx0 ⟨g1, k1⟩
    rw [List.getElem?_map] at hx0
    obtain ⟨l, hl, rfl⟩ := Option.map_eq_some_iff.mp hx0
    have hi : i < w.length := (List.getElem?_eq_some_iff.mp hl).1
    refine ⟨rfl, ?_⟩
    refine ⟨_, rfl, _, rfl, c, _, 2, _, rfl, rfl, SixW.Same.seqT (g1.trans hide_le) hc, atI_nat (j := 2) rfl, e, _, rfl, .inl ((g1.trans hide_le).seq he), rfl, flat_ints E, ?_⟩
    refine ⟨_, k1, ?_, ?_, ?_⟩
    · rw [List.length_map, List.length_map, List.length_take]
      exact Nat.lt_of_le_of_lt (show min i w.length ≤ 1000 by omega) (by decide)
    · rw [hide_upd]
      exact g1
    · rw [upd_same, List.take_add_one, hl, List.map_append, List.map_append]
      show some (HO.lst (_ ++ [V.bl (inV (.int l) (E.map V.int))])) = _
      rw [inV_ints] <;> rfl
  · rintro H1 ⟨g1, k1⟩
    rw [List.length_map, List.take_length] at k1
    refine ⟨D, _, rfl, SqL.of k1, ?_⟩
    have := q H1 (g1.trans hide_le)
    unfold atEnd at this
    rw [List.all_map]
    exact this
theorem scChainW : FnScope ["words", "word", "chain", "found"] ["words", "word", "chain"] (defScope sChainW) := ⟨rfl, rfl, rfl, by decide +kernel, rfl, by decide +kernel, by decide +kernel⟩
theorem ok_chainW (F : Fun K "chain_words" "chain_words" sChainW f fd) (G : FnOk P w K mg base CX0 3 g gd ["words", "word", "chain"] (spGone K)) (bG : Binds K gd ["words", "word", "chain"] []) (kG : PySem.W.keepIn K (.ref g) = true) (mG : mg "gone_along" = some (.ref g))
    (ml : mg "len" = none) : FnOk P w K mg base CX0 4 f fd ["words", "word", "chain"] (spChainW K) := by
  refine F.ok scChainW (fun vs H Q E h => ?_) (fun cdv A outer s H vs Q E hr h => ?_)
  · obtain ⟨x, y, z, _, _, _, _, _, _, rfl, _⟩ := h
    rfl
  obtain ⟨x, y, z, L, Ln, R, E, w, c, rfl, hx, hy, hz, hok, hR, hw, hc, hv, q⟩ := h
  refine ⟨_, pss_cons (ps_set (i := 3) scChainW.nd rfl (Or.inl rfl) (pe_call G hr rfl mG kG bG .nil pass0 (pa_cons (pv 0) (pa_cons (pv 1) (pa_cons (pv 2) pa_nil)))))
    (pss_cons (ps_if (pt_cmpR op_le (pe_callB call_len_seq rfl ml PySem.boot_len (pa_cons (pv 3) pa_nil)) (pe_callB call_len_seq rfl ml PySem.boot_len (pa_cons (pv 2) pa_nil)) (nomark _)) (pss_one ps_never) pss_nil)
    (pss_one (ps_ret (pv 3)))), ?_⟩
  obtain ⟨ca, cs, rfl, hcl, hca⟩ := dp_lst hz
  refine ⟨_, rfl, _, rfl, _, rfl, x, y, .ref ca, L, Ln, R, E, w, c, rfl, hx, hy, hz, hok, hR, hw, hc, hv, fun r H1 g1 h1 => ?_⟩
  obtain ⟨ra, rs, rfl, hrl, hra⟩ := dp_lst h1
  refine ⟨_, rfl, ra, _, rfl, .inl (lim_le.seq hrl), _, rfl, ca, _, rfl, .inl (g1.seq hcl), _, _, rfl, rfl, _, rfl, ?_⟩
  refine iteN ?_ ?_
  · rw [all_len hra, all_len hca, List.length_map, List.length_map, words_length]
    omega
  · exact ⟨_, rfl, q _ H1 g1 h1⟩
end
end SixW
namespace SixW
open PySem PySem.Spec PyProof.Rows L2 Six
/-- chains(words, word, many), many below n: a new list of new lists -/
def spChains (K : PySem.W.Frag) (n : Nat) : Sp := fun vs H Q _ => ∃ (x y : V) (L : Int) (Ln : Nat) (R : List Rl) (E : List Int) (w : Wd) (m : Nat), vs = [x, y, .int (m : Int)] ∧ m < n ∧ m ≤ 3 ∧ Dp K H x (eWs L R E) ∧ Dp K H y (eW w) ∧ RulesOk Ln R ∧ R.length ≤ 8 ∧ w.length ≤ 8 ∧
  ∀ r H', Same H H' → Dp K (lim H H') r (.list ((chainsF R E m w).map eC)) → Q r H'
theorem mul64 {a b : Nat} (h : a ≤ 8) (k : b ≤ 8) : a * b ≤ 64 := Nat.le_trans (Nat.mul_le_mul h k) (by decide)
theorem steps64 {R : List Rl} {w : Wd} (hR : R.length ≤ 8) (hw : w.length ≤ 8) : (stepsF R w).length ≤ 64 := Nat.le_trans (steps_count R w) (mul64 hR hw)
theorem chains_count {Ln : Nat} {R : List Rl} (hok : RulesOk Ln R) (hR : R.length ≤ 8) (E : List Int) : ∀ (m : Nat) (w : Wd), w.length ≤ 8 → (chainsF R E m w).length ≤ 64 ^ m
  | 0, w, _ => by
    unfold chainsF
    split
    · exact Nat.le_refl _
    · exact Nat.zero_le _
  | m + 1, w, hw => by
    unfold chainsF
    have h := flatMap_count (k := 64 ^ m) (l := stepsF R w) (f := fun s => (chainsF R E m (Six.putF R w s)).map fun c => s :: c) fun s hs => by
      rw [List.length_map]
      exact chains_count hok hR E m _ (by rw [put_len hok hs]; exact hw)
    refine Nat.le_trans h (Nat.le_trans (Nat.mul_le_mul_right _ (steps64 hR hw)) ?_)
    rw [Nat.pow_succ, Nat.mul_comm]
    exact Nat.le_refl _
theorem count3 {m : Nat} (h : m ≤ 3) : 64 ^ m ≤ 262144 := Nat.le_trans (Nat.pow_le_pow_right (by decide) h) (by decide)
/-- what the chains of one step more are -/
def gF (R : List Rl) (E : List Int) (m : Nat) (w : Wd) (s : Stp) : List Chn := (chainsF R E m (Six.putF R w s)).map fun c => s :: c
theorem chains_succ (R : List Rl) (E : List Int) (m : Nat) (w : Wd) : chainsF R E (m + 1) w = (stepsF R w).flatMap (gF R E m w) := rfl
theorem flatMap_take_length {α β : Type} {f : α → List β} {l : List α} (i j : Nat) (s : α) (h : l[i]? = some s) : ((l.take i).flatMap f).length + ((f s).take j).length ≤ (l.flatMap f).length := by
  obtain ⟨hi, e⟩ := List.getElem?_eq_some_iff.mp h
  have h1 : l.flatMap f = (l.take i).flatMap f ++ (f s ++ (l.drop (i + 1)).flatMap f) := by
    have h2 : l.drop i = s :: l.drop (i + 1) := by rw [List.drop_eq_getElem_cons hi, e]
    calc l.flatMap f = (l.take i ++ l.drop i).flatMap f := by rw [List.take_append_drop]
      _ = _ := by rw [List.flatMap_append, h2, List.flatMap_cons]
  rw [h1, List.length_append, List.length_append, List.length_take]
  omega
section
variable {P : Program} {w : World} {K : PySem.W.Frag} {mg : Str → Option Value} {base : Heap} {f g g2 g3 : Addr} {fd gd gd2 gd3 : FuncData}
theorem scChains : FnScope ["words", "word", "many", "found", "step", "rest"] ["words", "word", "many"] (defScope sChains) := ⟨rfl, rfl, rfl, by decide +kernel, rfl, by decide +kernel, by decide +kernel⟩
theorem ok_chains {n k : Nat} (hk : 2 ≤ k) (F : Fun K "chains" "chains" sChains f fd) (bF : Binds K fd ["words", "word", "many"] []) (mF : mg "chains" = some (.ref f)) (I : FnOk P w K mg base CX0 k f fd ["words", "word", "many"] (spChains K n))
    (G : FnOk P w K mg base CX0 2 g gd ["words", "word"] (spSteps K)) (bG : Binds K gd ["words", "word"] []) (kG : PySem.W.keepIn K (.ref g) = true) (mG : mg "steps" = some (.ref g))
    (G2 : FnOk P w K mg base CX0 1 g2 gd2 ["words", "word", "step"] (spPut K)) (bG2 : Binds K gd2 ["words", "word", "step"] []) (kG2 : PySem.W.keepIn K (.ref g2) = true) (mG2 : mg "put" = some (.ref g2))
    (G3 : FnOk P w K mg base CX0 1 g3 gd3 ["words", "word"] (spAtEnd K)) (bG3 : Binds K gd3 ["words", "word"] []) (kG3 : PySem.W.keepIn K (.ref g3) = true) (mG3 : mg "is_at_end" = some (.ref g3)) :
    FnOk P w K mg base CX0 (k + 1) f fd ["words", "word", "many"] (spChains K (n + 1)) := by
  refine F.ok scChains (fun vs H Q E h => ?_) (fun cdv A outer s H vs Q E hr h => ?_)
  · obtain ⟨x, y, _, _, _, _, _, _, rfl, _⟩ := h
    rfl
  obtain ⟨x, y, L, Ln, R, E, w, m, rfl, hm, hm3, hx, hy, hok, hR, hw, q⟩ := h
  refine ⟨_, pss_cons (ps_if (pt_cmpR op_eq (pv 2) pe_int (nomark _))
      (pss_cons (ps_if (pt_val (pe_call G3 (hr.mono (by omega)) rfl mG3 kG3 bG3 .nil pass0 (pa_cons (pv 0) (pa_cons (pv 1) pa_nil)))) (pss_one (ps_ret (pe_lst (pa_cons (pe_lst pa_nil) pa_nil)))) pss_nil) (pss_one (ps_ret (pe_lst pa_nil)))) pss_nil)
    (pss_cons (ps_set (i := 3) scChains.nd rfl (Or.inl rfl) (pe_lst pa_nil))
    (pss_cons (ps_for PassesOwn.never rfl (pi_list (pe_call G (hr.mono (by omega)) rfl mG kG bG .nil pass0 (pa_cons (pv 0) (pa_cons (pv 1) pa_nil)))) (pg_name (i := 4) scChains.nd rfl (Or.inl rfl))
      (pss_one (ps_for PassesOwn.never rfl (pi_list (pe_call I hr rfl mF F.kp bF .nil pass0 (pa_cons (pv 0) (pa_cons (pe_call G2 (hr.mono (by omega)) rfl mG2 kG2 bG2 .nil pass0 (pa_cons (pv 0) (pa_cons (pv 1) (pa_cons (pv 4) pa_nil)))) (pa_cons (pe_op op_sub (pv 2) pe_int) pa_nil))))) (pg_name (i := 5) scChains.nd rfl (Or.inl rfl))
        (pss_one (ps_expr (pe_bm PySem.F.plainAttrs_list PySem.F.slot_list_append PySem.F.type_list_append mt_append (pv 3) (pa_cons (pe_op SixR.op_catL (pe_lst (pa_cons (pv 4) pa_nil)) (pv 5)) pa_nil)))))))
    (pss_one (ps_ret (pv 3))))), ?_⟩
  refine ⟨_, rfl, rfl, _, rfl, ?_⟩
  refine ite2 (fun hm0 => ?_) (fun hm0 => ?_)
  · -- many is 0
    have e0 : m = 0 := by
      have := of_decide_eq_true hm0
      injection this with this
      omega
    subst e0
    refine ⟨_, rfl, _, rfl, x, y, L, R, E, w, rfl, hx, hy, by omega, fun H1 g1 => ?_⟩
    refine ⟨_, rfl, ?_⟩
    unfold chainsF at q
    refine ite2 (fun he => ?_) (fun he => ?_)
    · rw [if_pos he] at q
      refine ⟨(by show 0 ≤ sizeLine; decide), fun p1 hp1 => ⟨(by show 1 ≤ sizeLine; decide), fun p2 hp2 => ?_⟩⟩
      have s1 := same_new hp1 (.lst [])
      have s2 := same_new hp2 (.lst [.ref p1])
      have n12 : p1 ≠ p2 := ne_of_none upd_same hp2
      refine q _ _ (g1.trans (s1.trans s2)) ?_
      refine .lst (SqL.of (lim_lst upd_same (g1.free (s1.free hp2)))) (.cons (.lst (SqL.of (lim_lst ?_ (g1.free hp1))) .nil) .nil)
      rw [upd_ne n12, upd_same]
    · rw [if_neg he] at q
      refine ⟨(by show 0 ≤ sizeLine; decide), fun p1 hp1 => ?_⟩
      exact q _ _ (g1.trans (same_new hp1 _)) (.lst (SqL.of (lim_lst upd_same (g1.free hp1))) .nil)
  · -- many is above 0
    obtain ⟨m', rfl⟩ : ∃ m', m = m' + 1 := by
      refine ⟨m - 1, ?_⟩
      have h1 : ¬ (V.int (m : Int) = V.int 0) := of_decide_eq_false (Bool.eq_false_iff.mpr hm0)
      have h2 : m ≠ 0 := fun z => h1 (by rw [z]; rfl)
      omega
    refine ⟨(by show 0 ≤ sizeLine; decide), fun fa hf => ?_⟩
    have s0 : Same H (upd H fa (.lst [])) := same_new hf _
    refine ⟨_, rfl, _, rfl, x, y, L, R, E, w, rfl, dp_same s0 _ _ hx, dp_same s0 _ _ hy, by omega, by omega, fun r1 H1 g1 h1 => ?_⟩
    have kf1 : H1 fa = some (.lst []) := g1 _ _ upd_same
    have gg1 : Same H (hide fa H1) := hide_of hf (s0.trans g1)
    have h1' := dp_same ((lim_sub s0 (upd_same (o := .lst [])) g1 ⟨_, rfl⟩).trans lim_le) _ _ h1
    obtain ⟨sa, ss, rfl, hsl, hsa⟩ := dp_lst h1'
    refine ⟨sa, rfl, ⟨_, hide_le.seq hsl⟩, ?_⟩
    have hss : ss.length = (stepsF R w).length := by rw [all_len hsa, List.length_map]
    refine for_list (xs := ss) (fun i σ H2 => ∃ (xs : List V) (v4 v5 : Option V), σ = [some x, some y, some (.int ((m' + 1 : Nat) : Int)), some (.ref fa), v4, v5] ∧ H2 fa = some (.lst xs) ∧ Same H (hide fa H2) ∧ SqL K (hide fa H2) sa ss ∧ DpAll K (hide fa H2) ss ((stepsF R w).map eS) ∧
        DpAll K (lim H (hide fa H2)) xs ((((stepsF R w).take i).flatMap (gF R E m' w)).map eC))
      ⟨[], none, none, rfl, kf1, gg1, hsl, hsa, .nil⟩ (fun i σ H2 _ ⟨_, _, _, _, _, _, k2, _, _⟩ => hide_le.seq k2) ?_ ?_
    · rintro i x0 σ H2 hx0 ⟨xs, v4, v5, rfl, k2, g2, l2, a2, d2⟩
      obtain ⟨st, hst, hd⟩ := all_map_at a2 hx0
      have hmem : st ∈ stepsF R w := List.mem_of_getElem? hst
      obtain ⟨q1, q2⟩ := rl_len hok hmem
      have hd' := dp_same hide_le _ _ hd
      refine ⟨_, rfl, _, rfl, _, rfl, _, rfl, x, y, x0, L, R, E, w, st, rfl, dp_same (g2.trans hide_le) _ _ hx, dp_same (g2.trans hide_le) _ _ hy, hd', q1, by omega, by omega, fun r3 H3 g3 h3 => ?_⟩
      refine ⟨_, rfl, _, _, rfl, rfl, x, r3, L, Ln, R, E, Six.putF R w st, m', ?_, by omega, by omega, dp_same ((g2.trans hide_le).trans g3) _ _ hx, h3, hok, hR, by rw [put_len hok hmem]; exact hw, fun r4 H4 g4 h4 => ?_⟩
      · show [x, r3, V.int (((m' + 1 : Nat) : Int) - 1)] = [x, r3, V.int (m' : Int)]
        rw [show (((m' + 1 : Nat) : Int) - 1) = (m' : Int) by omega]
      have k3 := g3 _ _ k2
      have k4 := g4 _ _ k3
      have g34 : Same (hide fa H2) (hide fa H4) := hide_same (g3.trans g4)
      have h4' := dp_same ((lim_sub ((g2.trans hide_le).trans g3) k3 g4 ⟨_, rfl⟩).trans lim_le) _ _ h4
      obtain ⟨ra, rs, rfl, hrl, hra⟩ := dp_lst h4'
      refine ⟨ra, rfl, ⟨_, hide_le.seq hrl⟩, ?_⟩
      have hrs : rs.length = (chainsF R E m' (Six.putF R w st)).length := by rw [all_len hra, List.length_map]
      refine for_list (xs := rs) (fun j σ H5 => ∃ (xs : List V) (v5 : Option V), σ = [some x, some y, some (.int ((m' + 1 : Nat) : Int)), some (.ref fa), some x0, v5] ∧ H5 fa = some (.lst xs) ∧ Same H (hide fa H5) ∧ SqL K (hide fa H5) sa ss ∧ DpAll K (hide fa H5) ss ((stepsF R w).map eS) ∧
          SqL K (hide fa H5) ra rs ∧ DpAll K (hide fa H5) rs ((chainsF R E m' (Six.putF R w st)).map eC) ∧ Dp K (hide fa H5) x0 (eS st) ∧
          DpAll K (lim H (hide fa H5)) xs ((((stepsF R w).take i).flatMap (gF R E m' w) ++ (gF R E m' w st).take j).map eC))
        ⟨xs, v5, rfl, k4, g2.trans g34, g34.seq l2, all_same g34 _ _ a2, hrl, hra, dp_same g34 _ _ hd, ?_⟩ (fun j σ H5 _ ⟨_, _, _, _, _, _, _, k5, _⟩ => hide_le.seq k5) ?_ ?_
      · rw [List.take_zero, List.append_nil]
        exact all_same (lim_same g34) _ _ d2
      · rintro j z0 σ H5 hz0 ⟨zs, w5, rfl, k5, g5, l5, a5, rl5, ra5, x5, d5⟩
        obtain ⟨c, hc, hdc⟩ := all_map_at ra5 hz0
        obtain ⟨za, cs, rfl, hzl, hza⟩ := dp_lst hdc
        refine ⟨_, rfl, .inl ⟨rfl, _, SqL.of k5⟩, _, rfl, (by show 1 ≤ sizeLine; decide), fun p1 hp1 => ?_⟩
        have n1 : fa ≠ p1 := ne_of_none k5 hp1
        have s1 := same_new hp1 (.lst [x0])
        have hcl : c.length = m' := (chains_valid R E m' _ c (List.mem_of_getElem? hc)).2
        refine ⟨_, rfl, p1, za, _, _, rfl, rfl, SqL.of upd_same, s1.seq (hide_le.seq hzl), ?_, fun p2 hp2 => ?_⟩
        · rw [all_len hza, List.length_map, hcl]
          exact smallL (by show 1 + m' ≤ 1000000; omega)
        have k6 : upd H5 p1 (.lst [x0]) fa = some (.lst zs) := by rw [upd_ne n1]; exact k5
        have n2 : fa ≠ p2 := ne_of_none k6 hp2
        have k7 : upd (upd H5 p1 (.lst [x0])) p2 (.lst ([x0] ++ cs)) fa = some (.lst zs) := by rw [upd_ne n2]; exact k6
        have s2 := same_new hp2 (.lst ([x0] ++ cs))
        have s12 : Same (hide fa H5) (hide fa (upd (upd H5 p1 (.lst [x0])) p2 (.lst ([x0] ++ cs)))) := hide_same (s1.trans s2)
        have hlen : zs.length ≤ 262144 := by
          rw [all_len d5, List.length_map, List.length_append]
          have h8 := flatMap_take_length (f := gF R E m' w) i j st hst
          rw [← chains_succ] at h8
          exact Nat.le_trans h8 (Nat.le_trans (chains_count hok hR E (m' + 1) w hw) (count3 hm3))
        refine ⟨fa, zs, _, rfl, rfl, k7, Nat.lt_of_le_of_lt hlen (by decide), ?_⟩
        refine ⟨zs ++ [.ref p2], _, rfl, upd_same, ?_⟩
        rw [hide_upd]
        refine ⟨g5.trans s12, s12.seq l5, all_same s12 _ _ a5, s12.seq rl5, all_same s12 _ _ ra5, dp_same s12 _ _ x5, ?_⟩
        have egj : (gF R E m' w st)[j]? = some (st :: c) := by
          unfold gF
          rw [List.getElem?_map, hc] <;> rfl
        rw [List.take_add_one, egj, ← List.append_assoc, List.map_append]
        refine all_append (all_same (lim_same s12) _ _ d5) (.cons ?_ .nil)
        have hp2H : H p2 = none := by
          have := (s1.free hp2)
          exact (g5.trans hide_le).free this
        refine .lst (xs := [x0] ++ cs) (SqL.of (lim_lst (hide_some.mpr ⟨Ne.symm n2, upd_same⟩) hp2H)) ?_
        show DpAll K _ (x0 :: cs) (eS st :: c.map eS)
        exact .cons (dp_nl ((nl_same s12).trans nl_lim) _ _ (noL_eS _) x5) (all_nl ((nl_same s12).trans nl_lim) _ _ (noL_map noL_eS _) hza)
      · rintro σ H5 ⟨zs, w5, rfl, k5, g5, l5, a5, rl5, ra5, x5, d5⟩
        refine ⟨zs, _, _, rfl, k5, g5, l5, a5, ?_⟩
        rw [List.take_add_one, hst, List.flatMap_append]
        have e9 : rs.length = (gF R E m' w st).length := by
          unfold gF
          rw [List.length_map]
          exact hrs
        rw [e9, List.take_length] at d5
        have e10 : (some st).toList.flatMap (gF R E m' w) = gF R E m' w st := by
          show gF R E m' w st ++ [] = _
          rw [List.append_nil]
        rw [e10]
        exact d5
    · rintro σ H3 ⟨zs, _, _, rfl, k3, g3, l3, a3, d3⟩
      refine ⟨_, rfl, q _ _ (g3.trans hide_le) ?_⟩
      rw [hss, List.take_length] at d3
      rw [chains_succ]
      exact .lst (SqL.of (lim_lst k3 hf)) (all_same (lim_same hide_le) _ _ d3)
theorem none_chains : FnOk P w K mg base CX0 2 f fd ["words", "word", "many"] (spChains K 0) := by
  have no : ∀ vs H Q E, ¬ spChains K 0 vs H Q E := fun vs H Q E h => by
    obtain ⟨_, _, _, _, _, _, _, m, _, h1, _⟩ := h
    omega
  exact ⟨fun vs H Q E h => absurd h (no vs H Q E), fun A outer s H args us vs Q E _ _ _ _ h => absurd h (no vs H Q E)⟩
end
end SixW
namespace SixW
open PySem PySem.Spec PyProof.Rows L2 Six
/-- the pen at p: the script and a number -/
def Pen (K : PySem.W.Frag) (H : Hp) (p s : Addr) (k : Nat) (ns : List Int) : Prop := H p = some (.lst [.ref s, .int (k : Int)]) ∧ SqL K (hide p H) s (ns.map V.int)
theorem pen_nl {K : PySem.W.Frag} {H H' : Hp} {p s : Addr} {k : Nat} {ns : List Int} (h : Pen K H p s k ns) (g : Same (hide p H) (hide p H')) : NL H H' := (nl_hide h.1).trans (nl_same (g.trans hide_le))
theorem pen_mono {K : PySem.W.Frag} {H H' : Hp} {p s : Addr} {k k' : Nat} {ns : List Int} (h : Pen K H p s k ns) (g : Same (hide p H) (hide p H')) (e : H' p = some (.lst [.ref s, .int (k' : Int)])) : Pen K H' p s k' ns := ⟨e, g.seq h.2⟩
theorem same_of_eq {H H' : Hp} (h : H' = H) : Same H H' := by rw [h]; exact Same.refl H
/-- _law_cell(script, k): some number from 0 on -/
def spCell (K : PySem.W.Frag) : Sp := fun vs H Q _ => ∃ (s : Addr) (ns : List Int) (k : Nat), vs = [.ref s, .int (k : Int)] ∧ SqL K H s (ns.map V.int) ∧ k ≤ 100000 ∧ ∀ v : Int, 0 ≤ v → Q (.int v) H
/-- _law_take(pen, most): some number below most; the pen one on -/
def spTake (K : PySem.W.Frag) : Sp := fun vs H Q _ => ∃ (p s : Addr) (m : Int) (k : Nat) (ns : List Int), vs = [.ref p, .int m] ∧ Pen K H p s k ns ∧ k ≤ 1000 ∧ 0 < m ∧ ∀ (v : Int) (H' : Hp), 0 ≤ v → v < m → Pen K H' p s (k + 1) ns → hide p H' = hide p H → Q (.int v) H'
section
variable {P : Program} {w : World} {K : PySem.W.Frag} {mg : Str → Option Value} {base : Heap} {f g g2 g3 : Addr} {fd gd gd2 gd3 : FuncData}
theorem scCell : FnScope ["_law_script", "_law_k", "_law_cell_here"] ["_law_script", "_law_k"] (defScope sCell) := ⟨rfl, rfl, rfl, by decide +kernel, rfl, by decide +kernel, by decide +kernel⟩
theorem sq_small {k : Nat} (h : k ≤ 100000) : -(2 ^ 64 : Int) < (k : Int) * (k : Int) ∧ (k : Int) * (k : Int) < 2 ^ 64 := by
  have h1 : k * k ≤ 100000 * 100000 := Nat.mul_le_mul h h
  have h2 : ((k * k : Nat) : Int) = (k : Int) * (k : Int) := Int.natCast_mul k k
  omega
theorem ok_cell (F : Fun K "_law_cell" "_law_cell" sCell f fd) (ml : mg "len" = none) : FnOk P w K mg base CX0 1 f fd ["_law_script", "_law_k"] (spCell K) := by
  refine F.ok scCell (fun vs H Q E h => ?_) (fun cdv A outer s H vs Q E hr h => ?_)
  · obtain ⟨_, _, _, rfl, _⟩ := h
    rfl
  obtain ⟨a, ns, k, rfl, hs, hk, q⟩ := h
  refine ⟨_, pss_cons (ps_set (i := 2) scCell.nd rfl (Or.inl rfl) pe_int)
    (pss_cons (ps_if (pt_cmpR op_gt (pe_callB call_len_seq rfl ml PySem.boot_len (pa_cons (pv 0) pa_nil)) pe_int (nomark _))
      (pss_one (ps_set (i := 2) scCell.nd rfl (Or.inl rfl) (pe_ix ix_list (pv 0) (pe_op op_mod (pv 1) (pe_callB call_len_seq rfl ml PySem.boot_len (pa_cons (pv 0) pa_nil))) (fun _ _ => rfl)))) pss_nil)
    (pss_one (ps_ret (pe_op op_fdiv (pe_op op_mod (pe_op op_add (pe_op op_add (pe_op op_add (pe_op op_mul (pv 2) pe_int) (pe_op op_mul (pe_op op_mul (pv 1) (pv 1)) pe_int)) (pe_op op_mul pe_int (pv 1))) pe_int) pe_int) pe_int)))), ?_⟩
  have fin : ∀ c : Int, (tRet (tOp (rI CDiv fun i j => .int (i / j)) (tOp (rI (fun _ j => 0 < j) fun i j => .int (i % j)) (tOp (rI0 fun i j => .int (i + j)) (tOp (rI0 fun i j => .int (i + j)) (tOp (rI0 fun i j => .int (i + j)) (tOp (rI CMul fun i j => .int (i * j)) (tVar 2) (tC (.int 69621))) (tOp (rI CMul fun i j => .int (i * j)) (tOp (rI CMul fun i j => .int (i * j)) (tVar 1) (tVar 1)) (tC (.int 30011))))
      (tOp (rI CMul fun i j => .int (i * j)) (tC (.int 11)) (tVar 1))) (tC (.int 5))) (tC (.int 2147483647))) (tC (.int 3)))) { nx := fun _ H' => Q .non H', rt := Q } [some (.ref a), some (.int (k : Int)), some (.int c)] H := fun c => by
    refine ⟨_, rfl, _, _, rfl, rfl, .inr ⟨by decide, by decide⟩, ?_⟩
    refine ⟨_, rfl, _, rfl, _, _, rfl, rfl, .inl ⟨by omega, by omega⟩, ?_⟩
    refine ⟨_, _, rfl, rfl, .inl (sq_small hk), ?_⟩
    refine ⟨_, _, rfl, rfl, ?_⟩
    refine ⟨_, rfl, _, _, rfl, rfl, .inl ⟨by decide, by decide⟩, ?_⟩
    refine ⟨_, _, rfl, rfl, ?_⟩
    refine ⟨_, _, rfl, rfl, ?_⟩
    refine ⟨_, _, rfl, rfl, (by show (0 : Int) < 2147483647; decide), ?_⟩
    refine ⟨_, _, rfl, rfl, ⟨by decide, by decide⟩, ?_⟩
    exact q _ (Int.ediv_nonneg (Int.emod_nonneg _ (by decide)) (by decide))
  refine ⟨_, rfl, a, _, rfl, .inl hs, _, _, rfl, rfl, _, rfl, ?_⟩
  refine ite2 (fun h0 => ?_) (fun h0 => ?_)
  · have h1 : 0 < (ns.map V.int).length := by
      have := of_decide_eq_true h0
      omega
    have hpos : (0 : Int) < (((ns.map V.int).length : Nat) : Int) := by omega
    refine ⟨_, rfl, _, rfl, _, rfl, a, _, rfl, .inl hs, _, _, rfl, rfl, hpos, ?_⟩
    have hlt := Int.emod_lt_of_pos (k : Int) hpos
    have hge := Int.emod_nonneg (k : Int) (show (((ns.map V.int).length : Nat) : Int) ≠ 0 by omega)
    obtain ⟨j, hj⟩ : ∃ j : Nat, (k : Int) % (((ns.map V.int).length : Nat) : Int) = (j : Int) := ⟨_, (Int.toNat_of_nonneg hge).symm⟩
    have hjl : j < ns.length := by
      rw [List.length_map] at hlt hj
      omega
    refine ⟨a, _, _, .int ns[j], rfl, rfl, hs, ?_, ?_⟩
    · rw [hj]
      refine atI_nat ?_
      rw [List.getElem?_map, List.getElem?_eq_getElem hjl]
      rfl
    · exact fin _
  · exact fin 7
theorem scTake : FnScope ["_law_pen", "_law_most"] ["_law_pen", "_law_most"] (defScope sTake) := ⟨rfl, rfl, rfl, by decide +kernel, rfl, by decide +kernel, by decide +kernel⟩
theorem ok_take (F : Fun K "_law_take" "_law_take" sTake f fd) (G : FnOk P w K mg base CX0 1 g gd ["_law_script", "_law_k"] (spCell K)) (bG : Binds K gd ["_law_script", "_law_k"] []) (kG : PySem.W.keepIn K (.ref g) = true) (mG : mg "_law_cell" = some (.ref g)) :
    FnOk P w K mg base CX0 2 f fd ["_law_pen", "_law_most"] (spTake K) := by
  refine F.ok scTake (fun vs H Q E h => ?_) (fun cdv A outer s H vs Q E hr h => ?_)
  · obtain ⟨_, _, _, _, _, rfl, _⟩ := h
    rfl
  obtain ⟨p, a, m, k, ns, rfl, ⟨hp, hs⟩, hk, hm, q⟩ := h
  refine ⟨_, pss_cons (ps_asg (pe_op op_add (pe_ix ix_list (pv 0) pe_int (fun _ _ => rfl)) pe_int) (pg_sub (pv 0) pe_int set_list))
    (pss_one (ps_ret (pe_op op_mod (pe_call G hr rfl mG kG bG .nil pass0 (pa_cons (pe_ix ix_list (pv 0) pe_int (fun _ _ => rfl)) (pa_cons (pe_ix ix_list (pv 0) pe_int (fun _ _ => rfl)) pa_nil))) (pv 1)))), ?_⟩
  refine ⟨_, rfl, p, _, 1, _, rfl, rfl, SqL.of hp, atI_nat (j := 1) rfl, _, _, rfl, rfl, ?_⟩
  refine ⟨_, rfl, p, _, 1, 1, rfl, rfl, hp, rfl, ?_⟩
  have e1 : upd H p (.lst ([.ref a, .int (k : Int)].set 1 (.int ((k : Int) + 1)))) = upd H p (.lst [.ref a, .int (((k + 1 : Nat) : Nat) : Int)]) := rfl
  rw [e1]
  have hp' : upd H p (.lst [.ref a, .int (((k + 1 : Nat) : Nat) : Int)]) p = some (.lst [.ref a, .int (((k + 1 : Nat) : Nat) : Int)]) := upd_same
  have hs' : SqL K (hide p (upd H p (.lst [.ref a, .int (((k + 1 : Nat) : Nat) : Int)]))) a (ns.map V.int) := by rw [hide_upd]; exact hs
  refine ⟨_, rfl, p, _, 0, _, rfl, rfl, SqL.of hp', atI_nat (j := 0) rfl, ?_⟩
  refine ⟨_, rfl, p, _, 1, _, rfl, rfl, SqL.of hp', atI_nat (j := 1) rfl, ?_⟩
  refine ⟨a, ns, k + 1, rfl, hide_le.seq hs', by omega, fun v hv => ?_⟩
  refine ⟨_, rfl, _, _, rfl, rfl, hm, ?_⟩
  exact q _ _ (Int.emod_nonneg _ (by omega)) (Int.emod_lt_of_pos _ hm) ⟨hp', hs'⟩ hide_upd
end
end SixW
namespace SixW
open PySem PySem.Spec PyProof.Rows L2 Six
/-- no long words in rules -/
def Short (R : List Rl) : Prop := ∀ r ∈ R, r.1.length ≤ 1000 ∧ r.2.length ≤ 1000
/-- _law_words(pen, most): letters, rules, ends -/
def spWords (K : PySem.W.Frag) : Sp := fun vs H Q _ => ∃ (p s : Addr) (m : Int) (k : Nat) (ns : List Int), vs = [.ref p, .int m] ∧ Pen K H p s k ns ∧ k ≤ 100 ∧ 0 < m ∧ m ≤ 9 ∧
  ∀ (L : Nat) (R : List Rl) (E : List Int) (r : V) (H' : Hp) (k' : Nat), 1 ≤ L → L ≤ 5 → RulesOk L R → Short R → R.length ≤ 8 → Lets L E → E.length ≤ 5 → Pen K H' p s k' ns → k' ≤ k + 100 → Same (hide p H) (hide p H') → Dp K (hide p H') r (eWs L R E) → Q r H'
section
variable {P : Program} {w : World} {K : PySem.W.Frag} {mg : Str → Option Value} {base : Heap} {f g g2 g3 : Addr} {fd gd gd2 gd3 : FuncData}
abbrev nmWords : List Str := ["_law_pen", "_law_most", "_law_letters", "_law_rules", "_law_k", "_law_size", "_law_left", "_law_right", "_law_j", "_law_letter"]
theorem scWords : FnScope nmWords ["_law_pen", "_law_most"] (defScope sWords) := ⟨rfl, rfl, rfl, by decide +kernel, rfl, by decide +kernel, by decide +kernel⟩
theorem lets_nil {L : Nat} : Lets L [] := fun _ h => nomatch h
theorem lets_snoc {L : Nat} {w : Wd} {v : Int} (h : Lets L w) (h0 : 0 ≤ v) (h1 : v < (L : Int)) : Lets L (w ++ [v]) := fun l hl => by
  rcases List.mem_append.mp hl with q | q
  · exact h l q
  · rw [List.mem_singleton.mp q]
    exact ⟨h0, h1⟩
/-- [_law_take(pen, letters) for j in range(size)] -/
theorem draw_list {p s D : Addr} {k n L : Nat} {ns : List Int} {v1 v3 v4 v5 v6 v7 v8 v9 : Option V} {H : Hp} {Qd : Hp → Prop} (hp : Pen K H p s k ns) (hk : k + n ≤ 1000) (hL : 0 < L) (hD : H D = none)
    (q : ∀ (H' : Hp) (ws : List Int), ws.length = n → Lets L ws → Pen K H' p s (k + n) ns → Same (hide p H) (hide p H') → H' D = some (.lst (ws.map V.int)) → Qd H') :
    ∃ W : Nat → Nat → Hp → Prop, (∃ m, W 0 m (upd H D (.lst []))) ∧ ∀ i m H, W i m H →
      ((Itr 0 n).stop i H ∧ Qd H) ∨ ((Itr 0 n).go i H ∧ ∃ Nx : Hp → Prop, (∀ H', Nx H' → ∃ m', m' < m ∧ W (i + 1) m' H') ∧ ∀ x H', (Itr 0 n).yld i H x H' → gName 8 x (wipe [some (.ref p), v1, some (.int (L : Int)), v3, v4, v5, v6, v7, v8, v9] [8]) H' fun σ2 H2 =>
        wipe σ2 [8] = wipe [some (.ref p), v1, some (.int (L : Int)), v3, v4, v5, v6, v7, v8, v9] [8] ∧ tYes σ2 H2 fun b H3 =>
        if b = true then tCall (spTake K) [] E0 (tCons (tVar 0) (tCons (tVar 2) tNil)) σ2 H3 fun y H4 => ∃ acc, H4 D = some (.lst acc) ∧ acc.length < sizeLine ∧ Nx (upd H4 D (.lst (acc ++ [y]))) else Nx H3) := by
  have pD : p ≠ D := ne_of_none hp.1 hD
  have s0 : Same (hide p H) (hide p (upd H D (.lst []))) := hide_new hD _
  refine lc_range (lo := 0) (n := n) (fun i H1 => ∃ ws : List Int, ws.length = i ∧ Lets L ws ∧ Pen K H1 p s (k + i) ns ∧ Same (hide p H) (hide p H1) ∧ H1 D = some (.lst (ws.map V.int)))
    ⟨[], rfl, lets_nil, pen_mono hp s0 (by rw [upd_ne pD]; exact hp.1), s0, upd_same⟩ ?_ ?_
  · rintro i H1 hi ⟨ws, e1, hl, hp1, g1, k1⟩
    refine ⟨rfl, ?_⟩
    refine ⟨_, rfl, _, rfl, p, s, (L : Int), k + i, ns, rfl, hp1, by omega, by omega, fun v H2 h0 h1 hp2 eh => ?_⟩
    have g2 : Same (hide p H1) (hide p H2) := same_of_eq eh
    have k2 : H2 D = some (.lst (ws.map V.int)) := (hide_some.mp (g2 _ _ (hide_some.mpr ⟨Ne.symm pD, k1⟩))).2
    have g3 : Same (hide p H) (hide p (upd H2 D (.lst (ws.map V.int ++ [.int v])))) := fun b o e => by
      have e2 := (g1.trans g2) b o e
      obtain ⟨n1, e3⟩ := hide_some.mp e2
      exact hide_some.mpr ⟨n1, by rw [upd_ne (ne_of_none (hide_some.mp e).2 hD)]; exact e3⟩
    refine ⟨_, k2, ?_, ws ++ [v], ?_, lets_snoc hl h0 h1, pen_mono hp g3 ?_, g3, ?_⟩
    · rw [List.length_map, e1]
      exact Nat.lt_of_le_of_lt (show i ≤ 1000 by omega) (by decide)
    · rw [List.length_append, e1] <;> rfl
    · rw [upd_ne pD]
      exact hp2.1
    · rw [upd_same, List.map_append] <;> rfl
  · rintro H1 ⟨ws, e1, hl, hp1, g1, k1⟩
    exact q H1 ws e1 hl hp1 g1 k1
theorem ok_words (F : Fun K "_law_words" "_law_words" sWords f fd) (G : FnOk P w K mg base CX0 2 g gd ["_law_pen", "_law_most"] (spTake K)) (bG : Binds K gd ["_law_pen", "_law_most"] []) (kG : PySem.W.keepIn K (.ref g) = true) (mG : mg "_law_take" = some (.ref g))
    (mr : mg "range" = none) (mt : mg "tuple" = none) : FnOk P w K mg base CX0 3 f fd ["_law_pen", "_law_most"] (spWords K) := by
  refine F.ok scWords (fun vs H Q E h => ?_) (fun cdv A outer s H vs Q E hr h => ?_)
  · obtain ⟨_, _, _, _, _, rfl, _⟩ := h
    rfl
  obtain ⟨p, sc, m, k, ns, rfl, hp, hk, hm, hm9, q⟩ := h
  refine ⟨_, pss_cons (ps_set (i := 2) scWords.nd rfl (Or.inr rfl) (pe_op op_add pe_int (pe_call G hr rfl mG kG bG .nil pass0 (pa_cons (pv 0) (pa_cons pe_int pa_nil)))))
    (pss_cons (ps_set (i := 3) scWords.nd rfl (Or.inl rfl) (pe_lst pa_nil))
    (pss_cons (ps_for PassesOwn.never rfl (pi_range1 rfl mr (pa_cons (pe_call G hr rfl mG kG bG .nil pass0 (pa_cons (pv 0) (pa_cons (pv 1) pa_nil))) pa_nil)) (pg_name (i := 4) scWords.nd rfl (Or.inl rfl))
      (pss_cons (ps_set (i := 5) scWords.nd rfl (Or.inl rfl) (pe_op op_add pe_int (pe_call G hr rfl mG kG bG .nil pass0 (pa_cons (pv 0) (pa_cons pe_int pa_nil)))))
      (pss_cons (ps_set (i := 6) scWords.nd rfl (Or.inl rfl) (pe_callTy call_tuple_of (by rfl) mt (by decide +kernel) (pa_cons (pe_lc (own := [("_law_j", 8)]) (g := gName 8) (tt := tYes) rfl scWords.nd (pi_range1 rfl mr (pa_cons (pv 5) pa_nil)) (blkOk_by (N := nmWords) (sc := defScope sWords) (by decide +kernel))
          (fun _ _ _ _ _ => pg_name (i := 8) scWords.nd rfl (Or.inl rfl)) (fun _ _ _ _ _ => pts_nil) (fun _ _ _ _ _ => pe_call G hr rfl mG kG bG .nil pass0 (pa_cons (pv 0) (pa_cons (pv 2) pa_nil)))) pa_nil)))
      (pss_cons (ps_set (i := 7) scWords.nd rfl (Or.inl rfl) (pe_callTy call_tuple_of (by rfl) mt (by decide +kernel) (pa_cons (pe_lc (own := [("_law_j", 8)]) (g := gName 8) (tt := tYes) rfl scWords.nd (pi_range1 rfl mr (pa_cons (pv 5) pa_nil)) (blkOk_by (N := nmWords) (sc := defScope sWords) (by decide +kernel))
          (fun _ _ _ _ _ => pg_name (i := 8) scWords.nd rfl (Or.inl rfl)) (fun _ _ _ _ _ => pts_nil) (fun _ _ _ _ _ => pe_call G hr rfl mG kG bG .nil pass0 (pa_cons (pv 0) (pa_cons (pv 2) pa_nil)))) pa_nil)))
      (pss_one (ps_if (pt_cmpR (op_notInD (hu65 hr)) (pe_tup (pa_cons (pv 6) (pa_cons (pv 7) pa_nil))) (pv 3) (by rfl))
        (pss_one (ps_expr (pe_bm PySem.F.plainAttrs_list PySem.F.slot_list_append PySem.F.type_list_append mt_append (pv 3) (pa_cons (pe_tup (pa_cons (pv 6) (pa_cons (pv 7) pa_nil))) pa_nil)))) pss_nil))))))
    (pss_one (ps_ret (pe_tup (pa_cons (pv 2) (pa_cons (pv 3) (pa_cons (pe_lc (own := [("_law_letter", 9)]) (g := gName 9) rfl scWords.nd (pi_range1 rfl mr (pa_cons (pv 2) pa_nil)) (blkOk_by (N := nmWords) (sc := defScope sWords) (by decide +kernel))
          (fun _ _ _ _ _ => pg_name (i := 9) scWords.nd rfl (Or.inl rfl)) (fun _ _ _ _ _ => pts_one (pt_cmpR op_gt (pe_call G hr rfl mG kG bG .nil pass0 (pa_cons (pv 0) (pa_cons pe_int pa_nil))) pe_int (nomark _))) (fun _ _ _ _ _ => pv 9)) pa_nil)))))))), ?_⟩
  -- letters
  refine ⟨_, rfl, p, sc, 5, k, ns, rfl, hp, by omega, by decide, fun v1 H1 a0 a1 hp1 eh1 => ?_⟩
  refine ⟨1, v1, rfl, rfl, ?_⟩
  obtain ⟨L, hL⟩ : ∃ L : Nat, (1 : Int) + v1 = (L : Int) := ⟨((1 : Int) + v1).toNat, (Int.toNat_of_nonneg (by omega)).symm⟩
  show gName 2 (V.int (1 + v1)) _ _ _
  rw [hL]
  have L1 : 1 ≤ L := by omega
  have L5 : L ≤ 5 := by omega
  have g1 : Same (hide p H) (hide p H1) := same_of_eq eh1
  -- rules
  refine ⟨(by show 0 ≤ sizeLine; decide), fun ra hra => ?_⟩
  have pra : p ≠ ra := ne_of_none hp1.1 hra
  have g2 : Same (hide p H) (hide p (upd H1 ra (.lst []))) := g1.trans (hide_new hra _)
  have hp2 : Pen K (upd H1 ra (.lst [])) p sc (k + 1) ns := pen_mono hp1 (hide_new hra _) (by rw [upd_ne pra]; exact hp1.1)
  have hraH : hide p H ra = none := by
    have := congrFun eh1 ra
    unfold hide at this
    rw [if_neg (Ne.symm pra), if_neg (Ne.symm pra)] at this
    unfold hide
    rw [if_neg (Ne.symm pra), ← this]
    exact hra
  refine ⟨_, rfl, _, rfl, p, sc, m, k + 1, ns, rfl, hp2, by omega, hm, fun v2 H2 b0 b1 hp3 eh2 => ?_⟩
  have g3 : Same (hide p H) (hide p H2) := g2.trans (same_of_eq eh2)
  obtain ⟨n, hn⟩ : ∃ n : Nat, v2 = (n : Int) := ⟨v2.toNat, (Int.toNat_of_nonneg b0).symm⟩
  subst hn
  have kra : H2 ra = some (.lst []) := (hide_some.mp ((same_of_eq eh2) _ _ (hide_some.mpr ⟨Ne.symm pra, upd_same⟩))).2
  refine ⟨(n : Int), rfl, by omega, by omega, ?_⟩
  refine for_range (lo := 0) (n := n) (fun i σ H3 => ∃ (rs : List V) (R : List Rl) (k' : Nat) (v4 v5 v6 v7 v8 v9 : Option V), σ = [some (.ref p), some (.int m), some (.int (L : Int)), some (.ref ra), v4, v5, v6, v7, v8, v9] ∧
      Pen K H3 p sc k' ns ∧ k' ≤ k + 2 + 5 * i ∧ Same (hide p H) (hide p H3) ∧ H3 ra = some (.lst rs) ∧ DpAll K H3 rs (R.map eR) ∧ R.length ≤ i ∧ RulesOk L R ∧ Short R)
    ⟨[], [], k + 2, _, _, _, _, _, _, rfl, hp3, by omega, g3, kra, .nil, Nat.zero_le _, fun _ h => (nomatch h), fun _ h => (nomatch h)⟩ ?_ ?_
  · rintro i σ H3 hi ⟨rs, R, k', v4, v5, v6, v7, v8, v9, rfl, hq, hk', g4, k3, d3, hRl, hok, hsh⟩
    refine ⟨_, rfl, p, sc, 2, k', ns, rfl, hq, by omega, by decide, fun v3 H4 c0 c1 hq4 eh4 => ?_⟩
    refine ⟨1, v3, rfl, rfl, ?_⟩
    obtain ⟨z, hz⟩ : ∃ z : Nat, (1 : Int) + v3 = (z : Int) := ⟨((1 : Int) + v3).toNat, (Int.toNat_of_nonneg (by omega)).symm⟩
    show gName 5 (V.int (1 + v3)) _ _ _
    rw [hz]
    have z1 : 1 ≤ z := by omega
    have z2 : z ≤ 2 := by omega
    have g34 : Same (hide p H3) (hide p H4) := same_of_eq eh4
    refine ⟨_, rfl, (z : Int), rfl, by omega, by omega, fun D1 hD1 => ?_⟩
    refine draw_list (K := K) (n := z) (L := L) hq4 (by omega) (by omega) hD1 fun H5 lw el hl hq5 g45 kD1 => ?_
    refine ⟨D1, _, rfl, .inl ⟨SqL.of kD1, fun la hla => ?_⟩⟩
    have pla : p ≠ la := ne_of_none hq5.1 hla
    have g56 := hide_new (f := p) hla (.tup (lw.map V.int))
    have hq6 : Pen K (upd H5 la (.tup (lw.map V.int))) p sc (k' + 1 + z) ns := pen_mono hq5 g56 (by rw [upd_ne pla]; exact hq5.1)
    refine ⟨_, rfl, (z : Int), rfl, by omega, by omega, fun D2 hD2 => ?_⟩
    refine draw_list (K := K) (n := z) (L := L) hq6 (by omega) (by omega) hD2 fun H7 rw' er hrl hq7 g67 kD2 => ?_
    refine ⟨D2, _, rfl, .inl ⟨SqL.of kD2, fun rb hrb => ?_⟩⟩
    have prb : p ≠ rb := ne_of_none hq7.1 hrb
    have g78 := hide_new (f := p) hrb (.tup (rw'.map V.int))
    have hq8 : Pen K (upd H7 rb (.tup (rw'.map V.int))) p sc (k' + 1 + z + z) ns := pen_mono hq7 g78 (by rw [upd_ne prb]; exact hq7.1)
    have gla : Same (hide p (upd H5 la (.tup (lw.map V.int)))) (hide p (upd H7 rb (.tup (rw'.map V.int)))) := g67.trans g78
    have gall : Same (hide p H3) (hide p (upd H7 rb (.tup (rw'.map V.int)))) := ((g34.trans g45).trans g56).trans gla
    have tla : upd H7 rb (.tup (rw'.map V.int)) la = some (.tup (lw.map V.int)) := (hide_some.mp (gla _ _ (hide_some.mpr ⟨Ne.symm pla, upd_same⟩))).2
    have k8 : upd H7 rb (.tup (rw'.map V.int)) ra = some (.lst rs) := (hide_some.mp (gall _ _ (hide_some.mpr ⟨Ne.symm pra, k3⟩))).2
    have d8 := all_nl (pen_nl hq gall) _ _ (noL_map noL_eR _) d3
    refine ⟨_, rfl, _, rfl, (by show 2 ≤ sizeLine; decide), fun t1 ht1 => ?_⟩
    have s9 := same_new ht1 (.tup [.ref la, .ref rb])
    have dl : Dp K (upd (upd H7 rb (.tup (rw'.map V.int))) t1 (.tup [.ref la, .ref rb])) (.ref la) (eW lw) := word_dp (SqT.of (s9 _ _ tla))
    have dr : Dp K (upd (upd H7 rb (.tup (rw'.map V.int))) t1 (.tup [.ref la, .ref rb])) (.ref rb) (eW rw') := word_dp (SqT.of (s9 _ _ upd_same))
    have k9 := s9 _ _ k8
    have d9 := all_same s9 _ _ d8
    have pt1 : p ≠ t1 := ne_of_none hq8.1 ht1
    have g89 := hide_new (f := p) ht1 (.tup [.ref la, .ref rb])
    have hq9 := pen_mono hq8 g89 (show upd (upd H7 rb (.tup (rw'.map V.int))) t1 (.tup [.ref la, .ref rb]) p = some (.lst [.ref sc, .int ((k' + 1 + z + z : Nat) : Int)]) by rw [upd_ne pt1]; exact hq8.1)
    refine ⟨_, rfl, eR (lw, rw'), R.map eR, .tup (SqT.of upd_same) (.cons dl (.cons dr .nil)), .lst (SqL.of k9) d9, shaped_of (lay_eR _) (Nat.le_trans (dep_eR _) (by decide)), shaped_of (lay_list lay_eR _) (Nat.le_trans (dep_list dep_eR _) (by decide)), _, rfl, ?_⟩
    have hokN : RulesOk L (R ++ [(lw, rw')]) := fun r hr' => by
      rcases List.mem_append.mp hr' with h | h
      · exact hok r h
      · rw [List.mem_singleton.mp h]
        exact ⟨by rw [el, er], by show 0 < lw.length; rw [el]; exact z1, hl, hrl⟩
    have hshN : Short (R ++ [(lw, rw')]) := fun r hr' => by
      rcases List.mem_append.mp hr' with h | h
      · exact hsh r h
      · rw [List.mem_singleton.mp h]
        exact ⟨by show lw.length ≤ 1000; omega, by show rw'.length ≤ 1000; omega⟩
    refine ite2 (fun _ => ?_) (fun _ => ?_)
    · refine ⟨_, rfl, .inl ⟨rfl, _, SqL.of k9⟩, _, rfl, _, rfl, (by show 2 ≤ sizeLine; decide), fun t2 ht2 => ?_⟩
      have s10 := same_new ht2 (.tup [.ref la, .ref rb])
      have k10 := s10 _ _ k9
      have g910 := hide_new (f := p) ht2 (.tup [.ref la, .ref rb])
      have pt2 : p ≠ t2 := ne_of_none hq9.1 ht2
      have hrs : rs.length ≤ 9 := by
        rw [all_len d9, List.length_map]
        omega
      have gF : Same (hide p H) (hide p (upd (upd (upd (upd H7 rb (.tup (rw'.map V.int))) t1 (.tup [.ref la, .ref rb])) t2 (.tup [.ref la, .ref rb])) ra (.lst (rs ++ [.ref t2])))) := fun b o e => by
        have e2 := ((((g4.trans gall).trans g89).trans g910)) b o e
        obtain ⟨n1, e3⟩ := hide_some.mp e2
        exact hide_some.mpr ⟨n1, by rw [upd_ne (ne_of_none e hraH)]; exact e3⟩
      refine ⟨ra, rs, _, rfl, rfl, k10, Nat.lt_of_le_of_lt hrs (by decide), ?_⟩
      refine ⟨rs ++ [.ref t2], R ++ [(lw, rw')], k' + 1 + z + z, _, _, _, _, _, _, rfl, pen_mono hp gF ?_, by omega, gF, upd_same, ?_, ?_, hokN, hshN⟩
      · rw [upd_ne pra, upd_ne pt2]
        exact hq9.1
      · rw [List.map_append]
        have n10 := nl_upd (o := .lst (rs ++ [.ref t2])) k10
        refine all_append (all_nl ((nl_same s10).trans n10) _ _ (noL_map noL_eR _) d9) (.cons ?_ .nil)
        exact dp_nl n10 _ _ (noL_eR _) (.tup (SqT.of upd_same) (.cons (dp_same s10 _ _ dl) (.cons (dp_same s10 _ _ dr) .nil)))
      · rw [List.length_append]
        show R.length + 1 ≤ i + 1
        omega
    · refine ⟨rs, R, k' + 1 + z + z, _, _, _, _, _, _, rfl, hq9, by omega, (g4.trans gall).trans g89, k9, d9, by omega, hok, hsh⟩
  · rintro σ H3 ⟨rs, R, k', v4, v5, v6, v7, v8, v9, rfl, hq, hk', g4, k3, d3, hRl, hok, hsh⟩
    have hn8 : n ≤ 8 := by omega
    refine ⟨_, rfl, _, rfl, ?_⟩
    refine ⟨_, rfl, (L : Int), rfl, by omega, by omega, fun D hD => ?_⟩
    have pD : p ≠ D := ne_of_none hq.1 hD
    have s0 : Same (hide p H3) (hide p (upd H3 D (.lst []))) := hide_new hD _
    refine lc_range (lo := 0) (n := L) (fun i H4 => ∃ E : List Int, E.length ≤ i ∧ Lets L E ∧ Pen K H4 p sc (k' + i) ns ∧ Same (hide p H3) (hide p H4) ∧ H4 D = some (.lst (E.map V.int)))
      ⟨[], Nat.le_refl _, lets_nil, pen_mono hq s0 (by rw [upd_ne pD]; exact hq.1), s0, upd_same⟩ ?_ ?_
    · rintro i H4 hi ⟨E, e1, hl, hp4, g5, k4⟩
      refine ⟨rfl, ?_⟩
      refine ⟨_, rfl, p, sc, 3, k' + i, ns, rfl, hp4, by omega, by decide, fun v H5 h0 h1 hp5 eh5 => ?_⟩
      have g6 : Same (hide p H4) (hide p H5) := same_of_eq eh5
      have k5 : H5 D = some (.lst (E.map V.int)) := (hide_some.mp (g6 _ _ (hide_some.mpr ⟨Ne.symm pD, k4⟩))).2
      refine ⟨_, _, rfl, rfl, _, rfl, ?_⟩
      refine ite2 (fun _ => ?_) (fun _ => ?_)
      · refine ⟨_, rfl, ?_⟩
        have g7 : Same (hide p H3) (hide p (upd H5 D (.lst (E.map V.int ++ [.int (0 + (i : Int))])))) := fun b o e => by
          have e2 := (g5.trans g6) b o e
          obtain ⟨n1, e3⟩ := hide_some.mp e2
          exact hide_some.mpr ⟨n1, by rw [upd_ne (ne_of_none (hide_some.mp e).2 hD)]; exact e3⟩
        refine ⟨_, k5, ?_, E ++ [0 + (i : Int)], ?_, lets_snoc hl (by omega) (by omega), pen_mono hq g7 ?_, g7, ?_⟩
        · rw [List.length_map]
          exact Nat.lt_of_le_of_lt (show E.length ≤ 1000 by omega) (by decide)
        · rw [List.length_append]
          show E.length + 1 ≤ i + 1
          omega
        · rw [upd_ne pD]
          exact hp5.1
        · rw [upd_same, List.map_append] <;> rfl
      · exact ⟨E, by omega, hl, hp5, g5.trans g6, k5⟩
    · rintro H4 ⟨E, e1, hl, hp4, g5, k4⟩
      refine ⟨(by show 3 ≤ sizeLine; decide), fun t ht => ?_⟩
      have pt : p ≠ t := ne_of_none hp4.1 ht
      have g6 := hide_new (f := p) ht (.tup [.int (L : Int), .ref ra, .ref D])
      have hp5 : Pen K (upd H4 t (.tup [.int (L : Int), .ref ra, .ref D])) p sc (k' + L) ns := pen_mono hp4 g6 (by rw [upd_ne pt]; exact hp4.1)
      refine q L R E _ _ (k' + L) L1 L5 hok hsh (by omega) hl (by omega) hp5 (by omega) ((g4.trans g5).trans g6) ?_
      refine words_dp (SqT.of (hide_some.mpr ⟨Ne.symm pt, upd_same⟩)) (SqL.of ((g5.trans g6) _ _ (hide_some.mpr ⟨Ne.symm pra, k3⟩))) ?_ (SqL.of (g6 _ _ (hide_some.mpr ⟨Ne.symm pD, k4⟩)))
      exact all_nl ((nl_hide hq.1).trans (nl_same (g5.trans g6))) _ _ (noL_map noL_eR _) d3
end
end SixW
namespace SixW
open PySem PySem.Spec PyProof.Rows L2 Six
/-- _law_word(pen, words): a word -/
def spWord (K : PySem.W.Frag) : Sp := fun vs H Q _ => ∃ (p s : Addr) (x : V) (k : Nat) (ns : List Int) (L : Nat) (R : List Rl) (E : List Int), vs = [.ref p, x] ∧ Pen K H p s k ns ∧ k ≤ 300 ∧ Dp K (hide p H) x (eWs L R E) ∧ 1 ≤ L ∧
  ∀ (w : Wd) (r : V) (H' : Hp) (k' : Nat), Lets L w → 1 ≤ w.length → w.length ≤ 8 → Pen K H' p s k' ns → k' ≤ k + 10 → Same (hide p H) (hide p H') → Dp K (hide p H') r (eW w) → Q r H'
/-- _law_mixed(pen, many): 0 to many - 1 in some order -/
def spMixed (K : PySem.W.Frag) : Sp := fun vs H Q _ => ∃ (p s : Addr) (n k : Nat) (ns : List Int), vs = [.ref p, .int (n : Int)] ∧ Pen K H p s k ns ∧ k ≤ 300 ∧ n ≤ 10 ∧
  ∀ (is : List Nat) (r : V) (H' : Hp), is.Perm (List.range n) → Pen K H' p s (k + n) ns → Same (hide p H) (hide p H') → Dp K (hide p H') r (.list ((is.map fun (i : Nat) => ((i : Nat) : Int)).map PyData.int)) → Q r H'
/-- _law_turned_word(word, names) -/
def spTurnW (K : PySem.W.Frag) : Sp := fun vs H Q _ => ∃ (x y : V) (w : Wd) (names : List Int), vs = [x, y] ∧ Dp K H x (eW w) ∧ Dp K H y (.list (names.map PyData.int)) ∧ Lets names.length w ∧ w.length ≤ 1000 ∧ ∀ r H', Same H H' → Dp K H' r (eW (tw names w)) → Q r H'
section
variable {P : Program} {w : World} {K : PySem.W.Frag} {mg : Str → Option Value} {base : Heap} {f g g2 g3 : Addr} {fd gd gd2 gd3 : FuncData}
theorem scWord : FnScope ["_law_pen", "_law_words_here", "_law_k"] ["_law_pen", "_law_words_here"] (defScope sWord) := ⟨rfl, rfl, rfl, by decide +kernel, rfl, by decide +kernel, by decide +kernel⟩
theorem ok_word (F : Fun K "_law_word" "_law_word" sWord f fd) (G : FnOk P w K mg base CX0 2 g gd ["_law_pen", "_law_most"] (spTake K)) (bG : Binds K gd ["_law_pen", "_law_most"] []) (kG : PySem.W.keepIn K (.ref g) = true) (mG : mg "_law_take" = some (.ref g))
    (mr : mg "range" = none) (mt : mg "tuple" = none) : FnOk P w K mg base CX0 3 f fd ["_law_pen", "_law_words_here"] (spWord K) := by
  refine F.ok scWord (fun vs H Q E h => ?_) (fun cdv A outer s H vs Q E hr h => ?_)
  · obtain ⟨_, _, _, _, _, _, _, _, rfl, _⟩ := h
    rfl
  obtain ⟨p, sc, x, k, ns, L, R, E, rfl, hp, hk, hx, hL, q⟩ := h
  refine ⟨_, pss_one (ps_ret (pe_callTy call_tuple_of (by rfl) mt (by decide +kernel) (pa_cons (pe_lc (own := [("_law_k", 2)]) (g := gName 2) (tt := tYes) rfl scWord.nd (pi_range1 rfl mr (pa_cons (pe_op op_add pe_int (pe_call G hr rfl mG kG bG .nil pass0 (pa_cons (pv 0) (pa_cons pe_int pa_nil)))) pa_nil))
    (blkOk_by (N := ["_law_pen", "_law_words_here", "_law_k"]) (sc := defScope sWord) (by decide +kernel)) (fun _ _ _ _ _ => pg_name (i := 2) scWord.nd rfl (Or.inl rfl)) (fun _ _ _ _ _ => pts_nil)
    (fun _ _ _ _ _ => pe_call G hr rfl mG kG bG .nil pass0 (pa_cons (pv 0) (pa_cons (pe_ix (r := rIxT K) ix_tup (pv 1) pe_int (fun _ _ => rfl)) pa_nil)))) pa_nil))), ?_⟩
  obtain ⟨c, ra, ea, xs, rfl, hc, _, _, _⟩ := dp_words hx
  refine ⟨_, rfl, p, sc, 8, k, ns, rfl, hp, by omega, by decide, fun v1 H1 a0 a1 hp1 eh1 => ?_⟩
  obtain ⟨n, hn⟩ : ∃ n : Nat, (1 : Int) + v1 = (n : Int) := ⟨((1 : Int) + v1).toNat, (Int.toNat_of_nonneg (by omega)).symm⟩
  have g1 : Same (hide p H) (hide p H1) := same_of_eq eh1
  refine ⟨1, v1, rfl, rfl, (1 : Int) + v1, rfl, by omega, by omega, fun D hD => ?_⟩
  rw [hn]
  have pD : p ≠ D := ne_of_none hp1.1 hD
  have s0 : Same (hide p H1) (hide p (upd H1 D (.lst []))) := hide_new hD _
  refine lc_range (lo := 0) (n := n) (fun i H2 => ∃ ws : List Int, ws.length = i ∧ Lets L ws ∧ Pen K H2 p sc (k + 1 + i) ns ∧ Same (hide p H1) (hide p H2) ∧ H2 D = some (.lst (ws.map V.int)))
    ⟨[], rfl, lets_nil, pen_mono hp1 s0 (by rw [upd_ne pD]; exact hp1.1), s0, upd_same⟩ ?_ ?_
  · rintro i H2 hi ⟨ws, e1, hl, hp2, g2, k2⟩
    refine ⟨rfl, ?_⟩
    refine ⟨_, rfl, _, rfl, c, _, 0, _, rfl, rfl, SixW.Same.seqT ((g1.trans g2).trans hide_le) hc, atI_nat (j := 0) rfl, ?_⟩
    refine ⟨p, sc, (L : Int), k + 1 + i, ns, rfl, hp2, by omega, by omega, fun v H3 h0 h1 hp3 eh => ?_⟩
    have g3 : Same (hide p H2) (hide p H3) := same_of_eq eh
    have k3 : H3 D = some (.lst (ws.map V.int)) := (hide_some.mp (g3 _ _ (hide_some.mpr ⟨Ne.symm pD, k2⟩))).2
    have g4 : Same (hide p H1) (hide p (upd H3 D (.lst (ws.map V.int ++ [.int v])))) := fun b o e => by
      have e2 := (g2.trans g3) b o e
      obtain ⟨n1, e3⟩ := hide_some.mp e2
      exact hide_some.mpr ⟨n1, by rw [upd_ne (ne_of_none (hide_some.mp e).2 hD)]; exact e3⟩
    refine ⟨_, k3, ?_, ws ++ [v], ?_, lets_snoc hl h0 h1, pen_mono hp1 g4 ?_, g4, ?_⟩
    · rw [List.length_map, e1]
      exact Nat.lt_of_le_of_lt (show i ≤ 1000 by omega) (by decide)
    · rw [List.length_append, e1] <;> rfl
    · rw [upd_ne pD]
      exact hp3.1
    · rw [upd_same, List.map_append] <;> rfl
  · rintro H2 ⟨ws, e1, hl, hp2, g2, k2⟩
    refine ⟨D, _, rfl, .inl ⟨SqL.of k2, fun t ht => ?_⟩⟩
    have pt : p ≠ t := ne_of_none hp2.1 ht
    have g3 := hide_new (f := p) ht (.tup (ws.map V.int))
    exact q ws _ _ (k + 1 + n) hl (by omega) (by omega) (pen_mono hp2 g3 (by rw [upd_ne pt]; exact hp2.1)) (by omega) ((g1.trans g2).trans g3) (word_dp (SqT.of (hide_some.mpr ⟨Ne.symm pt, upd_same⟩)))
theorem scMixed : FnScope ["_law_pen", "_law_many", "_law_found", "_law_k"] ["_law_pen", "_law_many"] (defScope sMixed) := ⟨rfl, rfl, rfl, by decide +kernel, rfl, by decide +kernel, by decide +kernel⟩
theorem mix_perm {is : List Nat} {i j : Nat} (h : is.Perm (List.range i)) : (is.take j ++ [i] ++ is.drop j).Perm (List.range (i + 1)) := by
  have h1 : (is.take j ++ [i] ++ is.drop j).Perm (i :: (is.take j ++ is.drop j)) := by
    rw [List.append_assoc]
    exact List.perm_middle
  rw [List.take_append_drop] at h1
  rw [List.range_succ]
  exact h1.trans ((h.cons i).trans (List.perm_append_singleton i (List.range i)).symm)
theorem ok_mixed (F : Fun K "_law_mixed" "_law_mixed" sMixed f fd) (G : FnOk P w K mg base CX0 2 g gd ["_law_pen", "_law_most"] (spTake K)) (bG : Binds K gd ["_law_pen", "_law_most"] []) (kG : PySem.W.keepIn K (.ref g) = true) (mG : mg "_law_take" = some (.ref g))
    (mr : mg "range" = none) : FnOk P w K mg base CX0 3 f fd ["_law_pen", "_law_many"] (spMixed K) := by
  refine F.ok scMixed (fun vs H Q E h => ?_) (fun cdv A outer s H vs Q E hr h => ?_)
  · obtain ⟨_, _, _, _, _, rfl, _⟩ := h
    rfl
  obtain ⟨p, sc, n, k, ns, rfl, hp, hk, hn, q⟩ := h
  refine ⟨_, pss_cons (ps_set (i := 2) scMixed.nd rfl (Or.inl rfl) (pe_lst pa_nil))
    (pss_cons (ps_for PassesOwn.never rfl (pi_range1 rfl mr (pa_cons (pv 1) pa_nil)) (pg_name (i := 3) scMixed.nd rfl (Or.inl rfl))
      (pss_one (ps_expr (pe_bm PySem.F.plainAttrs_list PySem.F.slot_list_insert PySem.F.type_list_insert mt_insert (pv 2) (pa_cons (pe_call G hr rfl mG kG bG .nil pass0 (pa_cons (pv 0) (pa_cons (pe_op op_add (pv 3) pe_int) pa_nil))) (pa_cons (pv 3) pa_nil))))))
    (pss_one (ps_ret (pv 2)))), ?_⟩
  refine ⟨(by show 0 ≤ sizeLine; decide), fun fa hf => ?_⟩
  have pf : p ≠ fa := ne_of_none hp.1 hf
  have s0 : Same (hide p H) (hide p (upd H fa (.lst []))) := hide_new hf _
  refine ⟨_, rfl, (n : Int), rfl, by omega, by omega, ?_⟩
  refine for_range (lo := 0) (n := n) (fun i σ H1 => ∃ (is : List Nat) (v3 : Option V), σ = [some (.ref p), some (.int (n : Int)), some (.ref fa), v3] ∧ is.Perm (List.range i) ∧ Pen K H1 p sc (k + i) ns ∧ Same (hide p H) (hide p H1) ∧ H1 fa = some (.lst ((is.map fun (i : Nat) => ((i : Nat) : Int)).map V.int)))
    ⟨[], none, rfl, List.Perm.refl _, pen_mono hp s0 (by rw [upd_ne pf]; exact hp.1), s0, upd_same⟩ ?_ ?_
  · rintro i σ H1 hi ⟨is, v3, rfl, hpm, hp1, g1, k1⟩
    refine ⟨_, rfl, .inl ⟨rfl, _, SqL.of k1⟩, _, rfl, _, rfl, _, _, rfl, rfl, ?_⟩
    refine ⟨p, sc, 0 + (i : Int) + 1, k + i, ns, rfl, hp1, by omega, by omega, fun v H2 h0 h1 hp2 eh => ?_⟩
    have g2 : Same (hide p H1) (hide p H2) := same_of_eq eh
    have k2 : H2 fa = some (.lst ((is.map fun (i : Nat) => ((i : Nat) : Int)).map V.int)) := (hide_some.mp (g2 _ _ (hide_some.mpr ⟨Ne.symm pf, k1⟩))).2
    have hlen : is.length = i := by rw [hpm.length_eq, List.length_range]
    have g3 : ∀ o, Same (hide p H) (hide p (upd H2 fa o)) := fun o b u e => by
      have e2 := (g1.trans g2) b u e
      obtain ⟨n1, e3⟩ := hide_some.mp e2
      exact hide_some.mpr ⟨n1, by rw [upd_ne (ne_of_none (hide_some.mp e).2 hf)]; exact e3⟩
    refine ⟨_, rfl, fa, _, v, .int (0 + (i : Int)), rfl, rfl, k2, ?_, h0, by omega, ?_⟩
    · rw [List.length_map, List.length_map, hlen]
      exact Nat.lt_of_le_of_lt (show i ≤ 1000 by omega) (by decide)
    · refine ⟨is.take v.toNat ++ [i] ++ is.drop v.toNat, _, rfl, mix_perm hpm, pen_mono hp (g3 _) ?_, g3 _, ?_⟩
      · rw [upd_ne pf]
        exact hp2.1
      · rw [upd_same, Int.zero_add, List.map_append, List.map_append, List.map_append, List.map_append, List.map_take, List.map_take, List.map_drop, List.map_drop] <;> rfl
  · rintro σ H1 ⟨is, v3, rfl, hpm, hp1, g1, k1⟩
    refine ⟨_, rfl, q is _ H1 hpm hp1 g1 (.lst (SqL.of (hide_some.mpr ⟨Ne.symm pf, k1⟩)) (ints_all _))⟩
theorem scTurnW : FnScope ["_law_word_here", "_law_names", "_law_letter"] ["_law_word_here", "_law_names"] (defScope sTurnW) := ⟨rfl, rfl, rfl, by decide +kernel, rfl, by decide +kernel, by decide +kernel⟩
theorem ok_turnW (F : Fun K "_law_turned_word" "_law_turned_word" sTurnW f fd) (mt : mg "tuple" = none) : FnOk P w K mg base CX0 1 f fd ["_law_word_here", "_law_names"] (spTurnW K) := by
  refine F.ok scTurnW (fun vs H Q E h => ?_) (fun cdv A outer s H vs Q E hr h => ?_)
  · obtain ⟨_, _, _, _, rfl, _⟩ := h
    rfl
  obtain ⟨x, y, w, names, rfl, hx, hy, hl, hw, q⟩ := h
  refine ⟨_, pss_one (ps_ret (pe_callTy call_tuple_of (by rfl) mt (by decide +kernel) (pa_cons (pe_lc (own := [("_law_letter", 2)]) (g := gName 2) (tt := tYes) rfl scTurnW.nd (pi_tup (SixR.pe_revT (pv 0)))
    (blkOk_by (N := ["_law_word_here", "_law_names", "_law_letter"]) (sc := defScope sTurnW) (by decide +kernel)) (fun _ _ _ _ _ => pg_name (i := 2) scTurnW.nd rfl (Or.inl rfl)) (fun _ _ _ _ _ => pts_nil)
    (fun _ _ _ _ _ => pe_ix (r := rIxL K) ix_list (pv 1) (pv 2) (fun _ _ => rfl))) pa_nil))), ?_⟩
  obtain ⟨a, rfl, ha⟩ := dp_word hx
  obtain ⟨b, xs, rfl, hb, hba⟩ := dp_lst hy
  rw [all_ints hba] at hb
  refine ⟨_, rfl, a, _, rfl, ha, fun t ht => ?_⟩
  have s1 := same_new ht (.tup (w.map V.int).reverse)
  have er : (w.map V.int).reverse = w.reverse.map V.int := (List.map_reverse).symm
  refine ⟨t, rfl, ⟨_, SqT.of upd_same⟩, fun D hD => ?_⟩
  have s2 := same_new hD (.lst [])
  have tD : t ≠ D := ne_of_none upd_same hD
  have hDH : H D = none := s1.free hD
  refine lc_tup (K := K) (xs := w.reverse.map V.int) (fun i H1 => Same H (hide D H1) ∧ H1 t = some (.tup (w.reverse.map V.int)) ∧ H1 D = some (.lst (((w.reverse.take i).map (fn names)).map V.int)))
    ⟨hide_of hDH (s1.trans s2), by rw [upd_ne tD, upd_same, er], upd_same⟩ (fun i H1 _ p => SqT.of p.2.1) ?_ ?_
  · rintro i x0 H1 hx0 ⟨g1, k1, k2⟩
    rw [List.getElem?_map] at hx0
    obtain ⟨l, hlw, rfl⟩ := Option.map_eq_some_iff.mp hx0
    have hi : i < w.reverse.length := (List.getElem?_eq_some_iff.mp hlw).1
    have hl' := hl l (List.mem_reverse.mp (List.mem_of_getElem? hlw))
    have hln : l.toNat < names.length := by omega
    refine ⟨rfl, ?_⟩
    refine ⟨_, rfl, _, rfl, b, _, l, .int (fn names l), rfl, rfl, (g1.trans hide_le).seq hb, ?_, ?_⟩
    · rw [show l = ((l.toNat : Nat) : Int) by omega]
      refine atI_nat ?_
      rw [List.getElem?_map, List.getElem?_eq_getElem hln]
      unfold fn
      rw [List.getD_eq_getElem?_getD, Int.toNat_natCast, List.getElem?_eq_getElem hln]
      rfl
    · refine ⟨_, k2, ?_, ?_, ?_, ?_⟩
      · rw [List.length_map, List.length_map, List.length_take]
        rw [List.length_reverse] at hi ⊢
        exact Nat.lt_of_le_of_lt (show min i w.length ≤ 1000 by omega) (by decide)
      · rw [hide_upd]
        exact g1
      · rw [upd_ne tD]
        exact k1
      · rw [upd_same, List.take_add_one, hlw, List.map_append, List.map_append] <;> rfl
  · rintro H1 ⟨g1, k1, k2⟩
    rw [List.length_map, List.take_length] at k2
    refine ⟨D, _, rfl, .inl ⟨SqL.of k2, fun u hu => ?_⟩⟩
    exact q _ _ ((g1.trans hide_le).trans (same_new hu _)) (word_dp (SqT.of upd_same))
end
end SixW
namespace SixW
open PySem PySem.Spec PyProof.Rows L2 Six
/-- _law_longer(words, word, many), many above 0: what chains gives -/
def spLonger (K : PySem.W.Frag) (n : Nat) : Sp := fun vs H Q _ => ∃ (x y : V) (L : Int) (Ln : Nat) (R : List Rl) (E : List Int) (w : Wd) (m : Nat), vs = [x, y, .int ((m + 1 : Nat) : Int)] ∧ m < n ∧ m + 1 ≤ 3 ∧ Dp K H x (eWs L R E) ∧ Dp K H y (eW w) ∧ RulesOk Ln R ∧ R.length ≤ 8 ∧ w.length ≤ 8 ∧
  ∀ r H', Same H H' → Dp K (lim H H') r (.list ((chainsF R E (m + 1) w).map eC)) → Q r H'
section
variable {P : Program} {w : World} {K : PySem.W.Frag} {mg : Str → Option Value} {base : Heap} {f g g2 g3 : Addr} {fd gd gd2 gd3 : FuncData}
theorem scLonger : FnScope ["_law_words_here", "_law_word_here", "_law_many", "_law_found", "_law_step", "_law_rest"] ["_law_words_here", "_law_word_here", "_law_many"] (defScope sLonger) := ⟨rfl, rfl, rfl, by decide +kernel, rfl, by decide +kernel, by decide +kernel⟩
theorem ok_longer {n k : Nat} (hk : 2 ≤ k) (F : Fun K "_law_longer" "_law_longer" sLonger f fd) (I : FnOk P w K mg base CX0 k g3 gd3 ["words", "word", "many"] (spChains K n)) (bI : Binds K gd3 ["words", "word", "many"] []) (kI : PySem.W.keepIn K (.ref g3) = true) (mI : mg "chains" = some (.ref g3))
    (G : FnOk P w K mg base CX0 2 g gd ["words", "word"] (spSteps K)) (bG : Binds K gd ["words", "word"] []) (kG : PySem.W.keepIn K (.ref g) = true) (mG : mg "steps" = some (.ref g))
    (G2 : FnOk P w K mg base CX0 1 g2 gd2 ["words", "word", "step"] (spPut K)) (bG2 : Binds K gd2 ["words", "word", "step"] []) (kG2 : PySem.W.keepIn K (.ref g2) = true) (mG2 : mg "put" = some (.ref g2)) :
    FnOk P w K mg base CX0 (k + 1) f fd ["_law_words_here", "_law_word_here", "_law_many"] (spLonger K n) := by
  refine F.ok scLonger (fun vs H Q E h => ?_) (fun cdv A outer s H vs Q E hr h => ?_)
  · obtain ⟨x, y, _, _, _, _, _, _, rfl, _⟩ := h
    rfl
  obtain ⟨x, y, L, Ln, R, E, w, m', rfl, hm, hm3, hx, hy, hok, hR, hw, q⟩ := h
  refine ⟨_, pss_cons (ps_set (i := 3) scLonger.nd rfl (Or.inl rfl) (pe_lst pa_nil))
    (pss_cons (ps_for PassesOwn.never rfl (pi_list (pe_call G (hr.mono (by omega)) rfl mG kG bG .nil pass0 (pa_cons (pv 0) (pa_cons (pv 1) pa_nil)))) (pg_name (i := 4) scLonger.nd rfl (Or.inl rfl))
      (pss_one (ps_for PassesOwn.never rfl (pi_list (pe_call I hr rfl mI kI bI .nil pass0 (pa_cons (pv 0) (pa_cons (pe_call G2 (hr.mono (by omega)) rfl mG2 kG2 bG2 .nil pass0 (pa_cons (pv 0) (pa_cons (pv 1) (pa_cons (pv 4) pa_nil)))) (pa_cons (pe_op op_sub (pv 2) pe_int) pa_nil))))) (pg_name (i := 5) scLonger.nd rfl (Or.inl rfl))
        (pss_one (ps_expr (pe_bm PySem.F.plainAttrs_list PySem.F.slot_list_append PySem.F.type_list_append mt_append (pv 3) (pa_cons (pe_op SixR.op_catL (pe_lst (pa_cons (pv 4) pa_nil)) (pv 5)) pa_nil)))))))
    (pss_one (ps_ret (pv 3)))), ?_⟩
  refine ⟨(by show 0 ≤ sizeLine; decide), fun fa hf => ?_⟩
  have s0 : Same H (upd H fa (.lst [])) := same_new hf _
  refine ⟨_, rfl, _, rfl, x, y, L, R, E, w, rfl, dp_same s0 _ _ hx, dp_same s0 _ _ hy, by omega, by omega, fun r1 H1 g1 h1 => ?_⟩
  have kf1 : H1 fa = some (.lst []) := g1 _ _ upd_same
  have gg1 : Same H (hide fa H1) := hide_of hf (s0.trans g1)
  have h1' := dp_same ((lim_sub s0 (upd_same (o := .lst [])) g1 ⟨_, rfl⟩).trans lim_le) _ _ h1
  obtain ⟨sa, ss, rfl, hsl, hsa⟩ := dp_lst h1'
  refine ⟨sa, rfl, ⟨_, hide_le.seq hsl⟩, ?_⟩
  have hss : ss.length = (stepsF R w).length := by rw [all_len hsa, List.length_map]
  refine for_list (xs := ss) (fun i σ H2 => ∃ (xs : List V) (v4 v5 : Option V), σ = [some x, some y, some (.int ((m' + 1 : Nat) : Int)), some (.ref fa), v4, v5] ∧ H2 fa = some (.lst xs) ∧ Same H (hide fa H2) ∧ SqL K (hide fa H2) sa ss ∧ DpAll K (hide fa H2) ss ((stepsF R w).map eS) ∧
      DpAll K (lim H (hide fa H2)) xs ((((stepsF R w).take i).flatMap (gF R E m' w)).map eC))
    ⟨[], none, none, rfl, kf1, gg1, hsl, hsa, .nil⟩ (fun i σ H2 _ ⟨_, _, _, _, _, _, k2, _, _⟩ => hide_le.seq k2) ?_ ?_
  · rintro i x0 σ H2 hx0 ⟨xs, v4, v5, rfl, k2, g2, l2, a2, d2⟩
    obtain ⟨st, hst, hd⟩ := all_map_at a2 hx0
    have hmem : st ∈ stepsF R w := List.mem_of_getElem? hst
    obtain ⟨q1, q2⟩ := rl_len hok hmem
    have hd' := dp_same hide_le _ _ hd
    refine ⟨_, rfl, _, rfl, _, rfl, _, rfl, x, y, x0, L, R, E, w, st, rfl, dp_same (g2.trans hide_le) _ _ hx, dp_same (g2.trans hide_le) _ _ hy, hd', q1, by omega, by omega, fun r3 H3 g3 h3 => ?_⟩
    refine ⟨_, rfl, _, _, rfl, rfl, x, r3, L, Ln, R, E, Six.putF R w st, m', ?_, hm, by omega, dp_same ((g2.trans hide_le).trans g3) _ _ hx, h3, hok, hR, by rw [put_len hok hmem]; exact hw, fun r4 H4 g4 h4 => ?_⟩
    · show [x, r3, V.int (((m' + 1 : Nat) : Int) - 1)] = [x, r3, V.int (m' : Int)]
      rw [show (((m' + 1 : Nat) : Int) - 1) = (m' : Int) by omega]
    have k3 := g3 _ _ k2
    have k4 := g4 _ _ k3
    have g34 : Same (hide fa H2) (hide fa H4) := hide_same (g3.trans g4)
    have h4' := dp_same ((lim_sub ((g2.trans hide_le).trans g3) k3 g4 ⟨_, rfl⟩).trans lim_le) _ _ h4
    obtain ⟨ra, rs, rfl, hrl, hra⟩ := dp_lst h4'
    refine ⟨ra, rfl, ⟨_, hide_le.seq hrl⟩, ?_⟩
    have hrs : rs.length = (chainsF R E m' (Six.putF R w st)).length := by rw [all_len hra, List.length_map]
    refine for_list (xs := rs) (fun j σ H5 => ∃ (xs : List V) (v5 : Option V), σ = [some x, some y, some (.int ((m' + 1 : Nat) : Int)), some (.ref fa), some x0, v5] ∧ H5 fa = some (.lst xs) ∧ Same H (hide fa H5) ∧ SqL K (hide fa H5) sa ss ∧ DpAll K (hide fa H5) ss ((stepsF R w).map eS) ∧
        SqL K (hide fa H5) ra rs ∧ DpAll K (hide fa H5) rs ((chainsF R E m' (Six.putF R w st)).map eC) ∧ Dp K (hide fa H5) x0 (eS st) ∧
        DpAll K (lim H (hide fa H5)) xs ((((stepsF R w).take i).flatMap (gF R E m' w) ++ (gF R E m' w st).take j).map eC))
      ⟨xs, v5, rfl, k4, g2.trans g34, g34.seq l2, all_same g34 _ _ a2, hrl, hra, dp_same g34 _ _ hd, ?_⟩ (fun j σ H5 _ ⟨_, _, _, _, _, _, _, k5, _⟩ => hide_le.seq k5) ?_ ?_
    · rw [List.take_zero, List.append_nil]
      exact all_same (lim_same g34) _ _ d2
    · rintro j z0 σ H5 hz0 ⟨zs, w5, rfl, k5, g5, l5, a5, rl5, ra5, x5, d5⟩
      obtain ⟨c, hc, hdc⟩ := all_map_at ra5 hz0
      obtain ⟨za, cs, rfl, hzl, hza⟩ := dp_lst hdc
      refine ⟨_, rfl, .inl ⟨rfl, _, SqL.of k5⟩, _, rfl, (by show 1 ≤ sizeLine; decide), fun p1 hp1 => ?_⟩
      have n1 : fa ≠ p1 := ne_of_none k5 hp1
      have s1 := same_new hp1 (.lst [x0])
      have hcl : c.length = m' := (chains_valid R E m' _ c (List.mem_of_getElem? hc)).2
      refine ⟨_, rfl, p1, za, _, _, rfl, rfl, SqL.of upd_same, s1.seq (hide_le.seq hzl), ?_, fun p2 hp2 => ?_⟩
      · rw [all_len hza, List.length_map, hcl]
        exact smallL (by show 1 + m' ≤ 1000000; omega)
      have k6 : upd H5 p1 (.lst [x0]) fa = some (.lst zs) := by rw [upd_ne n1]; exact k5
      have n2 : fa ≠ p2 := ne_of_none k6 hp2
      have k7 : upd (upd H5 p1 (.lst [x0])) p2 (.lst ([x0] ++ cs)) fa = some (.lst zs) := by rw [upd_ne n2]; exact k6
      have s2 := same_new hp2 (.lst ([x0] ++ cs))
      have s12 : Same (hide fa H5) (hide fa (upd (upd H5 p1 (.lst [x0])) p2 (.lst ([x0] ++ cs)))) := hide_same (s1.trans s2)
      have hlen : zs.length ≤ 262144 := by
        rw [all_len d5, List.length_map, List.length_append]
        have h8 := flatMap_take_length (f := gF R E m' w) i j st hst
        rw [← chains_succ] at h8
        exact Nat.le_trans h8 (Nat.le_trans (chains_count hok hR E (m' + 1) w hw) (count3 hm3))
      refine ⟨fa, zs, _, rfl, rfl, k7, Nat.lt_of_le_of_lt hlen (by decide), ?_⟩
      refine ⟨zs ++ [.ref p2], _, rfl, upd_same, ?_⟩
      rw [hide_upd]
      refine ⟨g5.trans s12, s12.seq l5, all_same s12 _ _ a5, s12.seq rl5, all_same s12 _ _ ra5, dp_same s12 _ _ x5, ?_⟩
      have egj : (gF R E m' w st)[j]? = some (st :: c) := by
        unfold gF
        rw [List.getElem?_map, hc] <;> rfl
      rw [List.take_add_one, egj, ← List.append_assoc, List.map_append]
      refine all_append (all_same (lim_same s12) _ _ d5) (.cons ?_ .nil)
      have hp2H : H p2 = none := by
        have := (s1.free hp2)
        exact (g5.trans hide_le).free this
      refine .lst (xs := [x0] ++ cs) (SqL.of (lim_lst (hide_some.mpr ⟨Ne.symm n2, upd_same⟩) hp2H)) ?_
      show DpAll K _ (x0 :: cs) (eS st :: c.map eS)
      exact .cons (dp_nl ((nl_same s12).trans nl_lim) _ _ (noL_eS _) x5) (all_nl ((nl_same s12).trans nl_lim) _ _ (noL_map noL_eS _) hza)
    · rintro σ H5 ⟨zs, w5, rfl, k5, g5, l5, a5, rl5, ra5, x5, d5⟩
      refine ⟨zs, _, _, rfl, k5, g5, l5, a5, ?_⟩
      rw [List.take_add_one, hst, List.flatMap_append]
      have e9 : rs.length = (gF R E m' w st).length := by
        unfold gF
        rw [List.length_map]
        exact hrs
      rw [e9, List.take_length] at d5
      have e10 : (some st).toList.flatMap (gF R E m' w) = gF R E m' w st := by
        show gF R E m' w st ++ [] = _
        rw [List.append_nil]
      rw [e10]
      exact d5
  · rintro σ H3 ⟨zs, _, _, rfl, k3, g3, l3, a3, d3⟩
    refine ⟨_, rfl, q _ _ (g3.trans hide_le) ?_⟩
    rw [hss, List.take_length] at d3
    rw [chains_succ]
    exact .lst (SqL.of (lim_lst k3 hf)) (all_same (lim_same hide_le) _ _ d3)
end
end SixW
namespace SixW
open PySem PySem.Spec PyProof.Rows L2 Six
/-- the numbers of a list of places -/
def natsI (is : List Nat) : List Int := is.map fun (i : Nat) => ((i : Nat) : Int)
/-- _law_turned_chain(words, word, order, chain) -/
def spTurnC (K : PySem.W.Frag) : Sp := fun vs H Q _ => ∃ (x y z u : V) (L : Int) (R : List Rl) (E : List Int) (w : Wd) (order : List Nat) (c : Chn), vs = [x, y, z, u] ∧ Dp K H x (eWs L R E) ∧ Dp K H y (eW w) ∧ Dp K H z (.list ((natsI order).map PyData.int)) ∧ Dp K H u (eC c) ∧
  (∀ s ∈ c, s.1 < R.length ∧ s.1 ∈ order ∧ s.2 + (rl R s.1).1.length ≤ w.length) ∧ c.length ≤ 1000 ∧ ∀ r H', Same H H' → Dp K (lim H H') r (eC (tC R order w.length c)) → Q r H'
section
variable {P : Program} {w : World} {K : PySem.W.Frag} {mg : Str → Option Value} {base : Heap} {f g g2 g3 : Addr} {fd gd gd2 gd3 : FuncData}
theorem scTurnC : FnScope ["_law_words_here", "_law_word_here", "_law_order", "_law_chain", "_law_found", "_law_number", "_law_place"] ["_law_words_here", "_law_word_here", "_law_order", "_law_chain"] (defScope sTurnC) := ⟨rfl, rfl, rfl, by decide +kernel, rfl, by decide +kernel, by decide +kernel⟩
theorem natsI_get {is : List Nat} {j i : Nat} (h : is[j]? = some i) : ((natsI is).map V.int)[j]? = some (.int (i : Int)) := by
  unfold natsI
  rw [List.getElem?_map, List.getElem?_map, h]
  rfl
theorem idx_before {is : List Nat} {i m : Nat} {z : V} (hm : m < is.idxOf i) (hz : ((natsI is).map V.int)[m]? = some z) : eqV z (.int (i : Int)) = false := by
  unfold natsI at hz
  rw [List.getElem?_map, List.getElem?_map] at hz
  cases e : is[m]? with
  | none => rw [e] at hz; cases hz
  | some a =>
    rw [e] at hz
    have ez : V.int (a : Int) = z := Option.some.inj hz
    subst ez
    have hne : a ≠ i := by
      intro q
      subst q
      obtain ⟨hl, ea⟩ := List.getElem?_eq_some_iff.mp e
      have := List.not_of_lt_findIdx (p := fun x => x == a) (xs := is) (i := m) hm
      rw [ea] at this
      simp at this
    show (((a : Nat) : Int) == ((i : Nat) : Int)) = false
    exact beq_eq_false_iff_ne.mpr (by omega)
theorem ok_turnC (F : Fun K "_law_turned_chain" "_law_turned_chain" sTurnC f fd) (ml : mg "len" = none) : FnOk P w K mg base CX0 1 f fd ["_law_words_here", "_law_word_here", "_law_order", "_law_chain"] (spTurnC K) := by
  refine F.ok scTurnC (fun vs H Q E h => ?_) (fun cdv A outer s H vs Q E hr h => ?_)
  · obtain ⟨_, _, _, _, _, _, _, _, _, _, rfl, _⟩ := h
    rfl
  obtain ⟨x, y, z, u, L, R, E, w, order, c, rfl, hx, hy, hz, hu, hok, hc, q⟩ := h
  refine ⟨_, pss_cons (ps_set (i := 4) scTurnC.nd rfl (Or.inl rfl) (pe_lst pa_nil))
    (pss_cons (ps_for PassesOwn.never rfl (pi_list (pv 3)) (pg_tup rfl (pgs_cons (pg_name (i := 5) scTurnC.nd rfl (Or.inl rfl)) (pgs_cons (pg_name (i := 6) scTurnC.nd rfl (Or.inl rfl)) pgs_nil)))
      (pss_one (ps_expr (pe_bm PySem.F.plainAttrs_list PySem.F.slot_list_append PySem.F.type_list_append mt_append (pv 4)
        (pa_cons (pe_tup (pa_cons (pe_bm PySem.F.plainAttrs_list PySem.F.slot_list_index PySem.F.type_list_index mt_index (pv 2) (pa_cons (pv 5) pa_nil))
          (pa_cons (pe_op op_sub (pe_op op_sub (pe_callB call_len_seq rfl ml PySem.boot_len (pa_cons (pv 1) pa_nil)) (pv 6))
            (pe_callB call_len_seq rfl ml PySem.boot_len (pa_cons (pe_ix ix_tup (pe_ix ix_list (pe_ix ix_tup (pv 0) pe_int (fun _ _ => rfl)) (pv 5) (fun _ _ => rfl)) pe_int (fun _ _ => rfl)) pa_nil))) pa_nil))) pa_nil)))))
    (pss_one (ps_ret (pv 4)))), ?_⟩
  obtain ⟨wa, ra, ea, rs, rfl, hwa, hra, hraa, _⟩ := dp_words hx
  obtain ⟨b, rfl, hb⟩ := dp_word hy
  obtain ⟨oa, os, rfl, hoa, hoaa⟩ := dp_lst hz
  rw [all_ints hoaa] at hoa
  obtain ⟨ca, cs, rfl, hca, hcaa⟩ := dp_lst hu
  refine ⟨(by show 0 ≤ sizeLine; decide), fun fa hf => ?_⟩
  have s0 : Same H (upd H fa (.lst [])) := same_new hf _
  refine ⟨_, rfl, ca, rfl, ⟨_, s0.seq hca⟩, ?_⟩
  have hcs : cs.length = c.length := by rw [all_len hcaa, List.length_map]
  refine for_list (xs := cs) (fun i σ H1 => ∃ (xs : List V) (v5 v6 : Option V), σ = [some (.ref wa), some (.ref b), some (.ref oa), some (.ref ca), some (.ref fa), v5, v6] ∧ H1 fa = some (.lst xs) ∧ Same H (hide fa H1) ∧ DpAll K (hide fa H1) xs ((tC R order w.length (c.take i)).map eS))
    ⟨[], none, none, rfl, upd_same, hide_of hf s0, .nil⟩ (fun i σ H1 _ ⟨_, _, _, _, _, g1, _⟩ => (g1.trans hide_le).seq hca) ?_ ?_
  · rintro i x0 σ H1 hx0 ⟨xs, v5, v6, rfl, k1, g1, d1⟩
    obtain ⟨st, hst, hd⟩ := all_map_at hcaa hx0
    have hi : i < c.length := (List.getElem?_eq_some_iff.mp hst).1
    obtain ⟨h1, h2, h3⟩ := hok st (List.mem_of_getElem? hst)
    have gg := g1.trans hide_le
    obtain ⟨t, rfl, ht⟩ := dp_step (dp_same gg _ _ hd)
    refine ⟨t, _, rfl, ht, rfl, _, _, rfl, _, _, rfl, rfl, ?_⟩
    have hidx := List.idxOf_lt_length_of_mem h2
    have hat : order[order.idxOf st.1]? = some st.1 := by rw [List.getElem?_eq_getElem hidx, List.getElem_idxOf hidx]
    refine ⟨_, rfl, .inl ⟨rfl, _, SqL.of k1⟩, _, rfl, .inl ⟨rfl, _, gg.seq hoa⟩, _, rfl, oa, _, _, order.idxOf st.1, .int ((st.1 : Nat) : Int), rfl, rfl, gg.seq hoa, rfl, flat_ints _, natsI_get hat, beq_self_eq_true _, fun m z hm hz => idx_before hm hz, ?_⟩
    obtain ⟨x1, hx1, hd1⟩ := rule_at hraa h1
    obtain ⟨rr, lv, rv, rfl, hrt, hlv, hrv⟩ := dp_pair (dp_same gg _ _ hd1)
    obtain ⟨la, rfl, hla⟩ := dp_word hlv
    refine ⟨_, rfl, b, _, rfl, .inr (SixW.Same.seqT gg hb), _, rfl, _, _, rfl, rfl, ?_⟩
    refine ⟨_, rfl, wa, _, 1, _, rfl, rfl, SixW.Same.seqT gg hwa, atI_nat (j := 1) rfl, _, rfl, ra, _, _, _, rfl, rfl, gg.seq hra, atI_nat hx1, rr, _, 0, _, rfl, rfl, hrt, atI_nat (j := 0) rfl, la, _, rfl, .inr hla, _, _, rfl, rfl, ?_⟩
    refine ⟨(by show 2 ≤ sizeLine; decide), fun t2 ht2 => ?_⟩
    have e9 : ((((w.map V.int).length : Nat) : Int) - ((st.2 : Nat) : Int) - ((((rl R st.1).1.map V.int).length : Nat) : Int)) = ((((tS R order w.length st).2 : Nat) : Nat) : Int) := by
      unfold tS
      rw [List.length_map, List.length_map]
      simp only
      omega
    have n2 : fa ≠ t2 := ne_of_none k1 ht2
    have hlen : xs.length ≤ 1000 := by
      rw [all_len d1, List.length_map]
      unfold Six.tC
      rw [List.length_map, List.length_take]
      omega
    refine ⟨fa, xs, _, rfl, rfl, by rw [upd_ne n2]; exact k1, Nat.lt_of_le_of_lt hlen (by decide), ?_⟩
    refine ⟨xs ++ [.ref t2], _, _, rfl, upd_same, ?_, ?_⟩
    · rw [hide_upd]
      exact g1.trans (hide_new ht2 _)
    · rw [hide_upd, List.take_add_one, hst]
      unfold Six.tC
      rw [List.map_append, List.map_append]
      refine all_append (all_same (hide_new ht2 _) _ _ d1) (.cons (step_dp (SqT.of ?_)) .nil)
      refine hide_some.mpr ⟨Ne.symm n2, ?_⟩
      rw [← e9]
      exact upd_same
  · rintro σ H1 ⟨xs, v5, v6, rfl, k1, g1, d1⟩
    refine ⟨_, rfl, q _ _ (g1.trans hide_le) ?_⟩
    rw [hcs, List.take_length] at d1
    exact .lst (SqL.of (lim_lst k1 hf)) (all_nl ((nl_same hide_le).trans nl_lim) _ _ (noL_map noL_eS _) d1)
end
end SixW
namespace SixW
open PySem PySem.Spec PyProof.Rows L2 Six
/-- _law_turned(words, names, order) -/
def spTurned (K : PySem.W.Frag) : Sp := fun vs H Q _ => ∃ (x y z : V) (L : Nat) (R : List Rl) (E : List Int) (names : List Int) (order : List Nat), vs = [x, y, z] ∧ Dp K H x (eWs (L : Int) R E) ∧ Dp K H y (.list (names.map PyData.int)) ∧ Dp K H z (.list ((natsI order).map PyData.int)) ∧
  RulesOk L R ∧ Short R ∧ Lets L E ∧ names.length = L ∧ (∀ i ∈ order, i < R.length) ∧ order.length ≤ 100 ∧ E.length ≤ 50 ∧
  ∀ (E' : List Int) (r : V) (H' : Hp), E'.Perm (E.map (fn names)) → Same H H' → Dp K H' r (eWs (L : Int) (tR names R order) E') → Q r H'
section
variable {P : Program} {w : World} {K : PySem.W.Frag} {mg : Str → Option Value} {base : Heap} {f g g2 g3 : Addr} {fd gd gd2 gd3 : FuncData}
abbrev nmTurned : List Str := ["_law_words_here", "_law_names", "_law_order", "_law_rules", "_law_number", "_law_left", "_law_right", "_law_letter"]
theorem scTurned : FnScope nmTurned ["_law_words_here", "_law_names", "_law_order"] (defScope sTurned) := ⟨rfl, rfl, rfl, by decide +kernel, rfl, by decide +kernel, by decide +kernel⟩
theorem fn_at {names : List Int} {l : Int} (h : 0 ≤ l ∧ l < (names.length : Int)) : atI (names.map V.int) l = some (.int (fn names l)) := by
  have hln : l.toNat < names.length := by omega
  rw [show l = ((l.toNat : Nat) : Int) by omega]
  refine atI_nat ?_
  rw [List.getElem?_map, List.getElem?_eq_getElem hln]
  unfold fn
  rw [List.getD_eq_getElem?_getD, Int.toNat_natCast, List.getElem?_eq_getElem hln]
  rfl
theorem natsI_at {is : List Nat} {i : Nat} {x : V} (h : ((natsI is).map V.int)[i]? = some x) : ∃ j, is[i]? = some j ∧ x = .int (j : Int) := by
  unfold natsI at h
  rw [List.getElem?_map, List.getElem?_map] at h
  cases e : is[i]? with
  | none => rw [e] at h; cases h
  | some j =>
    rw [e] at h
    exact ⟨j, rfl, (Option.some.inj h).symm⟩
theorem natsI_len (is : List Nat) : ((natsI is).map V.int).length = is.length := by
  unfold natsI
  rw [List.length_map, List.length_map]
/-- a rule, turned -/
def tr (names : List Int) (r : Rl) : Rl := (tw names r.1, tw names r.2)
theorem tR_eq (names : List Int) (R : List Rl) (order : List Nat) : tR names R order = (order.map (rl R)).map (tr names) := by
  unfold tR
  rw [List.map_map]
  rfl
theorem ok_turned (F : Fun K "_law_turned" "_law_turned" sTurned f fd) (G : FnOk P w K mg base CX0 1 g gd ["_law_word_here", "_law_names"] (spTurnW K)) (bG : Binds K gd ["_law_word_here", "_law_names"] []) (kG : PySem.W.keepIn K (.ref g) = true) (mG : mg "_law_turned_word" = some (.ref g))
    (ms : mg "sorted" = none) : FnOk P w K mg base CX0 2 f fd ["_law_words_here", "_law_names", "_law_order"] (spTurned K) := by
  refine F.ok scTurned (fun vs H Q E h => ?_) (fun cdv A outer s H vs Q E hr h => ?_)
  · obtain ⟨_, _, _, _, _, _, _, _, rfl, _⟩ := h
    rfl
  obtain ⟨x, y, z, L, R, E, names, order, rfl, hx, hy, hz, hok, hsh, hE, hnl, hod, hol, hEl, q⟩ := h
  refine ⟨_, pss_cons (ps_setLc (i := 3) (own := [("_law_number", 4)]) (g := gName 4) (tt := tYes) rfl scTurned.nd rfl rfl (sw_true rfl rfl rfl (by decide +kernel)) (pi_list (pv 2)) (blkOk_by (N := nmTurned) (sc := defScope sTurned) (by decide +kernel))
      (fun _ _ _ _ _ => pg_name (i := 4) scTurned.nd rfl (Or.inl rfl)) (fun _ _ _ _ _ => pts_nil) (fun _ _ _ _ _ => pe_ix (r := rIxL K) ix_list (pe_ix (r := rIxT K) ix_tup (pv 0) pe_int (fun _ _ => rfl)) (pv 4) (fun _ _ => rfl)))
    (pss_cons (ps_setLc (i := 3) (own := [("_law_left", 5), ("_law_right", 6)]) (g := gTup K 2 (gCons (gName 5) (gCons (gName 6) gNil))) (tt := tYes) rfl scTurned.nd rfl rfl (sw_true rfl rfl rfl (by decide +kernel)) (pi_list (pv 3)) (blkOk_by (N := nmTurned) (sc := defScope sTurned) (by decide +kernel))
      (fun _ _ _ _ _ => pg_tup rfl (pgs_cons (pg_name (i := 5) scTurned.nd rfl (Or.inl rfl)) (pgs_cons (pg_name (i := 6) scTurned.nd rfl (Or.inl rfl)) pgs_nil))) (fun _ _ _ _ _ => pts_nil)
      (fun _ _ _ _ _ => pe_tup (pa_cons (pe_call G hr rfl mG kG bG .nil pass0 (pa_cons (pv 5) (pa_cons (pv 1) pa_nil))) (pa_cons (pe_call G hr rfl mG kG bG .nil pass0 (pa_cons (pv 6) (pa_cons (pv 1) pa_nil))) pa_nil))))
    (pss_one (ps_ret (pe_tup (pa_cons (pe_ix ix_tup (pv 0) pe_int (fun _ _ => rfl)) (pa_cons (pv 3) (pa_cons (pe_callB cr_sorted (by rfl) ms (by decide +kernel) (pa_cons
      (pe_lc (own := [("_law_letter", 7)]) (g := gName 7) (tt := tYes) rfl scTurned.nd (pi_list (pe_ix ix_tup (pv 0) pe_int (fun _ _ => rfl))) (blkOk_by (N := nmTurned) (sc := defScope sTurned) (by decide +kernel))
        (fun _ _ _ _ _ => pg_name (i := 7) scTurned.nd rfl (Or.inl rfl)) (fun _ _ _ _ _ => pts_nil) (fun _ _ _ _ _ => pe_ix (r := rIxL K) ix_list (pv 1) (pv 7) (fun _ _ => rfl))) pa_nil)) pa_nil))))))), ?_⟩
  obtain ⟨wa, ra, ea, rs, rfl, hwa, hra, hraa, hea⟩ := dp_words hx
  obtain ⟨na, nvs, rfl, hna, hnaa⟩ := dp_lst hy
  rw [all_ints hnaa] at hna
  obtain ⟨oa, os, rfl, hoa, hoaa⟩ := dp_lst hz
  rw [all_ints hoaa] at hoa
  -- the rules in their new order
  refine ⟨_, rfl, oa, rfl, ⟨_, hoa⟩, fun D1 hD1 => ?_⟩
  have s1 : Same H (upd H D1 (.lst [])) := same_new hD1 _
  refine lc_list (K := K) (xs := (natsI order).map V.int) (fun i H1 => ∃ ys, Same H (hide D1 H1) ∧ H1 D1 = some (.lst ys) ∧ DpAll K H ys (((order.take i).map (rl R)).map eR))
    ⟨[], hide_of hD1 s1, upd_same, .nil⟩ (fun i H1 _ ⟨_, g1, _⟩ => (g1.trans hide_le).seq hoa) ?_ ?_
  · rintro i x0 H1 hx0 ⟨ys, g1, k1, d1⟩
    obtain ⟨j, hj, rfl⟩ := natsI_at hx0
    have hi : i < order.length := (List.getElem?_eq_some_iff.mp hj).1
    have hjR := hod j (List.mem_of_getElem? hj)
    obtain ⟨x1, hx1, hd1⟩ := rule_at hraa hjR
    have gg := g1.trans hide_le
    refine ⟨rfl, ?_⟩
    refine ⟨_, rfl, wa, _, 1, _, rfl, rfl, SixW.Same.seqT gg hwa, atI_nat (j := 1) rfl, _, rfl, ra, _, _, _, rfl, rfl, gg.seq hra, atI_nat hx1, ?_⟩
    refine ⟨ys, k1, ?_, ys ++ [x1], ?_, upd_same, ?_⟩
    · have : ys.length ≤ 1000 := by
        rw [all_len d1, List.length_map, List.length_map, List.length_take]
        omega
      exact Nat.lt_of_le_of_lt this (by decide)
    · rw [hide_upd]
      exact g1
    · rw [List.take_add_one, hj, List.map_append, List.map_append]
      exact all_append d1 (.cons hd1 .nil)
  rintro H1 ⟨ys, g1, k1, d1⟩
  rw [natsI_len, List.take_length] at d1
  have gg1 : Same H H1 := g1.trans hide_le
  have hys : ys.length = order.length := by rw [all_len d1, List.length_map, List.length_map]
  -- the rules, turned
  refine ⟨_, rfl, D1, rfl, ⟨_, SqL.of k1⟩, fun D2 hD2 => ?_⟩
  have s2 : Same H1 (upd H1 D2 (.lst [])) := same_new hD2 _
  refine lc_list (K := K) (xs := ys) (fun i H2 => ∃ zs, Same H1 (hide D2 H2) ∧ H2 D2 = some (.lst zs) ∧ DpAll K (hide D2 H2) zs ((((order.map (rl R)).take i).map (tr names)).map eR))
    ⟨[], hide_of hD2 s2, upd_same, .nil⟩ (fun i H2 _ ⟨_, g2, _⟩ => (g2.trans hide_le).seq (SqL.of k1)) ?_ ?_
  · rintro i x0 H2 hx0 ⟨zs, g2, k2, d2⟩
    obtain ⟨r, hr1, hd⟩ := all_map_at d1 hx0
    have hi : i < order.length := by
      have := (List.getElem?_eq_some_iff.mp hx0).1
      omega
    have hrR : r ∈ R := by
      obtain ⟨j, hj, rfl⟩ := List.mem_map.mp (List.mem_of_getElem? hr1)
      exact rl_mem (hod j hj)
    obtain ⟨_, _, l1, l2⟩ := hok r hrR
    obtain ⟨h1, h2⟩ := hsh r hrR
    have gg2 : Same H H2 := gg1.trans (g2.trans hide_le)
    obtain ⟨ta, lv, rv, rfl, hta, hlv, hrv⟩ := dp_pair (dp_same gg2 _ _ hd)
    refine ⟨ta, _, rfl, hta, rfl, _, _, rfl, _, _, rfl, rfl, rfl, ?_⟩
    refine ⟨_, rfl, _, rfl, lv, .ref na, r.1, names, rfl, hlv, dp_same gg2 _ _ hy, by rw [hnl]; exact l1, h1, fun r1 H3 g3 e3 => ?_⟩
    refine ⟨_, rfl, _, rfl, rv, .ref na, r.2, names, rfl, dp_same g3 _ _ hrv, dp_same (gg2.trans g3) _ _ hy, by rw [hnl]; exact l2, h2, fun r2 H4 g4 e4 => ?_⟩
    refine ⟨(by show 2 ≤ sizeLine; decide), fun t ht => ?_⟩
    have s5 := same_new ht (.tup [r1, r2])
    have k5 : upd H4 t (.tup [r1, r2]) D2 = some (.lst zs) := s5 _ _ (g4 _ _ (g3 _ _ k2))
    have s25 : Same (hide D2 H2) (hide D2 (upd H4 t (.tup [r1, r2]))) := hide_same (g3.trans (g4.trans s5))
    refine ⟨zs, k5, ?_, zs ++ [.ref t], ?_, upd_same, ?_⟩
    · have : zs.length ≤ 1000 := by
        rw [all_len d2, List.length_map, List.length_map, List.length_take, List.length_map]
        omega
      exact Nat.lt_of_le_of_lt this (by decide)
    · rw [hide_upd]
      exact g2.trans s25
    · rw [hide_upd, List.take_add_one, hr1, List.map_append, List.map_append]
      refine all_append (all_same s25 _ _ d2) (.cons ?_ .nil)
      refine dp_nl (nl_hide k5) _ _ (noL_eR (tr names r)) (.tup (SqT.of upd_same) (.cons ?_ (.cons ?_ .nil)))
      · exact dp_same (g4.trans s5) _ _ e3
      · exact dp_same s5 _ _ e4
  rintro H2 ⟨zs, g2, k2, d2⟩
  have e2 : ys.length = (order.map (rl R)).length := by rw [hys, List.length_map]
  rw [e2, List.take_length, ← tR_eq] at d2
  have gg2 : Same H H2 := gg1.trans (g2.trans hide_le)
  -- the ends
  refine ⟨_, rfl, wa, _, 0, _, rfl, rfl, SixW.Same.seqT gg2 hwa, atI_nat (j := 0) rfl, _, rfl, _, rfl, wa, _, 2, _, rfl, rfl, SixW.Same.seqT gg2 hwa, atI_nat (j := 2) rfl, ea, rfl, ⟨_, gg2.seq hea⟩, fun D3 hD3 => ?_⟩
  have s3 : Same H2 (upd H2 D3 (.lst [])) := same_new hD3 _
  refine lc_list (K := K) (xs := E.map V.int) (fun i H3 => Same H2 (hide D3 H3) ∧ H3 D3 = some (.lst (((E.take i).map (fn names)).map V.int)))
    ⟨hide_of hD3 s3, upd_same⟩ (fun i H3 _ p => ((gg2.trans p.1).trans hide_le).seq hea) ?_ ?_
  · rintro i x0 H3 hx0 ⟨g3, k3⟩
    rw [List.getElem?_map] at hx0
    obtain ⟨l, hl, rfl⟩ := Option.map_eq_some_iff.mp hx0
    have hi : i < E.length := (List.getElem?_eq_some_iff.mp hl).1
    refine ⟨rfl, ?_⟩
    refine ⟨_, rfl, _, rfl, na, _, l, .int (fn names l), rfl, rfl, ((gg2.trans g3).trans hide_le).seq hna, fn_at (by rw [hnl]; exact hE l (List.mem_of_getElem? hl)), ?_⟩
    refine ⟨_, k3, ?_, ?_, ?_⟩
    · rw [List.length_map, List.length_map, List.length_take]
      exact Nat.lt_of_le_of_lt (show min i E.length ≤ 1000 by omega) (by decide)
    · rw [hide_upd]
      exact g3
    · rw [upd_same, List.take_add_one, hl, List.map_append, List.map_append] <;> rfl
  rintro H3 ⟨g3, k3⟩
  rw [List.length_map, List.take_length] at k3
  refine ⟨D3, E.map (fn names), rfl, SqL.of k3, by rw [List.length_map]; omega, fun E' D4 hpm _ hD4 => ?_⟩
  have s4 := same_new hD4 (.lst (E'.map V.int))
  refine ⟨(by show 3 ≤ sizeLine; decide), fun t ht => ?_⟩
  have s5 := same_new ht (.tup [.int (L : Int), .ref D2, .ref D4])
  have g25 := (g3.trans hide_le).trans (s4.trans s5)
  refine q E' _ _ hpm (gg2.trans g25) (words_dp (SqT.of upd_same) (SqL.of (g25 _ _ k2)) ?_ (SqL.of (s5 _ _ upd_same)))
  exact all_same (hide_le.trans g25) _ _ d2
end
end SixW
namespace SixW
open PySem PySem.Spec PySem.W PyProof.Rows L2 Six
/-! ### Python's order of chains -/
theorem alike_eS (a b : Stp) : alike (eS a) (eS b) = true := by simp [alike, alikeAll, eS]
theorem alikeAll_map {β : Type} {e : β → PyData} (h : ∀ a b, alike (e a) (e b) = true) : ∀ xs ys : List β, alikeAll (xs.map e) (ys.map e) = true
  | [], _ => by simp [alikeAll]
  | _ :: _, [] => by simp [alikeAll]
  | x :: xs, y :: ys => by
    show alikeAll (e x :: xs.map e) (e y :: ys.map e) = true
    rw [alikeAll, h, alikeAll_map h xs ys]
    rfl
theorem alike_eC (c d : Chn) : alike (eC c) (eC d) = true := by
  unfold eC
  rw [alike]
  exact alikeAll_map alike_eS c d
theorem dataLt_eS (a b : Stp) : dataLt (eS a) (eS b) = true ↔ slt a b := by
  unfold eS
  rw [dataLt_ii, decide_eq_true_iff]
  unfold slt
  omega
theorem rowLt_eS : ∀ c d : Chn, rowLt (c.map eS) (d.map eS) = true ↔ clt c d
  | [], [] => by
    have e : rowLt [] [] = false := lex_irrefl _
    show rowLt [] [] = true ↔ False
    rw [e]
    exact ⟨fun h => (nomatch h), fun h => h.elim⟩
  | [], y :: ys => by
    have e : rowLt [] (eS y :: ys.map eS) = true := by
      unfold rowLt
      rw [toks_all_cons]
      simp only [keyToksAll]
      rw [lex_diff (O := itemOrd) (by simp)]
      rfl
    show rowLt [] (eS y :: ys.map eS) = true ↔ True
    rw [e]
    exact ⟨fun _ => trivial, fun _ => rfl⟩
  | x :: xs, [] => by
    have e : rowLt (eS x :: xs.map eS) [] = false := by
      unfold rowLt
      rw [toks_all_cons]
      simp only [keyToksAll]
      rw [lex_diff (O := itemOrd) (by simp)]
      rfl
    show rowLt (eS x :: xs.map eS) [] = true ↔ False
    rw [e]
    exact ⟨fun h => (nomatch h), fun h => h.elim⟩
  | x :: xs, y :: ys => by
    have e : rowLt (eS x :: xs.map eS) (eS y :: ys.map eS) = if PyData.eqv (eS x) (eS y) = true then rowLt (xs.map eS) (ys.map eS) else dataLt (eS x) (eS y) := by
      unfold rowLt
      rw [dataLt_cons (alike_eS x y)]
    show rowLt (eS x :: xs.map eS) (eS y :: ys.map eS) = true ↔ (slt x y ∨ (x = y ∧ clt xs ys))
    rw [e, eqv_eS]
    by_cases h : x = y
    · subst h
      rw [decide_eq_true rfl, if_pos rfl, rowLt_eS xs ys]
      exact ⟨fun q => .inr ⟨rfl, q⟩, fun q => q.elim (fun z => (slt_irrefl x z).elim) fun z => z.2⟩
    · rw [decide_eq_false h, if_neg (by decide), dataLt_eS]
      exact ⟨fun q => .inl q, fun q => q.elim id fun z => absurd z.1 h⟩
theorem dataLt_eC (c d : Chn) : dataLt (eC c) (eC d) = true ↔ clt c d := by
  unfold eC
  rw [dataLt_list]
  exact rowLt_eS c d
theorem le_eC (c d : Chn) : dataLe false eC c d = true ↔ ¬ clt d c := by
  show (!dataLt (eC d) (eC c)) = true ↔ _
  rw [← dataLt_eC, Bool.not_eq_true']
  cases dataLt (eC d) (eC c)
  · exact ⟨fun _ h => (nomatch h), fun _ => rfl⟩
  · exact ⟨fun h => (nomatch h), fun h => absurd rfl h⟩
theorem allAlike_eC (cs : List Chn) : AllAlike (cs.map eC) := AllAlike.of alike_eC
theorem sortable_eC (cs : List Chn) : Sortable (cs.map eC) := Sortable.others fun c => ⟨fun h => (nomatch h), fun xs h => (nomatch h)⟩
/-! ### chains that go -/
theorem valid_steps {Ln : Nat} {R : List Rl} (hR : RulesOk Ln R) : ∀ (c : Chn) (w : Wd), Valid R w c → ∀ s ∈ c, s.1 < R.length ∧ s.2 + (rl R s.1).1.length ≤ w.length
  | [], _, _, s, h => by cases h
  | t :: c, w, ⟨h1, h2⟩, s, h => by
    rcases List.mem_cons.mp h with rfl | h
    · obtain ⟨a, b, _, _, k1, k2⟩ := step_parts hR h1
      exact ⟨k1, by omega⟩
    · have := valid_steps hR c _ h2 s h
      rw [put_len hR h1] at this
      exact this
theorem words_lets {Ln : Nat} {R : List Rl} (hR : RulesOk Ln R) : ∀ (c : Chn) (w : Wd), Lets Ln w → Valid R w c → ∀ v ∈ wordsF R w c, Lets Ln v ∧ v.length = w.length
  | [], w, hw, _, v, h => by
    have h' : v ∈ [w] := h
    rw [List.mem_singleton.mp h']
    exact ⟨hw, rfl⟩
  | t :: c, w, hw, ⟨h1, h2⟩, v, h => by
    have h' : v ∈ w :: wordsF R (Six.putF R w t) c := h
    rcases List.mem_cons.mp h' with rfl | h'
    · exact ⟨hw, rfl⟩
    · have := words_lets hR c _ (put_lets hR hw h1) h2 v h'
      rw [put_len hR h1] at this
      exact this
theorem tw_lets {L : Nat} {names : List Int} (nm : names.Perm (upto L)) {w : Wd} (hw : Lets L w) : Lets L (tw names w) := fun l hl => by
  unfold tw at hl
  obtain ⟨m, hm, rfl⟩ := List.mem_map.mp hl
  exact fn_lets nm (hw m (List.mem_reverse.mp hm))
theorem rules_turned {L : Nat} {R : List Rl} {names : List Int} {order : List Nat} (nm : names.Perm (upto L)) (od : order.Perm (List.range R.length)) (hR : RulesOk L R) : RulesOk L (tR names R order) := fun r hr => by
  unfold tR at hr
  obtain ⟨i, hi, rfl⟩ := List.mem_map.mp hr
  obtain ⟨h1, h2, h3, h4⟩ := hR _ (rl_mem (List.mem_range.mp (od.mem_iff.mp hi)))
  refine ⟨?_, ?_, tw_lets nm h3, tw_lets nm h4⟩
  · show (tw names (rl R i).1).length = (tw names (rl R i).2).length
    rw [tw_length, tw_length, h1]
  · show 0 < (tw names (rl R i).1).length
    rw [tw_length]
    exact h2
theorem natsI_perm {is : List Nat} {n : Nat} (h : is.Perm (List.range n)) : (natsI is).Perm (upto n) := h.map _
theorem pen_same {K : PySem.W.Frag} {H H' : Hp} {p s : Addr} {k : Nat} {ns : List Int} (h : Pen K H p s k ns) (g : Same H H') : Pen K H' p s k ns := pen_mono h (hide_same g) (g _ _ h.1)
theorem four {v : Int} (h0 : 0 ≤ v) (h1 : v < 4) : ∃ m : Int, atI [V.int 9, .int 9, .int 9, .int 5] v = some (.int m) ∧ 0 < m ∧ m ≤ 9 := by
  have : v = 0 ∨ v = 1 ∨ v = 2 ∨ v = 3 := by omega
  rcases this with rfl | rfl | rfl | rfl
  · exact ⟨9, rfl, by decide, by decide⟩
  · exact ⟨9, rfl, by decide, by decide⟩
  · exact ⟨9, rfl, by decide, by decide⟩
  · exact ⟨5, rfl, by decide, by decide⟩
end SixW
namespace SixW
open PySem PySem.Spec PySem.W PyProof.Rows L2 Six
/-- law(script): True -/
def spLaw (K : PySem.W.Frag) : Sp := fun vs H Q _ => ∃ (a : Addr) (ns : List Int), vs = [.ref a] ∧ SqL K H a (ns.map V.int) ∧ ns.length ≤ 63 ∧ ∀ H', Q (.bl true) H'
abbrev nmLaw : List Str := ["_law_script", "_law_pen", "_law_many", "_law_words_here", "_law_word_here", "_law_names", "_law_order", "_law_other", "_law_about", "_law_found", "_law_chain", "_law_due", "_law_turned_here", "_law_one"]
/-- a def that is ready to be called by its name -/
structure Dn (P : Program) (w : World) (K : PySem.W.Frag) (mg : Str → Option Value) (base : Heap) (x : Str) (k : Nat) (ps : List Str) (sp : Sp) where
  f : Addr
  fd : FuncData
  ok : FnOk P w K mg base CX0 k f fd ps sp
  b : L2.Binds K fd ps []
  kp : PySem.W.keepIn K (.ref f) = true
  m : mg x = some (.ref f)
section
variable {P : Program} {w : World} {K : PySem.W.Frag} {mg : Str → Option Value} {base : Heap} {f : Addr} {fd : FuncData}
theorem scLaw : FnScope nmLaw ["_law_script"] (defScope sLaw) := ⟨rfl, rfl, rfl, by decide +kernel, rfl, by decide +kernel, by decide +kernel⟩
theorem ok_law (F : Fun K "law" "law" sLaw f fd) (T : Dn P w K mg base "_law_take" 2 ["_law_pen", "_law_most"] (spTake K)) (TW : Dn P w K mg base "_law_words" 3 ["_law_pen", "_law_most"] (spWords K)) (TO : Dn P w K mg base "_law_word" 3 ["_law_pen", "_law_words_here"] (spWord K))
    (TM : Dn P w K mg base "_law_mixed" 3 ["_law_pen", "_law_many"] (spMixed K)) (TT : Dn P w K mg base "_law_turned" 2 ["_law_words_here", "_law_names", "_law_order"] (spTurned K)) (TU : Dn P w K mg base "_law_turned_word" 1 ["_law_word_here", "_law_names"] (spTurnW K))
    (TC : Dn P w K mg base "chains" 6 ["words", "word", "many"] (spChains K 4)) (TN : Dn P w K mg base "_law_turned_chain" 1 ["_law_words_here", "_law_word_here", "_law_order", "_law_chain"] (spTurnC K)) (TH : Dn P w K mg base "chain_words" 4 ["words", "word", "chain"] (spChainW K))
    (TL : Dn P w K mg base "_law_longer" 7 ["_law_words_here", "_law_word_here", "_law_many"] (spLonger K 4)) (ml : mg "len" = none) (ms : mg "sorted" = none) : FnOk P w K mg base CX0 8 f fd ["_law_script"] (spLaw K) := by
  refine F.ok scLaw (fun vs H Q E h => ?_) (fun cdv A outer s H vs Q E hr h => ?_)
  · obtain ⟨_, _, rfl, _⟩ := h
    rfl
  obtain ⟨a, ns, rfl, hs, h63, q⟩ := h
  refine ⟨_, pss_cons (ps_set (i := 1) scLaw.nd rfl (Or.inl rfl) (pe_lst (pa_cons (pv 0) (pa_cons pe_int pa_nil))))
    (pss_cons (ps_set (i := 2) scLaw.nd rfl (Or.inl rfl) (pe_call T.ok (hr.mono (by decide)) rfl T.m T.kp T.b .nil pass0 (pa_cons (pv 1) (pa_cons pe_int pa_nil))))
    (pss_cons (ps_set (i := 3) scLaw.nd rfl (Or.inr rfl) (pe_call TW.ok (hr.mono (by decide)) rfl TW.m TW.kp TW.b .nil pass0 (pa_cons (pv 1) (pa_cons (pe_ix ix_list (pe_lst (pa_cons pe_int (pa_cons pe_int (pa_cons pe_int (pa_cons pe_int pa_nil))))) (pv 2) (fun _ _ => rfl)) pa_nil))))
    (pss_cons (ps_set (i := 4) scLaw.nd rfl (Or.inr rfl) (pe_slice sl_tupA (pe_call TO.ok (hr.mono (by decide)) rfl TO.m TO.kp TO.b .nil pass0 (pa_cons (pv 1) (pa_cons (pv 3) pa_nil))) po_none (po_some pe_int)))
    (pss_cons (ps_set (i := 5) scLaw.nd rfl (Or.inr rfl) (pe_call TM.ok (hr.mono (by decide)) rfl TM.m TM.kp TM.b .nil pass0 (pa_cons (pv 1) (pa_cons (pe_ix ix_tup (pv 3) pe_int (fun _ _ => rfl)) pa_nil))))
    (pss_cons (ps_set (i := 6) scLaw.nd rfl (Or.inr rfl) (pe_call TM.ok (hr.mono (by decide)) rfl TM.m TM.kp TM.b .nil pass0 (pa_cons (pv 1) (pa_cons (pe_callB call_len_seq rfl ml PySem.boot_len (pa_cons (pe_ix ix_tup (pv 3) pe_int (fun _ _ => rfl)) pa_nil)) pa_nil))))
    (pss_cons (ps_set (i := 7) scLaw.nd rfl (Or.inl rfl) (pe_call TT.ok (hr.mono (by decide)) rfl TT.m TT.kp TT.b .nil pass0 (pa_cons (pv 3) (pa_cons (pv 5) (pa_cons (pv 6) pa_nil)))))
    (pss_cons (ps_set (i := 8) scLaw.nd rfl (Or.inl rfl) (pe_call TU.ok (hr.mono (by decide)) rfl TU.m TU.kp TU.b .nil pass0 (pa_cons (pv 4) (pa_cons (pv 5) pa_nil))))
    (pss_cons (ps_set (i := 9) scLaw.nd rfl (Or.inl rfl) (pe_call TC.ok (hr.mono (by decide)) rfl TC.m TC.kp TC.b .nil pass0 (pa_cons (pv 3) (pa_cons (pv 4) (pa_cons (pv 2) pa_nil)))))
    (pss_cons (ps_set (i := 11) scLaw.nd rfl (Or.inl rfl) (pe_callB (SixR.cr_sortedD eC hr.units) (by rfl) ms (by decide +kernel) (pa_cons (pe_lc (own := [("_law_chain", 10)]) (g := gName 10) (tt := tYes) rfl scLaw.nd (pi_list (pv 9)) (blkOk_by (N := nmLaw) (sc := defScope sLaw) (by decide +kernel))
        (fun _ _ _ _ _ => pg_name (i := 10) scLaw.nd rfl (Or.inl rfl)) (fun _ _ _ _ _ => pts_nil) (fun _ _ _ _ _ => pe_call TN.ok (hr.mono (by decide)) rfl TN.m TN.kp TN.b .nil pass0 (pa_cons (pv 3) (pa_cons (pv 4) (pa_cons (pv 6) (pa_cons (pv 10) pa_nil)))))) pa_nil)))
    (pss_cons (ps_if (pt_cmpR (op_neD hr.units) (pe_call TC.ok (hr.mono (by decide)) rfl TC.m TC.kp TC.b .nil pass0 (pa_cons (pv 7) (pa_cons (pv 8) (pa_cons (pv 2) pa_nil)))) (pv 11) (nomark _)) (pss_one (ps_ret pe_bl)) pss_nil)
    (pss_cons (ps_for PassesOwn.never rfl (pi_list (pe_slice sl_list (pv 9) po_none (po_some pe_int))) (pg_name (i := 10) scLaw.nd rfl (Or.inl rfl))
      (pss_cons (ps_setLc (i := 12) (own := [("_law_one", 13)]) (g := gName 13) (tt := tYes) rfl scLaw.nd rfl rfl (sw_true rfl rfl rfl (by decide +kernel)) (pi_list (pe_call TH.ok (hr.mono (by decide)) rfl TH.m TH.kp TH.b .nil pass0 (pa_cons (pv 3) (pa_cons (pv 4) (pa_cons (pv 10) pa_nil))))) (blkOk_by (N := nmLaw) (sc := defScope sLaw) (by decide +kernel))
        (fun _ _ _ _ _ => pg_name (i := 13) scLaw.nd rfl (Or.inl rfl)) (fun _ _ _ _ _ => pts_nil) (fun _ _ _ _ _ => pe_call TU.ok (hr.mono (by decide)) rfl TU.m TU.kp TU.b .nil pass0 (pa_cons (pv 13) (pa_cons (pv 5) pa_nil))))
      (pss_one (ps_if (pt_cmpR (op_neD hr.units) (pe_call TH.ok (hr.mono (by decide)) rfl TH.m TH.kp TH.b .nil pass0 (pa_cons (pv 7) (pa_cons (pv 8) (pa_cons (pe_call TN.ok (hr.mono (by decide)) rfl TN.m TN.kp TN.b .nil pass0 (pa_cons (pv 3) (pa_cons (pv 4) (pa_cons (pv 6) (pa_cons (pv 10) pa_nil))))) pa_nil)))) (pv 12) (nomark _)) (pss_one (ps_ret pe_bl)) pss_nil))))
    (pss_one (ps_ret (pe_or (pe_cmpR op_eq (pv 2) pe_int (nomark _)) (pe_one (pe_cmpR (op_eqD hr.units) (pv 9) (pe_call TL.ok (hr.mono (by decide)) rfl TL.m TL.kp TL.b .nil pass0 (pa_cons (pv 3) (pa_cons (pv 4) (pa_cons (pv 2) pa_nil)))) (nomark _))))))))))))))))), ?_⟩
  -- the pen
  refine ⟨_, rfl, (by show 2 ≤ sizeLine; decide), fun p hp => ?_⟩
  have s1 : Same H (upd H p (.lst [.ref a, .int 0])) := same_new hp _
  have P1 : Pen K (upd H p (.lst [.ref a, .int 0])) p a 0 ns := ⟨upd_same, (hide_of hp s1).seq hs⟩
  -- many
  refine ⟨_, rfl, p, a, 4, 0, ns, rfl, P1, by decide, by decide, fun v H2 v0 v4 P2 eh2 => ?_⟩
  obtain ⟨m, rfl⟩ : ∃ m : Nat, v = (m : Int) := ⟨v.toNat, (Int.toNat_of_nonneg v0).symm⟩
  have hm3 : m ≤ 3 := by omega
  -- words
  refine ⟨_, rfl, (by show 4 ≤ sizeLine; decide), fun l4 hl4 => ?_⟩
  have s3 := same_new hl4 (.lst [V.int 9, .int 9, .int 9, .int 5])
  have P3 := pen_same P2 s3
  obtain ⟨mm, hmm, mm0, mm9⟩ := four v0 v4
  refine ⟨_, rfl, l4, _, _, _, rfl, rfl, SqL.of upd_same, hmm, ?_⟩
  refine ⟨p, a, mm, 0 + 1, ns, rfl, P3, by decide, mm0, mm9, fun L R E x3 H4 k4 L1 L5 hok hsh hR hE hEl P4 hk4 g4 d4 => ?_⟩
  -- the word
  refine ⟨_, rfl, _, rfl, p, a, x3, k4, ns, L, R, E, rfl, P4, by omega, d4, L1, fun w0 x4 H5 k5 hw0 w1 w8 P5 hk5 g5 d5 => ?_⟩
  obtain ⟨b4, rfl, hb4⟩ := dp_word d5
  refine ⟨5, rfl, slA_of (SixW.Same.seqT hide_le hb4) fun b5 H6 s6 h6 => ?_⟩
  have e5 : cutV (w0.map V.int) none (some 5) = (w0.take 5).map V.int := by
    rw [show (5 : Int) = ((5 : Nat) : Int) from rfl, cut_to, List.map_take]
  rw [e5] at h6
  have P6 := pen_same P5 s6
  have hwL : Lets L (w0.take 5) := fun l hl => hw0 l (List.mem_of_mem_take hl)
  have hw5 : (w0.take 5).length ≤ 5 := List.length_take_le _ _
  generalize w0.take 5 = wd at h6 hwL hw5
  -- names
  have d46 : Dp K (hide p H6) x3 (eWs (L : Int) R E) := dp_same (g5.trans (hide_same s6)) _ _ d4
  obtain ⟨wa, ra, ea, rs, rfl, hwa, hra, hraa, hea⟩ := dp_words d46
  refine ⟨_, rfl, _, rfl, wa, _, 0, _, rfl, rfl, SixW.Same.seqT hide_le hwa, atI_nat (j := 0) rfl, ?_⟩
  refine ⟨p, a, L, k5, ns, rfl, P6, by omega, by omega, fun is1 x5 H7 hn P7 g7 d7 => ?_⟩
  -- order
  have hwa7 := SixW.Same.seqT (g7.trans hide_le) hwa
  have hra7 := (g7.trans hide_le).seq hra
  refine ⟨_, rfl, _, rfl, wa, _, 1, _, rfl, rfl, hwa7, atI_nat (j := 1) rfl, ra, _, rfl, .inl hra7, ?_⟩
  have hrl : rs.length = R.length := by rw [all_len hraa, List.length_map]
  refine ⟨p, a, R.length, k5 + L, ns, ?_, P7, by omega, by omega, fun is2 x6 H8 ho P8 g8 d8 => ?_⟩
  · show [V.ref p, V.int ((rs.length : Nat) : Int)] = _
    rw [hrl]
  -- all is drawn: what stands in H8
  have hX3 : Dp K H8 (.ref wa) (eWs (L : Int) R E) := dp_same ((g7.trans g8).trans hide_le) _ _ d46
  have hX4 : Dp K H8 (.ref b5) (eW wd) := by
    refine dp_nl ?_ _ _ (noL_eW wd) (word_dp h6)
    exact (pen_nl P6 (g7.trans g8))
  have hX5 : Dp K H8 x5 (.list ((natsI is1).map PyData.int)) := dp_same (g8.trans hide_le) _ _ d7
  have hX6 : Dp K H8 x6 (.list ((natsI is2).map PyData.int)) := dp_same hide_le _ _ d8
  have nm : (natsI is1).Perm (upto L) := natsI_perm hn
  have hnl : (natsI is1).length = L := names_len nm
  have hol : is2.length = R.length := order_len ho
  -- the turned ones
  refine ⟨_, rfl, _, rfl, _, rfl, .ref wa, x5, x6, L, R, E, natsI is1, is2, rfl, hX3, hX5, hX6, hok, hsh, hE, hnl, fun i hi => List.mem_range.mp (ho.mem_iff.mp hi), by omega, by omega, fun E' x7 H9 hes g9 d9 => ?_⟩
  refine ⟨_, rfl, _, rfl, .ref b5, x5, wd, natsI is1, rfl, dp_same g9 _ _ hX4, dp_same g9 _ _ hX5, by rw [hnl]; exact hwL, by omega, fun x8 H10 g10 d10 => ?_⟩
  have B : Built L R E E' (natsI is1) is2 := ⟨hok, hE, nm, ho, hes⟩
  have hokT := rules_turned nm ho hok
  have hTl : (tR (natsI is1) R is2).length ≤ 8 := by rw [tR_length]; omega
  have hTw : (tw (natsI is1) wd).length ≤ 8 := by rw [tw_length]; omega
  have g810 := g9.trans g10
  -- found
  refine ⟨_, rfl, _, rfl, _, rfl, .ref wa, .ref b5, (L : Int), L, R, E, wd, m, rfl, by omega, hm3, dp_same g810 _ _ hX3, dp_same g810 _ _ hX4, hok, hR, by omega, fun x9 H11 g11 d11 => ?_⟩
  have d11' := dp_same lim_le _ _ d11
  obtain ⟨fa, fs, rfl, hfa, hfaa⟩ := dp_lst d11'
  have g811 := g810.trans g11
  have hfs : fs.length = (chainsF R E m wd).length := by rw [all_len hfaa, List.length_map]
  have hcount : fs.length ≤ 262144 := by
    rw [hfs]
    exact Nat.le_trans (chains_count hok hR E m wd (by omega)) (count3 hm3)
  -- due
  refine ⟨_, rfl, fa, rfl, ⟨_, hfa⟩, fun D hD => ?_⟩
  have sD : Same H11 (upd H11 D (.lst [])) := same_new hD _
  refine lc_list (K := K) (xs := fs) (fun i G => ∃ ys, Same H11 (hide D G) ∧ G D = some (.lst ys) ∧ DpAll K (hide D G) ys ((((chainsF R E m wd).take i).map (Six.tC R is2 wd.length)).map eC))
    ⟨[], hide_of hD sD, upd_same, .nil⟩ (fun i G _ ⟨_, g, _⟩ => (g.trans hide_le).seq hfa) ?_ ?_
  · rintro i z G hz ⟨ys, g, k, d⟩
    obtain ⟨c, hc, hd⟩ := all_map_at hfaa hz
    obtain ⟨hv, hl⟩ := chains_valid R E m wd c (List.mem_of_getElem? hc)
    have gg : Same H8 G := g811.trans (g.trans hide_le)
    refine ⟨rfl, ?_⟩
    refine ⟨_, rfl, _, rfl, _, rfl, _, rfl, .ref wa, .ref b5, x6, z, (L : Int), R, E, wd, is2, c, rfl, dp_same gg _ _ hX3, dp_same gg _ _ hX4, dp_same gg _ _ hX6, dp_same (g.trans hide_le) _ _ hd,
      fun st hst => ⟨(valid_steps hok c wd hv st hst).1, order_mem ho (valid_steps hok c wd hv st hst).1, (valid_steps hok c wd hv st hst).2⟩, by omega, fun y G2 sg dy => ?_⟩
    have k2 := sg _ _ k
    refine ⟨ys, k2, ?_, ys ++ [y], ?_, upd_same, ?_⟩
    · have : ys.length ≤ 262144 := by
        rw [all_len d, List.length_map, List.length_map, List.length_take]
        omega
      exact Nat.lt_of_le_of_lt this (by decide)
    · rw [hide_upd]
      exact g.trans (hide_same sg)
    · rw [hide_upd, List.take_add_one, hc, List.map_append, List.map_append]
      refine all_append (all_same (hide_same sg) _ _ d) (.cons ?_ .nil)
      exact dp_same ((lim_sub (g.trans hide_le) k sg ⟨_, rfl⟩).trans lim_le) _ _ dy
  rintro H12 ⟨ys, g12, k12, d12⟩
  rw [hfs, List.take_length] at d12
  have g812 : Same H8 H12 := g811.trans (g12.trans hide_le)
  refine ⟨D, ys, (chainsF R E m wd).map (Six.tC R is2 wd.length), rfl, SqL.of k12, all_same hide_le _ _ d12, allAlike_eC _, sortable_eC _, fun b _ => Nat.le_trans (dep_eC b) (by decide), fun zs D2 hzs hD2 => ?_⟩
  rw [turned_sorted B le_eC m hwL] at hzs
  have s13 := same_new hD2 (.lst zs)
  have g813 := g812.trans s13
  have dDue : Dp K (upd H12 D2 (.lst zs)) (.ref D2) (.list ((chainsF (tR (natsI is1) R is2) E' m (tw (natsI is1) wd)).map eC)) := .lst (SqL.of upd_same) (all_same s13 _ _ hzs)
  -- the turned ones' chains are due
  refine ⟨_, rfl, _, rfl, _, rfl, x7, x8, (L : Int), L, tR (natsI is1) R is2, E', tw (natsI is1) wd, m, rfl, by omega, hm3, dp_same (g10.trans (g11.trans ((g12.trans hide_le).trans s13))) _ _ d9, dp_same (g11.trans ((g12.trans hide_le).trans s13)) _ _ d10, hokT, hTl, hTw, fun x14 H14 g14 d14 => ?_⟩
  refine ⟨_, rfl, _, _, dp_same lim_le _ _ d14, dp_same g14 _ _ dDue, shaped_of (lay_list lay_eC _) (Nat.le_trans (dep_list dep_eC _) (by decide)), shaped_of (lay_list lay_eC _) (Nat.le_trans (dep_list dep_eC _) (by decide)), _, rfl, ?_⟩
  rw [eqv_list eqv_eC, decide_eq_true rfl]
  refine iteF ?_
  -- each chain's words
  have g1014 : Same H10 H14 := g11.trans (((g12.trans hide_le).trans s13).trans g14)
  have g1114 : Same H11 H14 := ((g12.trans hide_le).trans s13).trans g14
  have g814 : Same H8 H14 := g810.trans g1014
  refine ⟨_, rfl, _, rfl, fa, fs, rfl, g1114.seq hfa, fun sl hsl => ?_⟩
  have s15 := same_new hsl (.lst (cutV fs none (some 40)))
  have e40 : cutV fs none (some 40) = fs.take 40 := by
    rw [show (40 : Int) = ((40 : Nat) : Int) from rfl, cut_to]
  rw [e40] at s15 ⊢
  refine ⟨sl, rfl, ⟨_, SqL.of upd_same⟩, ?_⟩
  refine for_list (xs := fs.take 40) (fun i σ G => ∃ (v10 v12 : Option V), σ = [some (.ref a), some (.ref p), some (.int (m : Int)), some (.ref wa), some (.ref b5), some x5, some x6, some x7, some x8, some (.ref fa), v10, some (.ref D2), v12, none] ∧ Same (upd H14 sl (.lst (fs.take 40))) G)
    ⟨_, _, rfl, Same.refl _⟩ (fun i σ G _ ⟨_, _, _, g⟩ => g.seq (SqL.of upd_same)) ?_ ?_
  · rintro i z σ G hz ⟨v10, v12, rfl, g⟩
    have gG := s15.trans g
    obtain ⟨c, hc, hd⟩ : ∃ c, (chainsF R E m wd)[i]? = some c ∧ Dp K H11 z (eC c) := by
      refine all_map_at hfaa ?_
      rw [List.getElem?_take] at hz
      split at hz
      · exact hz
      · cases hz
    obtain ⟨hv, hl⟩ := chains_valid R E m wd c (List.mem_of_getElem? hc)
    obtain ⟨tv, tws⟩ := turned_words B c hwL hv
    have g8G := g814.trans gG
    refine ⟨_, rfl, _, rfl, _, rfl, .ref wa, .ref b5, z, (L : Int), L, R, E, wd, c, rfl, dp_same g8G _ _ hX3, dp_same g8G _ _ hX4, dp_same (g1114.trans gG) _ _ hd, hok, by omega, by omega, by omega, hv, fun r1 G1 sg1 dr1 => ?_⟩
    obtain ⟨wla, wls, rfl, hwl, hwla⟩ := dp_lst (dp_same lim_le _ _ dr1)
    have hwn : wls.length = (wordsF R wd c).length := by rw [all_len hwla, List.length_map]
    refine ⟨wla, rfl, ⟨_, hwl⟩, fun D3 hD3 => ?_⟩
    have s16 := same_new hD3 (.lst [])
    refine lc_list (K := K) (xs := wls) (fun j G2 => ∃ us, Same G1 (hide D3 G2) ∧ G2 D3 = some (.lst us) ∧ DpAll K (hide D3 G2) us ((((wordsF R wd c).take j).map (tw (natsI is1))).map eW))
      ⟨[], hide_of hD3 s16, upd_same, .nil⟩ (fun j G2 _ ⟨_, g, _⟩ => (g.trans hide_le).seq hwl) ?_ ?_
    · rintro j u G2 hu ⟨us, g2, k2, d2⟩
      obtain ⟨wj, hwj, hdj⟩ := all_map_at hwla hu
      have hj : j < (wordsF R wd c).length := (List.getElem?_eq_some_iff.mp hwj).1
      rw [words_length, hl] at hj
      obtain ⟨lj, nj⟩ := words_lets hok c wd hwL hv wj (List.mem_of_getElem? hwj)
      have gg2 : Same H8 G2 := g8G.trans (sg1.trans (g2.trans hide_le))
      refine ⟨rfl, ?_⟩
      refine ⟨_, rfl, _, rfl, u, x5, wj, natsI is1, rfl, dp_same (g2.trans hide_le) _ _ hdj, dp_same gg2 _ _ hX5, by rw [hnl]; exact lj, by omega, fun y G3 sg3 dy => ?_⟩
      have k3 := sg3 _ _ k2
      refine ⟨us, k3, ?_, us ++ [y], ?_, upd_same, ?_⟩
      · have : us.length ≤ 1000 := by
          rw [all_len d2, List.length_map, List.length_map, List.length_take]
          omega
        exact Nat.lt_of_le_of_lt this (by decide)
      · rw [hide_upd]
        exact g2.trans (hide_same sg3)
      · rw [hide_upd, List.take_add_one, hwj, List.map_append, List.map_append]
        exact all_append (all_same (hide_same sg3) _ _ d2) (.cons (dp_nl (nl_hide k3) _ _ (noL_eW _) dy) .nil)
    rintro G4 ⟨us, g4', k4', d4'⟩
    rw [hwn, List.take_length] at d4'
    have gG4 : Same G G4 := sg1.trans (g4'.trans hide_le)
    have g8G4 := g8G.trans gG4
    have dTH : Dp K G4 (.ref D3) (.list (((wordsF R wd c).map (tw (natsI is1))).map eW)) := .lst (SqL.of k4') (all_same hide_le _ _ d4')
    refine ⟨_, rfl, _, rfl, _, rfl, _, rfl, _, rfl, _, rfl, .ref wa, .ref b5, x6, z, (L : Int), R, E, wd, is2, c, rfl, dp_same g8G4 _ _ hX3, dp_same g8G4 _ _ hX4, dp_same g8G4 _ _ hX6, dp_same ((g1114.trans gG).trans gG4) _ _ hd,
      fun st hst => ⟨(valid_steps hok c wd hv st hst).1, order_mem ho (valid_steps hok c wd hv st hst).1, (valid_steps hok c wd hv st hst).2⟩, by omega, fun y G5 sg5 dy => ?_⟩
    have g1015 : Same H10 G5 := g1014.trans (gG.trans (gG4.trans sg5))
    refine ⟨x7, x8, y, (L : Int), L, tR (natsI is1) R is2, E', tw (natsI is1) wd, Six.tC R is2 wd.length c, rfl, dp_same (g10.trans g1015) _ _ d9, dp_same g1015 _ _ d10, dp_same lim_le _ _ dy, hokT, by omega, by omega, ?_, tv, fun r6 G6 sg6 dr6 => ?_⟩
    · unfold Six.tC
      rw [List.length_map]
      omega
    refine ⟨_, rfl, _, _, dp_same lim_le _ _ dr6, dp_same (sg5.trans sg6) _ _ dTH, shaped_of (lay_list lay_eW _) (Nat.le_trans (dep_list dep_eW _) (by decide)), shaped_of (lay_list lay_eW _) (Nat.le_trans (dep_list dep_eW _) (by decide)), _, rfl, ?_⟩
    rw [tws, eqv_list eqv_eW, decide_eq_true rfl]
    refine iteF ?_
    exact ⟨_, _, rfl, g.trans (gG4.trans (sg5.trans sg6))⟩
  rintro σ G ⟨v10, v12, rfl, g⟩
  have gG := s15.trans g
  have g8G := g814.trans gG
  refine ⟨_, rfl, rfl, _, rfl, ?_⟩
  refine ite2 (fun _ => q G) (fun hne => ?_)
  obtain ⟨m', rfl⟩ : ∃ m', m = m' + 1 := by
    refine ⟨m - 1, ?_⟩
    have h1 : ¬ (V.int (m : Int) = V.int 0) := of_decide_eq_false (Bool.eq_false_iff.mpr hne)
    have h2 : m ≠ 0 := fun z => h1 (by rw [z]; rfl)
    omega
  refine ⟨_, rfl, _, rfl, _, rfl, _, rfl, .ref wa, .ref b5, (L : Int), L, R, E, wd, m', rfl, by omega, hm3, dp_same g8G _ _ hX3, dp_same g8G _ _ hX4, hok, hR, by omega, fun r7 G7 sg7 dr7 => ?_⟩
  refine ⟨_, _, dp_same ((g1114.trans gG).trans sg7) _ _ d11', dp_same lim_le _ _ dr7, shaped_of (lay_list lay_eC _) (Nat.le_trans (dep_list dep_eC _) (by decide)), shaped_of (lay_list lay_eC _) (Nat.le_trans (dep_list dep_eC _) (by decide)), ?_⟩
  rw [eqv_list eqv_eC, decide_eq_true rfl]
  exact q G7
end
end SixW
namespace SixW
open PySem PySem.Spec PyProof.Rows L2 Six
/-! ### the program's top: the defs stand there as the text says -/
theorem all_mk {l : PySem.W.OpenLaw} {w : World} {K : PySem.W.Frag} {h : Heap} {mg : Str → Option Value} {fa f1 f2 f3 f4 f5 f6 f7 f8 f9 f10 f11 f12 f13 f14 f15 f16 f17 : Addr} (X : K.In h) (G : h.Ns mainGlobals mg) (hfa : mg "law" = some (.ref fa))
    {od1 an1 od2 an2 od3 an3 od4 an4 od5 an5 od6 an6 od7 an7 od8 an8 od9 an9 od10 an10 od11 an11 od12 an12 od13 an13 od14 an14 od15 an15 od16 an16 od17 an17 : Option Addr} {sl1 sl2 sl3 sl4 sl5 sl6 sl7 sl8 sl9 sl10 sl11 sl12 sl13 sl14 sl15 sl16 sl17 : Array (Option Value)} {oc1 kV1 dc1 pm1 cd1 ct1 oc2 kV2 dc2 pm2 cd2 ct2 oc3 kV3 dc3 pm3 cd3 ct3 oc4 kV4 dc4 pm4 cd4 ct4 oc5 kV5 dc5 pm5 cd5 ct5 oc6 kV6 dc6 pm6 cd6 ct6 oc7 kV7 dc7 pm7 cd7 ct7 oc8 kV8 dc8 pm8 cd8 ct8 oc9 kV9 dc9 pm9 cd9 ct9 oc10 kV10 dc10 pm10 cd10 ct10 oc11 kV11 dc11 pm11 cd11 ct11 oc12 kV12 dc12 pm12 cd12 ct12 oc13 kV13 dc13 pm13 cd13 ct13 oc14 kV14 dc14 pm14 cd14 ct14 oc15 kV15 dc15 pm15 cd15 ct15 oc16 kV16 dc16 pm16 cd16 ct16 oc17 kV17 dc17 pm17 cd17 ct17 : Value}
    (a1 : PySem.W.nsIn K mainGlobals "stands_at" = some (some (.ref f1))) (l1 : K.lookup f1 = some ⟨oc1, od1, .func (PySem.W.fnOf "stands_at" "stands_at" (defArgs sStands) (defBody sStands) (defScope sStands) .none kV1 dc1 pm1 an1 cd1 ct1), sl1⟩) (c1 : PySem.W.codeIn K cd1 "stands_at" = true) (k1 : PySem.W.keepIn K (.ref f1) = true)
    (a2 : PySem.W.nsIn K mainGlobals "steps" = some (some (.ref f2))) (l2 : K.lookup f2 = some ⟨oc2, od2, .func (PySem.W.fnOf "steps" "steps" (defArgs sSteps) (defBody sSteps) (defScope sSteps) .none kV2 dc2 pm2 an2 cd2 ct2), sl2⟩) (c2 : PySem.W.codeIn K cd2 "steps" = true) (k2 : PySem.W.keepIn K (.ref f2) = true)
    (a3 : PySem.W.nsIn K mainGlobals "put" = some (some (.ref f3))) (l3 : K.lookup f3 = some ⟨oc3, od3, .func (PySem.W.fnOf "put" "put" (defArgs sPut) (defBody sPut) (defScope sPut) .none kV3 dc3 pm3 an3 cd3 ct3), sl3⟩) (c3 : PySem.W.codeIn K cd3 "put" = true) (k3 : PySem.W.keepIn K (.ref f3) = true)
    (a4 : PySem.W.nsIn K mainGlobals "gone_along" = some (some (.ref f4))) (l4 : K.lookup f4 = some ⟨oc4, od4, .func (PySem.W.fnOf "gone_along" "gone_along" (defArgs sGone) (defBody sGone) (defScope sGone) .none kV4 dc4 pm4 an4 cd4 ct4), sl4⟩) (c4 : PySem.W.codeIn K cd4 "gone_along" = true) (k4 : PySem.W.keepIn K (.ref f4) = true)
    (a5 : PySem.W.nsIn K mainGlobals "is_at_end" = some (some (.ref f5))) (l5 : K.lookup f5 = some ⟨oc5, od5, .func (PySem.W.fnOf "is_at_end" "is_at_end" (defArgs sAtEnd) (defBody sAtEnd) (defScope sAtEnd) .none kV5 dc5 pm5 an5 cd5 ct5), sl5⟩) (c5 : PySem.W.codeIn K cd5 "is_at_end" = true) (k5 : PySem.W.keepIn K (.ref f5) = true)
    (a6 : PySem.W.nsIn K mainGlobals "chain_words" = some (some (.ref f6))) (l6 : K.lookup f6 = some ⟨oc6, od6, .func (PySem.W.fnOf "chain_words" "chain_words" (defArgs sChainW) (defBody sChainW) (defScope sChainW) .none kV6 dc6 pm6 an6 cd6 ct6), sl6⟩) (c6 : PySem.W.codeIn K cd6 "chain_words" = true) (k6 : PySem.W.keepIn K (.ref f6) = true)
    (a7 : PySem.W.nsIn K mainGlobals "chains" = some (some (.ref f7))) (l7 : K.lookup f7 = some ⟨oc7, od7, .func (PySem.W.fnOf "chains" "chains" (defArgs sChains) (defBody sChains) (defScope sChains) .none kV7 dc7 pm7 an7 cd7 ct7), sl7⟩) (c7 : PySem.W.codeIn K cd7 "chains" = true) (k7 : PySem.W.keepIn K (.ref f7) = true)
    (a8 : PySem.W.nsIn K mainGlobals "_law_cell" = some (some (.ref f8))) (l8 : K.lookup f8 = some ⟨oc8, od8, .func (PySem.W.fnOf "_law_cell" "_law_cell" (defArgs sCell) (defBody sCell) (defScope sCell) .none kV8 dc8 pm8 an8 cd8 ct8), sl8⟩) (c8 : PySem.W.codeIn K cd8 "_law_cell" = true) (k8 : PySem.W.keepIn K (.ref f8) = true)
    (a9 : PySem.W.nsIn K mainGlobals "_law_take" = some (some (.ref f9))) (l9 : K.lookup f9 = some ⟨oc9, od9, .func (PySem.W.fnOf "_law_take" "_law_take" (defArgs sTake) (defBody sTake) (defScope sTake) .none kV9 dc9 pm9 an9 cd9 ct9), sl9⟩) (c9 : PySem.W.codeIn K cd9 "_law_take" = true) (k9 : PySem.W.keepIn K (.ref f9) = true)
    (a10 : PySem.W.nsIn K mainGlobals "_law_words" = some (some (.ref f10))) (l10 : K.lookup f10 = some ⟨oc10, od10, .func (PySem.W.fnOf "_law_words" "_law_words" (defArgs sWords) (defBody sWords) (defScope sWords) .none kV10 dc10 pm10 an10 cd10 ct10), sl10⟩) (c10 : PySem.W.codeIn K cd10 "_law_words" = true) (k10 : PySem.W.keepIn K (.ref f10) = true)
    (a11 : PySem.W.nsIn K mainGlobals "_law_word" = some (some (.ref f11))) (l11 : K.lookup f11 = some ⟨oc11, od11, .func (PySem.W.fnOf "_law_word" "_law_word" (defArgs sWord) (defBody sWord) (defScope sWord) .none kV11 dc11 pm11 an11 cd11 ct11), sl11⟩) (c11 : PySem.W.codeIn K cd11 "_law_word" = true) (k11 : PySem.W.keepIn K (.ref f11) = true)
    (a12 : PySem.W.nsIn K mainGlobals "_law_mixed" = some (some (.ref f12))) (l12 : K.lookup f12 = some ⟨oc12, od12, .func (PySem.W.fnOf "_law_mixed" "_law_mixed" (defArgs sMixed) (defBody sMixed) (defScope sMixed) .none kV12 dc12 pm12 an12 cd12 ct12), sl12⟩) (c12 : PySem.W.codeIn K cd12 "_law_mixed" = true) (k12 : PySem.W.keepIn K (.ref f12) = true)
    (a13 : PySem.W.nsIn K mainGlobals "_law_turned_word" = some (some (.ref f13))) (l13 : K.lookup f13 = some ⟨oc13, od13, .func (PySem.W.fnOf "_law_turned_word" "_law_turned_word" (defArgs sTurnW) (defBody sTurnW) (defScope sTurnW) .none kV13 dc13 pm13 an13 cd13 ct13), sl13⟩) (c13 : PySem.W.codeIn K cd13 "_law_turned_word" = true) (k13 : PySem.W.keepIn K (.ref f13) = true)
    (a14 : PySem.W.nsIn K mainGlobals "_law_turned" = some (some (.ref f14))) (l14 : K.lookup f14 = some ⟨oc14, od14, .func (PySem.W.fnOf "_law_turned" "_law_turned" (defArgs sTurned) (defBody sTurned) (defScope sTurned) .none kV14 dc14 pm14 an14 cd14 ct14), sl14⟩) (c14 : PySem.W.codeIn K cd14 "_law_turned" = true) (k14 : PySem.W.keepIn K (.ref f14) = true)
    (a15 : PySem.W.nsIn K mainGlobals "_law_turned_chain" = some (some (.ref f15))) (l15 : K.lookup f15 = some ⟨oc15, od15, .func (PySem.W.fnOf "_law_turned_chain" "_law_turned_chain" (defArgs sTurnC) (defBody sTurnC) (defScope sTurnC) .none kV15 dc15 pm15 an15 cd15 ct15), sl15⟩) (c15 : PySem.W.codeIn K cd15 "_law_turned_chain" = true) (k15 : PySem.W.keepIn K (.ref f15) = true)
    (a16 : PySem.W.nsIn K mainGlobals "_law_longer" = some (some (.ref f16))) (l16 : K.lookup f16 = some ⟨oc16, od16, .func (PySem.W.fnOf "_law_longer" "_law_longer" (defArgs sLonger) (defBody sLonger) (defScope sLonger) .none kV16 dc16 pm16 an16 cd16 ct16), sl16⟩) (c16 : PySem.W.codeIn K cd16 "_law_longer" = true) (k16 : PySem.W.keepIn K (.ref f16) = true)
    (a17 : PySem.W.nsIn K mainGlobals "law" = some (some (.ref f17))) (l17 : K.lookup f17 = some ⟨oc17, od17, .func (PySem.W.fnOf "law" "law" (defArgs sLaw) (defBody sLaw) (defScope sLaw) .none kV17 dc17 pm17 an17 cd17 ct17), sl17⟩) (c17 : PySem.W.codeIn K cd17 "law" = true) (k17 : PySem.W.keepIn K (.ref f17) = true)
    (z1 : PySem.W.nsIn K mainGlobals "len" = some none)    (z2 : PySem.W.nsIn K mainGlobals "enumerate" = some none)    (z3 : PySem.W.nsIn K mainGlobals "range" = some none)    (z4 : PySem.W.nsIn K mainGlobals "all" = some none)    (z5 : PySem.W.nsIn K mainGlobals "tuple" = some none)    (z6 : PySem.W.nsIn K mainGlobals "sorted" = some none) :
    ∃ fd : FuncData, (∀ (s : Shared) (v : Value), BindsTo s fd ⟨[v], []⟩ [("_law_script", v)]) ∧ ∀ base : Heap, K.In base → base.Ns mainGlobals mg → FnOk l.prog w K mg base CX0 8 fa fd ["_law_script"] (spLaw K) := by
  have e := hfa.symm.trans (PySem.W.mg_of X G a17)
  cases e
  have F1 := fun_mk (st := sStands) l1 c1 k1
  have b1 := F1.binds (ps := ["left", "word", "place"]) fun _ _ _ _ _ _ us hl => match us, hl with | [_, _, _], _ => rfl
  have m1 := PySem.W.mg_of X G a1
  have F2 := fun_mk (st := sSteps) l2 c2 k2
  have b2 := F2.binds (ps := ["words", "word"]) fun _ _ _ _ _ _ us hl => match us, hl with | [_, _], _ => rfl
  have m2 := PySem.W.mg_of X G a2
  have F3 := fun_mk (st := sPut) l3 c3 k3
  have b3 := F3.binds (ps := ["words", "word", "step"]) fun _ _ _ _ _ _ us hl => match us, hl with | [_, _, _], _ => rfl
  have m3 := PySem.W.mg_of X G a3
  have F4 := fun_mk (st := sGone) l4 c4 k4
  have b4 := F4.binds (ps := ["words", "word", "chain"]) fun _ _ _ _ _ _ us hl => match us, hl with | [_, _, _], _ => rfl
  have m4 := PySem.W.mg_of X G a4
  have F5 := fun_mk (st := sAtEnd) l5 c5 k5
  have b5 := F5.binds (ps := ["words", "word"]) fun _ _ _ _ _ _ us hl => match us, hl with | [_, _], _ => rfl
  have m5 := PySem.W.mg_of X G a5
  have F6 := fun_mk (st := sChainW) l6 c6 k6
  have b6 := F6.binds (ps := ["words", "word", "chain"]) fun _ _ _ _ _ _ us hl => match us, hl with | [_, _, _], _ => rfl
  have m6 := PySem.W.mg_of X G a6
  have F7 := fun_mk (st := sChains) l7 c7 k7
  have b7 := F7.binds (ps := ["words", "word", "many"]) fun _ _ _ _ _ _ us hl => match us, hl with | [_, _, _], _ => rfl
  have m7 := PySem.W.mg_of X G a7
  have F8 := fun_mk (st := sCell) l8 c8 k8
  have b8 := F8.binds (ps := ["_law_script", "_law_k"]) fun _ _ _ _ _ _ us hl => match us, hl with | [_, _], _ => rfl
  have m8 := PySem.W.mg_of X G a8
  have F9 := fun_mk (st := sTake) l9 c9 k9
  have b9 := F9.binds (ps := ["_law_pen", "_law_most"]) fun _ _ _ _ _ _ us hl => match us, hl with | [_, _], _ => rfl
  have m9 := PySem.W.mg_of X G a9
  have F10 := fun_mk (st := sWords) l10 c10 k10
  have b10 := F10.binds (ps := ["_law_pen", "_law_most"]) fun _ _ _ _ _ _ us hl => match us, hl with | [_, _], _ => rfl
  have m10 := PySem.W.mg_of X G a10
  have F11 := fun_mk (st := sWord) l11 c11 k11
  have b11 := F11.binds (ps := ["_law_pen", "_law_words_here"]) fun _ _ _ _ _ _ us hl => match us, hl with | [_, _], _ => rfl
  have m11 := PySem.W.mg_of X G a11
  have F12 := fun_mk (st := sMixed) l12 c12 k12
  have b12 := F12.binds (ps := ["_law_pen", "_law_many"]) fun _ _ _ _ _ _ us hl => match us, hl with | [_, _], _ => rfl
  have m12 := PySem.W.mg_of X G a12
  have F13 := fun_mk (st := sTurnW) l13 c13 k13
  have b13 := F13.binds (ps := ["_law_word_here", "_law_names"]) fun _ _ _ _ _ _ us hl => match us, hl with | [_, _], _ => rfl
  have m13 := PySem.W.mg_of X G a13
  have F14 := fun_mk (st := sTurned) l14 c14 k14
  have b14 := F14.binds (ps := ["_law_words_here", "_law_names", "_law_order"]) fun _ _ _ _ _ _ us hl => match us, hl with | [_, _, _], _ => rfl
  have m14 := PySem.W.mg_of X G a14
  have F15 := fun_mk (st := sTurnC) l15 c15 k15
  have b15 := F15.binds (ps := ["_law_words_here", "_law_word_here", "_law_order", "_law_chain"]) fun _ _ _ _ _ _ us hl => match us, hl with | [_, _, _, _], _ => rfl
  have m15 := PySem.W.mg_of X G a15
  have F16 := fun_mk (st := sLonger) l16 c16 k16
  have b16 := F16.binds (ps := ["_law_words_here", "_law_word_here", "_law_many"]) fun _ _ _ _ _ _ us hl => match us, hl with | [_, _, _], _ => rfl
  have m16 := PySem.W.mg_of X G a16
  have F17 := fun_mk (st := sLaw) l17 c17 k17
  have n1 := PySem.W.mg_none_of X G z1
  have n2 := PySem.W.mg_none_of X G z2
  have n3 := PySem.W.mg_none_of X G z3
  have n4 := PySem.W.mg_none_of X G z4
  have n5 := PySem.W.mg_none_of X G z5
  have n6 := PySem.W.mg_none_of X G z6
  refine ⟨PySem.W.fnOf "law" "law" (defArgs sLaw) (defBody sLaw) (defScope sLaw) .none kV17 dc17 pm17 an17 cd17 ct17, fun s v => .of_eq rfl, fun base _ _ => ?_⟩
  have O1 := ok_stands (P := l.prog) (w := w) (base := base) F1 n1
  have O2 := ok_steps F2 O1 b1 k1 m1 n1 n2 n3
  have O3 := ok_put (P := l.prog) (w := w) (base := base) F3 n1
  have O4 := ok_gone F4 O2 b2 k2 m2 O3 b3 k3 m3
  have O5 := ok_atEnd (P := l.prog) (w := w) (base := base) F5 n4
  have O6 := ok_chainW F6 O4 b4 k4 m4 n1
  have C1 := ok_chains (by decide) F7 b7 m7 none_chains O2 b2 k2 m2 O3 b3 k3 m3 O5 b5 k5 m5
  have C2 := ok_chains (by decide) F7 b7 m7 C1 O2 b2 k2 m2 O3 b3 k3 m3 O5 b5 k5 m5
  have C3 := ok_chains (by decide) F7 b7 m7 C2 O2 b2 k2 m2 O3 b3 k3 m3 O5 b5 k5 m5
  have C4 := ok_chains (by decide) F7 b7 m7 C3 O2 b2 k2 m2 O3 b3 k3 m3 O5 b5 k5 m5
  have O8 := ok_cell (P := l.prog) (w := w) (base := base) F8 n1
  have O9 := ok_take F9 O8 b8 k8 m8
  have O10 := ok_words F10 O9 b9 k9 m9 n3 n5
  have O11 := ok_word F11 O9 b9 k9 m9 n3 n5
  have O12 := ok_mixed F12 O9 b9 k9 m9 n3
  have O13 := ok_turnW (P := l.prog) (w := w) (base := base) F13 n5
  have O14 := ok_turned F14 O13 b13 k13 m13 n6
  have O15 := ok_turnC (P := l.prog) (w := w) (base := base) F15 n1
  have O16 := ok_longer (by decide) F16 C4 b7 k7 m7 O2 b2 k2 m2 O3 b3 k3 m3
  exact ok_law F17 ⟨_, _, O9, b9, k9, m9⟩ ⟨_, _, O10, b10, k10, m10⟩ ⟨_, _, O11, b11, k11, m11⟩ ⟨_, _, O12, b12, k12, m12⟩ ⟨_, _, O14, b14, k14, m14⟩ ⟨_, _, O13, b13, k13, m13⟩ ⟨_, _, C4, b7, k7, m7⟩ ⟨_, _, O15, b15, k15, m15⟩ ⟨_, _, O6, b6, k6, m6⟩ ⟨_, _, O16, b16, k16, m16⟩ n1 n6
theorem walk {l : PySem.W.OpenLaw} {q : Program} {loose : List Str} {XP : (Str → Option Value) → Heap → Prop} {YP : World → Heap → Prop} {d : DefRec} {K : Params → PySem.W.Frag} (hn : l.most = some 63) (hdf : d.params.defaults = [])
    (hY : ∀ (w : World) (h : Heap), YP w h → (K w.params).In h)
    (F : ∀ (w : World) (mg : Str → Option Value) (fa : Addr) (h : Heap), (K w.params).In h → h.Ns mainGlobals mg → mg d.name = some (.ref fa) →
      ∃ fd : FuncData, (∀ (s : Shared) (u : Value), BindsTo s fd ⟨[u], []⟩ [("_law_script", u)]) ∧ ∀ base : Heap, (K w.params).In base → base.Ns mainGlobals mg → FnOk l.prog w (K w.params) mg base CX0 8 fa fd ["_law_script"] (spLaw (K w.params))) :
    PySem.W.WalkO q loose XP YP l.row.toRowW d [] (fun f vs => PySem.call f vs) :=
  L2.walk_of (n := 63) (k := 8) (x := "_law_script") (CX := fun _ => CX0) (sp := fun w => spLaw (K w.params)) hn (by decide) hdf ⟨rfl, by decide, by decide⟩ hY F (fun _ _ a ns hl _ hS => ⟨a, ns, rfl, hS, hl, fun _ => rfl⟩) fun _ _ _ _ _ z => z
end SixW
open PySem PySem.W PyProof.Rows
set_option maxRecDepth 100000 in
set_option maxHeartbeats 0 in
theorem PySem.Challenge.cw_sixtellings_k23_whole_words_turned_about_holds : PySem.Challenge.rw_sixtellings_k23_whole_words_turned_about.Holds := by
  w_on; o_law; k_head; (case hw => w_witness2)
  k_fill
  refine SixW.walk (l := PySem.Challenge.rw_sixtellings_k23_whole_words_turned_about) rfl rfl (fun w h Y => PySem.W.kIn_of Y) ?F
  case F =>
    intro w mg fa h KX G hmg
    refine' SixW.all_mk KX G hmg ?a1 ?l1 ?c1 ?k1 ?a2 ?l2 ?c2 ?k2 ?a3 ?l3 ?c3 ?k3 ?a4 ?l4 ?c4 ?k4 ?a5 ?l5 ?c5 ?k5 ?a6 ?l6 ?c6 ?k6 ?a7 ?l7 ?c7 ?k7 ?a8 ?l8 ?c8 ?k8 ?a9 ?l9 ?c9 ?k9 ?a10 ?l10 ?c10 ?k10 ?a11 ?l11 ?c11 ?k11 ?a12 ?l12 ?c12 ?k12 ?a13 ?l13 ?c13 ?k13 ?a14 ?l14 ?c14 ?k14 ?a15 ?l15 ?c15 ?k15 ?a16 ?l16 ?c16 ?k16 ?a17 ?l17 ?c17 ?k17 ?z1 ?z2 ?z3 ?z4 ?z5 ?z6
    (case a1 => k_is); (case l1 => k_is); (case c1 => k_is); (case k1 => k_is)
    (case a2 => k_is); (case l2 => k_is); (case c2 => k_is); (case k2 => k_is)
    (case a3 => k_is); (case l3 => k_is); (case c3 => k_is); (case k3 => k_is)
    (case a4 => k_is); (case l4 => k_is); (case c4 => k_is); (case k4 => k_is)
    (case a5 => k_is); (case l5 => k_is); (case c5 => k_is); (case k5 => k_is)
    (case a6 => k_is); (case l6 => k_is); (case c6 => k_is); (case k6 => k_is)
    (case a7 => k_is); (case l7 => k_is); (case c7 => k_is); (case k7 => k_is)
    (case a8 => k_is); (case l8 => k_is); (case c8 => k_is); (case k8 => k_is)
    (case a9 => k_is); (case l9 => k_is); (case c9 => k_is); (case k9 => k_is)
    (case a10 => k_is); (case l10 => k_is); (case c10 => k_is); (case k10 => k_is)
    (case a11 => k_is); (case l11 => k_is); (case c11 => k_is); (case k11 => k_is)
    (case a12 => k_is); (case l12 => k_is); (case c12 => k_is); (case k12 => k_is)
    (case a13 => k_is); (case l13 => k_is); (case c13 => k_is); (case k13 => k_is)
    (case a14 => k_is); (case l14 => k_is); (case c14 => k_is); (case k14 => k_is)
    (case a15 => k_is); (case l15 => k_is); (case c15 => k_is); (case k15 => k_is)
    (case a16 => k_is); (case l16 => k_is); (case c16 => k_is); (case k16 => k_is)
    (case a17 => k_is); (case l17 => k_is); (case c17 => k_is); (case k17 => k_is)
    (case z1 => k_is); (case z2 => k_is); (case z3 => k_is); (case z4 => k_is); (case z5 => k_is); (case z6 => k_is)
#print axioms PySem.Challenge.cw_sixtellings_k23_whole_words_turned_about_holds
