/- How two segments meet does not hang on the order of the two, nor on the order of their ends. No condition beyond each lemma's own. -/
import Derived.Test.YtbackoeakepngaaZFnAreasGeo
namespace Go.Proofs.Ytbackoeakepngaa.Geo
theorem lowK_comm {a b : Pt} (ha : Ok a) (hb : Ok b) : lowK a b = lowK b a := by
  by_cases e : key a = key b
  · rw [key_inj ha hb e]
  · unfold lowK
    by_cases h : key b < key a
    · rw [if_pos h, if_neg (by omega)]
    · rw [if_neg h, if_pos (by omega)]
theorem highK_comm {a b : Pt} (ha : Ok a) (hb : Ok b) : highK a b = highK b a := by
  by_cases e : key a = key b
  · rw [key_inj ha hb e]
  · unfold highK
    by_cases h : key b < key a
    · rw [if_pos h, if_neg (by omega)]
    · rw [if_neg h, if_pos (by omega)]
theorem lo2_comm {a b c d : Pt} (ha : Ok a) (hb : Ok b) (hc : Ok c) (hd : Ok d) : lo2 a b c d = lo2 c d a b := by
  by_cases e : key (lowK a b) = key (lowK c d)
  · have := key_inj (ok_lo ha hb) (ok_lo hc hd) e
    unfold lo2; rw [this]
  · unfold lo2
    by_cases h : key (lowK a b) < key (lowK c d)
    · rw [if_pos h, if_neg (by omega)]
    · rw [if_neg h, if_pos (by omega)]
theorem hi2_comm {a b c d : Pt} (ha : Ok a) (hb : Ok b) (hc : Ok c) (hd : Ok d) : hi2 a b c d = hi2 c d a b := by
  by_cases e : key (highK a b) = key (highK c d)
  · have := key_inj (ok_hi ha hb) (ok_hi hc hd) e
    unfold hi2; rw [this]
  · unfold hi2
    by_cases h : key (highK c d) < key (highK a b)
    · rw [if_pos h, if_neg (by omega)]
    · rw [if_neg h, if_pos (by omega)]
theorem sgn_neg (n : Int) : sgn (-n) = - sgn n := by unfold sgn; split <;> split <;> (try split) <;> omega
theorem Proper_rev {a b c d : Pt} : Proper b a c d ↔ Proper a b c d := by
  unfold Proper
  rw [cross_swap (a := a) (b := b) (p := c), cross_swap (a := a) (b := b) (p := d), sgn_neg, sgn_neg, Int.neg_mul_neg, Int.mul_comm (sgn (cross c d b))]
theorem Proper_comm {a b c d : Pt} : Proper a b c d ↔ Proper c d a b := by unfold Proper; exact And.comm
theorem On_rev {a b p : Pt} : On b a p ↔ On a b p := by
  unfold On
  rw [cross_swap (a := a) (b := b) (p := p), InB_comm (a := b) (b := a)]
  constructor <;> rintro ⟨h, k⟩ <;> exact ⟨by omega, k⟩
theorem howI_rev {a b c d : Pt} (ha : Ok a) (hb : Ok b) : howI b a c d = howI a b c d := by
  have e1 : (cross b a c = 0 ∧ cross b a d = 0) ↔ (cross a b c = 0 ∧ cross a b d = 0) := by
    rw [cross_swap (a := a) (b := b) (p := c), cross_swap (a := a) (b := b) (p := d)]; omega
  have e2 : lo2 b a c d = lo2 a b c d := by unfold lo2; rw [lowK_comm hb ha]
  have e3 : hi2 b a c d = hi2 a b c d := by unfold hi2; rw [highK_comm hb ha]
  have e4 : (On b a c ∨ On b a d ∨ On c d b ∨ On c d a) ↔ (On a b c ∨ On a b d ∨ On c d a ∨ On c d b) := by
    rw [On_rev (a := a) (b := b) (p := c), On_rev (a := a) (b := b) (p := d), or_comm (a := On c d b)]
  unfold howI
  simp only [e1, e2, e3, e4, Proper_rev]
theorem howI_comm {a b c d : Pt} (ha : Ok a) (hb : Ok b) (hc : Ok c) (hd : Ok d) (hn : a ≠ b) (hm : c ≠ d) : howI a b c d = howI c d a b := by
  have e1 : (cross a b c = 0 ∧ cross a b d = 0) ↔ (cross c d a = 0 ∧ cross c d b = 0) :=
    ⟨fun h => ⟨coll_back hn h.1 h.2 cross_a, coll_back hn h.1 h.2 cross_b⟩, fun h => ⟨coll_back hm h.1 h.2 cross_a, coll_back hm h.1 h.2 cross_b⟩⟩
  have e4 : (On a b c ∨ On a b d ∨ On c d a ∨ On c d b) ↔ (On c d a ∨ On c d b ∨ On a b c ∨ On a b d) := by
    constructor <;> rintro (h | h | h | h) <;> simp [h]
  unfold howI
  simp only [e1, e4, lo2_comm ha hb hc hd, hi2_comm ha hb hc hd, Proper_comm (a := a) (b := b)]
end Go.Proofs.Ytbackoeakepngaa.Geo
