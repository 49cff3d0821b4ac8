/- How two segments meet does not hang on the order of the two, nor on the order of their ends. No condition beyond each lemma's own. -/
import Derived.Test.YtbbdhlggnglfgaaZFnMeetsGeo
namespace Go.Proofs.Ytbbdhlggnglfgaa.Geo
theorem lo2_comm {a b c d : Pt} (ha : Ok a) (hb : Ok b) (hc : Ok c) (hd : Ok d) : lo2 a b c d = lo2 c d a b:=by
  by_cases e : key (lowK a b) = key (lowK c d)
  · have:=key_inj (ok_lo ha hb) (ok_lo hc hd) e
    unfold lo2;rw [this]
  · unfold lo2
    by_cases h : key (lowK a b) < key (lowK c d)
    · rw [if_pos h,if_neg (by omega)]
    · rw [if_neg h,if_pos (by omega)]
theorem hi2_comm {a b c d : Pt} (ha : Ok a) (hb : Ok b) (hc : Ok c) (hd : Ok d) : hi2 a b c d = hi2 c d a b:=by
  by_cases e : key (highK a b) = key (highK c d)
  · have:=key_inj (ok_hi ha hb) (ok_hi hc hd) e
    unfold hi2;rw [this]
  · unfold hi2
    by_cases h : key (highK c d) < key (highK a b)
    · rw [if_pos h,if_neg (by omega)]
    · rw [if_neg h,if_pos (by omega)]
theorem Proper_comm {a b c d : Pt} : Proper a b c d ↔ Proper c d a b:=by unfold Proper;exact And.comm
theorem howI_comm {a b c d : Pt} (ha : Ok a) (hb : Ok b) (hc : Ok c) (hd : Ok d) (hn : a ≠ b) (hm : c ≠ d) : howI a b c d = howI c d a b:=by
  have e1 : (cross a b c = 0 ∧ cross a b d = 0) ↔ (cross c d a = 0 ∧ cross c d b = 0) :=
    ⟨fun h => ⟨coll_back hn h.1 h.2 cross_a,coll_back hn h.1 h.2 cross_b⟩,fun h => ⟨coll_back hm h.1 h.2 cross_a,coll_back hm h.1 h.2 cross_b⟩⟩
  have e4 : (On a b c ∨ On a b d ∨ On c d a ∨ On c d b) ↔ (On c d a ∨ On c d b ∨ On a b c ∨ On a b d):=by
    constructor <;> rintro (h | h | h | h) <;> simp [h]
  unfold howI
  simp only [e1,e4,lo2_comm ha hb hc hd,hi2_comm ha hb hc hd,Proper_comm (a:=a) (b:=b)]
end Go.Proofs.Ytbbdhlggnglfgaa.Geo
