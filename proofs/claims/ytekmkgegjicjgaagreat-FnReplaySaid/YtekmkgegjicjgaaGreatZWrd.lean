import Derived.Test.YtekmkgegjicjgaaGreatZBas
import Derived.Test.YtekmkgegjicjgaaGreatZPln
namespace Go.Proofs.YtekmkgegjicjgaaGreat
open Go.Dv Go.Dv.EvL
set_option maxRecDepth 100000
set_option maxHeartbeats 16000000
attribute [local irreducible] Ok Rm Dm Om Sm Xm Cm Gm Hm Tm
theorem g5 (w:Txt):(((w == [104,101,97,114])=true∧(w == [115,101,116])=false∧(w == [100,101,99,111,100,101])=false∧(w == [101,110,99,111,100,101])=false∧(w == [112,97,115,115])=false∧(w == [115,101,101])=false∧(w == [115,104,111,119])=false)∧w=wHear)∨(((w == [104,101,97,114])=false∧(w == [115,101,116])=true∧(w == [100,101,99,111,100,101])=false∧(w == [101,110,99,111,100,101])=false∧(w == [112,97,115,115])=false∧(w == [115,101,101])=false∧(w == [115,104,111,119])=false)∧w=wSet)∨(((w == [104,101,97,114])=false∧(w == [115,101,116])=false∧(w == [100,101,99,111,100,101])=true∧(w == [101,110,99,111,100,101])=false∧(w == [112,97,115,115])=false∧(w == [115,101,101])=false∧(w == [115,104,111,119])=false)∧w=wDec)∨(((w == [104,101,97,114])=false∧(w == [115,101,116])=false∧(w == [100,101,99,111,100,101])=false∧(w == [101,110,99,111,100,101])=true∧(w == [112,97,115,115])=false∧(w == [115,101,101])=false∧(w == [115,104,111,119])=false)∧w=wEnc)∨(((w == [104,101,97,114])=false∧(w == [115,101,116])=false∧(w == [100,101,99,111,100,101])=false∧(w == [101,110,99,111,100,101])=false∧(w == [112,97,115,115])=true∧(w == [115,101,101])=false∧(w == [115,104,111,119])=false)∧w=wPass)∨(((w == [104,101,97,114])=false∧(w == [115,101,116])=false∧(w == [100,101,99,111,100,101])=false∧(w == [101,110,99,111,100,101])=false∧(w == [112,97,115,115])=false∧(w == [115,101,101])=true∧(w == [115,104,111,119])=false)∧w=wSee)∨(((w == [104,101,97,114])=false∧(w == [115,101,116])=false∧(w == [100,101,99,111,100,101])=false∧(w == [101,110,99,111,100,101])=false∧(w == [112,97,115,115])=false∧(w == [115,101,101])=false∧(w == [115,104,111,119])=true)∧w=wShow)∨(((w == [104,101,97,114])=false∧(w == [115,101,116])=false∧(w == [100,101,99,111,100,101])=false∧(w == [101,110,99,111,100,101])=false∧(w == [112,97,115,115])=false∧(w == [115,101,101])=false∧(w == [115,104,111,119])=false)∧w≠wHear∧w≠wSet∧w≠wDec∧w≠wEnc∧w≠wPass∧w≠wSee∧w≠wShow):=by
 by_cases h0:w=wHear
 ·exact .inl ⟨by rw [h0]; decide,h0⟩
 by_cases h1:w=wSet
 ·exact .inr (.inl ⟨by rw [h1]; decide,h1⟩)
 by_cases h2:w=wDec
 ·exact .inr (.inr (.inl ⟨by rw [h2]; decide,h2⟩))
 by_cases h3:w=wEnc
 ·exact .inr (.inr (.inr (.inl ⟨by rw [h3]; decide,h3⟩)))
 by_cases h4:w=wPass
 ·exact .inr (.inr (.inr (.inr (.inl ⟨by rw [h4]; decide,h4⟩))))
 by_cases h5:w=wSee
 ·exact .inr (.inr (.inr (.inr (.inr (.inl ⟨by rw [h5]; decide,h5⟩)))))
 by_cases h6:w=wShow
 ·exact .inr (.inr (.inr (.inr (.inr (.inr (.inl ⟨by rw [h6]; decide,h6⟩))))))
 exact .inr (.inr (.inr (.inr (.inr (.inr (.inr ⟨⟨beq_eq_false_iff_ne.2 h0,beq_eq_false_iff_ne.2 h1,beq_eq_false_iff_ne.2 h2,beq_eq_false_iff_ne.2 h3,beq_eq_false_iff_ne.2 h4,beq_eq_false_iff_ne.2 h5,beq_eq_false_iff_ne.2 h6⟩,h0,h1,h2,h3,h4,h5,h6⟩))))))
theorem g7 (w:Txt):(((w == [104,101,97,114])=true∧(w == [101,110,99,111,100,101])=false∧(w == [100,101,99,111,100,101])=false∧(w == [115,101,116])=false)∧w=wHear)∨(((w == [104,101,97,114])=false∧(w == [101,110,99,111,100,101])=true∧(w == [100,101,99,111,100,101])=false∧(w == [115,101,116])=false)∧w=wEnc)∨(((w == [104,101,97,114])=false∧(w == [101,110,99,111,100,101])=false∧(w == [100,101,99,111,100,101])=true∧(w == [115,101,116])=false)∧w=wDec)∨(((w == [104,101,97,114])=false∧(w == [101,110,99,111,100,101])=false∧(w == [100,101,99,111,100,101])=false∧(w == [115,101,116])=true)∧w=wSet)∨(((w == [104,101,97,114])=false∧(w == [101,110,99,111,100,101])=false∧(w == [100,101,99,111,100,101])=false∧(w == [115,101,116])=false)∧w≠wHear∧w≠wEnc∧w≠wDec∧w≠wSet):=by
 by_cases h0:w=wHear
 ·exact .inl ⟨by rw [h0]; decide,h0⟩
 by_cases h1:w=wEnc
 ·exact .inr (.inl ⟨by rw [h1]; decide,h1⟩)
 by_cases h2:w=wDec
 ·exact .inr (.inr (.inl ⟨by rw [h2]; decide,h2⟩))
 by_cases h3:w=wSet
 ·exact .inr (.inr (.inr (.inl ⟨by rw [h3]; decide,h3⟩)))
 exact .inr (.inr (.inr (.inr ⟨⟨beq_eq_false_iff_ne.2 h0,beq_eq_false_iff_ne.2 h1,beq_eq_false_iff_ne.2 h2,beq_eq_false_iff_ne.2 h3⟩,h0,h1,h2,h3⟩)))
theorem g8 (w:Txt):(((w == [112,97,115,115])=true∧(w == [119,104,101,114,101])=false∧(w == [102,114,101,115,104])=false∧(w == [102,114,97,109,101,115])=false∧(w == [115,101,101])=false∧(w == [97,108,101,114,116,115])=false∧(w == [115,104,111,119])=false)∧w=wPass)∨(((w == [112,97,115,115])=false∧(w == [119,104,101,114,101])=true∧(w == [102,114,101,115,104])=false∧(w == [102,114,97,109,101,115])=false∧(w == [115,101,101])=false∧(w == [97,108,101,114,116,115])=false∧(w == [115,104,111,119])=false)∧w=wWhere)∨(((w == [112,97,115,115])=false∧(w == [119,104,101,114,101])=false∧(w == [102,114,101,115,104])=true∧(w == [102,114,97,109,101,115])=false∧(w == [115,101,101])=false∧(w == [97,108,101,114,116,115])=false∧(w == [115,104,111,119])=false)∧w=wFresh)∨(((w == [112,97,115,115])=false∧(w == [119,104,101,114,101])=false∧(w == [102,114,101,115,104])=false∧(w == [102,114,97,109,101,115])=true∧(w == [115,101,101])=false∧(w == [97,108,101,114,116,115])=false∧(w == [115,104,111,119])=false)∧w=wFrames)∨(((w == [112,97,115,115])=false∧(w == [119,104,101,114,101])=false∧(w == [102,114,101,115,104])=false∧(w == [102,114,97,109,101,115])=false∧(w == [115,101,101])=true∧(w == [97,108,101,114,116,115])=false∧(w == [115,104,111,119])=false)∧w=wSee)∨(((w == [112,97,115,115])=false∧(w == [119,104,101,114,101])=false∧(w == [102,114,101,115,104])=false∧(w == [102,114,97,109,101,115])=false∧(w == [115,101,101])=false∧(w == [97,108,101,114,116,115])=true∧(w == [115,104,111,119])=false)∧w=wAlerts)∨(((w == [112,97,115,115])=false∧(w == [119,104,101,114,101])=false∧(w == [102,114,101,115,104])=false∧(w == [102,114,97,109,101,115])=false∧(w == [115,101,101])=false∧(w == [97,108,101,114,116,115])=false∧(w == [115,104,111,119])=true)∧w=wShow)∨(((w == [112,97,115,115])=false∧(w == [119,104,101,114,101])=false∧(w == [102,114,101,115,104])=false∧(w == [102,114,97,109,101,115])=false∧(w == [115,101,101])=false∧(w == [97,108,101,114,116,115])=false∧(w == [115,104,111,119])=false)∧w≠wPass∧w≠wWhere∧w≠wFresh∧w≠wFrames∧w≠wSee∧w≠wAlerts∧w≠wShow):=by
 by_cases h0:w=wPass
 ·exact .inl ⟨by rw [h0]; decide,h0⟩
 by_cases h1:w=wWhere
 ·exact .inr (.inl ⟨by rw [h1]; decide,h1⟩)
 by_cases h2:w=wFresh
 ·exact .inr (.inr (.inl ⟨by rw [h2]; decide,h2⟩))
 by_cases h3:w=wFrames
 ·exact .inr (.inr (.inr (.inl ⟨by rw [h3]; decide,h3⟩)))
 by_cases h4:w=wSee
 ·exact .inr (.inr (.inr (.inr (.inl ⟨by rw [h4]; decide,h4⟩))))
 by_cases h5:w=wAlerts
 ·exact .inr (.inr (.inr (.inr (.inr (.inl ⟨by rw [h5]; decide,h5⟩)))))
 by_cases h6:w=wShow
 ·exact .inr (.inr (.inr (.inr (.inr (.inr (.inl ⟨by rw [h6]; decide,h6⟩))))))
 exact .inr (.inr (.inr (.inr (.inr (.inr (.inr ⟨⟨beq_eq_false_iff_ne.2 h0,beq_eq_false_iff_ne.2 h1,beq_eq_false_iff_ne.2 h2,beq_eq_false_iff_ne.2 h3,beq_eq_false_iff_ne.2 h4,beq_eq_false_iff_ne.2 h5,beq_eq_false_iff_ne.2 h6⟩,h0,h1,h2,h3,h4,h5,h6⟩))))))
theorem q5_hear {w:Txt}(h:w=wHear):(w == [104,101,97,114])=true∧(w == [115,101,116])=false∧(w == [100,101,99,111,100,101])=false∧(w == [101,110,99,111,100,101])=false∧(w == [112,97,115,115])=false∧(w == [115,101,101])=false∧(w == [115,104,111,119])=false:=by rw [h]; decide
theorem q5_set {w:Txt}(h:w=wSet):(w == [104,101,97,114])=false∧(w == [115,101,116])=true∧(w == [100,101,99,111,100,101])=false∧(w == [101,110,99,111,100,101])=false∧(w == [112,97,115,115])=false∧(w == [115,101,101])=false∧(w == [115,104,111,119])=false:=by rw [h]; decide
theorem q5_decode {w:Txt}(h:w=wDec):(w == [104,101,97,114])=false∧(w == [115,101,116])=false∧(w == [100,101,99,111,100,101])=true∧(w == [101,110,99,111,100,101])=false∧(w == [112,97,115,115])=false∧(w == [115,101,101])=false∧(w == [115,104,111,119])=false:=by rw [h]; decide
theorem q5_encode {w:Txt}(h:w=wEnc):(w == [104,101,97,114])=false∧(w == [115,101,116])=false∧(w == [100,101,99,111,100,101])=false∧(w == [101,110,99,111,100,101])=true∧(w == [112,97,115,115])=false∧(w == [115,101,101])=false∧(w == [115,104,111,119])=false:=by rw [h]; decide
theorem q5_pass {w:Txt}(h:w=wPass):(w == [104,101,97,114])=false∧(w == [115,101,116])=false∧(w == [100,101,99,111,100,101])=false∧(w == [101,110,99,111,100,101])=false∧(w == [112,97,115,115])=true∧(w == [115,101,101])=false∧(w == [115,104,111,119])=false:=by rw [h]; decide
theorem q5_see {w:Txt}(h:w=wSee):(w == [104,101,97,114])=false∧(w == [115,101,116])=false∧(w == [100,101,99,111,100,101])=false∧(w == [101,110,99,111,100,101])=false∧(w == [112,97,115,115])=false∧(w == [115,101,101])=true∧(w == [115,104,111,119])=false:=by rw [h]; decide
theorem q5_show {w:Txt}(h:w=wShow):(w == [104,101,97,114])=false∧(w == [115,101,116])=false∧(w == [100,101,99,111,100,101])=false∧(w == [101,110,99,111,100,101])=false∧(w == [112,97,115,115])=false∧(w == [115,101,101])=false∧(w == [115,104,111,119])=true:=by rw [h]; decide
theorem q7_hear {w:Txt}(h:w=wHear):(w == [104,101,97,114])=true∧(w == [101,110,99,111,100,101])=false∧(w == [100,101,99,111,100,101])=false∧(w == [115,101,116])=false:=by rw [h]; decide
theorem q7_encode {w:Txt}(h:w=wEnc):(w == [104,101,97,114])=false∧(w == [101,110,99,111,100,101])=true∧(w == [100,101,99,111,100,101])=false∧(w == [115,101,116])=false:=by rw [h]; decide
theorem q7_decode {w:Txt}(h:w=wDec):(w == [104,101,97,114])=false∧(w == [101,110,99,111,100,101])=false∧(w == [100,101,99,111,100,101])=true∧(w == [115,101,116])=false:=by rw [h]; decide
theorem q7_set {w:Txt}(h:w=wSet):(w == [104,101,97,114])=false∧(w == [101,110,99,111,100,101])=false∧(w == [100,101,99,111,100,101])=false∧(w == [115,101,116])=true:=by rw [h]; decide
theorem q8_pass {w:Txt}(h:w=wPass):(w == [112,97,115,115])=true∧(w == [119,104,101,114,101])=false∧(w == [102,114,101,115,104])=false∧(w == [102,114,97,109,101,115])=false∧(w == [115,101,101])=false∧(w == [97,108,101,114,116,115])=false∧(w == [115,104,111,119])=false:=by rw [h]; decide
theorem q8_where {w:Txt}(h:w=wWhere):(w == [112,97,115,115])=false∧(w == [119,104,101,114,101])=true∧(w == [102,114,101,115,104])=false∧(w == [102,114,97,109,101,115])=false∧(w == [115,101,101])=false∧(w == [97,108,101,114,116,115])=false∧(w == [115,104,111,119])=false:=by rw [h]; decide
theorem q8_fresh {w:Txt}(h:w=wFresh):(w == [112,97,115,115])=false∧(w == [119,104,101,114,101])=false∧(w == [102,114,101,115,104])=true∧(w == [102,114,97,109,101,115])=false∧(w == [115,101,101])=false∧(w == [97,108,101,114,116,115])=false∧(w == [115,104,111,119])=false:=by rw [h]; decide
theorem q8_frames {w:Txt}(h:w=wFrames):(w == [112,97,115,115])=false∧(w == [119,104,101,114,101])=false∧(w == [102,114,101,115,104])=false∧(w == [102,114,97,109,101,115])=true∧(w == [115,101,101])=false∧(w == [97,108,101,114,116,115])=false∧(w == [115,104,111,119])=false:=by rw [h]; decide
theorem q8_see {w:Txt}(h:w=wSee):(w == [112,97,115,115])=false∧(w == [119,104,101,114,101])=false∧(w == [102,114,101,115,104])=false∧(w == [102,114,97,109,101,115])=false∧(w == [115,101,101])=true∧(w == [97,108,101,114,116,115])=false∧(w == [115,104,111,119])=false:=by rw [h]; decide
theorem q8_alerts {w:Txt}(h:w=wAlerts):(w == [112,97,115,115])=false∧(w == [119,104,101,114,101])=false∧(w == [102,114,101,115,104])=false∧(w == [102,114,97,109,101,115])=false∧(w == [115,101,101])=false∧(w == [97,108,101,114,116,115])=true∧(w == [115,104,111,119])=false:=by rw [h]; decide
theorem q8_show {w:Txt}(h:w=wShow):(w == [112,97,115,115])=false∧(w == [119,104,101,114,101])=false∧(w == [102,114,101,115,104])=false∧(w == [102,114,97,109,101,115])=false∧(w == [115,101,101])=false∧(w == [97,108,101,114,116,115])=false∧(w == [115,104,111,119])=true:=by rw [h]; decide
theorem r2_dec (c:Cs)(w1:Txt):runR c [wDec,w1]=dcR w1:=rfl
theorem r2_enc (c:Cs)(w1:Txt):runR c [wEnc,w1] = .bad:=by
 show run2 c wEnc w1 = .bad
 unfold run2
 rw [if_neg (by decide),if_neg (show ¬ wEnc=wPass by decide),if_neg (show ¬ wEnc=wWhere by decide),if_neg (show ¬ wEnc=wFrames by decide)]
 exact ite_self _
theorem r2_pass (c:Cs)(w1:Txt):runR c [wPass,w1]=if (readO w1).2=true then passR c (readO w1).1 else .bad:=rfl
theorem r2_one (c:Cs){w:Txt}(w1:Txt)(h1:w≠wDec)(h2:w≠wPass):runR c [w,w1]=if (readO w1).2=true then (if w=wWhere then whereR c (readO w1).1 else if w=wFrames then framesR c (readO w1).1 else .bad) else .bad:=by
 show run2 c w w1=_
 unfold run2
 rw [if_neg h1,if_neg h2]
theorem r3_two (c:Cs){w:Txt}(w1 w2:Txt)(h1:w≠wHear):runR c [w,w1,w2]=if (readO w1).2=true∧(readO w2).2=true then (if w=wSee then seeR c (readO w1).1 (readO w2).1 else if w=wShow then showR c (readO w1).1 (readO w2).1 else .bad) else .bad:=by
 show run3 c w w1 w2=_
 unfold run3
 rw [if_neg h1]
theorem r3_bad (c:Cs){w:Txt}(w1 w2:Txt)(h1:w≠wHear)(h2:w≠wSee)(h3:w≠wShow):runR c [w,w1,w2] = .bad:=by
 rw [r3_two c w1 w2 h1,if_neg h2,if_neg h3]
 exact ite_self _
theorem r4_bad (c:Cs){w:Txt}(w1 w2 w3:Txt)(h1:w≠wEnc)(h2:w≠wSet):runR c [w,w1,w2,w3] = .bad:=by
 show run4 c w w1 w2 w3=_
 unfold run4
 rw [if_neg h1,if_neg h2]
theorem r1_bad (c:Cs){w:Txt}(h1:w≠wFresh)(h2:w≠wAlerts):runR c [w] = .bad:=by
 show run1 c w=_
 unfold run1
 rw [if_neg h1,if_neg h2]
end Go.Proofs.YtekmkgegjicjgaaGreat
