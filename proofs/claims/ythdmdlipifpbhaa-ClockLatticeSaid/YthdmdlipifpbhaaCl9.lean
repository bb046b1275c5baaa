/-
  A part of the proof (Cl9).
-/
import Derived.Test.YthdmdlipifpbhaaCl8
namespace Go.Proofs.Ythdmdlipifpbhaa
open Go Go.Proofs.Ythdmdlipifpbhaa.Sx
set_option maxRecDepth 100000
set_option linter.unusedSimpArgs false
set_option linter.unusedVariables false
theorem less_iff' {a b : List Tk} (ha : VC a) (hb : VC b) : lessL a b = true ↔ ∀ z, cntL a z ≤ cntL b z := less_iff.trans ⟨fun h => h.2.2, fun h => ⟨ha, hb, h⟩⟩
theorem jn_spec {a b : List Tk} (ha : VC a) (hb : VC b) : VC (jnL a b) ∧ ∀ z, cntL (jnL a b) z = max (cntL a z) (cntL b z) := by
  have e : jnL a b = joinL a b := by simp only [jnL, valid_iff.2 ha, valid_iff.2 hb, Bool.and_self, cond_true]
  obtain ⟨h1, h2⟩ := joinL_spec ha.1 hb.1
  rw [e]
  exact ⟨vc_of h1 fun z => by have := cnt_le ha z; have := cnt_le hb z; rw [h2]; omega, h2⟩
theorem mt_spec {a b : List Tk} (ha : VC a) (hb : VC b) : VC (meetL a b) ∧ ∀ z, cntL (meetL a b) z = min (cntL a z) (cntL b z) := by
  have e : meetL a b = metO a b a.length := by simp only [meetL, valid_iff.2 ha, valid_iff.2 hb, Bool.and_self, cond_true]
  obtain ⟨h1, h2⟩ := metO_spec ha.1 hb.1
  rw [e]
  exact ⟨vc_of h1 fun z => by have := cnt_le ha z; have := cnt_le hb z; rw [h2]; omega, h2⟩
theorem VC.ext {a b : List Tk} (ha : VC a) (hb : VC b) (h : ∀ z, cntL a z = cntL b z) : a = b := Vd.ext ha.1 hb.1 h
theorem v7_eq (a b c up dn u2 d2 : List Tk) : (fnVc (tab (cs5 (nm7 a b c up dn u2 d2)) []) Try.f7 [.sl 0 a.length, .sl 1 b.length, .sl 2 c.length] [clkArr a, clkArr b, clkArr c] (plainIs .tt)) = (((decide ((↑a.length : Int) > (40 : Int)) || decide ((↑b.length : Int) > (40 : Int)) ||
 decide ((↑c.length : Int) > (40 : Int))) =
 false →
 a.length = a.length) ∧
 ((decide ((↑a.length : Int) > (40 : Int)) || decide ((↑b.length : Int) > (40 : Int)) ||
 decide ((↑c.length : Int) > (40 : Int))) =
 false →
 mkL a.length (agF a) (ctF a) = a) ∧
 ((decide ((↑a.length : Int) > (40 : Int)) || decide ((↑b.length : Int) > (40 : Int)) ||
 decide ((↑c.length : Int) > (40 : Int))) =
 false →
 a.length ≤ (1099511627776 : Nat)) ∧
 ((decide ((↑a.length : Int) > (40 : Int)) || decide ((↑b.length : Int) > (40 : Int)) ||
 decide ((↑c.length : Int) > (40 : Int)) ||
 !validL a) =
 false →
 b.length = b.length) ∧
 ((decide ((↑a.length : Int) > (40 : Int)) || decide ((↑b.length : Int) > (40 : Int)) ||
 decide ((↑c.length : Int) > (40 : Int)) ||
 !validL a) =
 false →
 mkL b.length (agF b) (ctF b) = b) ∧
 ((decide ((↑a.length : Int) > (40 : Int)) || decide ((↑b.length : Int) > (40 : Int)) ||
 decide ((↑c.length : Int) > (40 : Int)) ||
 !validL a) =
 false →
 b.length ≤ (1099511627776 : Nat)) ∧
 ((decide ((↑a.length : Int) > (40 : Int)) || decide ((↑b.length : Int) > (40 : Int)) ||
 decide ((↑c.length : Int) > (40 : Int)) ||
 !validL a ||
 !validL b) =
 false →
 c.length = c.length) ∧
 ((decide ((↑a.length : Int) > (40 : Int)) || decide ((↑b.length : Int) > (40 : Int)) ||
 decide ((↑c.length : Int) > (40 : Int)) ||
 !validL a ||
 !validL b) =
 false →
 mkL c.length (agF c) (ctF c) = c) ∧
 ((decide ((↑a.length : Int) > (40 : Int)) || decide ((↑b.length : Int) > (40 : Int)) ||
 decide ((↑c.length : Int) > (40 : Int)) ||
 !validL a ||
 !validL b) =
 false →
 c.length ≤ (1099511627776 : Nat)) ∧
 ((decide ((↑a.length : Int) > (40 : Int)) || decide ((↑b.length : Int) > (40 : Int)) ||
 decide ((↑c.length : Int) > (40 : Int)) ||
 !validL a ||
 !validL b ||
 !validL c) =
 true →
 true = true) ∧
 ((decide ((↑a.length : Int) > (40 : Int)) || decide ((↑b.length : Int) > (40 : Int)) ||
 decide ((↑c.length : Int) > (40 : Int)) ||
 !validL a ||
 !validL b ||
 !validL c) =
 false →
 a.length = a.length ∧
 b.length = b.length ∧
 mkL a.length (agF a) (ctF a) = a ∧
 mkL b.length (agF b) (ctF b) = b ∧
 (a.length ≤ (1099511627776 : Nat) ∧ b.length ≤ (1099511627776 : Nat)) ∧
 jnL a b = up ∧
 a.length = a.length ∧
 b.length = b.length ∧
 mkL a.length (agF a) (ctF a) = a ∧
 mkL b.length (agF b) (ctF b) = b ∧
 (a.length ≤ (1099511627776 : Nat) ∧ b.length ≤ (1099511627776 : Nat)) ∧
 meetL a b = dn ∧
 up.length = up.length ∧
 mkL up.length (agF up) (ctF up) = up ∧
 up.length ≤ (1099511627776 : Nat) ∧
 ((!validL up) = false → dn.length = dn.length) ∧
 ((!validL up) = false → mkL dn.length (agF dn) (ctF dn) = dn) ∧
 ((!validL up) = false → dn.length ≤ (1099511627776 : Nat)) ∧
 ((!validL up || !validL dn) = false → a.length = a.length) ∧
 ((!validL up || !validL dn) = false →
 up.length = up.length) ∧
 ((!validL up || !validL dn) = false →
 mkL a.length (agF a) (ctF a) = a) ∧
 ((!validL up || !validL dn) = false →
 mkL up.length (agF up) (ctF up) = up) ∧
 ((!validL up || !validL dn) = false →
 a.length ≤ (1099511627776 : Nat) ∧
 up.length ≤ (1099511627776 : Nat)) ∧
 ((!validL up || !validL dn || !lessL a up) = false →
 b.length = b.length) ∧
 ((!validL up || !validL dn || !lessL a up) =
 false →
 up.length = up.length) ∧
 ((!validL up || !validL dn || !lessL a up) =
 false →
 mkL b.length (agF b) (ctF b) = b) ∧
 ((!validL up || !validL dn || !lessL a up) =
 false →
 mkL up.length (agF up) (ctF up) = up) ∧
 ((!validL up || !validL dn || !lessL a up) =
 false →
 b.length ≤ (1099511627776 : Nat) ∧
 up.length ≤ (1099511627776 : Nat)) ∧
 ((!validL up || !validL dn ||
 !lessL a up ||
 !lessL b up) =
 false →
 dn.length = dn.length) ∧
 ((!validL up || !validL dn ||
 !lessL a up ||
 !lessL b up) =
 false →
 a.length = a.length) ∧
 ((!validL up || !validL dn ||
 !lessL a up ||
 !lessL b up) =
 false →
 mkL dn.length (agF dn) (ctF dn) =
 dn) ∧
 ((!validL up || !validL dn ||
 !lessL a up ||
 !lessL b up) =
 false →
 mkL a.length (agF a) (ctF a) =
 a) ∧
 ((!validL up || !validL dn ||
 !lessL a up ||
 !lessL b up) =
 false →
 dn.length ≤
 (1099511627776 : Nat) ∧
 a.length ≤
 (1099511627776 : Nat)) ∧
 ((!validL up || !validL dn ||
 !lessL a up ||
 !lessL b up ||
 !lessL dn a) =
 false →
 dn.length = dn.length) ∧
 ((!validL up || !validL dn ||
 !lessL a up ||
 !lessL b up ||
 !lessL dn a) =
 false →
 b.length = b.length) ∧
 ((!validL up ||
 !validL dn ||
 !lessL a up ||
 !lessL b up ||
 !lessL dn a) =
 false →
 mkL dn.length (agF dn)
 (ctF dn) =
 dn) ∧
 ((!validL up ||
 !validL
 dn ||
 !lessL a up ||
 !lessL b up ||
 !lessL dn a) =
 false →
 mkL b.length (agF b)
 (ctF b) =
 b) ∧
 ((!validL up ||
 !validL
 dn ||
 !lessL a
 up ||
 !lessL b up ||
 !lessL dn a) =
 false →
 dn.length ≤
 (1099511627776 :
 Nat) ∧
 b.length ≤
 (1099511627776 :
 Nat)) ∧
 ((!validL up ||
 !validL
 dn ||
 !lessL a
 up ||
 !lessL b
 up ||
 !lessL dn
 a ||
 !lessL dn b) =
 true →
 false = true) ∧
 ((!validL up ||
 !validL
 dn ||
 !lessL a
 up ||
 !lessL b
 up ||
 !lessL dn
 a ||
 !lessL dn b) =
 false →
 a.length =
 a.length ∧
 c.length =
 c.length ∧
 mkL a.length
 (agF a)
 (ctF
 a) =
 a ∧
 mkL c.length
 (agF
 c)
 (ctF
 c) =
 c ∧
 (a.length ≤
 (1099511627776 :
 Nat) ∧
 c.length ≤
 (1099511627776 :
 Nat)) ∧
 (lessL a
 c =
 true →
 b.length =
 b.length) ∧
 (lessL
 a
 c =
 true →
 c.length =
 c.length) ∧
 (lessL
 a
 c =
 true →
 mkL
 b.length
 (agF
 b)
 (ctF
 b) =
 b) ∧
 (lessL
 a
 c =
 true →
 mkL
 c.length
 (agF
 c)
 (ctF
 c) =
 c) ∧
 (lessL
 a
 c =
 true →
 b.length ≤
 (1099511627776 :
 Nat) ∧
 c.length ≤
 (1099511627776 :
 Nat)) ∧
 (lessL
 a
 c =
 true →
 up.length =
 up.length) ∧
 (lessL
 a
 c =
 true →
 c.length =
 c.length) ∧
 (lessL
 a
 c =
 true →
 mkL
 up.length
 (agF
 up)
 (ctF
 up) =
 up) ∧
 (lessL
 a
 c =
 true →
 mkL
 c.length
 (agF
 c)
 (ctF
 c) =
 c) ∧
 (lessL
 a
 c =
 true →
 up.length ≤
 (1099511627776 :
 Nat) ∧
 c.length ≤
 (1099511627776 :
 Nat)) ∧
 ((lessL
 a
 c &&
 !lessL
 b
 c ==
 lessL
 up
 c) =
 false →
 c.length =
 c.length) ∧
 ((lessL
 a
 c &&
 !lessL
 b
 c ==
 lessL
 up
 c) =
 false →
 a.length =
 a.length) ∧
 ((lessL
 a
 c &&
 !lessL
 b
 c ==
 lessL
 up
 c) =
 false →
 mkL
 c.length
 (agF
 c)
 (ctF
 c) =
 c) ∧
 ((lessL
 a
 c &&
 !lessL
 b
 c ==
 lessL
 up
 c) =
 false →
 mkL
 a.length
 (agF
 a)
 (ctF
 a) =
 a) ∧
 ((lessL
 a
 c &&
 !lessL
 b
 c ==
 lessL
 up
 c) =
 false →
 c.length ≤
 (1099511627776 :
 Nat) ∧
 a.length ≤
 (1099511627776 :
 Nat)) ∧
 (lessL
 c
 a =
 true →
 (lessL
 a
 c &&
 !lessL
 b
 c ==
 lessL
 up
 c) =
 false →
 c.length =
 c.length) ∧
 (lessL
 c
 a =
 true →
 (lessL
 a
 c &&
 !lessL
 b
 c ==
 lessL
 up
 c) =
 false →
 b.length =
 b.length) ∧
 (lessL
 c
 a =
 true →
 (lessL
 a
 c &&
 !lessL
 b
 c ==
 lessL
 up
 c) =
 false →
 mkL
 c.length
 (agF
 c)
 (ctF
 c) =
 c) ∧
 (lessL
 c
 a =
 true →
 (lessL
 a
 c &&
 !lessL
 b
 c ==
 lessL
 up
 c) =
 false →
 mkL
 b.length
 (agF
 b)
 (ctF
 b) =
 b) ∧
 (lessL
 c
 a =
 true →
 (lessL
 a
 c &&
 !lessL
 b
 c ==
 lessL
 up
 c) =
 false →
 c.length ≤
 (1099511627776 :
 Nat) ∧
 b.length ≤
 (1099511627776 :
 Nat)) ∧
 (lessL
 c
 a =
 true →
 (lessL
 a
 c &&
 !lessL
 b
 c ==
 lessL
 up
 c) =
 false →
 c.length =
 c.length) ∧
 (lessL
 c
 a =
 true →
 (lessL
 a
 c &&
 !lessL
 b
 c ==
 lessL
 up
 c) =
 false →
 dn.length =
 dn.length) ∧
 (lessL
 c
 a =
 true →
 (lessL
 a
 c &&
 !lessL
 b
 c ==
 lessL
 up
 c) =
 false →
 mkL
 c.length
 (agF
 c)
 (ctF
 c) =
 c) ∧
 (lessL
 c
 a =
 true →
 (lessL
 a
 c &&
 !lessL
 b
 c ==
 lessL
 up
 c) =
 false →
 mkL
 dn.length
 (agF
 dn)
 (ctF
 dn) =
 dn) ∧
 (lessL
 c
 a =
 true →
 (lessL
 a
 c &&
 !lessL
 b
 c ==
 lessL
 up
 c) =
 false →
 c.length ≤
 (1099511627776 :
 Nat) ∧
 dn.length ≤
 (1099511627776 :
 Nat)) ∧
 ((lessL
 a
 c &&
 !lessL
 b
 c ==
 lessL
 up
 c ||
 lessL
 c
 a &&
 !lessL
 c
 b ==
 lessL
 c
 dn) =
 true →
 false =
 true) ∧
 ((lessL
 a
 c &&
 !lessL
 b
 c ==
 lessL
 up
 c ||
 lessL
 c
 a &&
 !lessL
 c
 b ==
 lessL
 c
 dn) =
 false →
 a.length =
 a.length ∧
 b.length =
 b.length ∧
 mkL
 a.length
 (agF
 a)
 (ctF
 a) =
 a ∧
 mkL
 b.length
 (agF
 b)
 (ctF
 b) =
 b ∧
 (a.length ≤
 (1099511627776 :
 Nat) ∧
 b.length ≤
 (1099511627776 :
 Nat)) ∧
 (lessL
 a
 b =
 true →
 up.length =
 up.length) ∧
 (lessL
 a
 b =
 true →
 b.length =
 b.length) ∧
 (lessL
 a
 b =
 true →
 mkL
 up.length
 (agF
 up)
 (ctF
 up) =
 up) ∧
 (lessL
 a
 b =
 true →
 mkL
 b.length
 (agF
 b)
 (ctF
 b) =
 b) ∧
 (lessL
 a
 b =
 true →
 up.length ≤
 (1099511627776 :
 Nat)) ∧
 ((!sameL
 up
 b) =
 false →
 lessL
 a
 b =
 true →
 dn.length =
 dn.length) ∧
 ((!sameL
 up
 b) =
 false →
 lessL
 a
 b =
 true →
 a.length =
 a.length) ∧
 ((!sameL
 up
 b) =
 false →
 lessL
 a
 b =
 true →
 mkL
 dn.length
 (agF
 dn)
 (ctF
 dn) =
 dn) ∧
 ((!sameL
 up
 b) =
 false →
 lessL
 a
 b =
 true →
 mkL
 a.length
 (agF
 a)
 (ctF
 a) =
 a) ∧
 ((!sameL
 up
 b) =
 false →
 lessL
 a
 b =
 true →
 dn.length ≤
 (1099511627776 :
 Nat)) ∧
 ((!sameL
 up
 b ||
 !sameL
 dn
 a) =
 false →
 lessL
 a
 b =
 true →
 b.length =
 b.length) ∧
 ((!sameL
 up
 b ||
 !sameL
 dn
 a) =
 false →
 lessL
 a
 b =
 true →
 c.length =
 c.length) ∧
 ((!sameL
 up
 b ||
 !sameL
 dn
 a) =
 false →
 lessL
 a
 b =
 true →
 mkL
 b.length
 (agF
 b)
 (ctF
 b) =
 b) ∧
 ((!sameL
 up
 b ||
 !sameL
 dn
 a) =
 false →
 lessL
 a
 b =
 true →
 mkL
 c.length
 (agF
 c)
 (ctF
 c) =
 c) ∧
 ((!sameL
 up
 b ||
 !sameL
 dn
 a) =
 false →
 lessL
 a
 b =
 true →
 b.length ≤
 (1099511627776 :
 Nat) ∧
 c.length ≤
 (1099511627776 :
 Nat)) ∧
 (lessL
 b
 c =
 true →
 (!sameL
 up
 b ||
 !sameL
 dn
 a) =
 false →
 lessL
 a
 b =
 true →
 a.length =
 a.length) ∧
 (lessL
 b
 c =
 true →
 (!sameL
 up
 b ||
 !sameL
 dn
 a) =
 false →
 lessL
 a
 b =
 true →
 c.length =
 c.length) ∧
 (lessL
 b
 c =
 true →
 (!sameL
 up
 b ||
 !sameL
 dn
 a) =
 false →
 lessL
 a
 b =
 true →
 mkL
 a.length
 (agF
 a)
 (ctF
 a) =
 a) ∧
 (lessL
 b
 c =
 true →
 (!sameL
 up
 b ||
 !sameL
 dn
 a) =
 false →
 lessL
 a
 b =
 true →
 mkL
 c.length
 (agF
 c)
 (ctF
 c) =
 c) ∧
 (lessL
 b
 c =
 true →
 (!sameL
 up
 b ||
 !sameL
 dn
 a) =
 false →
 lessL
 a
 b =
 true →
 a.length ≤
 (1099511627776 :
 Nat) ∧
 c.length ≤
 (1099511627776 :
 Nat)) ∧
 ((!sameL
 up
 b ||
 !sameL
 dn
 a ||
 lessL
 b
 c &&
 !lessL
 a
 c) =
 false →
 lessL
 a
 b =
 true →
 b.length =
 b.length) ∧
 ((!sameL
 up
 b ||
 !sameL
 dn
 a ||
 lessL
 b
 c &&
 !lessL
 a
 c) =
 false →
 lessL
 a
 b =
 true →
 a.length =
 a.length) ∧
 ((!sameL
 up
 b ||
 !sameL
 dn
 a ||
 lessL
 b
 c &&
 !lessL
 a
 c) =
 false →
 lessL
 a
 b =
 true →
 mkL
 b.length
 (agF
 b)
 (ctF
 b) =
 b) ∧
 ((!sameL
 up
 b ||
 !sameL
 dn
 a ||
 lessL
 b
 c &&
 !lessL
 a
 c) =
 false →
 lessL
 a
 b =
 true →
 mkL
 a.length
 (agF
 a)
 (ctF
 a) =
 a) ∧
 ((!sameL
 up
 b ||
 !sameL
 dn
 a ||
 lessL
 b
 c &&
 !lessL
 a
 c) =
 false →
 lessL
 a
 b =
 true →
 b.length ≤
 (1099511627776 :
 Nat) ∧
 a.length ≤
 (1099511627776 :
 Nat)) ∧
 (lessL
 b
 a =
 true →
 (!sameL
 up
 b ||
 !sameL
 dn
 a ||
 lessL
 b
 c &&
 !lessL
 a
 c) =
 false →
 lessL
 a
 b =
 true →
 a.length =
 a.length) ∧
 (lessL
 b
 a =
 true →
 (!sameL
 up
 b ||
 !sameL
 dn
 a ||
 lessL
 b
 c &&
 !lessL
 a
 c) =
 false →
 lessL
 a
 b =
 true →
 b.length =
 b.length) ∧
 (lessL
 b
 a =
 true →
 (!sameL
 up
 b ||
 !sameL
 dn
 a ||
 lessL
 b
 c &&
 !lessL
 a
 c) =
 false →
 lessL
 a
 b =
 true →
 mkL
 a.length
 (agF
 a)
 (ctF
 a) =
 a) ∧
 (lessL
 b
 a =
 true →
 (!sameL
 up
 b ||
 !sameL
 dn
 a ||
 lessL
 b
 c &&
 !lessL
 a
 c) =
 false →
 lessL
 a
 b =
 true →
 mkL
 b.length
 (agF
 b)
 (ctF
 b) =
 b) ∧
 (lessL
 b
 a =
 true →
 (!sameL
 up
 b ||
 !sameL
 dn
 a ||
 lessL
 b
 c &&
 !lessL
 a
 c) =
 false →
 lessL
 a
 b =
 true →
 a.length ≤
 (1099511627776 :
 Nat)) ∧
 ((lessL
 a
 b &&
 (!sameL
 up
 b ||
 !sameL
 dn
 a ||
 lessL
 b
 c &&
 !lessL
 a
 c ||
 lessL
 b
 a &&
 !sameL
 a
 b)) =
 true →
 false =
 true) ∧
 ((lessL
 a
 b &&
 (!sameL
 up
 b ||
 !sameL
 dn
 a ||
 lessL
 b
 c &&
 !lessL
 a
 c ||
 lessL
 b
 a &&
 !sameL
 a
 b)) =
 false →
 a.length =
 a.length ∧
 a.length =
 a.length ∧
 mkL
 a.length
 (agF
 a)
 (ctF
 a) =
 a ∧
 mkL
 a.length
 (agF
 a)
 (ctF
 a) =
 a ∧
 (a.length ≤
 (1099511627776 :
 Nat) ∧
 a.length ≤
 (1099511627776 :
 Nat)) ∧
 (lessL
 a
 a =
 true →
 a.length =
 a.length) ∧
 (lessL
 a
 a =
 true →
 dn.length =
 dn.length) ∧
 (lessL
 a
 a =
 true →
 mkL
 a.length
 (agF
 a)
 (ctF
 a) =
 a) ∧
 (lessL
 a
 a =
 true →
 mkL
 dn.length
 (agF
 dn)
 (ctF
 dn) =
 dn) ∧
 (lessL
 a
 a =
 true →
 a.length ≤
 (1099511627776 :
 Nat) ∧
 dn.length ≤
 (1099511627776 :
 Nat)) ∧
 (lessL
 a
 a =
 true →
 jnL
 a
 dn =
 u2) ∧
 (lessL
 a
 a =
 true →
 u2.length =
 u2.length) ∧
 (lessL
 a
 a =
 true →
 a.length =
 a.length) ∧
 (lessL
 a
 a =
 true →
 mkL
 u2.length
 (agF
 u2)
 (ctF
 u2) =
 u2) ∧
 (lessL
 a
 a =
 true →
 mkL
 a.length
 (agF
 a)
 (ctF
 a) =
 a) ∧
 (lessL
 a
 a =
 true →
 u2.length ≤
 (1099511627776 :
 Nat)) ∧
 ((lessL
 a
 a &&
 sameL
 u2
 a) =
 true →
 a.length =
 a.length) ∧
 ((lessL
 a
 a &&
 sameL
 u2
 a) =
 true →
 up.length =
 up.length) ∧
 ((lessL
 a
 a &&
 sameL
 u2
 a) =
 true →
 mkL
 a.length
 (agF
 a)
 (ctF
 a) =
 a) ∧
 ((lessL
 a
 a &&
 sameL
 u2
 a) =
 true →
 mkL
 up.length
 (agF
 up)
 (ctF
 up) =
 up) ∧
 ((lessL
 a
 a &&
 sameL
 u2
 a) =
 true →
 a.length ≤
 (1099511627776 :
 Nat) ∧
 up.length ≤
 (1099511627776 :
 Nat)) ∧
 ((lessL
 a
 a &&
 sameL
 u2
 a) =
 true →
 meetL
 a
 up =
 d2) ∧
 ((lessL
 a
 a &&
 sameL
 u2
 a) =
 true →
 d2.length =
 d2.length) ∧
 ((lessL
 a
 a &&
 sameL
 u2
 a) =
 true →
 a.length =
 a.length) ∧
 ((lessL
 a
 a &&
 sameL
 u2
 a) =
 true →
 mkL
 d2.length
 (agF
 d2)
 (ctF
 d2) =
 d2) ∧
 ((lessL
 a
 a &&
 sameL
 u2
 a) =
 true →
 mkL
 a.length
 (agF
 a)
 (ctF
 a) =
 a) ∧
 ((lessL
 a
 a &&
 sameL
 u2
 a) =
 true →
 d2.length ≤
 (1099511627776 :
 Nat)) ∧
 (lessL
 a
 a &&
 sameL
 u2
 a &&
 sameL
 d2
 a ||
 false) =
 true))))) := by kernel_rfl
theorem v7 (a b c up dn u2 d2 : List Tk) (h1 : jnL a b = up) (h2 : meetL a b = dn) (h3 : jnL a dn = u2) (h4 : meetL a up = d2) : fnVc (tab (cs5 (nm7 a b c up dn u2 d2)) []) Try.f7 [.sl 0 a.length, .sl 1 b.length, .sl 2 c.length] [clkArr a, clkArr b, clkArr c] (plainIs .tt) := by
  rw [v7_eq]
  cases e : decide ((a.length : Int) > 40) || decide ((b.length : Int) > 40) || decide ((c.length : Int) > 40)
  · simp only [Bool.or_eq_false_iff] at e
    have hA : a.length ≤ 1099511627776 := by have := of_decide_eq_false e.1.1; omega
    have hB : b.length ≤ 1099511627776 := by have := of_decide_eq_false e.1.2; omega
    have hC : c.length ≤ 1099511627776 := by have := of_decide_eq_false e.2; omega
    have hA' : a.length ≤ 40 := by have := of_decide_eq_false e.1.1; omega
    have hB' : b.length ≤ 40 := by have := of_decide_eq_false e.1.2; omega
    have l1 : up.length ≤ 80 := by rw [← h1, jn_eq]; exact Nat.le_trans (rjL_len a b) (by omega)
    have l2 : dn.length ≤ 80 := by rw [← h2, meet_eq]; exact Nat.le_trans (rmL_len a b) (by omega)
    have l3 : u2.length ≤ 120 := by rw [← h3, jn_eq]; exact Nat.le_trans (rjL_len a dn) (by omega)
    have l4 : d2.length ≤ 120 := by rw [← h4, meet_eq]; exact Nat.le_trans (rmL_len a up) (by omega)
    have l1' : up.length ≤ 1099511627776 := by omega
    have l2' : dn.length ≤ 1099511627776 := by omega
    have l3' : u2.length ≤ 1099511627776 := by omega
    have l4' : d2.length ≤ 1099511627776 := by omega
    simp only [mkL_self, eq_self, implies_true, true_and, and_true, and_self, hA, hB, hC, l1', l2', l3', l4', h1, h2, h3, h4]
    cases va : validL a
    · simp
    cases vb : validL b
    · simp
    cases vc : validL c
    · simp
    have ka := valid_iff.1 va
    have kb := valid_iff.1 vb
    have kc := valid_iff.1 vc
    obtain ⟨ku, cu⟩ := jn_spec ka kb
    obtain ⟨kd, cd⟩ := mt_spec ka kb
    rw [h1] at ku cu
    rw [h2] at kd cd
    have f1 := valid_iff.2 ku
    have f2 := valid_iff.2 kd
    have f3 : lessL a up = true := (less_iff' ka ku).2 fun z => by rw [cu]; omega
    have f4 : lessL b up = true := (less_iff' kb ku).2 fun z => by rw [cu]; omega
    have f5 : lessL dn a = true := (less_iff' kd ka).2 fun z => by rw [cd]; omega
    have f6 : lessL dn b = true := (less_iff' kd kb).2 fun z => by rw [cd]; omega
    have f7 : lessL a a = true := (less_iff' ka ka).2 fun z => by omega
    have f8 : lessL up c = (lessL a c && lessL b c) := by
      rw [Bool.eq_iff_iff, Bool.and_eq_true, less_iff' ku kc, less_iff' ka kc, less_iff' kb kc]
      refine ⟨fun h => ⟨fun z => ?_, fun z => ?_⟩, fun h z => ?_⟩
      · have := h z; rw [cu] at this; omega
      · have := h z; rw [cu] at this; omega
      · have := h.1 z; have := h.2 z; rw [cu]; omega
    have f9 : lessL c dn = (lessL c a && lessL c b) := by
      rw [Bool.eq_iff_iff, Bool.and_eq_true, less_iff' kc kd, less_iff' kc ka, less_iff' kc kb]
      refine ⟨fun h => ⟨fun z => ?_, fun z => ?_⟩, fun h z => ?_⟩
      · have := h z; rw [cd] at this; omega
      · have := h z; rw [cd] at this; omega
      · have := h.1 z; have := h.2 z; rw [cd]; omega
    have g3 : u2 = a := by
      rw [← h3]
      obtain ⟨k, q⟩ := jn_spec ka kd
      exact k.ext ka fun z => by rw [q, cd]; omega
    have g4 : d2 = a := by
      rw [← h4]
      obtain ⟨k, q⟩ := mt_spec ka ku
      exact k.ext ka fun z => by rw [q, cu]; omega
    have g5 : lessL a b = true → up = b ∧ dn = a := fun h => by
      have h := (less_iff' ka kb).1 h
      exact ⟨ku.ext kb fun z => by have := h z; rw [cu]; omega, kd.ext ka fun z => by have := h z; rw [cd]; omega⟩
    have g6 : lessL a b = true → lessL b c = true → lessL a c = true := fun h h' => by
      have h := (less_iff' ka kb).1 h
      have h' := (less_iff' kb kc).1 h'
      exact (less_iff' ka kc).2 fun z => Int.le_trans (h z) (h' z)
    have g7 : lessL a b = true → lessL b a = true → a = b := fun h h' => by
      have h := (less_iff' ka kb).1 h
      have h' := (less_iff' kb ka).1 h'
      exact ka.ext kb fun z => Int.le_antisymm (h z) (h' z)
    simp only [g3, g4, f1, f2, f3, f4, f5, f6, f7, f8, f9, same_refl]
    cases hab : lessL a b
    · cases lessL a c <;> cases lessL b c <;> cases lessL c a <;> cases lessL c b <;> simp
    · have p1 : sameL up b = true := same_iff.2 (g5 hab).1
      have p2 : sameL dn a = true := same_iff.2 (g5 hab).2
      have p3 : lessL b c = true → lessL a c = true := g6 hab
      have p4 : lessL b a = true → sameL a b = true := fun h => same_iff.2 (g7 hab h)
      simp only [p1, p2]
      cases hbc : lessL b c
      · cases hba : lessL b a
        · cases lessL a c <;> cases lessL c a <;> cases lessL c b <;> simp
        · simp only [p4 hba]
          cases lessL a c <;> cases lessL c a <;> cases lessL c b <;> simp
      · simp only [p3 hbc]
        cases hba : lessL b a
        · cases lessL c a <;> cases lessL c b <;> simp
        · simp only [p4 hba]
          cases lessL c a <;> cases lessL c b <;> simp
  · simp
end Go.Proofs.Ythdmdlipifpbhaa
