/- What the theorem leans on, part 12. -/
import Derived.Test.YthnooilghadjkaaGreatDoorWindowAllPA
import Derived.Test.YthnooilghadjkaaGreatDoorWindowAllPB
import Derived.Test.YthnooilghadjkaaGreatDoorWindowAllPC
import Derived.Test.YthnooilghadjkaaGreatDoorWindowAllPD
import Derived.Test.YthnooilghadjkaaGreatDoorWindowAllPE
import Derived.Test.YthnooilghadjkaaGreatDoorWindowAllPH
import Derived.Test.YthnooilghadjkaaGreatDoorWindowAllPI
import Derived.Test.YthnooilghadjkaaGreatDoorWindowAllPJ
import Derived.Test.YthnooilghadjkaaGreatDoorWindowAllPK
set_option linter.unusedVariables false
set_option linter.unusedSimpArgs false
namespace Go.Proofs.YthnooilghadjkaaGreatDoor
end Go.Proofs.YthnooilghadjkaaGreatDoor
set_option linter.unusedSimpArgs false
set_option linter.unusedVariables false
set_option maxRecDepth 8000
namespace Go.Proofs.YthnooilghadjkaaGreatDoor
theorem runesAt_len (s : ByteArray) : ∀ (k i : Nat), s.size - i ≤ k → (runesAt s i).length ≤ s.size - i
  | 0, i, hk => by rw [runesAt_out (by omega)]; exact Nat.zero_le _
  | k + 1, i, hk => by
    by_cases hlt : i < s.size
    · have h1 := dec_pos s i
      have h2 := runesAt_len s k (i + (Utf8.decode s i).2) (by omega)
      rw [runesAt_in hlt, List.length_cons]
      omega
    · rw [runesAt_out hlt]; exact Nat.zero_le _
section
variable {G : Gl}
end
end Go.Proofs.YthnooilghadjkaaGreatDoor
