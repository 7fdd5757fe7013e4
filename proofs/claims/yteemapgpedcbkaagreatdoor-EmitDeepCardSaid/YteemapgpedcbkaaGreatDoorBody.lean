/- What the statement's body answers, whatever the input. -/
import Derived.Test.YteemapgpedcbkaaGreatDoorE0
import Derived.Test.YteemapgpedcbkaaGreatDoorE1
import Derived.Test.YteemapgpedcbkaaGreatDoorE2
import Derived.Test.YteemapgpedcbkaaGreatDoorE3
import Derived.Test.YteemapgpedcbkaaGreatDoorE4
import Derived.Test.YteemapgpedcbkaaGreatDoorE5
import Derived.Test.YteemapgpedcbkaaGreatDoorE6
import Derived.Test.YteemapgpedcbkaaGreatDoorE7
import Derived.Test.YteemapgpedcbkaaGreatDoorE8
import Derived.Test.YteemapgpedcbkaaGreatDoorE9
import Derived.Test.YteemapgpedcbkaaGreatDoorE10
import Derived.Test.YteemapgpedcbkaaGreatDoorE11
import Derived.Test.YteemapgpedcbkaaGreatDoorE12
import Derived.Test.YteemapgpedcbkaaGreatDoorE13
import Derived.Test.YteemapgpedcbkaaGreatDoorE14
set_option maxRecDepth 1000000
set_option linter.unusedVariables false
noncomputable section
namespace Go.Ab
open Go.Proofs
theorem all_a (k : Nat) (h : k < 64) : evB false false k = true := by
  rcases Nat.lt_or_ge k 8 with g | g
  · exact evs_spec _ _ ea0 k (by omega) (by omega)
  rcases Nat.lt_or_ge k 12 with g | g
  · exact evs_spec _ _ ea8 k (by omega) (by omega)
  rcases Nat.lt_or_ge k 16 with g | g
  · exact evs_spec _ _ ea12 k (by omega) (by omega)
  rcases Nat.lt_or_ge k 18 with g | g
  · exact evs_spec _ _ ea16 k (by omega) (by omega)
  rcases Nat.lt_or_ge k 20 with g | g
  · exact evs_spec _ _ ea18 k (by omega) (by omega)
  rcases Nat.lt_or_ge k 22 with g | g
  · exact evs_spec _ _ ea20 k (by omega) (by omega)
  rcases Nat.lt_or_ge k 24 with g | g
  · exact evs_spec _ _ ea22 k (by omega) (by omega)
  rcases Nat.lt_or_ge k 25 with g | g
  · exact evs_spec _ _ ea24 k (by omega) (by omega)
  rcases Nat.lt_or_ge k 26 with g | g
  · exact evs_spec _ _ ea25 k (by omega) (by omega)
  rcases Nat.lt_or_ge k 27 with g | g
  · exact evs_spec _ _ ea26 k (by omega) (by omega)
  rcases Nat.lt_or_ge k 28 with g | g
  · exact evs_spec _ _ ea27 k (by omega) (by omega)
  rcases Nat.lt_or_ge k 29 with g | g
  · exact evs_spec _ _ ea28 k (by omega) (by omega)
  rcases Nat.lt_or_ge k 30 with g | g
  · exact evs_spec _ _ ea29 k (by omega) (by omega)
  rcases Nat.lt_or_ge k 31 with g | g
  · exact evs_spec _ _ ea30 k (by omega) (by omega)
  rcases Nat.lt_or_ge k 32 with g | g
  · exact evs_spec _ _ ea31 k (by omega) (by omega)
  rcases Nat.lt_or_ge k 33 with g | g
  · exact evs_spec _ _ ea32 k (by omega) (by omega)
  rcases Nat.lt_or_ge k 34 with g | g
  · exact evs_spec _ _ ea33 k (by omega) (by omega)
  rcases Nat.lt_or_ge k 35 with g | g
  · exact evs_spec _ _ ea34 k (by omega) (by omega)
  rcases Nat.lt_or_ge k 36 with g | g
  · exact evs_spec _ _ ea35 k (by omega) (by omega)
  rcases Nat.lt_or_ge k 37 with g | g
  · exact evs_spec _ _ ea36 k (by omega) (by omega)
  rcases Nat.lt_or_ge k 38 with g | g
  · exact evs_spec _ _ ea37 k (by omega) (by omega)
  rcases Nat.lt_or_ge k 39 with g | g
  · exact evs_spec _ _ ea38 k (by omega) (by omega)
  rcases Nat.lt_or_ge k 40 with g | g
  · exact evs_spec _ _ ea39 k (by omega) (by omega)
  rcases Nat.lt_or_ge k 41 with g | g
  · exact evs_spec _ _ ea40 k (by omega) (by omega)
  rcases Nat.lt_or_ge k 42 with g | g
  · exact evs_spec _ _ ea41 k (by omega) (by omega)
  rcases Nat.lt_or_ge k 43 with g | g
  · exact evs_spec _ _ ea42 k (by omega) (by omega)
  rcases Nat.lt_or_ge k 44 with g | g
  · exact evs_spec _ _ ea43 k (by omega) (by omega)
  rcases Nat.lt_or_ge k 45 with g | g
  · exact evs_spec _ _ ea44 k (by omega) (by omega)
  rcases Nat.lt_or_ge k 46 with g | g
  · exact evs_spec _ _ ea45 k (by omega) (by omega)
  rcases Nat.lt_or_ge k 47 with g | g
  · exact evs_spec _ _ ea46 k (by omega) (by omega)
  rcases Nat.lt_or_ge k 48 with g | g
  · exact evs_spec _ _ ea47 k (by omega) (by omega)
  rcases Nat.lt_or_ge k 49 with g | g
  · exact evs_spec _ _ ea48 k (by omega) (by omega)
  rcases Nat.lt_or_ge k 50 with g | g
  · exact evs_spec _ _ ea49 k (by omega) (by omega)
  rcases Nat.lt_or_ge k 51 with g | g
  · exact evs_spec _ _ ea50 k (by omega) (by omega)
  rcases Nat.lt_or_ge k 52 with g | g
  · exact evs_spec _ _ ea51 k (by omega) (by omega)
  rcases Nat.lt_or_ge k 53 with g | g
  · exact evs_spec _ _ ea52 k (by omega) (by omega)
  rcases Nat.lt_or_ge k 54 with g | g
  · exact evs_spec _ _ ea53 k (by omega) (by omega)
  rcases Nat.lt_or_ge k 55 with g | g
  · exact evs_spec _ _ ea54 k (by omega) (by omega)
  rcases Nat.lt_or_ge k 56 with g | g
  · exact evs_spec _ _ ea55 k (by omega) (by omega)
  rcases Nat.lt_or_ge k 57 with g | g
  · exact evs_spec _ _ ea56 k (by omega) (by omega)
  rcases Nat.lt_or_ge k 58 with g | g
  · exact evs_spec _ _ ea57 k (by omega) (by omega)
  rcases Nat.lt_or_ge k 59 with g | g
  · exact evs_spec _ _ ea58 k (by omega) (by omega)
  rcases Nat.lt_or_ge k 60 with g | g
  · exact evs_spec _ _ ea59 k (by omega) (by omega)
  rcases Nat.lt_or_ge k 61 with g | g
  · exact evs_spec _ _ ea60 k (by omega) (by omega)
  rcases Nat.lt_or_ge k 62 with g | g
  · exact evs_spec _ _ ea61 k (by omega) (by omega)
  rcases Nat.lt_or_ge k 63 with g | g
  · exact evs_spec _ _ ea62 k (by omega) (by omega)
  exact evs_spec _ _ ea63 k (by omega) (by omega)
theorem all_b (k : Nat) (h : k < 64) : evB false true k = true := by
  rcases Nat.lt_or_ge k 8 with g | g
  · exact evs_spec _ _ eb0 k (by omega) (by omega)
  rcases Nat.lt_or_ge k 12 with g | g
  · exact evs_spec _ _ eb8 k (by omega) (by omega)
  rcases Nat.lt_or_ge k 16 with g | g
  · exact evs_spec _ _ eb12 k (by omega) (by omega)
  rcases Nat.lt_or_ge k 18 with g | g
  · exact evs_spec _ _ eb16 k (by omega) (by omega)
  rcases Nat.lt_or_ge k 20 with g | g
  · exact evs_spec _ _ eb18 k (by omega) (by omega)
  rcases Nat.lt_or_ge k 22 with g | g
  · exact evs_spec _ _ eb20 k (by omega) (by omega)
  rcases Nat.lt_or_ge k 24 with g | g
  · exact evs_spec _ _ eb22 k (by omega) (by omega)
  rcases Nat.lt_or_ge k 25 with g | g
  · exact evs_spec _ _ eb24 k (by omega) (by omega)
  rcases Nat.lt_or_ge k 26 with g | g
  · exact evs_spec _ _ eb25 k (by omega) (by omega)
  rcases Nat.lt_or_ge k 27 with g | g
  · exact evs_spec _ _ eb26 k (by omega) (by omega)
  rcases Nat.lt_or_ge k 28 with g | g
  · exact evs_spec _ _ eb27 k (by omega) (by omega)
  rcases Nat.lt_or_ge k 29 with g | g
  · exact evs_spec _ _ eb28 k (by omega) (by omega)
  rcases Nat.lt_or_ge k 30 with g | g
  · exact evs_spec _ _ eb29 k (by omega) (by omega)
  rcases Nat.lt_or_ge k 31 with g | g
  · exact evs_spec _ _ eb30 k (by omega) (by omega)
  rcases Nat.lt_or_ge k 32 with g | g
  · exact evs_spec _ _ eb31 k (by omega) (by omega)
  rcases Nat.lt_or_ge k 33 with g | g
  · exact evs_spec _ _ eb32 k (by omega) (by omega)
  rcases Nat.lt_or_ge k 34 with g | g
  · exact evs_spec _ _ eb33 k (by omega) (by omega)
  rcases Nat.lt_or_ge k 35 with g | g
  · exact evs_spec _ _ eb34 k (by omega) (by omega)
  rcases Nat.lt_or_ge k 36 with g | g
  · exact evs_spec _ _ eb35 k (by omega) (by omega)
  rcases Nat.lt_or_ge k 37 with g | g
  · exact evs_spec _ _ eb36 k (by omega) (by omega)
  rcases Nat.lt_or_ge k 38 with g | g
  · exact evs_spec _ _ eb37 k (by omega) (by omega)
  rcases Nat.lt_or_ge k 39 with g | g
  · exact evs_spec _ _ eb38 k (by omega) (by omega)
  rcases Nat.lt_or_ge k 40 with g | g
  · exact evs_spec _ _ eb39 k (by omega) (by omega)
  rcases Nat.lt_or_ge k 41 with g | g
  · exact evs_spec _ _ eb40 k (by omega) (by omega)
  rcases Nat.lt_or_ge k 42 with g | g
  · exact evs_spec _ _ eb41 k (by omega) (by omega)
  rcases Nat.lt_or_ge k 43 with g | g
  · exact evs_spec _ _ eb42 k (by omega) (by omega)
  rcases Nat.lt_or_ge k 44 with g | g
  · exact evs_spec _ _ eb43 k (by omega) (by omega)
  rcases Nat.lt_or_ge k 45 with g | g
  · exact evs_spec _ _ eb44 k (by omega) (by omega)
  rcases Nat.lt_or_ge k 46 with g | g
  · exact evs_spec _ _ eb45 k (by omega) (by omega)
  rcases Nat.lt_or_ge k 47 with g | g
  · exact evs_spec _ _ eb46 k (by omega) (by omega)
  rcases Nat.lt_or_ge k 48 with g | g
  · exact evs_spec _ _ eb47 k (by omega) (by omega)
  rcases Nat.lt_or_ge k 49 with g | g
  · exact evs_spec _ _ eb48 k (by omega) (by omega)
  rcases Nat.lt_or_ge k 50 with g | g
  · exact evs_spec _ _ eb49 k (by omega) (by omega)
  rcases Nat.lt_or_ge k 51 with g | g
  · exact evs_spec _ _ eb50 k (by omega) (by omega)
  rcases Nat.lt_or_ge k 52 with g | g
  · exact evs_spec _ _ eb51 k (by omega) (by omega)
  rcases Nat.lt_or_ge k 53 with g | g
  · exact evs_spec _ _ eb52 k (by omega) (by omega)
  rcases Nat.lt_or_ge k 54 with g | g
  · exact evs_spec _ _ eb53 k (by omega) (by omega)
  rcases Nat.lt_or_ge k 55 with g | g
  · exact evs_spec _ _ eb54 k (by omega) (by omega)
  rcases Nat.lt_or_ge k 56 with g | g
  · exact evs_spec _ _ eb55 k (by omega) (by omega)
  rcases Nat.lt_or_ge k 57 with g | g
  · exact evs_spec _ _ eb56 k (by omega) (by omega)
  rcases Nat.lt_or_ge k 58 with g | g
  · exact evs_spec _ _ eb57 k (by omega) (by omega)
  rcases Nat.lt_or_ge k 59 with g | g
  · exact evs_spec _ _ eb58 k (by omega) (by omega)
  rcases Nat.lt_or_ge k 60 with g | g
  · exact evs_spec _ _ eb59 k (by omega) (by omega)
  rcases Nat.lt_or_ge k 61 with g | g
  · exact evs_spec _ _ eb60 k (by omega) (by omega)
  rcases Nat.lt_or_ge k 62 with g | g
  · exact evs_spec _ _ eb61 k (by omega) (by omega)
  rcases Nat.lt_or_ge k 63 with g | g
  · exact evs_spec _ _ eb62 k (by omega) (by omega)
  exact evs_spec _ _ eb63 k (by omega) (by omega)
theorem all_c (k : Nat) (h : k < 64) : evB true false k = true := by
  rcases Nat.lt_or_ge k 8 with g | g
  · exact evs_spec _ _ ec0 k (by omega) (by omega)
  rcases Nat.lt_or_ge k 12 with g | g
  · exact evs_spec _ _ ec8 k (by omega) (by omega)
  rcases Nat.lt_or_ge k 16 with g | g
  · exact evs_spec _ _ ec12 k (by omega) (by omega)
  rcases Nat.lt_or_ge k 18 with g | g
  · exact evs_spec _ _ ec16 k (by omega) (by omega)
  rcases Nat.lt_or_ge k 20 with g | g
  · exact evs_spec _ _ ec18 k (by omega) (by omega)
  rcases Nat.lt_or_ge k 22 with g | g
  · exact evs_spec _ _ ec20 k (by omega) (by omega)
  rcases Nat.lt_or_ge k 24 with g | g
  · exact evs_spec _ _ ec22 k (by omega) (by omega)
  rcases Nat.lt_or_ge k 25 with g | g
  · exact evs_spec _ _ ec24 k (by omega) (by omega)
  rcases Nat.lt_or_ge k 26 with g | g
  · exact evs_spec _ _ ec25 k (by omega) (by omega)
  rcases Nat.lt_or_ge k 27 with g | g
  · exact evs_spec _ _ ec26 k (by omega) (by omega)
  rcases Nat.lt_or_ge k 28 with g | g
  · exact evs_spec _ _ ec27 k (by omega) (by omega)
  rcases Nat.lt_or_ge k 29 with g | g
  · exact evs_spec _ _ ec28 k (by omega) (by omega)
  rcases Nat.lt_or_ge k 30 with g | g
  · exact evs_spec _ _ ec29 k (by omega) (by omega)
  rcases Nat.lt_or_ge k 31 with g | g
  · exact evs_spec _ _ ec30 k (by omega) (by omega)
  rcases Nat.lt_or_ge k 32 with g | g
  · exact evs_spec _ _ ec31 k (by omega) (by omega)
  rcases Nat.lt_or_ge k 33 with g | g
  · exact evs_spec _ _ ec32 k (by omega) (by omega)
  rcases Nat.lt_or_ge k 34 with g | g
  · exact evs_spec _ _ ec33 k (by omega) (by omega)
  rcases Nat.lt_or_ge k 35 with g | g
  · exact evs_spec _ _ ec34 k (by omega) (by omega)
  rcases Nat.lt_or_ge k 36 with g | g
  · exact evs_spec _ _ ec35 k (by omega) (by omega)
  rcases Nat.lt_or_ge k 37 with g | g
  · exact evs_spec _ _ ec36 k (by omega) (by omega)
  rcases Nat.lt_or_ge k 38 with g | g
  · exact evs_spec _ _ ec37 k (by omega) (by omega)
  rcases Nat.lt_or_ge k 39 with g | g
  · exact evs_spec _ _ ec38 k (by omega) (by omega)
  rcases Nat.lt_or_ge k 40 with g | g
  · exact evs_spec _ _ ec39 k (by omega) (by omega)
  rcases Nat.lt_or_ge k 41 with g | g
  · exact evs_spec _ _ ec40 k (by omega) (by omega)
  rcases Nat.lt_or_ge k 42 with g | g
  · exact evs_spec _ _ ec41 k (by omega) (by omega)
  rcases Nat.lt_or_ge k 43 with g | g
  · exact evs_spec _ _ ec42 k (by omega) (by omega)
  rcases Nat.lt_or_ge k 44 with g | g
  · exact evs_spec _ _ ec43 k (by omega) (by omega)
  rcases Nat.lt_or_ge k 45 with g | g
  · exact evs_spec _ _ ec44 k (by omega) (by omega)
  rcases Nat.lt_or_ge k 46 with g | g
  · exact evs_spec _ _ ec45 k (by omega) (by omega)
  rcases Nat.lt_or_ge k 47 with g | g
  · exact evs_spec _ _ ec46 k (by omega) (by omega)
  rcases Nat.lt_or_ge k 48 with g | g
  · exact evs_spec _ _ ec47 k (by omega) (by omega)
  rcases Nat.lt_or_ge k 49 with g | g
  · exact evs_spec _ _ ec48 k (by omega) (by omega)
  rcases Nat.lt_or_ge k 50 with g | g
  · exact evs_spec _ _ ec49 k (by omega) (by omega)
  rcases Nat.lt_or_ge k 51 with g | g
  · exact evs_spec _ _ ec50 k (by omega) (by omega)
  rcases Nat.lt_or_ge k 52 with g | g
  · exact evs_spec _ _ ec51 k (by omega) (by omega)
  rcases Nat.lt_or_ge k 53 with g | g
  · exact evs_spec _ _ ec52 k (by omega) (by omega)
  rcases Nat.lt_or_ge k 54 with g | g
  · exact evs_spec _ _ ec53 k (by omega) (by omega)
  rcases Nat.lt_or_ge k 55 with g | g
  · exact evs_spec _ _ ec54 k (by omega) (by omega)
  rcases Nat.lt_or_ge k 56 with g | g
  · exact evs_spec _ _ ec55 k (by omega) (by omega)
  rcases Nat.lt_or_ge k 57 with g | g
  · exact evs_spec _ _ ec56 k (by omega) (by omega)
  rcases Nat.lt_or_ge k 58 with g | g
  · exact evs_spec _ _ ec57 k (by omega) (by omega)
  rcases Nat.lt_or_ge k 59 with g | g
  · exact evs_spec _ _ ec58 k (by omega) (by omega)
  rcases Nat.lt_or_ge k 60 with g | g
  · exact evs_spec _ _ ec59 k (by omega) (by omega)
  rcases Nat.lt_or_ge k 61 with g | g
  · exact evs_spec _ _ ec60 k (by omega) (by omega)
  rcases Nat.lt_or_ge k 62 with g | g
  · exact evs_spec _ _ ec61 k (by omega) (by omega)
  rcases Nat.lt_or_ge k 63 with g | g
  · exact evs_spec _ _ ec62 k (by omega) (by omega)
  exact evs_spec _ _ ec63 k (by omega) (by omega)
theorem all_d (k : Nat) (h : k < 64) : evB true true k = true := by
  rcases Nat.lt_or_ge k 8 with g | g
  · exact evs_spec _ _ ed0 k (by omega) (by omega)
  rcases Nat.lt_or_ge k 12 with g | g
  · exact evs_spec _ _ ed8 k (by omega) (by omega)
  rcases Nat.lt_or_ge k 16 with g | g
  · exact evs_spec _ _ ed12 k (by omega) (by omega)
  rcases Nat.lt_or_ge k 18 with g | g
  · exact evs_spec _ _ ed16 k (by omega) (by omega)
  rcases Nat.lt_or_ge k 20 with g | g
  · exact evs_spec _ _ ed18 k (by omega) (by omega)
  rcases Nat.lt_or_ge k 22 with g | g
  · exact evs_spec _ _ ed20 k (by omega) (by omega)
  rcases Nat.lt_or_ge k 24 with g | g
  · exact evs_spec _ _ ed22 k (by omega) (by omega)
  rcases Nat.lt_or_ge k 25 with g | g
  · exact evs_spec _ _ ed24 k (by omega) (by omega)
  rcases Nat.lt_or_ge k 26 with g | g
  · exact evs_spec _ _ ed25 k (by omega) (by omega)
  rcases Nat.lt_or_ge k 27 with g | g
  · exact evs_spec _ _ ed26 k (by omega) (by omega)
  rcases Nat.lt_or_ge k 28 with g | g
  · exact evs_spec _ _ ed27 k (by omega) (by omega)
  rcases Nat.lt_or_ge k 29 with g | g
  · exact evs_spec _ _ ed28 k (by omega) (by omega)
  rcases Nat.lt_or_ge k 30 with g | g
  · exact evs_spec _ _ ed29 k (by omega) (by omega)
  rcases Nat.lt_or_ge k 31 with g | g
  · exact evs_spec _ _ ed30 k (by omega) (by omega)
  rcases Nat.lt_or_ge k 32 with g | g
  · exact evs_spec _ _ ed31 k (by omega) (by omega)
  rcases Nat.lt_or_ge k 33 with g | g
  · exact evs_spec _ _ ed32 k (by omega) (by omega)
  rcases Nat.lt_or_ge k 34 with g | g
  · exact evs_spec _ _ ed33 k (by omega) (by omega)
  rcases Nat.lt_or_ge k 35 with g | g
  · exact evs_spec _ _ ed34 k (by omega) (by omega)
  rcases Nat.lt_or_ge k 36 with g | g
  · exact evs_spec _ _ ed35 k (by omega) (by omega)
  rcases Nat.lt_or_ge k 37 with g | g
  · exact evs_spec _ _ ed36 k (by omega) (by omega)
  rcases Nat.lt_or_ge k 38 with g | g
  · exact evs_spec _ _ ed37 k (by omega) (by omega)
  rcases Nat.lt_or_ge k 39 with g | g
  · exact evs_spec _ _ ed38 k (by omega) (by omega)
  rcases Nat.lt_or_ge k 40 with g | g
  · exact evs_spec _ _ ed39 k (by omega) (by omega)
  rcases Nat.lt_or_ge k 41 with g | g
  · exact evs_spec _ _ ed40 k (by omega) (by omega)
  rcases Nat.lt_or_ge k 42 with g | g
  · exact evs_spec _ _ ed41 k (by omega) (by omega)
  rcases Nat.lt_or_ge k 43 with g | g
  · exact evs_spec _ _ ed42 k (by omega) (by omega)
  rcases Nat.lt_or_ge k 44 with g | g
  · exact evs_spec _ _ ed43 k (by omega) (by omega)
  rcases Nat.lt_or_ge k 45 with g | g
  · exact evs_spec _ _ ed44 k (by omega) (by omega)
  rcases Nat.lt_or_ge k 46 with g | g
  · exact evs_spec _ _ ed45 k (by omega) (by omega)
  rcases Nat.lt_or_ge k 47 with g | g
  · exact evs_spec _ _ ed46 k (by omega) (by omega)
  rcases Nat.lt_or_ge k 48 with g | g
  · exact evs_spec _ _ ed47 k (by omega) (by omega)
  rcases Nat.lt_or_ge k 49 with g | g
  · exact evs_spec _ _ ed48 k (by omega) (by omega)
  rcases Nat.lt_or_ge k 50 with g | g
  · exact evs_spec _ _ ed49 k (by omega) (by omega)
  rcases Nat.lt_or_ge k 51 with g | g
  · exact evs_spec _ _ ed50 k (by omega) (by omega)
  rcases Nat.lt_or_ge k 52 with g | g
  · exact evs_spec _ _ ed51 k (by omega) (by omega)
  rcases Nat.lt_or_ge k 53 with g | g
  · exact evs_spec _ _ ed52 k (by omega) (by omega)
  rcases Nat.lt_or_ge k 54 with g | g
  · exact evs_spec _ _ ed53 k (by omega) (by omega)
  rcases Nat.lt_or_ge k 55 with g | g
  · exact evs_spec _ _ ed54 k (by omega) (by omega)
  rcases Nat.lt_or_ge k 56 with g | g
  · exact evs_spec _ _ ed55 k (by omega) (by omega)
  rcases Nat.lt_or_ge k 57 with g | g
  · exact evs_spec _ _ ed56 k (by omega) (by omega)
  rcases Nat.lt_or_ge k 58 with g | g
  · exact evs_spec _ _ ed57 k (by omega) (by omega)
  rcases Nat.lt_or_ge k 59 with g | g
  · exact evs_spec _ _ ed58 k (by omega) (by omega)
  rcases Nat.lt_or_ge k 60 with g | g
  · exact evs_spec _ _ ed59 k (by omega) (by omega)
  rcases Nat.lt_or_ge k 61 with g | g
  · exact evs_spec _ _ ed60 k (by omega) (by omega)
  rcases Nat.lt_or_ge k 62 with g | g
  · exact evs_spec _ _ ed61 k (by omega) (by omega)
  rcases Nat.lt_or_ge k 63 with g | g
  · exact evs_spec _ _ ed62 k (by omega) (by omega)
  exact evs_spec _ _ ed63 k (by omega) (by omega)
theorem ev_all (maps anchor : Bool) (k : Nat) (h : k < 64) : evB maps anchor k = true := by
  cases maps <;> cases anchor
  · exact all_a k h
  · exact all_b k h
  · exact all_c k h
  · exact all_d k h
theorem wr64 (n : Nat) (h : n < 1000) : wrK .i64 (.ofNat n) = .ofNat n := by
  show @Bool.rec (fun _ => Int) (IntKind.i64.wrap (.ofNat n)) (.ofNat n) (Nat.blt n (upK .i64)) = _
  have : Nat.blt n (upK .i64) = true := by rw [nblt_iff]; simp only [upK]; omega
  rw [this]
theorem in_cv (k : Nat) (h : k < 256) (H : HP) : cvF .i64 (.int .u8 (.ofNat k)) H = some (.int .i64 (.ofNat k), H) := by
  rw [r_cv, wr64 k (by omega)]
theorem in_rem (k : Nat) (H : HP) : binB 0 none .rem true (.int .i64 (.ofNat k)) (.int .i64 64) H = some (.int .i64 (.ofNat (k % 64)), H) := rfl
/-- Only the rest by 64 counts. -/
theorem s3_mod (call : Call) (k : Nat) (h : k < 256) (x y : V) (H : HP) : s3 call [.int .u8 (.ofNat k), x, y] H = s3 call [.int .u8 (.ofNat (k % 64)), x, y] H := by
  simp only [s3, r_unc, r_nil]
  rw [in_cv k h, in_cv (k % 64) (by omega), r_bnd, r_bnd, in_rem, in_rem, Nat.mod_mod]
theorem g3 : ta.get 3 = some (.shal s3) := by kernel_rfl
theorem ev_mod (maps anchor : Bool) (k : Nat) (h : k < 256) : evB maps anchor k = true := by
  have h1 := ev_all maps anchor (k % 64) (by omega)
  unfold evB at h1 ⊢
  rw [show (2000 : Nat) = 1999 + 1 from rfl, exS_g, g3, fsG_shal] at h1 ⊢
  rw [s3_mod _ k h]
  exact h1
/-- The statement's body answers true, whatever it is asked. -/
theorem deep_spec (maps anchor : Bool) (k : Nat) (h : k < 256) : ∃ H', Spec Tryz.prog 3 [.int .u8 (.ofNat k), .bool maps, .bool anchor] [] (.bool true) H' := by
  have h := ev_mod maps anchor k h
  unfold evB isTrue at h
  split at h
  · rename_i hp hr
    obtain ⟨H', _, hs⟩ := (exS_sound mixed tabA_ok 2000).g _ _ _ _ _ hr [] (ofL_abs [])
    exact ⟨H', hs⟩
  · cases h
end Go.Ab
end
