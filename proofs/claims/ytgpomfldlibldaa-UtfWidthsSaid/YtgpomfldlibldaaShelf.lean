/-
No library contract is used here.
-/
import Derived.Test.YtgpomfldlibldaaProg
