/- A part of the proof: what the functions of the program compute. -/
import Derived.Test.YtcaadpceoajapaaQ0
