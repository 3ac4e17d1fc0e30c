/- The law's walk. -/
import Derived.Test.YtjhipmdamaocmaaGreatDoorPkN28
set_option maxRecDepth 100000
set_option maxHeartbeats 16000000
