/- All the functions. -/
import Derived.Test.YthppcliidflkjaaGreatDoorPlCsB
import Derived.Test.YthppcliidflkjaaGreatDoorPlCsF0
import Derived.Test.YthppcliidflkjaaGreatDoorPlCsF1
import Derived.Test.YthppcliidflkjaaGreatDoorPlCsF2
import Derived.Test.YthppcliidflkjaaGreatDoorPlCsF3
