import Derived.Test.YtiibecpllokhiaaDoorSoWWords
import Derived.Laws.StructEq
