import Derived.Test.YtiibecpllokhiaaDoorAtWWords
import Derived.Laws.StructEq
