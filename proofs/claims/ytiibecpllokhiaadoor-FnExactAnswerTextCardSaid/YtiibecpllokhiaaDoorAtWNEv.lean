import Derived.Test.YtiibecpllokhiaaDoorAtWN
/-! ### 48. N's events: append, a whole row appended, zeros appended, literals, make, stores, cuts, an element taken out -/
