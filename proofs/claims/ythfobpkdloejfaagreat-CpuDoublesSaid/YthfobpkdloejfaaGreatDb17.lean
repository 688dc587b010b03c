/- Chapter 5: a part of its proof (cut by program out of Lit); no condition. -/
import Derived.Test.YthfobpkdloejfaaGreatDb9

