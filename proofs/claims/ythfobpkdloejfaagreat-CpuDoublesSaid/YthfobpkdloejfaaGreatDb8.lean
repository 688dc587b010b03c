/- Chapter 5: a part of its proof (cut by program out of WGuard); no condition. -/
import Derived.Test.YthfobpkdloejfaaGreatDb1

