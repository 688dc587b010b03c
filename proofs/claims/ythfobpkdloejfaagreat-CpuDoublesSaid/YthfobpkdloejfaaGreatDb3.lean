/- Chapter 5: a part of its proof (cut by program out of WArr); no condition. -/
import Derived.Test.YthfobpkdloejfaaGreatDb1

