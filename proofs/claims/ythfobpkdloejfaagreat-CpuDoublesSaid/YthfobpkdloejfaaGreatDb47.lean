/- Chapter 5: a part of its proof (cut by program out of WSized); no condition. -/
import Derived.ChangeSlices
import Derived.SizedLaws

