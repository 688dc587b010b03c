/- The kinds of the registers and of the pending interrupts, as parameters. -/
import Derived.Test.YtejnppbkncfkeaaF1
namespace Go.Proofs.Ytejnppbkncfkeaa.PAll
open Go.RowKit Go.Proofs.YtejnppbkncfkeaaW.PrintWords Go.Proofs.YtejnppbkncfkeaaW.PrintLast Go.Proofs.YtejnppbkncfkeaaW.PrintMore
structure S25 where
  f0 : Int
  f1 : Int
  f2 : Int
  f3 : Int
  f4 : Int
  f5 : Int
  f6 : Int
  f7 : Bool
  f8 : Int
  f9 : Bool
  f10 : Int
  f11 : Bool
  f12 : Bool
def k25 : Kd S25 := Kd.iso (Kd.pair (Kd.int .u16) (Kd.pair (Kd.int .u16) (Kd.pair (Kd.int .u16) (Kd.pair (Kd.int .i64) (Kd.pair (Kd.int .i64) (Kd.pair (Kd.int .i64) (Kd.pair (Kd.int .i64) (Kd.pair Kd.bool (Kd.pair (Kd.int .u16) (Kd.pair Kd.bool (Kd.pair (Kd.int .u16) (Kd.pair Kd.bool Kd.bool)))))))))))) (fun x : S25 => (x.f0, x.f1, x.f2, x.f3, x.f4, x.f5, x.f6, x.f7, x.f8, x.f9, x.f10, x.f11, x.f12))
structure S27 where
  f0 : Int
def k27 : Kd S27 := Kd.iso (Kd.int .u16) (fun x : S27 => x.f0)
end Go.Proofs.Ytejnppbkncfkeaa.PAll
