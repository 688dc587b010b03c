/- The kind of an instruction (api.Op), as a parameter. -/
import Derived.Test.YtgaajaddaecejaaF1
namespace Go.Proofs.Ytgaajaddaecejaa.PAll
open Go.RowKit Go.Proofs.YtgaajaddaecejaaW.PrintWords Go.Proofs.YtgaajaddaecejaaW.PrintLast Go.Proofs.YtgaajaddaecejaaW.PrintMore
structure S27 where
  f0 : Int
  f1 : ByteArray
  f2 : Bool
  f3 : Int
  f4 : Int
  f5 : Int
def k27 : Kd S27 := Kd.iso (Kd.pair (Kd.int .u8) (Kd.pair Kd.string (Kd.pair Kd.bool (Kd.pair (Kd.int .u8) (Kd.pair (Kd.int .i64) (Kd.int .i64)))))) (fun x : S27 => (x.f0, x.f1, x.f2, x.f3, x.f4, x.f5))
end Go.Proofs.Ytgaajaddaecejaa.PAll
