/- The machine's tables of this program, and that they are the program's. No condition. -/
import Derived.Test.YtjhfcfpkgfpoiaaGreatDoorProg
import Derived.Test.YtjhfcfpkgfpoiaaGreatDoorSimC
import Derived.KernelRfl
set_option maxRecDepth 100000
namespace Go.Proofs.YtjhfcfpkgfpoiaaGreatDoor.Sim
open Go Go.RowKit
noncomputable def cd(f:Nat)(p:List Nat):Code:=Yan (Ygf Tryz.prog f) p
def tys:List Nat:=[326,308,306,301,298,294,282,279,276,274,273,270,269,267,265,264,254,245,240,238,234,231,222,213,201,197,183,177,164,160,146,140,134,132,129,127,121,118,101,97,94,92,91,89,88,87,86,85,84,83,82,75,67,65,54,52,51,50,49,47,46,44,42,40,39,38,35,33,31,27,26,24,23,22,20,9,5,4,3,2,1]
def fns:List (Nat×Nat):=[(293,5),(288,5),(287,14),(286,5),(285,9),(253,5),(247,8),(246,7),(243,5),(242,5),(238,7),(237,9),(236,7),(235,10),(234,5),(231,4),(229,4),(228,21),(227,4),(226,3),(225,1),(224,19),(216,4),(206,3),(205,19),(204,9),(203,6),(202,13),(201,7),(200,7),(199,1),(198,9),(197,83),(196,4),(195,5),(194,60),(193,5),(192,3),(188,5),(182,8),(179,9),(175,3),(173,3),(172,6),(171,8),(170,3),(169,3),(168,5),(167,5),(165,8),(164,3),(163,3),(162,3),(161,12),(160,3),(159,5),(157,7),(156,3),(155,34),(154,3),(153,9),(152,3),(151,14),(150,7),(149,5),(148,3),(147,19),(146,8),(145,9),(144,13),(143,31),(142,6),(141,3),(139,3),(138,7),(137,3),(136,4),(135,11),(134,6),(133,8),(132,24),(131,3),(128,85),(127,2),(126,3),(125,6),(124,9),(123,9),(117,5),(116,8),(113,5),(112,5),(111,7),(110,7),(109,7),(108,6),(107,3),(106,3),(104,3),(103,8),(102,3),(101,3),(100,13),(99,23),(98,17),(94,7),(93,9),(92,3),(91,3),(90,5),(85,3),(82,6),(80,10),(77,3),(76,4),(75,11),(74,4),(73,9),(72,3),(71,4),(70,4),(69,28),(68,3),(67,3),(66,83),(63,9),(62,1),(61,8),(60,3),(55,3),(36,3),(35,38),(34,156),(33,12),(32,3),(31,6),(30,5),(22,3),(21,3),(12,8),(11,80),(4,5)]
def es:List Nat:=[306,301,298,279,269,240,231,222,177,160,140,134,132,129,127,101,91,75,67,65,54,49,47,46,42,35,26]
def ms:List (Nat×List (String×FuncId)):=[]
def xs:List (Nat×Nat):=[(300,1),(241,0)]
noncomputable def Ylq:Tab:=Yff Tryz.prog tys fns es ms xs 9
theorem Yi3:Y0 Tryz.prog Ylq:=Ydj (by kernel_rfl) (by kernel_rfl) (by kernel_rfl) (by kernel_rfl) ⟨⟨_,Tryz.func300,by kernel_rfl,by kernel_rfl,by kernel_rfl,(show Extern.find Tryz.f300=some Extern.BytealgIndexByte.indexByte from by kernel_rfl)⟩,⟨_,Tryz.func241,by kernel_rfl,by kernel_rfl,by kernel_rfl,(show Extern.find Tryz.f241=some Extern.BytealgCount.count from by kernel_rfl)⟩,trivial⟩ (by kernel_rfl)
noncomputable def gl8:Yh:= .cells [(vb 0),(vb 0),(vb 0),(vb 0),(vb 0),(vb 0),(vb 0),(vb 0),(vb 0),(vb 1),(vb 1),(vb 1),(vb 1),(vb 1),(vb 0),(vb 0),(vb 0),(vb 0),(vb 0),(vb 0),(vb 0),(vb 0),(vb 0),(vb 0),(vb 0),(vb 0),(vb 0),(vb 0),(vb 0),(vb 0),(vb 0),(vb 0),(vb 1),(vb 0),(vb 0),(vb 0),(vb 0),(vb 0),(vb 0),(vb 0),(vb 0),(vb 0),(vb 0),(vb 0),(vb 0),(vb 0),(vb 0),(vb 0),(vb 0),(vb 0),(vb 0),(vb 0),(vb 0),(vb 0),(vb 0),(vb 0),(vb 0),(vb 0),(vb 0),(vb 0),(vb 0),(vb 0),(vb 0),(vb 0),(vb 0),(vb 0),(vb 0),(vb 0),(vb 0),(vb 0),(vb 0),(vb 0),(vb 0),(vb 0),(vb 0),(vb 0),(vb 0),(vb 0),(vb 0),(vb 0),(vb 0),(vb 0),(vb 0),(vb 0),(vb 0),(vb 0),(vb 0),(vb 0),(vb 0),(vb 0),(vb 0),(vb 0),(vb 0),(vb 0),(vb 0),(vb 0),(vb 0),(vb 0),(vb 0),(vb 0),(vb 0),(vb 0),(vb 0),(vb 0),(vb 0),(vb 0),(vb 0),(vb 0),(vb 0),(vb 0),(vb 0),(vb 0),(vb 0),(vb 0),(vb 0),(vb 0),(vb 0),(vb 0),(vb 0),(vb 0),(vb 0),(vb 0),(vb 0),(vb 0),(vb 0),(vb 0),(vb 0),(vb 0),(vb 0),(vb 0),(vb 0),(vb 0),(vb 0),(vb 0),(vb 0),(vb 0),(vb 0),(vb 0),(vb 0),(vb 0),(vb 0),(vb 0),(vb 0),(vb 0),(vb 0),(vb 0),(vb 0),(vb 0),(vb 0),(vb 0),(vb 0),(vb 0),(vb 0),(vb 0),(vb 0),(vb 0),(vb 0),(vb 0),(vb 0),(vb 0),(vb 0),(vb 0),(vb 0),(vb 0),(vb 0),(vb 0),(vb 0),(vb 0),(vb 0),(vb 0),(vb 0),(vb 0),(vb 0),(vb 0),(vb 0),(vb 0),(vb 0),(vb 0),(vb 0),(vb 0),(vb 0),(vb 0),(vb 0),(vb 0),(vb 0),(vb 0),(vb 0),(vb 0),(vb 0),(vb 0),(vb 0),(vb 0),(vb 0),(vb 0),(vb 0),(vb 0),(vb 0),(vb 0),(vb 0),(vb 0),(vb 0),(vb 0),(vb 0),(vb 0),(vb 0),(vb 0),(vb 0),(vb 0),(vb 0),(vb 0),(vb 0),(vb 0),(vb 0),(vb 0),(vb 0),(vb 0),(vb 0),(vb 0),(vb 0),(vb 0),(vb 0),(vb 0),(vb 0),(vb 0),(vb 0),(vb 0),(vb 0),(vb 0),(vb 0),(vb 0),(vb 0),(vb 0),(vb 0),(vb 0),(vb 0),(vb 0),(vb 0),(vb 0),(vb 0),(vb 0),(vb 0),(vb 0),(vb 0),(vb 0),(vb 0),(vb 0),(vb 0),(vb 0),(vb 0),(vb 0),(vb 0),(vb 0),(vb 0),(vb 0),(vb 0),(vb 0)] (.fixed true)
noncomputable def gl7:Yh:= .cells [(vi 20),(vi 4)] (.fixed true)
noncomputable def gl6:Yh:= .cells [(vi 24),(vi 4)] (.fixed true)
noncomputable def gl5:Yh:= .cells [(vi 20),(vi 6)] (.fixed true)
noncomputable def gl4:Yh:= .cells [(vi 25),(vi 7)] (.fixed true)
noncomputable def gl3:Yh:= .cells [(vi 20),(vi 5)] (.fixed true)
noncomputable def gl2:Yh:= .cells [(vi 15),(vi 5)] (.fixed true)
noncomputable def gl1:Yh:= .cells [(vi 7),(vi 5)] (.fixed true)
noncomputable def gl0:Yh:= .cells [(vi 12),(vi 3)] (.fixed true)
end Go.Proofs.YtjhfcfpkgfpoiaaGreatDoor.Sim
