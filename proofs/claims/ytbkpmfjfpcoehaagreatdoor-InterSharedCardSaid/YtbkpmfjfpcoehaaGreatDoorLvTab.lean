/- The machine's tables of this program, and that they are the program's. No condition. -/
import Derived.Test.YtbkpmfjfpcoehaaGreatDoorProg
import Derived.Test.YtbkpmfjfpcoehaaGreatDoorSimC
import Derived.KernelRfl
set_option maxRecDepth 100000
namespace Go.Proofs.YtbkpmfjfpcoehaaGreatDoor.Sim
open Go Go.RowKit
noncomputable def cd(f:Nat)(p:List Nat):Code:=CO (gF Tryz.prog f) p
def tys:List Nat:=[333,315,313,308,305,301,289,286,283,281,280,277,276,274,272,271,261,252,247,245,241,236,227,218,206,196,189,183,170,167,152,146,140,138,135,133,130,127,103,99,96,94,93,91,90,89,88,87,86,85,84,70,61,59,58,57,55,54,52,50,48,47,44,42,38,36,34,30,28,27,26,24,23,22,20,9,5,4,3,2,1]
def fns:List (Nat×Nat):=[(297,5),(292,5),(291,14),(290,5),(289,9),(257,5),(251,8),(250,7),(247,5),(246,5),(242,7),(241,9),(240,7),(239,10),(238,5),(235,4),(233,4),(232,21),(231,4),(230,3),(229,1),(228,19),(220,4),(210,3),(209,19),(208,9),(207,6),(206,13),(205,7),(204,7),(203,1),(202,9),(201,83),(200,4),(199,5),(198,60),(197,5),(196,3),(192,5),(186,8),(183,9),(179,3),(177,3),(176,6),(175,8),(174,3),(173,3),(172,5),(171,5),(169,8),(168,3),(167,3),(166,3),(165,12),(164,3),(163,5),(161,7),(160,3),(159,34),(155,3),(154,9),(153,3),(152,14),(151,7),(150,5),(149,3),(148,19),(147,8),(146,9),(145,13),(144,31),(143,6),(142,3),(140,3),(139,7),(138,3),(137,4),(136,11),(135,6),(134,8),(133,24),(132,3),(129,85),(128,2),(127,3),(126,6),(125,9),(124,9),(118,5),(117,8),(115,5),(114,5),(113,7),(112,7),(111,7),(110,6),(109,3),(108,3),(106,3),(105,8),(104,3),(103,3),(102,13),(101,23),(100,17),(96,7),(95,9),(94,3),(93,3),(92,5),(89,3),(83,6),(81,10),(78,3),(77,4),(76,11),(75,4),(74,9),(73,3),(72,4),(71,4),(70,28),(69,83),(66,9),(65,1),(64,8),(63,3),(62,3),(42,3),(41,38),(40,156),(39,12),(38,3),(37,6),(36,5),(35,3),(34,3),(24,3),(22,3),(13,8),(12,80),(4,5)]
def es:List Nat:=[313,308,305,286,276,247,236,227,183,167,146,140,138,135,133,103,93,70,61,57,55,54,50,44,38,36,26]
def ms:List (Nat×List (String×FuncId)):=[]
def xs:List (Nat×Nat):=[(304,1),(245,0)]
noncomputable def qS:Tab:=dP Tryz.prog tys fns es ms xs 9
theorem mR:YN Tryz.prog qS:=aC (by kernel_rfl) (by kernel_rfl) (by kernel_rfl) (by kernel_rfl) ⟨⟨_,Tryz.func304,by kernel_rfl,by kernel_rfl,by kernel_rfl,(show Extern.find Tryz.f304=some Extern.BytealgIndexByte.indexByte from by kernel_rfl)⟩,⟨_,Tryz.func245,by kernel_rfl,by kernel_rfl,by kernel_rfl,(show Extern.find Tryz.f245=some Extern.BytealgCount.count from by kernel_rfl)⟩,trivial⟩ (by kernel_rfl)
noncomputable def gl8:Yj:= .cells [(vb 0),(vb 0),(vb 0),(vb 0),(vb 0),(vb 0),(vb 0),(vb 0),(vb 0),(vb 1),(vb 1),(vb 1),(vb 1),(vb 1),(vb 0),(vb 0),(vb 0),(vb 0),(vb 0),(vb 0),(vb 0),(vb 0),(vb 0),(vb 0),(vb 0),(vb 0),(vb 0),(vb 0),(vb 0),(vb 0),(vb 0),(vb 0),(vb 1),(vb 0),(vb 0),(vb 0),(vb 0),(vb 0),(vb 0),(vb 0),(vb 0),(vb 0),(vb 0),(vb 0),(vb 0),(vb 0),(vb 0),(vb 0),(vb 0),(vb 0),(vb 0),(vb 0),(vb 0),(vb 0),(vb 0),(vb 0),(vb 0),(vb 0),(vb 0),(vb 0),(vb 0),(vb 0),(vb 0),(vb 0),(vb 0),(vb 0),(vb 0),(vb 0),(vb 0),(vb 0),(vb 0),(vb 0),(vb 0),(vb 0),(vb 0),(vb 0),(vb 0),(vb 0),(vb 0),(vb 0),(vb 0),(vb 0),(vb 0),(vb 0),(vb 0),(vb 0),(vb 0),(vb 0),(vb 0),(vb 0),(vb 0),(vb 0),(vb 0),(vb 0),(vb 0),(vb 0),(vb 0),(vb 0),(vb 0),(vb 0),(vb 0),(vb 0),(vb 0),(vb 0),(vb 0),(vb 0),(vb 0),(vb 0),(vb 0),(vb 0),(vb 0),(vb 0),(vb 0),(vb 0),(vb 0),(vb 0),(vb 0),(vb 0),(vb 0),(vb 0),(vb 0),(vb 0),(vb 0),(vb 0),(vb 0),(vb 0),(vb 0),(vb 0),(vb 0),(vb 0),(vb 0),(vb 0),(vb 0),(vb 0),(vb 0),(vb 0),(vb 0),(vb 0),(vb 0),(vb 0),(vb 0),(vb 0),(vb 0),(vb 0),(vb 0),(vb 0),(vb 0),(vb 0),(vb 0),(vb 0),(vb 0),(vb 0),(vb 0),(vb 0),(vb 0),(vb 0),(vb 0),(vb 0),(vb 0),(vb 0),(vb 0),(vb 0),(vb 0),(vb 0),(vb 0),(vb 0),(vb 0),(vb 0),(vb 0),(vb 0),(vb 0),(vb 0),(vb 0),(vb 0),(vb 0),(vb 0),(vb 0),(vb 0),(vb 0),(vb 0),(vb 0),(vb 0),(vb 0),(vb 0),(vb 0),(vb 0),(vb 0),(vb 0),(vb 0),(vb 0),(vb 0),(vb 0),(vb 0),(vb 0),(vb 0),(vb 0),(vb 0),(vb 0),(vb 0),(vb 0),(vb 0),(vb 0),(vb 0),(vb 0),(vb 0),(vb 0),(vb 0),(vb 0),(vb 0),(vb 0),(vb 0),(vb 0),(vb 0),(vb 0),(vb 0),(vb 0),(vb 0),(vb 0),(vb 0),(vb 0),(vb 0),(vb 0),(vb 0),(vb 0),(vb 0),(vb 0),(vb 0),(vb 0),(vb 0),(vb 0),(vb 0),(vb 0),(vb 0),(vb 0),(vb 0),(vb 0),(vb 0),(vb 0),(vb 0),(vb 0),(vb 0),(vb 0),(vb 0),(vb 0),(vb 0),(vb 0),(vb 0),(vb 0),(vb 0),(vb 0),(vb 0),(vb 0),(vb 0),(vb 0),(vb 0),(vb 0)] (.fixed true)
noncomputable def gl7:Yj:= .cells [(vi 20),(vi 4)] (.fixed true)
noncomputable def gl6:Yj:= .cells [(vi 24),(vi 4)] (.fixed true)
noncomputable def gl5:Yj:= .cells [(vi 20),(vi 6)] (.fixed true)
noncomputable def gl4:Yj:= .cells [(vi 25),(vi 7)] (.fixed true)
noncomputable def gl3:Yj:= .cells [(vi 20),(vi 5)] (.fixed true)
noncomputable def gl2:Yj:= .cells [(vi 15),(vi 5)] (.fixed true)
noncomputable def gl1:Yj:= .cells [(vi 7),(vi 5)] (.fixed true)
noncomputable def gl0:Yj:= .cells [(vi 12),(vi 3)] (.fixed true)
end Go.Proofs.YtbkpmfjfpcoehaaGreatDoor.Sim
