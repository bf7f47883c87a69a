/- The tables of the program: types, and plans for the regions that draw their order. -/
import Derived.Test.YtnehgkfgenhgcaaB3
import Derived.Test.YtnehgkfgenhgcaaProg
set_option linter.unusedVariables false
set_option linter.unusedSimpArgs false
namespace Go.Proofs.Ytnehgkfgenhgcaa
open Go Go.Sx
def ty3:TI:=⟨1,false, [.int .i64 0],some [.int .i64], .int⟩
def ty4:TI:=⟨1,false, [.bool false],some [.bool], .bool⟩
def ty37:TI:=⟨2,true, [.int .i64 0, .int .i64 0],some [.int .i64, .int .i64], .struct [(3,0,1),(3,1,1)]⟩
def ty42:TI:=⟨1,false, [.int .i64 0],some [.int .i64], .int⟩
def ty30:TI:=⟨1,false, [.slice none 0 0],none, .slice 61 6 48⟩
def ty41:TI:=⟨9,true, [.int .i64 0, .int .i64 0, .int .i64 0, .int .i64 0, .slice none 0 0, .int .i64 0, .int .i64 0, .int .i64 0, .int .i64 0],none, .struct [(3,0,1),(3,1,1),(3,2,1),(3,3,1),(35,4,1),(37,5,2),(39,7,2)]⟩
def ty32:TI:=⟨3,true, [.slice none 0 0, .slice none 0 0, .slice none 0 0],none, .struct [(28,0,1),(29,1,1),(30,2,1)]⟩
def ty1:TI:=⟨1,false, [.nilFunc],none, .other⟩
def ty74:TI:=⟨5,true, [.int .i64 0, .int .i64 0, .int .i64 0, .int .i64 0, .int .i64 0],some [.int .i64, .int .i64, .int .i64, .int .i64, .int .i64], .struct [(3,0,1),(37,1,2),(37,3,2)]⟩
def ty35:TI:=⟨1,false, [.slice none 0 0],none, .slice 74 5 40⟩
def ty61:TI:=⟨6,true, [.int .i64 0, .int .i64 0, .int .i64 0, .bool false, .int .i64 0, .int .i64 0],some [.int .i64, .int .i64, .int .i64, .bool, .int .i64, .int .i64], .struct [(3,0,1),(3,1,1),(3,2,1),(4,3,1),(3,4,1),(3,5,1)]⟩
def ty67:TI:=⟨1,false, [.pointer none],none, .other⟩
def ty27:TI:=⟨1,false, [.slice none 0 0],none, .slice 3 1 8⟩
def ty39:TI:=⟨2,true, [.int .i64 0, .int .i64 0],some [.int .i64, .int .i64], .struct [(3,0,1),(3,1,1)]⟩
def ty2:TI:=⟨1,false, [.int .i64 0],some [.int .i64], .int⟩
def ty29:TI:=⟨1,false, [.slice none 0 0],none, .slice 59 3 24⟩
def ty47:TI:=⟨5,true, [.int .i64 0, .int .i64 0, .bool false, .int .i64 0, .int .i64 0],some [.int .i64, .int .i64, .bool, .int .i64, .int .i64], .struct [(37,0,2),(4,2,1),(37,3,2)]⟩
def ty82:TI:=⟨1,false, [.slice none 0 0],none, .slice 89 3 24⟩
def ty28:TI:=⟨1,false, [.slice none 0 0],none, .slice 41 9 88⟩
def ty23:TI:=⟨1,false, [.slice none 0 0],none, .slice 54 4 32⟩
def ty59:TI:=⟨3,true, [.int .i64 0, .int .i64 0, .int .i64 0],some [.int .i64, .int .i64, .int .i64], .struct [(3,0,1),(3,1,1),(3,2,1)]⟩
def ty54:TI:=⟨4,true, [.int .i64 0, .int .i64 0, .int .i64 0, .int .i64 0],none, .arr 4 3 1⟩
def ty71:TI:=⟨16,true, [.int .i64 0, .int .i64 0, .int .i64 0, .int .i64 0, .slice none 0 0, .int .i64 0, .int .i64 0, .int .i64 0, .int .i64 0, .slice none 0 0, .slice none 0 0, .int .i64 0, .int .i64 0, .bool false, .int .i64 0, .int .i64 0],none, .struct [(41,0,9),(29,9,1),(30,10,1),(47,11,5)]⟩
def ty57:TI:=⟨3,true, [.int .i64 0, .int .i64 0, .int .i64 0],none, .arr 3 3 1⟩
def ty89:TI:=⟨3,true, [.int .i64 0, .int .i64 0, .int .i64 0],some [.int .i64, .int .i64, .int .i64], .struct [(3,0,1),(3,1,1),(3,2,1)]⟩
def ty26:TI:=⟨5,true, [.slice none 0 0, .slice none 0 0, .slice none 0 0, .slice none 0 0, .int .i64 0],none, .struct [(22,0,1),(23,1,1),(24,2,1),(23,3,1),(3,4,1)]⟩
def ty5:TI:=⟨1,false, [.int .u8 0],some [.int .u8], .int⟩
def ty22:TI:=⟨1,false, [.slice none 0 0],none, .slice 23 1 24⟩
def ty92:TI:=⟨1,false, [.nilFunc],none, .other⟩
def ty6:TI:=⟨1,false, [.int .u8 0],some [.int .u8], .int⟩
def ty24:TI:=⟨1,false, [.slice none 0 0],none, .slice 57 3 24⟩
def ty109:TI:=⟨1,false, [.nilFunc],none, .other⟩
def ty108:TI:=⟨1,false, [.nilFunc],none, .other⟩
def ty121:TI:=⟨1,false, [.nilFunc],none, .other⟩
def ty116:TI:=⟨1,false, [.nilFunc],none, .other⟩
def tt:List (Nat×TI):= [(3,ty3),(4,ty4),(37,ty37),(42,ty42),(30,ty30),(41,ty41),(32,ty32),(1,ty1),(74,ty74),(35,ty35),(61,ty61),(67,ty67),(27,ty27),(39,ty39),(2,ty2),(29,ty29),(47,ty47),(82,ty82),(28,ty28),(23,ty23),(59,ty59),(54,ty54),(71,ty71),(57,ty57),(89,ty89),(26,ty26),(5,ty5),(22,ty22),(92,ty92),(6,ty6),(24,ty24),(109,ty109),(108,ty108),(121,ty121),(116,ty116)]
set_option maxRecDepth 100000 in
theorem pok:POK Try.prog tt:=pokB_ok (by decide+kernel)
end Go.Proofs.Ytnehgkfgenhgcaa
namespace Go.Proofs.Ytnehgkfgenhgcaa
open Go Go.Sx
def pl4:List (Nat×PT):= [(6, .of [(0, [],false),(1, [],false),(2, [],false),(3, [],false),(4, [],true),(7, [],false),(8, [],true),(10, [],false),(11, [],true),(13, [],false),(14, [],true),(15, [],false),(19, [],false),(20, [],true),(22, [],false),(23, [],true),(25, [],false),(26, [],true),(27, [],false),(5, [8,11,14,20,23,26],true),(6, [],false),(9, [11,14,20,23,26],true),(12, [14,20,23,26],true),(16, [20,23,26],true),(17, [],false),(18, [20,23,26],true),(21, [23,26],true),(24, [4,26],true),(28, [4,8,14],true),(29, [],false),(30, [],false),(31, [],false),(32, [],false),(33, [],false)]),(9, .of [(0, [],false),(1, [],false),(2, [],false),(3, [],false),(4, [],false),(5, [],false),(6, [1],true),(7, [],false),(8, [],false),(9, [],false)]),(17, .of [(0, [],false),(1, [],false),(2, [],false),(3, [],false),(4, [],false),(5, [],false),(6, [],false),(9, [],false),(10, [],false),(7, [1,10],true),(8, [],false),(11, [1],true),(12, [],false),(13, [1],false),(14, [],false),(15, [],false),(16, [],false)]),(22, .of [(0, [],false),(1, [],false),(2, [],false),(3, [],false),(4, [],true),(7, [],false),(8, [],true),(10, [],false),(11, [],true),(5, [8,11],true),(6, [],false),(9, [11],true),(12, [],true),(13, [],false),(14, [],false),(15, [],false)]),(25, .of [(0, [],false),(1, [],true),(2, [],false),(3, [],false),(4, [],true),(5, [],false),(6, [],true),(7, [],true),(8, [],false),(9, [],false)]),(26, .of [(0, [],false),(1, [],false),(2, [],false),(3, [],false),(4, [],false),(5, [],false),(6, [],false),(7, [],false),(8, [],false),(9, [],false),(10, [0],true),(11, [0],true),(12, [],true),(13, [],false),(14, [],false),(15, [],false)])]
def pl7:List (Nat×PT):= [(2, .of [(0, [],false),(1, [],true),(2, [],false),(3, [],true),(4, [],false),(5, [],true),(6, [],true),(7, [],false),(8, [],false),(9, [],false),(10, [],false),(11, [],false),(12, [],false)]),(10, .of [(0, [],false),(1, [0],true),(2, [],false),(3, [],false),(4, [],false),(5, [4],true),(6, [4],true),(7, [],false),(8, [],false),(9, [],false),(10, [],false),(11, [],false),(12, [],false),(13, [],true),(14, [],false),(15, [],false),(16, [],false),(17, [],false),(18, [],false),(19, [],false)])]
def pl10:List (Nat×PT):= [(9, .of [(0, [],false),(1, [],false),(2, [],false),(3, [],false),(4, [],false),(5, [],false),(6, [],false),(7, [],false),(8, [],false),(9, [],false),(10, [],false),(11, [],false),(12, [],false),(13, [],false),(14, [],false)])]
def pl11:List (Nat×PT):= [(14, .of [(0, [],false),(1, [],false),(2, [],false),(3, [],false),(4, [],false),(5, [],false),(6, [],false),(7, [],false)])]
def pl12:List (Nat×PT):= [(6, .of [(0, [],false),(1, [],true),(2, [],false),(3, [],false),(4, [],false),(5, [],false),(6, [],false),(7, [],true),(10, [],false),(11, [],false),(12, [],false),(13, [],false),(14, [],true),(17, [],false),(18, [],false),(19, [],false),(20, [],false),(21, [],true),(8, [1,14,21],true),(9, [],false),(15, [1,21],true),(16, [],false),(22, [1],true),(23, [],false),(24, [1],true),(25, [],false),(26, [],false),(27, [],false)]),(7, .of [(0, [],false),(1, [],false),(2, [],false),(3, [],false),(4, [],false),(5, [],false),(6, [],false),(7, [],false),(8, [],false),(9, [],false),(10, [],false),(14, [],false),(15, [],false),(16, [],false),(11, [2,5,16],true),(12, [],false),(13, [],false),(17, [],true),(18, [],false),(19, [],false)]),(8, .of [(0, [],false),(1, [],false),(2, [1],true),(3, [],true),(4, [],false),(5, [],false),(7, [],false),(8, [],false),(6, [8],true),(9, [],true),(10, [],false),(11, [],false)]),(12, .of [(0, [],false),(2, [],false),(3, [],false),(4, [],false),(5, [],false),(6, [],false),(7, [],false),(8, [],false),(9, [],false),(10, [],false),(11, [],false),(12, [],false),(1, [4,7,12],true),(13, [],true),(14, [],false),(15, [],false),(16, [],false),(17, [],false)])]
def pl13:List (Nat×PT):= [(6, .of [(0, [],false),(1, [],false),(2, [],false),(3, [],false),(4, [],false),(5, [],false),(6, [],false),(7, [],false),(8, [],false),(9, [],false),(10, [],true),(11, [],false),(12, [],false),(13, [],false),(14, [],false),(15, [],false),(16, [],false),(17, [],false),(18, [],false),(19, [],false),(20, [],false),(21, [],false),(22, [],false),(23, [],false),(24, [],false),(25, [],false),(26, [],false),(27, [],false)])]
def pl17:List (Nat×PT):= [(2, .of [(0, [],false),(1, [],false),(2, [],false),(3, [0],true),(4, [],true),(5, [],false)])]
def pl18:List (Nat×PT):= [(15, .of [(0, [],false),(1, [],false),(2, [],false),(3, [],false),(4, [],false),(5, [],false),(6, [0,2],true),(7, [],false),(8, [],false),(9, [],false)])]
def pl27:List (Nat×PT):= [(6, .of [(0, [],false),(1, [],false),(2, [],false),(3, [],false),(4, [],false),(5, [],false),(6, [],false),(7, [],false),(8, [],false)])]
def pl28:List (Nat×PT):= [(6, .of [(0, [],false),(1, [],false),(2, [],false),(3, [],false),(4, [],false),(5, [],false),(6, [],false),(7, [],false),(8, [],false)])]
def pl33:List (Nat×PT):= [(5, .of [(0, [],false),(1, [],false),(2, [],false),(3, [],false),(4, [],false),(5, [],false),(6, [],false),(7, [],false)])]
def pl37:List (Nat×PT):= [(9, .of [(0, [],false),(1, [],false),(2, [1],false),(3, [],false)])]
def pl39:List (Nat×PT):= [(5, .of [(0, [],false),(1, [],false),(2, [],false),(3, [],false),(4, [],false),(6, [],false),(5, [6],true),(7, [],true),(8, [],false),(9, [],false),(10, [],false),(11, [],false),(12, [],false),(13, [],false),(14, [],false),(15, [],false),(16, [10],true),(17, [],true),(18, [],false),(19, [],false)])]
def pl40:List (Nat×PT):= [(6, .of [(0, [],false),(1, [],true),(2, [],false),(3, [],false),(4, [],false),(5, [],false),(6, [],false),(7, [],false),(8, [],false),(9, [],false),(10, [],false),(11, [],false),(12, [],false),(13, [],false),(14, [],false),(15, [],false),(16, [],false),(17, [],false),(18, [],false)]),(12, .of [(0, [],false),(1, [],true),(2, [],false),(3, [],false),(4, [],false),(5, [],false),(6, [],false),(7, [],false),(8, [],false),(9, [],false),(10, [],false),(11, [],false),(12, [],false),(13, [],false),(14, [],false),(15, [],false),(16, [],false),(17, [],false),(18, [],false)])]
def pl45:List (Nat×PT):= [(1, .of [(0, [],false),(1, [],false),(2, [],false),(3, [],false),(4, [],true),(7, [],false),(8, [],false),(9, [],false),(10, [],false),(11, [],true),(5, [11],true),(6, [11],true),(12, [],true),(13, [],false),(14, [],false),(15, [],false)]),(5, .of [(0, [],false),(1, [],false),(2, [],false),(3, [],true),(4, [],false),(5, [],false),(6, [],false),(7, [],true),(8, [],false),(9, [],true),(10, [],true),(11, [],true),(12, [],true),(13, [],false),(14, [],false)])]
def pl46:List (Nat×PT):= [(6, .of [(0, [],false),(1, [],true),(2, [],false),(3, [],false),(4, [],false),(5, [],false),(6, [],false),(7, [],false),(8, [],false),(9, [],false),(10, [],false),(11, [],false),(12, [],false),(13, [],false),(14, [],false),(15, [],false),(16, [],false),(17, [],false),(18, [],false),(19, [],false),(20, [],false),(21, [],false),(22, [],false),(23, [],false),(24, [],false),(25, [],false),(26, [],false),(27, [8],true),(28, [],false),(29, [],false),(30, [],false),(31, [],false)])]
def pl48:List (Nat×PT):= [(2, .of [(0, [],false),(1, [],false),(2, [],false),(3, [],false),(4, [],false),(7, [],false),(8, [],false),(11, [],false),(12, [],false),(5, [1,8,12],true),(6, [1,8,12],true),(9, [],false),(10, [],false),(13, [],true),(14, [],false)])]
def pl49:List (Nat×PT):= [(2, .of [(0, [],false),(1, [],false),(2, [],false),(3, [],false),(4, [],false),(5, [],false),(6, [],true),(7, [],false)]),(5, .of [(0, [],false),(1, [],false),(2, [],false),(3, [],false),(4, [],false),(5, [],false),(6, [],true),(7, [],false),(8, [],false)])]
def pl61:List (Nat×PT):= [(1, .of [(0, [],false),(2, [],false),(1, [2],true),(3, [],true),(4, [],false)])]
def pl66:List (Nat×PT):= [(4, .of [(0, [],false),(1, [],true),(2, [],false),(3, [],false),(4, [],true),(5, [],false),(6, [],true),(7, [],false),(8, [],false),(9, [],false),(10, [],true),(11, [],false),(12, [],false),(13, [6,10],false),(14, [],false)]),(5, .of [(0, [],false),(1, [],false),(3, [],false),(4, [],false),(6, [],false),(7, [],false),(8, [],false),(9, [],false),(10, [],false),(11, [],false),(12, [],false),(13, [],false),(14, [],false),(2, [4,8,11,13],true),(5, [8,11,13],true),(15, [],true),(16, [],false)])]
def pl68:List (Nat×PT):= [(2, .of [(0, [],false),(1, [],false),(2, [],false),(3, [],false),(4, [],false),(5, [],false),(6, [],false),(7, [],false)])]
def pl69:List (Nat×PT):= [(5, .of [(0, [],false),(1, [],false),(3, [],false),(2, [3],true),(4, [],true),(5, [],false),(6, [],false),(7, [],false),(8, [],false),(10, [],false),(9, [10],true),(11, [],true),(12, [],false),(13, [],false)])]
def pl71:List (Nat×PT):= [(1, .of [(0, [],false),(1, [],false),(2, [],false),(3, [],false),(4, [],false),(5, [],false),(6, [],false),(7, [],false),(8, [],false),(9, [],true),(10, [],true),(11, [],true),(12, [],false)])]
def pl72:List (Nat×PT):= [(3, .of [(0, [],false),(1, [],false),(2, [],false),(3, [],false),(4, [],false),(5, [],false),(6, [],false),(7, [],false),(8, [1],true),(9, [],true),(10, [],false)])]
def pl75:List (Nat×PT):= [(2, .of [(0, [],false),(1, [],false),(2, [],false),(3, [],false),(4, [],false),(5, [],false)])]
end Go.Proofs.Ytnehgkfgenhgcaa
