/- The table of the program's types: each row says what the program's own table says. -/
import Derived.Test.YtkjnijddbiconaaGreatDoorEvB
import Derived.Test.YtkjnijddbiconaaGreatDoorProg
namespace Go.Proofs.YtkjnijddbiconaaGreatDoor.Ev
open Go
set_option maxRecDepth 100000
def u0:TI:=⟨.other,1,8,[.v .nilFunc],[]⟩
def u1:TI:=⟨.int .i64,1,8,[.v (.int .i64 0)],[.int .i64]⟩
def u2:TI:=⟨.bool,1,1,[.v (.bool false)],[.bool]⟩
def u3:TI:=⟨.int .u8,1,1,[.v (.int .u8 0)],[.int .u8]⟩
def u4:TI:=⟨.struct [(0,1,2),(1,1,3),(2,1,4),(3,1,6)],4,24,[.v (.int .i64 0),.v (.int .i64 0),.v (.bool false),.v (.int .u8 0)],[.int .i64,.int .i64,.bool,.int .u8]⟩
def u5:TI:=⟨.str,1,16,[.v (.string ByteArray.empty)],[.str]⟩
def u6:TI:=⟨.int .u64,1,8,[.v (.int .u64 0)],[.int .u64]⟩
def u7:TI:=⟨.struct [(0,1,9),(1,1,12)],2,24,[.v (.string ByteArray.empty),.v (.int .u64 0)],[.str,.int .u64]⟩
def u8:TI:=⟨.other,1,8,[.v (.pointer none)],[]⟩
def u9:TI:=⟨.struct [(0,1,17)],1,8,[.v (.pointer none)],[]⟩
def u10:TI:=⟨.iface,1,16,[.v .nilIface],[]⟩
def u11:TI:=⟨.int .i32,1,4,[.v (.int .i32 0)],[.int .i32]⟩
def u12:TI:=⟨.slice 151,1,24,[.slc [.str,.int .i64,.str,.int .i64,.int .i64,.int .i64,.int .i64,.int .i64,.int .i64,.int .i64,.int .i64,.int .i64,.int .i64,.int .i64,.int .i64,.int .i64,.int .i64,.int .i64,.int .i64,.int .i64,.int .i64,.int .i64,.int .i64,.int .i64,.int .i64,.int .i64,.int .i64,.int .i64,.int .i64,.int .i64,.bool]],[]⟩
def u13:TI:=⟨.slice 155,1,24,[.slc [.int .i64,.int .i64,.int .i64]],[]⟩
def u14:TI:=⟨.slice 148,1,24,[.slc [.int .i64,.int .i64,.int .i64]],[]⟩
def u15:TI:=⟨.slice 3,1,24,[.slc [.int .i64]],[]⟩
def u16:TI:=⟨.struct [(0,1,3),(1,1,22),(2,1,23),(3,1,24),(4,1,4),(5,1,25),(6,1,3)],7,120,[.v (.int .i64 0),.slc [.str,.int .i64,.str,.int .i64,.int .i64,.int .i64,.int .i64,.int .i64,.int .i64,.int .i64,.int .i64,.int .i64,.int .i64,.int .i64,.int .i64,.int .i64,.int .i64,.int .i64,.int .i64,.int .i64,.int .i64,.int .i64,.int .i64,.int .i64,.int .i64,.int .i64,.int .i64,.int .i64,.int .i64,.int .i64,.bool],.slc [.int .i64,.int .i64,.int .i64],.slc [.int .i64,.int .i64,.int .i64],.v (.bool false),.slc [.int .i64],.v (.int .i64 0)],[]⟩
def u17:TI:=⟨.slice 96,1,24,[.slc [.str,.int .i64,.str,.int .i64,.int .i64,.int .i64,.int .i64,.int .i64,.int .i64,.int .i64,.int .i64,.int .i64,.int .i64,.int .i64,.int .i64,.int .i64,.int .i64,.int .i64,.int .i64,.int .i64,.int .i64,.int .i64,.int .i64,.int .i64,.int .i64,.int .i64,.int .i64,.int .i64,.int .i64,.int .i64,.bool]],[]⟩
def u18:TI:=⟨.slice 84,1,24,[.slc [.int .i64,.int .i64,.int .i64]],[]⟩
def u19:TI:=⟨.slice 86,1,24,[.slc [.int .i64,.int .i64,.int .i64]],[]⟩
def u20:TI:=⟨.struct [(0,1,3),(1,1,30),(2,1,31),(3,1,32),(4,1,4),(5,1,25),(6,1,3)],7,120,[.v (.int .i64 0),.slc [.str,.int .i64,.str,.int .i64,.int .i64,.int .i64,.int .i64,.int .i64,.int .i64,.int .i64,.int .i64,.int .i64,.int .i64,.int .i64,.int .i64,.int .i64,.int .i64,.int .i64,.int .i64,.int .i64,.int .i64,.int .i64,.int .i64,.int .i64,.int .i64,.int .i64,.int .i64,.int .i64,.int .i64,.int .i64,.bool],.slc [.int .i64,.int .i64,.int .i64],.slc [.int .i64,.int .i64,.int .i64],.v (.bool false),.slc [.int .i64],.v (.int .i64 0)],[]⟩
def u21:TI:=⟨.slice 9,1,24,[.slc [.str]],[]⟩
def u22:TI:=⟨.array 2 44,2,48,[.slc [.str],.slc [.str]],[]⟩
def u23:TI:=⟨.slice 175,1,24,[.slc [.int .i64,.int .i64,.str]],[]⟩
def u24:TI:=⟨.struct [(0,2,45),(2,1,46)],3,72,[.slc [.str],.slc [.str],.slc [.int .i64,.int .i64,.str]],[]⟩
def u25:TI:=⟨.slice 114,1,24,[.slc [.str,.int .i64,.str,.str,.str,.str,.str,.str,.str,.str,.str]],[]⟩
def u26:TI:=⟨.struct [(0,1,50)],1,24,[.slc [.str,.int .i64,.str,.str,.str,.str,.str,.str,.str,.str,.str]],[]⟩
def u27:TI:=⟨.slice 177,1,24,[.slc [.int .i64,.int .i64,.str]],[]⟩
def u28:TI:=⟨.struct [(0,2,45),(2,1,55)],3,72,[.slc [.str],.slc [.str],.slc [.int .i64,.int .i64,.str]],[]⟩
def u29:TI:=⟨.slice 5,1,24,[.slc [.int .u8]],[]⟩
def u30:TI:=⟨.struct [(0,1,3),(1,1,3),(2,1,3)],3,24,[.v (.int .i64 0),.v (.int .i64 0),.v (.int .i64 0)],[.int .i64,.int .i64,.int .i64]⟩
def u31:TI:=⟨.array 8 86,24,192,List.replicate 24 (.v (.int .i64 0)),List.replicate 24 (.int .i64)⟩
def u32:TI:=⟨.struct [(0,1,9),(1,1,3),(2,1,9),(3,24,94),(27,3,86),(30,1,4)],31,264,[.v (.string ByteArray.empty),.v (.int .i64 0),.v (.string ByteArray.empty),.v (.int .i64 0),.v (.int .i64 0),.v (.int .i64 0),.v (.int .i64 0),.v (.int .i64 0),.v (.int .i64 0),.v (.int .i64 0),.v (.int .i64 0),.v (.int .i64 0),.v (.int .i64 0),.v (.int .i64 0),.v (.int .i64 0),.v (.int .i64 0),.v (.int .i64 0),.v (.int .i64 0),.v (.int .i64 0),.v (.int .i64 0),.v (.int .i64 0),.v (.int .i64 0),.v (.int .i64 0),.v (.int .i64 0),.v (.int .i64 0),.v (.int .i64 0),.v (.int .i64 0),.v (.int .i64 0),.v (.int .i64 0),.v (.int .i64 0),.v (.bool false)],[.str,.int .i64,.str,.int .i64,.int .i64,.int .i64,.int .i64,.int .i64,.int .i64,.int .i64,.int .i64,.int .i64,.int .i64,.int .i64,.int .i64,.int .i64,.int .i64,.int .i64,.int .i64,.int .i64,.int .i64,.int .i64,.int .i64,.int .i64,.int .i64,.int .i64,.int .i64,.int .i64,.int .i64,.int .i64,.bool]⟩
def u33:TI:=⟨.array 8 9,8,128,List.replicate 8 (.v (.string ByteArray.empty)),List.replicate 8 (.str)⟩
def u34:TI:=⟨.struct [(0,1,9),(1,1,3),(2,1,9),(3,8,112)],11,168,[.v (.string ByteArray.empty),.v (.int .i64 0),.v (.string ByteArray.empty),.v (.string ByteArray.empty),.v (.string ByteArray.empty),.v (.string ByteArray.empty),.v (.string ByteArray.empty),.v (.string ByteArray.empty),.v (.string ByteArray.empty),.v (.string ByteArray.empty),.v (.string ByteArray.empty)],[.str,.int .i64,.str,.str,.str,.str,.str,.str,.str,.str,.str]⟩
def u35:TI:=⟨.array 8 148,24,192,List.replicate 24 (.v (.int .i64 0)),List.replicate 24 (.int .i64)⟩
def u36:TI:=⟨.struct [(0,1,9),(1,1,3),(2,1,9),(3,24,149),(27,3,148),(30,1,4)],31,264,[.v (.string ByteArray.empty),.v (.int .i64 0),.v (.string ByteArray.empty),.v (.int .i64 0),.v (.int .i64 0),.v (.int .i64 0),.v (.int .i64 0),.v (.int .i64 0),.v (.int .i64 0),.v (.int .i64 0),.v (.int .i64 0),.v (.int .i64 0),.v (.int .i64 0),.v (.int .i64 0),.v (.int .i64 0),.v (.int .i64 0),.v (.int .i64 0),.v (.int .i64 0),.v (.int .i64 0),.v (.int .i64 0),.v (.int .i64 0),.v (.int .i64 0),.v (.int .i64 0),.v (.int .i64 0),.v (.int .i64 0),.v (.int .i64 0),.v (.int .i64 0),.v (.int .i64 0),.v (.int .i64 0),.v (.int .i64 0),.v (.bool false)],[.str,.int .i64,.str,.int .i64,.int .i64,.int .i64,.int .i64,.int .i64,.int .i64,.int .i64,.int .i64,.int .i64,.int .i64,.int .i64,.int .i64,.int .i64,.int .i64,.int .i64,.int .i64,.int .i64,.int .i64,.int .i64,.int .i64,.int .i64,.int .i64,.int .i64,.int .i64,.int .i64,.int .i64,.int .i64,.bool]⟩
def u37:TI:=⟨.struct [(0,1,3),(1,1,3),(2,1,9)],3,32,[.v (.int .i64 0),.v (.int .i64 0),.v (.string ByteArray.empty)],[.int .i64,.int .i64,.str]⟩
def u38:TI:=⟨.struct [(0,1,67),(1,1,3)],2,32,[.slc [.int .u8],.v (.int .i64 0)],[]⟩
def u39:TI:=⟨.struct [(0,1,3),(1,1,9),(2,1,9),(3,1,3),(4,1,9)],5,64,[.v (.int .i64 0),.v (.string ByteArray.empty),.v (.string ByteArray.empty),.v (.int .i64 0),.v (.string ByteArray.empty)],[.int .i64,.str,.str,.int .i64,.str]⟩
def u40:TI:=⟨.array 3 3,3,24,[.v (.int .i64 0),.v (.int .i64 0),.v (.int .i64 0)],[.int .i64,.int .i64,.int .i64]⟩
def u41:TI:=⟨.struct [(0,1,223),(1,1,67)],2,32,[.v (.pointer none),.slc [.int .u8]],[]⟩
def u42:TI:=⟨.int .u32,1,4,[.v (.int .u32 0)],[.int .u32]⟩
def u43:TI:=⟨.array 256 4,256,256,List.replicate 256 (.v (.bool false)),List.replicate 256 (.bool)⟩
def u44:TI:=⟨.struct [(0,3,57),(3,1,25),(4,1,3),(5,1,4)],6,112,[.slc [.str],.slc [.str],.slc [.int .i64,.int .i64,.str],.slc [.int .i64],.v (.int .i64 0),.v (.bool false)],[]⟩
def u45:TI:=⟨.struct [(0,1,3),(1,1,3),(2,5,211)],7,80,[.v (.int .i64 0),.v (.int .i64 0),.v (.int .i64 0),.v (.string ByteArray.empty),.v (.string ByteArray.empty),.v (.int .i64 0),.v (.string ByteArray.empty)],[.int .i64,.int .i64,.int .i64,.str,.str,.int .i64,.str]⟩
def u46:TI:=⟨.struct [(0,1,9),(1,1,9),(2,1,198)],3,48,[.v (.string ByteArray.empty),.v (.string ByteArray.empty),.v .nilIface],[]⟩
def u47:TI:=⟨.struct [(0,1,5),(1,1,5)],2,2,[.v (.int .u8 0),.v (.int .u8 0)],[.int .u8,.int .u8]⟩
def u48:TI:=⟨.struct [(0,1,9)],1,16,[.v (.string ByteArray.empty)],[.str]⟩
def u49:TI:=⟨.struct [(0,1,17),(1,1,17),(2,1,17),(3,1,9)],4,40,[.v (.pointer none),.v (.pointer none),.v (.pointer none),.v (.string ByteArray.empty)],[]⟩
def u50:TI:=⟨.array 0 16,0,0,[],[]⟩
def u51:TI:=⟨.struct [(0,0,348)],0,0,[],[]⟩
def u52:TI:=⟨.struct [(0,1,12),(1,1,12),(2,1,239),(3,1,352),(4,1,5),(5,1,5),(6,1,353),(7,1,354),(8,1,263),(9,1,355),(10,1,356)],11,48,[.v (.int .u64 0),.v (.int .u64 0),.v (.int .u32 0),.v (.int .u8 0),.v (.int .u8 0),.v (.int .u8 0),.v (.int .u8 0),.v .nilFunc,.v (.pointer none),.v (.int .i32 0),.v (.int .i32 0)],[]⟩
def tt:List (Nat × TI) := [(1,u0),(2,u1),(3,u1),(4,u2),(5,u3),(6,u3),(7,u4),(8,u4),(9,u5),(10,u5),(11,u5),(12,u6),(13,u7),(14,u7),(15,u8),(16,u8),(17,u8),(18,u9),(19,u9),(20,u10),(21,u11),(22,u12),(23,u13),(24,u14),(25,u15),(26,u16),(27,u16),(28,u0),(29,u0),(30,u17),(31,u18),(32,u19),(33,u20),(34,u20),(35,u0),(36,u0),(37,u0),(38,u0),(39,u0),(40,u0),(41,u0),(43,u0),(44,u21),(45,u22),(46,u23),(47,u24),(48,u24),(49,u0),(50,u25),(51,u26),(52,u26),(54,u0),(55,u27),(56,u28),(57,u28),(58,u0),(59,u0),(60,u0),(61,u0),(62,u0),(63,u0),(65,u0),(66,u0),(67,u29),(69,u0),(70,u0),(71,u0),(72,u0),(74,u0),(75,u0),(77,u0),(78,u0),(79,u0),(80,u0),(82,u0),(83,u30),(84,u30),(85,u30),(86,u30),(87,u0),(88,u0),(89,u0),(90,u0),(91,u0),(92,u0),(93,u0),(94,u31),(95,u32),(96,u32),(97,u0),(98,u0),(99,u0),(100,u0),(101,u0),(102,u0),(103,u0),(104,u0),(106,u0),(107,u0),(108,u0),(109,u0),(110,u0),(111,u0),(112,u33),(113,u34),(114,u34),(115,u0),(116,u0),(117,u0),(118,u0),(119,u0),(120,u0),(121,u0),(122,u0),(123,u0),(124,u0),(125,u0),(126,u0),(127,u0),(128,u8),(129,u0),(131,u0),(132,u0),(133,u0),(134,u0),(135,u0),(137,u0),(138,u0),(139,u0),(141,u0),(142,u0),(143,u0),(144,u0),(145,u0),(146,u0),(147,u0),(148,u30),(149,u35),(150,u36),(151,u36),(152,u0),(153,u0),(154,u0),(155,u30),(156,u0),(157,u0),(158,u0),(159,u0),(160,u0),(161,u0),(162,u0),(163,u0),(164,u6),(165,u0),(166,u0),(167,u0),(168,u0),(169,u0),(170,u0),(171,u0),(172,u0),(173,u0),(174,u37),(175,u37),(176,u0),(177,u37),(178,u0),(179,u0),(180,u0),(181,u0),(182,u0),(183,u0),(184,u0),(185,u0),(186,u0),(187,u0),(188,u0),(190,u0),(191,u0),(192,u0),(193,u0),(194,u0),(195,u0),(196,u8),(197,u10),(198,u10),(200,u0),(201,u0),(202,u0),(203,u38),(204,u38),(206,u0),(207,u0),(209,u0),(210,u39),(211,u39),(212,u0),(213,u0),(215,u0),(216,u0),(218,u0),(220,u0),(221,u0),(222,u40),(223,u8),(224,u41),(225,u41),(226,u0),(227,u0),(228,u0),(229,u0),(230,u0),(231,u0),(232,u1),(234,u0),(235,u0),(236,u0),(237,u0),(238,u0),(239,u42),(240,u0),(241,u6),(242,u0),(243,u0),(244,u0),(245,u0),(246,u0),(247,u0),(248,u0),(249,u0),(250,u0),(251,u0),(252,u0),(253,u0),(254,u0),(255,u0),(256,u0),(257,u0),(258,u0),(259,u0),(260,u0),(261,u0),(262,u0),(263,u8),(264,u6),(265,u0),(266,u0),(267,u0),(268,u8),(269,u0),(271,u0),(272,u0),(273,u1),(275,u0),(276,u8),(277,u0),(278,u0),(279,u0),(280,u43),(281,u43),(283,u0),(284,u0),(285,u8),(286,u0),(287,u0),(288,u8),(290,u0),(291,u44),(292,u44),(293,u0),(294,u0),(295,u0),(296,u0),(297,u0),(298,u0),(299,u0),(301,u0),(302,u0),(303,u0),(304,u45),(305,u45),(307,u0),(308,u0),(309,u8),(311,u0),(313,u0),(314,u46),(315,u46),(316,u0),(317,u0),(318,u0),(320,u0),(322,u0),(323,u0),(324,u0),(325,u0),(326,u0),(327,u0),(329,u47),(330,u47),(333,u0),(334,u0),(335,u8),(336,u48),(337,u48),(338,u0),(339,u0),(342,u0),(343,u0),(346,u49),(347,u49),(348,u50),(349,u51),(350,u51),(351,u0),(352,u3),(353,u3),(354,u0),(355,u11),(356,u11),(357,u52),(358,u52)]
theorem ttOK:TTOK Tryz.prog tt:=RowsOK.all tt (by
  unfold tt
  repeat (refine ⟨⟨by kernel_rfl,by kernel_rfl,by kernel_rfl,by kernel_rfl,?_,by kernel_rfl⟩,?_⟩; (first | exact .inl rfl | exact .inr (by kernel_rfl)))
  trivial)
def E0:Env:=⟨tt,[],[86,84],.skip,[]⟩
theorem eqsOK:EqsOK Tryz.prog E0:=eqs_ok (eqs_one (ti:=⟨.struct [(0,1,3),(1,1,3),(2,1,3)],3,24,[.v (.int .i64 0),.v (.int .i64 0),.v (.int .i64 0)],[.int .i64,.int .i64,.int .i64]⟩) (by kernel_rfl) ⟨by kernel_rfl,by kernel_rfl,by kernel_rfl⟩ (eqs_one (ti:=⟨.struct [(0,1,3),(1,1,3),(2,1,3)],3,24,[.v (.int .i64 0),.v (.int .i64 0),.v (.int .i64 0)],[.int .i64,.int .i64,.int .i64]⟩) (by kernel_rfl) ⟨by kernel_rfl,by kernel_rfl,by kernel_rfl⟩ (trivial)))
theorem ok0:Ok Tryz.prog E0:=⟨ttOK,eqsOK,by kernel_rfl⟩
end Go.Proofs.YtkjnijddbiconaaGreatDoor.Ev
